/- A part of the proof: texts of this seat, joined. -/
import Derived.ChangeArms
import Derived.ChangeSame
import Derived.IntWalk
import Derived.KernelRfl
import Derived.Laws.BitsLemmas
import Derived.Lib.AtoiTie
import Derived.Lib.DecodeN
import Derived.Lib.IndexBytes
import Derived.Lib.IndexMore
import Derived.Lib.ItoaMem
import Derived.Lib.ItoaNum
import Derived.Lib.Join
import Derived.Lib.SplitLaws
import Derived.OpenShut
import Derived.WideShapes
import Derived.Test.YtmppkcdphgelcaaDoorZb1
import Derived.Test.YtmppkcdphgelcaaDoorZb2
import Derived.Test.YtmppkcdphgelcaaDoorZb3
import Derived.Test.YtmppkcdphgelcaaDoorZb4
import Derived.Test.YtmppkcdphgelcaaDoorZb5
import Derived.Test.YtmppkcdphgelcaaDoorZb6
namespace Go.Proofs.YtmppkcdphgelcaaDoor.PConf
open Go.RowKit Go.Proofs.YtmppkcdphgelcaaDoorW.PrintWords Go.Proofs.YtmppkcdphgelcaaDoorW.PrintLast Go.Proofs.YtmppkcdphgelcaaDoorW.PrintMore
attribute [local go_sem] max2_int min2_int max_two min_two max_three min_three max_four min_four   -- for this text's walks alone
set_option linter.unusedVariables false
set_option linter.unusedSimpArgs false
def siskinlaw14_ConfBack.j0 : Nat → Bool → Int → Int → Int → Int → Int → List ByteArray → List (S79) → Int → Int → Int → Int → Int → List ByteArray → List (S79) → Option (Bool)
  | 0, _, _, _, _, _, _, _, _, _, _, _, _, _, _, _ => none
  | k + 1, x24, x210000, x210001, x210002, x210003, x210004, x210005, x210006, x211000, x211001, x211002, x211003, x211004, x211005, x211006 => if x24 = true then ((siskinlaw14_works.f k).bind fun t215 => (some t215)) else ((conf_Text.f k x210000 x210001 x210002 x210003 x210004 x210005 x210006).bind fun t216 => ((conf_Read.f t216).bind fun bt217 => (if bt217.2.2.2.2.2.2.2.2 = 0 then (if bt217.2.2.2.2.2.2.2.1 = 0 then ((siskinref14_Same.f k bt217.1 bt217.2.1 bt217.2.2.1 bt217.2.2.2.1 bt217.2.2.2.2.1 bt217.2.2.2.2.2.1 bt217.2.2.2.2.2.2.1 x210000 x210001 x210002 x210003 x210004 x210005 x210006).bind fun t231 => (if t231 = true then ((conf_Text.f k x211000 x211001 x211002 x211003 x211004 x211005 x211006).bind fun t232 => ((siskinref14_Same.f k x210000 x210001 x210002 x210003 x210004 x210005 x210006 x211000 x211001 x211002 x211003 x211004 x211005 x211006).bind fun t233 => (if ((t216.toList == t232.toList) == t233) = true then ((siskinlaw14_works.f k).bind fun t234 => (some t234)) else (some false)))) else (some false))) else (some false)) else (some false))))
def siskinlaw14_ConfBack.f (k : Nat) (a0_0 : Int) (a0_1 : Int) (a0_2 : Int) (a0_3 : Int) (a0_4 : Int) (l0_5 : List ByteArray) (l0_6 : List (S79)) (a1_0 : Int) (a1_1 : Int) (a1_2 : Int) (a1_3 : Int) (a1_4 : Int) (l1_5 : List ByteArray) (l1_6 : List (S79)) : Option (Bool) := (siskinref14_Long.f k a0_0 a0_1 a0_2 a0_3 a0_4 l0_5 l0_6).bind fun t211 => (if t211 = true then (siskinlaw14_ConfBack.j0 k true a0_0 a0_1 a0_2 a0_3 a0_4 l0_5 l0_6 a1_0 a1_1 a1_2 a1_3 a1_4 l1_5 l1_6) else ((siskinref14_Long.f k a1_0 a1_1 a1_2 a1_3 a1_4 l1_5 l1_6).bind fun t212 => (if t212 = true then (siskinlaw14_ConfBack.j0 k true a0_0 a0_1 a0_2 a0_3 a0_4 l0_5 l0_6 a1_0 a1_1 a1_2 a1_3 a1_4 l1_5 l1_6) else ((siskinref14_Check.f k a0_0 a0_1 a0_2 a0_3 a0_4 l0_5 l0_6).bind fun t213 => (if t213 = 0 then ((siskinref14_Check.f k a1_0 a1_1 a1_2 a1_3 a1_4 l1_5 l1_6).bind fun t214 => (siskinlaw14_ConfBack.j0 k (t214 != 0) a0_0 a0_1 a0_2 a0_3 a0_4 l0_5 l0_6 a1_0 a1_1 a1_2 a1_3 a1_4 l1_5 l1_6)) else (siskinlaw14_ConfBack.j0 k true a0_0 a0_1 a0_2 a0_3 a0_4 l0_5 l0_6 a1_0 a1_1 a1_2 a1_3 a1_4 l1_5 l1_6))))))
def siskinlaw14_ConfBack.T5 : Bool × List (List Nat × List Nat) := (true, [([], []), ([0], [0]), ([1], [1]), ([2], [2]), ([3, 2], [2, 3]), ([2, 4], [2, 4]), ([5, 2], [5]), ([6], [6]), ([6], [6]), ([7, 8, 6, 6], [6, 7, 8]), ([6, 9], [6, 9]), ([10, 9], [10]), ([11], [11]), ([11], [11]), ([13, 11, 11], [11, 13]), ([12, 14, 11], [11, 12, 14]), ([11], [11]), ([11], [11]), ([16, 17, 14, 11], [11, 16, 17]), ([15, 18, 11], [11, 15, 18]), ([11, 19], [11, 19]), ([20, 18], [20]), ([21, 21], [21]), ([21, 22], [21, 22]), ([23, 22, 0, 1, 2, 3, 4, 5, 6, 7, 8, 9, 10, 11, 12, 13, 14, 15, 16, 17, 18, 19, 20, 21, 22, 23], [23])])
def siskinlaw14_ConfBack.B5 : List Nat := [0, 1, 3, 7, 15, 31, 63, 127, 127, 511, 1023, 2047, 4095, 4095, 12287, 32767, 4095, 4095, 225279, 524287, 1048575, 2097151, 4194303, 8388607, 16777215]
theorem siskinlaw14_ConfBack.tab5 : rtab .any (opsOf Tryd.f5 5) = siskinlaw14_ConfBack.T5 := by kernel_rfl
theorem siskinlaw14_ConfBack.bits5 : waitsOk siskinlaw14_ConfBack.T5.2 siskinlaw14_ConfBack.B5 = true := by kernel_rfl
set_option maxHeartbeats 8000000 in
set_option maxRecDepth 100000 in
theorem siskinlaw14_ConfBack.calls (k : Nat) (a0_0 : Int) (a0_1 : Int) (a0_2 : Int) (a0_3 : Int) (a0_4 : Int) (A0_5 : Option Addr) (c0_5 : Nat) (l0_5 : List ByteArray) (A0_6 : Option Addr) (c0_6 : Nat) (l0_6 : List (S79)) (a1_0 : Int) (a1_1 : Int) (a1_2 : Int) (a1_3 : Int) (a1_4 : Int) (A1_5 : Option Addr) (c1_5 : Nat) (l1_5 : List ByteArray) (A1_6 : Option Addr) (c1_6 : Nat) (l1_6 : List (S79)) (r : Bool) (w : World) (hr0_5 : Kd.C Kd.string w A0_5 l0_5.length l0_5) (hc0_5 : l0_5.length ≤ c0_5) (hr0_6 : Kd.C k79 w A0_6 l0_6.length l0_6) (hc0_6 : l0_6.length ≤ c0_6) (hr1_5 : Kd.C Kd.string w A1_5 l1_5.length l1_5) (hc1_5 : l1_5.length ≤ c1_5) (hr1_6 : Kd.C k79 w A1_6 l1_6.length l1_6) (hc1_6 : l1_6.length ≤ c1_6) (hL_ : Laid w) (hrt : Aside0 (r = true)) (h : siskinlaw14_ConfBack.f k a0_0 a0_1 a0_2 a0_3 a0_4 l0_5 l0_6 a1_0 a1_1 a1_2 a1_3 a1_4 l1_5 l1_6 = some r) :
    Calls Tryd.prog 5 #[.agg #[.int .i64 a0_0, .int .i64 a0_1, .int .i64 a0_2, .int .i64 a0_3, .int .i64 a0_4, .slice A0_5 l0_5.length c0_5, .slice A0_6 l0_6.length c0_6], .agg #[.int .i64 a1_0, .int .i64 a1_1, .int .i64 a1_2, .int .i64 a1_3, .int .i64 a1_4, .slice A1_5 l1_5.length c1_5, .slice A1_6 l1_6.length c1_6]] w fun e w' => e = .returned (.bool r) ∧ Below w.heap.size w w' := by
  have hu49 := Tryd.underlying49
  have HLD := Aside0.mk hL_
  clear hL_
  have HR0_5 := Aside0.mk hr0_5
  have HC0_5 := Aside0.mk hc0_5
  clear hr0_5 hc0_5
  have HR0_6 := Aside0.mk hr0_6
  have HC0_6 := Aside0.mk hc0_6
  clear hr0_6 hc0_6
  have HR1_5 := Aside0.mk hr1_5
  have HC1_5 := Aside0.mk hc1_5
  clear hr1_5 hc1_5
  have HR1_6 := Aside0.mk hr1_6
  have HC1_6 := Aside0.mk hc1_6
  clear hr1_6 hc1_6
  have HB := Aside0.mk (Below.refl w.heap.size w)
  have H : ((siskinref14_Long.f k a0_0 a0_1 a0_2 a0_3 a0_4 l0_5 l0_6).bind fun t211 => (if t211 = true then (siskinlaw14_ConfBack.j0 k true a0_0 a0_1 a0_2 a0_3 a0_4 l0_5 l0_6 a1_0 a1_1 a1_2 a1_3 a1_4 l1_5 l1_6) else ((siskinref14_Long.f k a1_0 a1_1 a1_2 a1_3 a1_4 l1_5 l1_6).bind fun t212 => (if t212 = true then (siskinlaw14_ConfBack.j0 k true a0_0 a0_1 a0_2 a0_3 a0_4 l0_5 l0_6 a1_0 a1_1 a1_2 a1_3 a1_4 l1_5 l1_6) else ((siskinref14_Check.f k a0_0 a0_1 a0_2 a0_3 a0_4 l0_5 l0_6).bind fun t213 => (if t213 = 0 then ((siskinref14_Check.f k a1_0 a1_1 a1_2 a1_3 a1_4 l1_5 l1_6).bind fun t214 => (siskinlaw14_ConfBack.j0 k (t214 != 0) a0_0 a0_1 a0_2 a0_3 a0_4 l0_5 l0_6 a1_0 a1_1 a1_2 a1_3 a1_4 l1_5 l1_6)) else (siskinlaw14_ConfBack.j0 k true a0_0 a0_1 a0_2 a0_3 a0_4 l0_5 l0_6 a1_0 a1_1 a1_2 a1_3 a1_4 l1_5 l1_6))))))) = some r := h
  clear h
  have HC3 := Aside0.mk H
  clear H
  go_enter Tryd.func5, Tryd.ntmps5
  go_upto_region 1 with (first | ((with_reducible refine gate_dst (N := 2) rfl ?_); refine box_event ?hg (N := 2) ?hd (cs := #[.int .i64 a0_0, .int .i64 a0_1, .int .i64 a0_2, .int .i64 a0_3, .int .i64 a0_4, .slice A0_5 l0_5.length c0_5, .slice A0_6 l0_6.length c0_6]) (t := 49) ?hr ?_; (case hd => rfl); (case hg => rfl); (case hr => first | (go_simp; done) | (go_simp; rfl)); intro gb209 hg w4 hbox hb; have n0_ := Aside0.mk (below_step (by repeat (first | (with_reducible first | exact HB.out | apply below_alloc | apply pw_below_drewN | apply below_drew1) | exact HB.out)) hb); have n1_ := Aside0.mk (hbox); have n2_ := Aside0.mk ((by rw [hg]; exact (below_size (by repeat (first | (with_reducible first | exact HB.out | apply below_alloc | apply pw_below_drewN | apply below_drew1) | exact HB.out))) : w.heap.size ≤ gb209)); have n3_ := Aside0.mk ((by rw [hg]; exact (below_size (by repeat (first | (with_reducible first | exact HB.out | apply below_alloc | apply pw_below_drewN | apply below_drew1) | exact HB.out))) : w.heap.size ≤ gb209)); clear HB; have HB := n0_; have BK209 := n1_; have GW209 := n2_; have GE209 := n3_; clear n0_ n1_ n2_ n3_; clear hb hbox hg) | ((with_reducible refine gate_dst (N := 3) rfl ?_); refine box_event ?hg (N := 3) ?hd (cs := #[.int .i64 a1_0, .int .i64 a1_1, .int .i64 a1_2, .int .i64 a1_3, .int .i64 a1_4, .slice A1_5 l1_5.length c1_5, .slice A1_6 l1_6.length c1_6]) (t := 49) ?hr ?_; (case hd => rfl); (case hg => rfl); (case hr => first | (go_simp; done) | (go_simp; rfl)); intro gb210 hg w5 hbox hb; have n0_ := Aside0.mk (blk_below (g := gb209) (o := .cells #[.int .i64 a0_0, .int .i64 a0_1, .int .i64 a0_2, .int .i64 a0_3, .int .i64 a0_4, .slice A0_5 l0_5.length c0_5, .slice A0_6 l0_6.length c0_6] 49 (0, 0)) (by (with_reducible repeat (first | refine blk_drewN ?_ _ | refine blk_drew ?_ | refine blk_alloc ?_ _)); exact BK209.out) hb); have n1_ := Aside0.mk (below_step (by repeat (first | (with_reducible first | exact HB.out | apply below_alloc | apply pw_below_drewN | apply below_drew1 | refine below_set ?_ GE209.out) | exact HB.out)) hb); have n2_ := Aside0.mk (hbox); have n3_ := Aside0.mk ((by rw [hg]; exact (below_size (by repeat (first | (with_reducible first | exact HB.out | apply below_alloc | apply pw_below_drewN | apply below_drew1 | refine below_set ?_ GE209.out) | exact HB.out))) : w.heap.size ≤ gb210)); have n4_ := Aside0.mk ((by rw [hg]; exact (below_size (by repeat (first | (with_reducible first | exact HB.out | apply below_alloc | apply pw_below_drewN | apply below_drew1 | refine below_set ?_ GE209.out) | exact HB.out))) : w.heap.size ≤ gb210)); have n5_ := Aside0.mk ((by rw [hg]; exact Nat.ne_of_lt (blk_lt (g := gb209) (o := .cells #[.int .i64 a0_0, .int .i64 a0_1, .int .i64 a0_2, .int .i64 a0_3, .int .i64 a0_4, .slice A0_5 l0_5.length c0_5, .slice A0_6 l0_6.length c0_6] 49 (0, 0)) (by (with_reducible repeat (first | refine blk_drewN ?_ _ | refine blk_drew ?_ | refine blk_alloc ?_ _)); exact BK209.out)) : gb209 ≠ gb210)); have n6_ := Aside0.mk ((by rw [hg]; exact Nat.ne_of_gt (blk_lt (g := gb209) (o := .cells #[.int .i64 a0_0, .int .i64 a0_1, .int .i64 a0_2, .int .i64 a0_3, .int .i64 a0_4, .slice A0_5 l0_5.length c0_5, .slice A0_6 l0_6.length c0_6] 49 (0, 0)) (by (with_reducible repeat (first | refine blk_drewN ?_ _ | refine blk_drew ?_ | refine blk_alloc ?_ _)); exact BK209.out)) : gb210 ≠ gb209)); clear BK209; clear HB; have BK209 := n0_; have HB := n1_; have BK210 := n2_; have GW210 := n3_; have GE210 := n4_; have NB209_210 := n5_; have NB210_209 := n6_; clear n0_ n1_ n2_ n3_ n4_ n5_ n6_; clear hb hbox hg))
  (try simp only [Act.put, List.setIfInBounds_toArray, List.set_cons_zero, List.set_cons_succ])
  go_cut [24] (fun v24 wc => ∃ (kq : Nat) (x24_2 : Bool), v24 = .bool x24_2 ∧ Aside0 (siskinlaw14_ConfBack.j0 kq x24_2 a0_0 a0_1 a0_2 a0_3 a0_4 l0_5 l0_6 a1_0 a1_1 a1_2 a1_3 a1_4 l1_5 l1_6 = some r) ∧ Aside0 (kq ≤ k) ∧ Aside0 (wc.heap[gb209]? = some (.cells #[.int .i64 a0_0, .int .i64 a0_1, .int .i64 a0_2, .int .i64 a0_3, .int .i64 a0_4, (.slice A0_5 l0_5.length c0_5), (.slice A0_6 l0_6.length c0_6)] 49 (0, 0))) ∧ Aside0 (wc.heap[gb210]? = some (.cells #[.int .i64 a1_0, .int .i64 a1_1, .int .i64 a1_2, .int .i64 a1_3, .int .i64 a1_4, (.slice A1_5 l1_5.length c1_5), (.slice A1_6 l1_6.length c1_6)] 49 (0, 0))) ∧ Aside0 (Below w.heap.size w wc))
  case first =>
    have H := HC3.out
    clear HC3
    replace H := Option.bind_eq_some_iff.mp H
    obtain ⟨t211, A60, H⟩ := H
    replace H : (if t211 = true then (siskinlaw14_ConfBack.j0 k true a0_0 a0_1 a0_2 a0_3 a0_4 l0_5 l0_6 a1_0 a1_1 a1_2 a1_3 a1_4 l1_5 l1_6) else ((siskinref14_Long.f k a1_0 a1_1 a1_2 a1_3 a1_4 l1_5 l1_6).bind fun t212 => (if t212 = true then (siskinlaw14_ConfBack.j0 k true a0_0 a0_1 a0_2 a0_3 a0_4 l0_5 l0_6 a1_0 a1_1 a1_2 a1_3 a1_4 l1_5 l1_6) else ((siskinref14_Check.f k a0_0 a0_1 a0_2 a0_3 a0_4 l0_5 l0_6).bind fun t213 => (if t213 = 0 then ((siskinref14_Check.f k a1_0 a1_1 a1_2 a1_3 a1_4 l1_5 l1_6).bind fun t214 => (siskinlaw14_ConfBack.j0 k (t214 != 0) a0_0 a0_1 a0_2 a0_3 a0_4 l0_5 l0_6 a1_0 a1_1 a1_2 a1_3 a1_4 l1_5 l1_6)) else (siskinlaw14_ConfBack.j0 k true a0_0 a0_1 a0_2 a0_3 a0_4 l0_5 l0_6 a1_0 a1_1 a1_2 a1_3 a1_4 l1_5 l1_6)))))) = some r := H
    have A6 := Aside0.mk A60
    clear A60
    by_cases c7 : t211 = true
    · subst c7
      have H1 : (siskinlaw14_ConfBack.j0 k true a0_0 a0_1 a0_2 a0_3 a0_4 l0_5 l0_6 a1_0 a1_1 a1_2 a1_3 a1_4 l1_5 l1_6) = some r := by rw [if_pos rfl] at H; exact H
      clear H
      have H := H1
      clear H1
      have H' := Aside0.mk H
      clear H
      have hnb8 := NB209_210.out
      have hnc8 := NB210_209.out
      have hcz9_0 : w5.cell? ⟨gb209, 0, none⟩ = some (.int .i64 a0_0) := (blk_cell BK209.out 0).trans rfl
      have hcz9_1 : w5.cell? ⟨gb209, 1, none⟩ = some (.int .i64 a0_1) := (blk_cell BK209.out 1).trans rfl
      have hcz9_2 : w5.cell? ⟨gb209, 2, none⟩ = some (.int .i64 a0_2) := (blk_cell BK209.out 2).trans rfl
      have hcz9_3 : w5.cell? ⟨gb209, 3, none⟩ = some (.int .i64 a0_3) := (blk_cell BK209.out 3).trans rfl
      have hcz9_4 : w5.cell? ⟨gb209, 4, none⟩ = some (.int .i64 a0_4) := (blk_cell BK209.out 4).trans rfl
      have hcz9_5 : w5.cell? ⟨gb209, 5, none⟩ = some (.slice A0_5 l0_5.length c0_5) := (blk_cell BK209.out 5).trans rfl
      have hcz9_6 : w5.cell? ⟨gb209, 6, none⟩ = some (.slice A0_6 l0_6.length c0_6) := (blk_cell BK209.out 6).trans rfl
      have hfz9_0 := blk_frozen BK209.out 0
      have hfz9_1 := blk_frozen BK209.out 1
      have hfz9_2 := blk_frozen BK209.out 2
      have hfz9_3 := blk_frozen BK209.out 3
      have hfz9_4 := blk_frozen BK209.out 4
      have hfz9_5 := blk_frozen BK209.out 5
      have hfz9_6 := blk_frozen BK209.out 6
      go_wp2_with (first | ((with_reducible refine gate_callee (f := 19) rfl ?_); refine goesL_ (some 10) rfl rfl Tryd.func19 (by kernel_rfl) rfl #[.agg #[.int .i64 a0_0, .int .i64 a0_1, .int .i64 a0_2, .int .i64 a0_3, .int .i64 a0_4, .slice A0_5 l0_5.length c0_5, .slice A0_6 l0_6.length c0_6]] rfl (by (try simp only [List.map_toArray, List.map_cons, List.map_nil]); first | done | rfl | (simp only [List.length_drop, List.length_take]; rfl)) ?_; (with_reducible refine (siskinref14_Long.calls k a0_0 a0_1 a0_2 a0_3 a0_4 _ _ l0_5 _ _ l0_6 true _ ?side1 ?side2 ?side3 ?side4 A6.out).mono ?_); (case side1 => repeat (first | exact (Kd.C_below HR0_5.out HB.out) | (with_reducible refine Kd.C_alloc ?_ _) | (with_reducible refine Kd.C_drewN ?_ _) | (with_reducible refine Kd.C_drew ?_))); (case side2 => exact HC0_5.out); (case side3 => repeat (first | exact (Kd.C_below HR0_6.out HB.out) | (with_reducible refine Kd.C_alloc ?_ _) | (with_reducible refine Kd.C_drewN ?_ _) | (with_reducible refine Kd.C_drew ?_))); (case side4 => exact HC0_6.out); rintro e w10 ⟨rfl, hb⟩; refine ⟨_, rfl, ?_⟩; have n0_ := Aside0.mk (blk_below (g := gb209) (o := .cells #[.int .i64 a0_0, .int .i64 a0_1, .int .i64 a0_2, .int .i64 a0_3, .int .i64 a0_4, .slice A0_5 l0_5.length c0_5, .slice A0_6 l0_6.length c0_6] 49 (0, 0)) (by (with_reducible repeat (first | refine blk_drewN ?_ _ | refine blk_drew ?_ | refine blk_alloc ?_ _)); exact BK209.out) hb); have n1_ := Aside0.mk (blk_below (g := gb210) (o := .cells #[.int .i64 a1_0, .int .i64 a1_1, .int .i64 a1_2, .int .i64 a1_3, .int .i64 a1_4, .slice A1_5 l1_5.length c1_5, .slice A1_6 l1_6.length c1_6] 49 (0, 0)) (by (with_reducible repeat (first | refine blk_drewN ?_ _ | refine blk_drew ?_ | refine blk_alloc ?_ _)); exact BK210.out) hb); have n2_ := Aside0.mk (below_step (by repeat (first | (with_reducible first | exact HB.out | apply below_alloc | apply pw_below_drewN | apply below_drew1 | refine below_set ?_ GE209.out | refine below_set ?_ GE210.out) | exact HB.out)) hb); clear BK209; clear BK210; clear HB; have BK209 := n0_; have BK210 := n1_; have HB := n2_; clear n0_ n1_ n2_; (try clear hb); (try clear hb2); (try clear hk); (try clear hi)))
      go_meet
      case rel => exact ⟨_, (true), (by first | rfl | (simp; done) | (simp [*]; done)), H', ⟨by first | omega | exact Nat.le_refl _⟩, ⟨by (with_reducible repeat (first | refine blk_drewN ?_ _ | refine blk_drew ?_ | refine blk_alloc ?_ _)); exact BK209.out⟩, ⟨by (with_reducible repeat (first | refine blk_drewN ?_ _ | refine blk_drew ?_ | refine blk_alloc ?_ _)); exact BK210.out⟩, ⟨by repeat (first | (with_reducible first | exact HB.out | apply below_alloc | apply pw_below_drewN | apply below_drew1 | refine below_set ?_ GE209.out | refine below_set ?_ GE210.out) | exact HB.out)⟩⟩
    · replace c7 := Bool.eq_false_iff.mpr c7
      subst c7
      have H1 : ((siskinref14_Long.f k a1_0 a1_1 a1_2 a1_3 a1_4 l1_5 l1_6).bind fun t212 => (if t212 = true then (siskinlaw14_ConfBack.j0 k true a0_0 a0_1 a0_2 a0_3 a0_4 l0_5 l0_6 a1_0 a1_1 a1_2 a1_3 a1_4 l1_5 l1_6) else ((siskinref14_Check.f k a0_0 a0_1 a0_2 a0_3 a0_4 l0_5 l0_6).bind fun t213 => (if t213 = 0 then ((siskinref14_Check.f k a1_0 a1_1 a1_2 a1_3 a1_4 l1_5 l1_6).bind fun t214 => (siskinlaw14_ConfBack.j0 k (t214 != 0) a0_0 a0_1 a0_2 a0_3 a0_4 l0_5 l0_6 a1_0 a1_1 a1_2 a1_3 a1_4 l1_5 l1_6)) else (siskinlaw14_ConfBack.j0 k true a0_0 a0_1 a0_2 a0_3 a0_4 l0_5 l0_6 a1_0 a1_1 a1_2 a1_3 a1_4 l1_5 l1_6))))) = some r := by rw [if_neg (show ¬ (false = true) by decide)] at H; exact H
      clear H
      have H := H1
      clear H1
      replace H := Option.bind_eq_some_iff.mp H
      obtain ⟨t212, A110, H⟩ := H
      replace H : (if t212 = true then (siskinlaw14_ConfBack.j0 k true a0_0 a0_1 a0_2 a0_3 a0_4 l0_5 l0_6 a1_0 a1_1 a1_2 a1_3 a1_4 l1_5 l1_6) else ((siskinref14_Check.f k a0_0 a0_1 a0_2 a0_3 a0_4 l0_5 l0_6).bind fun t213 => (if t213 = 0 then ((siskinref14_Check.f k a1_0 a1_1 a1_2 a1_3 a1_4 l1_5 l1_6).bind fun t214 => (siskinlaw14_ConfBack.j0 k (t214 != 0) a0_0 a0_1 a0_2 a0_3 a0_4 l0_5 l0_6 a1_0 a1_1 a1_2 a1_3 a1_4 l1_5 l1_6)) else (siskinlaw14_ConfBack.j0 k true a0_0 a0_1 a0_2 a0_3 a0_4 l0_5 l0_6 a1_0 a1_1 a1_2 a1_3 a1_4 l1_5 l1_6)))) = some r := H
      have A11 := Aside0.mk A110
      clear A110
      by_cases c12 : t212 = true
      · subst c12
        have H1 : (siskinlaw14_ConfBack.j0 k true a0_0 a0_1 a0_2 a0_3 a0_4 l0_5 l0_6 a1_0 a1_1 a1_2 a1_3 a1_4 l1_5 l1_6) = some r := by rw [if_pos rfl] at H; exact H
        clear H
        have H := H1
        clear H1
        have H' := Aside0.mk H
        clear H
        have hnb13 := NB209_210.out
        have hnc13 := NB210_209.out
        have hcz14_0 : w5.cell? ⟨gb209, 0, none⟩ = some (.int .i64 a0_0) := (blk_cell BK209.out 0).trans rfl
        have hcz14_1 : w5.cell? ⟨gb209, 1, none⟩ = some (.int .i64 a0_1) := (blk_cell BK209.out 1).trans rfl
        have hcz14_2 : w5.cell? ⟨gb209, 2, none⟩ = some (.int .i64 a0_2) := (blk_cell BK209.out 2).trans rfl
        have hcz14_3 : w5.cell? ⟨gb209, 3, none⟩ = some (.int .i64 a0_3) := (blk_cell BK209.out 3).trans rfl
        have hcz14_4 : w5.cell? ⟨gb209, 4, none⟩ = some (.int .i64 a0_4) := (blk_cell BK209.out 4).trans rfl
        have hcz14_5 : w5.cell? ⟨gb209, 5, none⟩ = some (.slice A0_5 l0_5.length c0_5) := (blk_cell BK209.out 5).trans rfl
        have hcz14_6 : w5.cell? ⟨gb209, 6, none⟩ = some (.slice A0_6 l0_6.length c0_6) := (blk_cell BK209.out 6).trans rfl
        have hfz14_0 := blk_frozen BK209.out 0
        have hfz14_1 := blk_frozen BK209.out 1
        have hfz14_2 := blk_frozen BK209.out 2
        have hfz14_3 := blk_frozen BK209.out 3
        have hfz14_4 := blk_frozen BK209.out 4
        have hfz14_5 := blk_frozen BK209.out 5
        have hfz14_6 := blk_frozen BK209.out 6
        go_wp2_with (first | ((with_reducible refine gate_callee (f := 19) rfl ?_); refine goesL_ (some 10) rfl rfl Tryd.func19 (by kernel_rfl) rfl #[.agg #[.int .i64 a0_0, .int .i64 a0_1, .int .i64 a0_2, .int .i64 a0_3, .int .i64 a0_4, .slice A0_5 l0_5.length c0_5, .slice A0_6 l0_6.length c0_6]] rfl (by (try simp only [List.map_toArray, List.map_cons, List.map_nil]); first | done | rfl | (simp only [List.length_drop, List.length_take]; rfl)) ?_; (with_reducible refine (siskinref14_Long.calls k a0_0 a0_1 a0_2 a0_3 a0_4 _ _ l0_5 _ _ l0_6 false _ ?side1 ?side2 ?side3 ?side4 A6.out).mono ?_); (case side1 => repeat (first | exact (Kd.C_below HR0_5.out HB.out) | (with_reducible refine Kd.C_alloc ?_ _) | (with_reducible refine Kd.C_drewN ?_ _) | (with_reducible refine Kd.C_drew ?_))); (case side2 => exact HC0_5.out); (case side3 => repeat (first | exact (Kd.C_below HR0_6.out HB.out) | (with_reducible refine Kd.C_alloc ?_ _) | (with_reducible refine Kd.C_drewN ?_ _) | (with_reducible refine Kd.C_drew ?_))); (case side4 => exact HC0_6.out); rintro e w15 ⟨rfl, hb⟩; refine ⟨_, rfl, ?_⟩; have n0_ := Aside0.mk (blk_below (g := gb209) (o := .cells #[.int .i64 a0_0, .int .i64 a0_1, .int .i64 a0_2, .int .i64 a0_3, .int .i64 a0_4, .slice A0_5 l0_5.length c0_5, .slice A0_6 l0_6.length c0_6] 49 (0, 0)) (by (with_reducible repeat (first | refine blk_drewN ?_ _ | refine blk_drew ?_ | refine blk_alloc ?_ _)); exact BK209.out) hb); have n1_ := Aside0.mk (blk_below (g := gb210) (o := .cells #[.int .i64 a1_0, .int .i64 a1_1, .int .i64 a1_2, .int .i64 a1_3, .int .i64 a1_4, .slice A1_5 l1_5.length c1_5, .slice A1_6 l1_6.length c1_6] 49 (0, 0)) (by (with_reducible repeat (first | refine blk_drewN ?_ _ | refine blk_drew ?_ | refine blk_alloc ?_ _)); exact BK210.out) hb); have n2_ := Aside0.mk (below_step (by repeat (first | (with_reducible first | exact HB.out | apply below_alloc | apply pw_below_drewN | apply below_drew1 | refine below_set ?_ GE209.out | refine below_set ?_ GE210.out) | exact HB.out)) hb); clear BK209; clear BK210; clear HB; have BK209 := n0_; have BK210 := n1_; have HB := n2_; clear n0_ n1_ n2_; (try clear hb); (try clear hb2); (try clear hk); (try clear hi); have hcz16_0 : w15.cell? ⟨gb210, 0, none⟩ = some (.int .i64 a1_0) := (blk_cell BK210.out 0).trans rfl; have hcz16_1 : w15.cell? ⟨gb210, 1, none⟩ = some (.int .i64 a1_1) := (blk_cell BK210.out 1).trans rfl; have hcz16_2 : w15.cell? ⟨gb210, 2, none⟩ = some (.int .i64 a1_2) := (blk_cell BK210.out 2).trans rfl; have hcz16_3 : w15.cell? ⟨gb210, 3, none⟩ = some (.int .i64 a1_3) := (blk_cell BK210.out 3).trans rfl; have hcz16_4 : w15.cell? ⟨gb210, 4, none⟩ = some (.int .i64 a1_4) := (blk_cell BK210.out 4).trans rfl; have hcz16_5 : w15.cell? ⟨gb210, 5, none⟩ = some (.slice A1_5 l1_5.length c1_5) := (blk_cell BK210.out 5).trans rfl; have hcz16_6 : w15.cell? ⟨gb210, 6, none⟩ = some (.slice A1_6 l1_6.length c1_6) := (blk_cell BK210.out 6).trans rfl; have hfz16_0 := blk_frozen BK210.out 0; have hfz16_1 := blk_frozen BK210.out 1; have hfz16_2 := blk_frozen BK210.out 2; have hfz16_3 := blk_frozen BK210.out 3; have hfz16_4 := blk_frozen BK210.out 4; have hfz16_5 := blk_frozen BK210.out 5; have hfz16_6 := blk_frozen BK210.out 6) | (go_at_call 19; (with_reducible refine (siskinref14_Long.calls k a1_0 a1_1 a1_2 a1_3 a1_4 _ _ l1_5 _ _ l1_6 true _ ?side1 ?side2 ?side3 ?side4 A11.out).mono ?_); (case side1 => repeat (first | exact (Kd.C_below HR1_5.out HB.out) | (with_reducible refine Kd.C_alloc ?_ _) | (with_reducible refine Kd.C_drewN ?_ _) | (with_reducible refine Kd.C_drew ?_))); (case side2 => exact HC1_5.out); (case side3 => repeat (first | exact (Kd.C_below HR1_6.out HB.out) | (with_reducible refine Kd.C_alloc ?_ _) | (with_reducible refine Kd.C_drewN ?_ _) | (with_reducible refine Kd.C_drew ?_))); (case side4 => exact HC1_6.out); rintro e w17 ⟨rfl, hb⟩; have n0_ := Aside0.mk (blk_below (g := gb209) (o := .cells #[.int .i64 a0_0, .int .i64 a0_1, .int .i64 a0_2, .int .i64 a0_3, .int .i64 a0_4, .slice A0_5 l0_5.length c0_5, .slice A0_6 l0_6.length c0_6] 49 (0, 0)) (by (with_reducible repeat (first | refine blk_drewN ?_ _ | refine blk_drew ?_ | refine blk_alloc ?_ _)); exact BK209.out) hb); have n1_ := Aside0.mk (blk_below (g := gb210) (o := .cells #[.int .i64 a1_0, .int .i64 a1_1, .int .i64 a1_2, .int .i64 a1_3, .int .i64 a1_4, .slice A1_5 l1_5.length c1_5, .slice A1_6 l1_6.length c1_6] 49 (0, 0)) (by (with_reducible repeat (first | refine blk_drewN ?_ _ | refine blk_drew ?_ | refine blk_alloc ?_ _)); exact BK210.out) hb); have n2_ := Aside0.mk (below_step (by repeat (first | (with_reducible first | exact HB.out | apply below_alloc | apply pw_below_drewN | apply below_drew1 | refine below_set ?_ GE209.out | refine below_set ?_ GE210.out) | exact HB.out)) hb); clear BK209; clear BK210; clear HB; have BK209 := n0_; have BK210 := n1_; have HB := n2_; clear n0_ n1_ n2_; (try clear hb); (try clear hb2); (try clear hk); (try clear hi)))
        go_meet
        case rel => exact ⟨_, (true), (by first | rfl | (simp; done) | (simp [*]; done)), H', ⟨by first | omega | exact Nat.le_refl _⟩, ⟨by (with_reducible repeat (first | refine blk_drewN ?_ _ | refine blk_drew ?_ | refine blk_alloc ?_ _)); exact BK209.out⟩, ⟨by (with_reducible repeat (first | refine blk_drewN ?_ _ | refine blk_drew ?_ | refine blk_alloc ?_ _)); exact BK210.out⟩, ⟨by repeat (first | (with_reducible first | exact HB.out | apply below_alloc | apply pw_below_drewN | apply below_drew1 | refine below_set ?_ GE209.out | refine below_set ?_ GE210.out) | exact HB.out)⟩⟩
      · replace c12 := Bool.eq_false_iff.mpr c12
        subst c12
        have H1 : ((siskinref14_Check.f k a0_0 a0_1 a0_2 a0_3 a0_4 l0_5 l0_6).bind fun t213 => (if t213 = 0 then ((siskinref14_Check.f k a1_0 a1_1 a1_2 a1_3 a1_4 l1_5 l1_6).bind fun t214 => (siskinlaw14_ConfBack.j0 k (t214 != 0) a0_0 a0_1 a0_2 a0_3 a0_4 l0_5 l0_6 a1_0 a1_1 a1_2 a1_3 a1_4 l1_5 l1_6)) else (siskinlaw14_ConfBack.j0 k true a0_0 a0_1 a0_2 a0_3 a0_4 l0_5 l0_6 a1_0 a1_1 a1_2 a1_3 a1_4 l1_5 l1_6))) = some r := by rw [if_neg (show ¬ (false = true) by decide)] at H; exact H
        clear H
        have H := H1
        clear H1
        replace H := Option.bind_eq_some_iff.mp H
        obtain ⟨t213, A180, H⟩ := H
        replace H : (if t213 = 0 then ((siskinref14_Check.f k a1_0 a1_1 a1_2 a1_3 a1_4 l1_5 l1_6).bind fun t214 => (siskinlaw14_ConfBack.j0 k (t214 != 0) a0_0 a0_1 a0_2 a0_3 a0_4 l0_5 l0_6 a1_0 a1_1 a1_2 a1_3 a1_4 l1_5 l1_6)) else (siskinlaw14_ConfBack.j0 k true a0_0 a0_1 a0_2 a0_3 a0_4 l0_5 l0_6 a1_0 a1_1 a1_2 a1_3 a1_4 l1_5 l1_6)) = some r := H
        have A18 := Aside0.mk A180
        clear A180
        by_cases c19 : t213 = 0
        · rw [if_pos c19] at H
          have c19b0 : (t213 == 0) = true := beq_iff_eq.mpr c19
          have c19b1 : (t213 != 0) = false := bne_eq_false_iff_eq.mpr c19
          clear c19
          (first | rw [c19b0] | (simp only [i64_w, i32_w]; rw [c19b0]) | skip)
          replace H := Option.bind_eq_some_iff.mp H
          obtain ⟨t214, A200, H⟩ := H
          replace H : (siskinlaw14_ConfBack.j0 k (t214 != 0) a0_0 a0_1 a0_2 a0_3 a0_4 l0_5 l0_6 a1_0 a1_1 a1_2 a1_3 a1_4 l1_5 l1_6) = some r := H
          have A20 := Aside0.mk A200
          clear A200
          have H' := Aside0.mk H
          clear H
          have hnb21 := NB209_210.out
          have hnc21 := NB210_209.out
          have hcz22_0 : w5.cell? ⟨gb209, 0, none⟩ = some (.int .i64 a0_0) := (blk_cell BK209.out 0).trans rfl
          have hcz22_1 : w5.cell? ⟨gb209, 1, none⟩ = some (.int .i64 a0_1) := (blk_cell BK209.out 1).trans rfl
          have hcz22_2 : w5.cell? ⟨gb209, 2, none⟩ = some (.int .i64 a0_2) := (blk_cell BK209.out 2).trans rfl
          have hcz22_3 : w5.cell? ⟨gb209, 3, none⟩ = some (.int .i64 a0_3) := (blk_cell BK209.out 3).trans rfl
          have hcz22_4 : w5.cell? ⟨gb209, 4, none⟩ = some (.int .i64 a0_4) := (blk_cell BK209.out 4).trans rfl
          have hcz22_5 : w5.cell? ⟨gb209, 5, none⟩ = some (.slice A0_5 l0_5.length c0_5) := (blk_cell BK209.out 5).trans rfl
          have hcz22_6 : w5.cell? ⟨gb209, 6, none⟩ = some (.slice A0_6 l0_6.length c0_6) := (blk_cell BK209.out 6).trans rfl
          have hfz22_0 := blk_frozen BK209.out 0
          have hfz22_1 := blk_frozen BK209.out 1
          have hfz22_2 := blk_frozen BK209.out 2
          have hfz22_3 := blk_frozen BK209.out 3
          have hfz22_4 := blk_frozen BK209.out 4
          have hfz22_5 := blk_frozen BK209.out 5
          have hfz22_6 := blk_frozen BK209.out 6
          go_wp2_with (first | ((with_reducible refine gate_callee (f := 19) rfl ?_); refine goesL_ (some 10) rfl rfl Tryd.func19 (by kernel_rfl) rfl #[.agg #[.int .i64 a0_0, .int .i64 a0_1, .int .i64 a0_2, .int .i64 a0_3, .int .i64 a0_4, .slice A0_5 l0_5.length c0_5, .slice A0_6 l0_6.length c0_6]] rfl (by (try simp only [List.map_toArray, List.map_cons, List.map_nil]); first | done | rfl | (simp only [List.length_drop, List.length_take]; rfl)) ?_; (with_reducible refine (siskinref14_Long.calls k a0_0 a0_1 a0_2 a0_3 a0_4 _ _ l0_5 _ _ l0_6 false _ ?side1 ?side2 ?side3 ?side4 A6.out).mono ?_); (case side1 => repeat (first | exact (Kd.C_below HR0_5.out HB.out) | (with_reducible refine Kd.C_alloc ?_ _) | (with_reducible refine Kd.C_drewN ?_ _) | (with_reducible refine Kd.C_drew ?_))); (case side2 => exact HC0_5.out); (case side3 => repeat (first | exact (Kd.C_below HR0_6.out HB.out) | (with_reducible refine Kd.C_alloc ?_ _) | (with_reducible refine Kd.C_drewN ?_ _) | (with_reducible refine Kd.C_drew ?_))); (case side4 => exact HC0_6.out); rintro e w23 ⟨rfl, hb⟩; refine ⟨_, rfl, ?_⟩; have n0_ := Aside0.mk (blk_below (g := gb209) (o := .cells #[.int .i64 a0_0, .int .i64 a0_1, .int .i64 a0_2, .int .i64 a0_3, .int .i64 a0_4, .slice A0_5 l0_5.length c0_5, .slice A0_6 l0_6.length c0_6] 49 (0, 0)) (by (with_reducible repeat (first | refine blk_drewN ?_ _ | refine blk_drew ?_ | refine blk_alloc ?_ _)); exact BK209.out) hb); have n1_ := Aside0.mk (blk_below (g := gb210) (o := .cells #[.int .i64 a1_0, .int .i64 a1_1, .int .i64 a1_2, .int .i64 a1_3, .int .i64 a1_4, .slice A1_5 l1_5.length c1_5, .slice A1_6 l1_6.length c1_6] 49 (0, 0)) (by (with_reducible repeat (first | refine blk_drewN ?_ _ | refine blk_drew ?_ | refine blk_alloc ?_ _)); exact BK210.out) hb); have n2_ := Aside0.mk (below_step (by repeat (first | (with_reducible first | exact HB.out | apply below_alloc | apply pw_below_drewN | apply below_drew1 | refine below_set ?_ GE209.out | refine below_set ?_ GE210.out) | exact HB.out)) hb); clear BK209; clear BK210; clear HB; have BK209 := n0_; have BK210 := n1_; have HB := n2_; clear n0_ n1_ n2_; (try clear hb); (try clear hb2); (try clear hk); (try clear hi); have hcz24_0 : w23.cell? ⟨gb210, 0, none⟩ = some (.int .i64 a1_0) := (blk_cell BK210.out 0).trans rfl; have hcz24_1 : w23.cell? ⟨gb210, 1, none⟩ = some (.int .i64 a1_1) := (blk_cell BK210.out 1).trans rfl; have hcz24_2 : w23.cell? ⟨gb210, 2, none⟩ = some (.int .i64 a1_2) := (blk_cell BK210.out 2).trans rfl; have hcz24_3 : w23.cell? ⟨gb210, 3, none⟩ = some (.int .i64 a1_3) := (blk_cell BK210.out 3).trans rfl; have hcz24_4 : w23.cell? ⟨gb210, 4, none⟩ = some (.int .i64 a1_4) := (blk_cell BK210.out 4).trans rfl; have hcz24_5 : w23.cell? ⟨gb210, 5, none⟩ = some (.slice A1_5 l1_5.length c1_5) := (blk_cell BK210.out 5).trans rfl; have hcz24_6 : w23.cell? ⟨gb210, 6, none⟩ = some (.slice A1_6 l1_6.length c1_6) := (blk_cell BK210.out 6).trans rfl; have hfz24_0 := blk_frozen BK210.out 0; have hfz24_1 := blk_frozen BK210.out 1; have hfz24_2 := blk_frozen BK210.out 2; have hfz24_3 := blk_frozen BK210.out 3; have hfz24_4 := blk_frozen BK210.out 4; have hfz24_5 := blk_frozen BK210.out 5; have hfz24_6 := blk_frozen BK210.out 6) | (go_at_call 19; (with_reducible refine (siskinref14_Long.calls k a1_0 a1_1 a1_2 a1_3 a1_4 _ _ l1_5 _ _ l1_6 false _ ?side1 ?side2 ?side3 ?side4 A11.out).mono ?_); (case side1 => repeat (first | exact (Kd.C_below HR1_5.out HB.out) | (with_reducible refine Kd.C_alloc ?_ _) | (with_reducible refine Kd.C_drewN ?_ _) | (with_reducible refine Kd.C_drew ?_))); (case side2 => exact HC1_5.out); (case side3 => repeat (first | exact (Kd.C_below HR1_6.out HB.out) | (with_reducible refine Kd.C_alloc ?_ _) | (with_reducible refine Kd.C_drewN ?_ _) | (with_reducible refine Kd.C_drew ?_))); (case side4 => exact HC1_6.out); rintro e w25 ⟨rfl, hb⟩; have n0_ := Aside0.mk (blk_below (g := gb209) (o := .cells #[.int .i64 a0_0, .int .i64 a0_1, .int .i64 a0_2, .int .i64 a0_3, .int .i64 a0_4, .slice A0_5 l0_5.length c0_5, .slice A0_6 l0_6.length c0_6] 49 (0, 0)) (by (with_reducible repeat (first | refine blk_drewN ?_ _ | refine blk_drew ?_ | refine blk_alloc ?_ _)); exact BK209.out) hb); have n1_ := Aside0.mk (blk_below (g := gb210) (o := .cells #[.int .i64 a1_0, .int .i64 a1_1, .int .i64 a1_2, .int .i64 a1_3, .int .i64 a1_4, .slice A1_5 l1_5.length c1_5, .slice A1_6 l1_6.length c1_6] 49 (0, 0)) (by (with_reducible repeat (first | refine blk_drewN ?_ _ | refine blk_drew ?_ | refine blk_alloc ?_ _)); exact BK210.out) hb); have n2_ := Aside0.mk (below_step (by repeat (first | (with_reducible first | exact HB.out | apply below_alloc | apply pw_below_drewN | apply below_drew1 | refine below_set ?_ GE209.out | refine below_set ?_ GE210.out) | exact HB.out)) hb); clear BK209; clear BK210; clear HB; have BK209 := n0_; have BK210 := n1_; have HB := n2_; clear n0_ n1_ n2_; (try clear hb); (try clear hb2); (try clear hk); (try clear hi); have hcz26_0 : w25.cell? ⟨gb209, 0, none⟩ = some (.int .i64 a0_0) := (blk_cell BK209.out 0).trans rfl; have hcz26_1 : w25.cell? ⟨gb209, 1, none⟩ = some (.int .i64 a0_1) := (blk_cell BK209.out 1).trans rfl; have hcz26_2 : w25.cell? ⟨gb209, 2, none⟩ = some (.int .i64 a0_2) := (blk_cell BK209.out 2).trans rfl; have hcz26_3 : w25.cell? ⟨gb209, 3, none⟩ = some (.int .i64 a0_3) := (blk_cell BK209.out 3).trans rfl; have hcz26_4 : w25.cell? ⟨gb209, 4, none⟩ = some (.int .i64 a0_4) := (blk_cell BK209.out 4).trans rfl; have hcz26_5 : w25.cell? ⟨gb209, 5, none⟩ = some (.slice A0_5 l0_5.length c0_5) := (blk_cell BK209.out 5).trans rfl; have hcz26_6 : w25.cell? ⟨gb209, 6, none⟩ = some (.slice A0_6 l0_6.length c0_6) := (blk_cell BK209.out 6).trans rfl; have hfz26_0 := blk_frozen BK209.out 0; have hfz26_1 := blk_frozen BK209.out 1; have hfz26_2 := blk_frozen BK209.out 2; have hfz26_3 := blk_frozen BK209.out 3; have hfz26_4 := blk_frozen BK209.out 4; have hfz26_5 := blk_frozen BK209.out 5; have hfz26_6 := blk_frozen BK209.out 6) | (go_at_call 20; (with_reducible refine (siskinref14_Check.calls k a0_0 a0_1 a0_2 a0_3 a0_4 _ _ l0_5 _ _ l0_6 t213 _ ?side1 ?side2 ?side3 ?side4 A18.out).mono ?_); (case side1 => repeat (first | exact (Kd.C_below HR0_5.out HB.out) | (with_reducible refine Kd.C_alloc ?_ _) | (with_reducible refine Kd.C_drewN ?_ _) | (with_reducible refine Kd.C_drew ?_))); (case side2 => exact HC0_5.out); (case side3 => repeat (first | exact (Kd.C_below HR0_6.out HB.out) | (with_reducible refine Kd.C_alloc ?_ _) | (with_reducible refine Kd.C_drewN ?_ _) | (with_reducible refine Kd.C_drew ?_))); (case side4 => exact HC0_6.out); rintro e w27 ⟨rfl, hb⟩; have n0_ := Aside0.mk (blk_below (g := gb209) (o := .cells #[.int .i64 a0_0, .int .i64 a0_1, .int .i64 a0_2, .int .i64 a0_3, .int .i64 a0_4, .slice A0_5 l0_5.length c0_5, .slice A0_6 l0_6.length c0_6] 49 (0, 0)) (by (with_reducible repeat (first | refine blk_drewN ?_ _ | refine blk_drew ?_ | refine blk_alloc ?_ _)); exact BK209.out) hb); have n1_ := Aside0.mk (blk_below (g := gb210) (o := .cells #[.int .i64 a1_0, .int .i64 a1_1, .int .i64 a1_2, .int .i64 a1_3, .int .i64 a1_4, .slice A1_5 l1_5.length c1_5, .slice A1_6 l1_6.length c1_6] 49 (0, 0)) (by (with_reducible repeat (first | refine blk_drewN ?_ _ | refine blk_drew ?_ | refine blk_alloc ?_ _)); exact BK210.out) hb); have n2_ := Aside0.mk (below_step (by repeat (first | (with_reducible first | exact HB.out | apply below_alloc | apply pw_below_drewN | apply below_drew1 | refine below_set ?_ GE209.out | refine below_set ?_ GE210.out) | exact HB.out)) hb); clear BK209; clear BK210; clear HB; have BK209 := n0_; have BK210 := n1_; have HB := n2_; clear n0_ n1_ n2_; (try clear hb); (try clear hb2); (try clear hk); (try clear hi); have hcz28_0 : w27.cell? ⟨gb210, 0, none⟩ = some (.int .i64 a1_0) := (blk_cell BK210.out 0).trans rfl; have hcz28_1 : w27.cell? ⟨gb210, 1, none⟩ = some (.int .i64 a1_1) := (blk_cell BK210.out 1).trans rfl; have hcz28_2 : w27.cell? ⟨gb210, 2, none⟩ = some (.int .i64 a1_2) := (blk_cell BK210.out 2).trans rfl; have hcz28_3 : w27.cell? ⟨gb210, 3, none⟩ = some (.int .i64 a1_3) := (blk_cell BK210.out 3).trans rfl; have hcz28_4 : w27.cell? ⟨gb210, 4, none⟩ = some (.int .i64 a1_4) := (blk_cell BK210.out 4).trans rfl; have hcz28_5 : w27.cell? ⟨gb210, 5, none⟩ = some (.slice A1_5 l1_5.length c1_5) := (blk_cell BK210.out 5).trans rfl; have hcz28_6 : w27.cell? ⟨gb210, 6, none⟩ = some (.slice A1_6 l1_6.length c1_6) := (blk_cell BK210.out 6).trans rfl; have hfz28_0 := blk_frozen BK210.out 0; have hfz28_1 := blk_frozen BK210.out 1; have hfz28_2 := blk_frozen BK210.out 2; have hfz28_3 := blk_frozen BK210.out 3; have hfz28_4 := blk_frozen BK210.out 4; have hfz28_5 := blk_frozen BK210.out 5; have hfz28_6 := blk_frozen BK210.out 6) | (go_at_call 20; (with_reducible refine (siskinref14_Check.calls k a1_0 a1_1 a1_2 a1_3 a1_4 _ _ l1_5 _ _ l1_6 t214 _ ?side1 ?side2 ?side3 ?side4 A20.out).mono ?_); (case side1 => repeat (first | exact (Kd.C_below HR1_5.out HB.out) | (with_reducible refine Kd.C_alloc ?_ _) | (with_reducible refine Kd.C_drewN ?_ _) | (with_reducible refine Kd.C_drew ?_))); (case side2 => exact HC1_5.out); (case side3 => repeat (first | exact (Kd.C_below HR1_6.out HB.out) | (with_reducible refine Kd.C_alloc ?_ _) | (with_reducible refine Kd.C_drewN ?_ _) | (with_reducible refine Kd.C_drew ?_))); (case side4 => exact HC1_6.out); rintro e w29 ⟨rfl, hb⟩; have n0_ := Aside0.mk (blk_below (g := gb209) (o := .cells #[.int .i64 a0_0, .int .i64 a0_1, .int .i64 a0_2, .int .i64 a0_3, .int .i64 a0_4, .slice A0_5 l0_5.length c0_5, .slice A0_6 l0_6.length c0_6] 49 (0, 0)) (by (with_reducible repeat (first | refine blk_drewN ?_ _ | refine blk_drew ?_ | refine blk_alloc ?_ _)); exact BK209.out) hb); have n1_ := Aside0.mk (blk_below (g := gb210) (o := .cells #[.int .i64 a1_0, .int .i64 a1_1, .int .i64 a1_2, .int .i64 a1_3, .int .i64 a1_4, .slice A1_5 l1_5.length c1_5, .slice A1_6 l1_6.length c1_6] 49 (0, 0)) (by (with_reducible repeat (first | refine blk_drewN ?_ _ | refine blk_drew ?_ | refine blk_alloc ?_ _)); exact BK210.out) hb); have n2_ := Aside0.mk (below_step (by repeat (first | (with_reducible first | exact HB.out | apply below_alloc | apply pw_below_drewN | apply below_drew1 | refine below_set ?_ GE209.out | refine below_set ?_ GE210.out) | exact HB.out)) hb); clear BK209; clear BK210; clear HB; have BK209 := n0_; have BK210 := n1_; have HB := n2_; clear n0_ n1_ n2_; (try clear hb); (try clear hb2); (try clear hk); (try clear hi)))
          go_meet
          case rel => exact ⟨_, ((t214 != 0)), (by first | rfl | (simp; done) | (simp [*]; done)), H', ⟨by first | omega | exact Nat.le_refl _⟩, ⟨by (with_reducible repeat (first | refine blk_drewN ?_ _ | refine blk_drew ?_ | refine blk_alloc ?_ _)); exact BK209.out⟩, ⟨by (with_reducible repeat (first | refine blk_drewN ?_ _ | refine blk_drew ?_ | refine blk_alloc ?_ _)); exact BK210.out⟩, ⟨by repeat (first | (with_reducible first | exact HB.out | apply below_alloc | apply pw_below_drewN | apply below_drew1 | refine below_set ?_ GE209.out | refine below_set ?_ GE210.out) | exact HB.out)⟩⟩
        · rw [if_neg c19] at H
          have c19b0 : (t213 == 0) = false := beq_eq_false_iff_ne.mpr c19
          have c19b1 : (t213 != 0) = true := bne_iff_ne.mpr c19
          (first | rw [c19b0] | (simp only [i64_w, i32_w]; rw [c19b0]) | skip)
          have H' := Aside0.mk H
          clear H
          have hnb30 := NB209_210.out
          have hnc30 := NB210_209.out
          have hcz31_0 : w5.cell? ⟨gb209, 0, none⟩ = some (.int .i64 a0_0) := (blk_cell BK209.out 0).trans rfl
          have hcz31_1 : w5.cell? ⟨gb209, 1, none⟩ = some (.int .i64 a0_1) := (blk_cell BK209.out 1).trans rfl
          have hcz31_2 : w5.cell? ⟨gb209, 2, none⟩ = some (.int .i64 a0_2) := (blk_cell BK209.out 2).trans rfl
          have hcz31_3 : w5.cell? ⟨gb209, 3, none⟩ = some (.int .i64 a0_3) := (blk_cell BK209.out 3).trans rfl
          have hcz31_4 : w5.cell? ⟨gb209, 4, none⟩ = some (.int .i64 a0_4) := (blk_cell BK209.out 4).trans rfl
          have hcz31_5 : w5.cell? ⟨gb209, 5, none⟩ = some (.slice A0_5 l0_5.length c0_5) := (blk_cell BK209.out 5).trans rfl
          have hcz31_6 : w5.cell? ⟨gb209, 6, none⟩ = some (.slice A0_6 l0_6.length c0_6) := (blk_cell BK209.out 6).trans rfl
          have hfz31_0 := blk_frozen BK209.out 0
          have hfz31_1 := blk_frozen BK209.out 1
          have hfz31_2 := blk_frozen BK209.out 2
          have hfz31_3 := blk_frozen BK209.out 3
          have hfz31_4 := blk_frozen BK209.out 4
          have hfz31_5 := blk_frozen BK209.out 5
          have hfz31_6 := blk_frozen BK209.out 6
          go_wp2_with (first | ((with_reducible refine gate_callee (f := 19) rfl ?_); refine goesL_ (some 10) rfl rfl Tryd.func19 (by kernel_rfl) rfl #[.agg #[.int .i64 a0_0, .int .i64 a0_1, .int .i64 a0_2, .int .i64 a0_3, .int .i64 a0_4, .slice A0_5 l0_5.length c0_5, .slice A0_6 l0_6.length c0_6]] rfl (by (try simp only [List.map_toArray, List.map_cons, List.map_nil]); first | done | rfl | (simp only [List.length_drop, List.length_take]; rfl)) ?_; (with_reducible refine (siskinref14_Long.calls k a0_0 a0_1 a0_2 a0_3 a0_4 _ _ l0_5 _ _ l0_6 false _ ?side1 ?side2 ?side3 ?side4 A6.out).mono ?_); (case side1 => repeat (first | exact (Kd.C_below HR0_5.out HB.out) | (with_reducible refine Kd.C_alloc ?_ _) | (with_reducible refine Kd.C_drewN ?_ _) | (with_reducible refine Kd.C_drew ?_))); (case side2 => exact HC0_5.out); (case side3 => repeat (first | exact (Kd.C_below HR0_6.out HB.out) | (with_reducible refine Kd.C_alloc ?_ _) | (with_reducible refine Kd.C_drewN ?_ _) | (with_reducible refine Kd.C_drew ?_))); (case side4 => exact HC0_6.out); rintro e w32 ⟨rfl, hb⟩; refine ⟨_, rfl, ?_⟩; have n0_ := Aside0.mk (blk_below (g := gb209) (o := .cells #[.int .i64 a0_0, .int .i64 a0_1, .int .i64 a0_2, .int .i64 a0_3, .int .i64 a0_4, .slice A0_5 l0_5.length c0_5, .slice A0_6 l0_6.length c0_6] 49 (0, 0)) (by (with_reducible repeat (first | refine blk_drewN ?_ _ | refine blk_drew ?_ | refine blk_alloc ?_ _)); exact BK209.out) hb); have n1_ := Aside0.mk (blk_below (g := gb210) (o := .cells #[.int .i64 a1_0, .int .i64 a1_1, .int .i64 a1_2, .int .i64 a1_3, .int .i64 a1_4, .slice A1_5 l1_5.length c1_5, .slice A1_6 l1_6.length c1_6] 49 (0, 0)) (by (with_reducible repeat (first | refine blk_drewN ?_ _ | refine blk_drew ?_ | refine blk_alloc ?_ _)); exact BK210.out) hb); have n2_ := Aside0.mk (below_step (by repeat (first | (with_reducible first | exact HB.out | apply below_alloc | apply pw_below_drewN | apply below_drew1 | refine below_set ?_ GE209.out | refine below_set ?_ GE210.out) | exact HB.out)) hb); clear BK209; clear BK210; clear HB; have BK209 := n0_; have BK210 := n1_; have HB := n2_; clear n0_ n1_ n2_; (try clear hb); (try clear hb2); (try clear hk); (try clear hi); have hcz33_0 : w32.cell? ⟨gb210, 0, none⟩ = some (.int .i64 a1_0) := (blk_cell BK210.out 0).trans rfl; have hcz33_1 : w32.cell? ⟨gb210, 1, none⟩ = some (.int .i64 a1_1) := (blk_cell BK210.out 1).trans rfl; have hcz33_2 : w32.cell? ⟨gb210, 2, none⟩ = some (.int .i64 a1_2) := (blk_cell BK210.out 2).trans rfl; have hcz33_3 : w32.cell? ⟨gb210, 3, none⟩ = some (.int .i64 a1_3) := (blk_cell BK210.out 3).trans rfl; have hcz33_4 : w32.cell? ⟨gb210, 4, none⟩ = some (.int .i64 a1_4) := (blk_cell BK210.out 4).trans rfl; have hcz33_5 : w32.cell? ⟨gb210, 5, none⟩ = some (.slice A1_5 l1_5.length c1_5) := (blk_cell BK210.out 5).trans rfl; have hcz33_6 : w32.cell? ⟨gb210, 6, none⟩ = some (.slice A1_6 l1_6.length c1_6) := (blk_cell BK210.out 6).trans rfl; have hfz33_0 := blk_frozen BK210.out 0; have hfz33_1 := blk_frozen BK210.out 1; have hfz33_2 := blk_frozen BK210.out 2; have hfz33_3 := blk_frozen BK210.out 3; have hfz33_4 := blk_frozen BK210.out 4; have hfz33_5 := blk_frozen BK210.out 5; have hfz33_6 := blk_frozen BK210.out 6) | (go_at_call 19; (with_reducible refine (siskinref14_Long.calls k a1_0 a1_1 a1_2 a1_3 a1_4 _ _ l1_5 _ _ l1_6 false _ ?side1 ?side2 ?side3 ?side4 A11.out).mono ?_); (case side1 => repeat (first | exact (Kd.C_below HR1_5.out HB.out) | (with_reducible refine Kd.C_alloc ?_ _) | (with_reducible refine Kd.C_drewN ?_ _) | (with_reducible refine Kd.C_drew ?_))); (case side2 => exact HC1_5.out); (case side3 => repeat (first | exact (Kd.C_below HR1_6.out HB.out) | (with_reducible refine Kd.C_alloc ?_ _) | (with_reducible refine Kd.C_drewN ?_ _) | (with_reducible refine Kd.C_drew ?_))); (case side4 => exact HC1_6.out); rintro e w34 ⟨rfl, hb⟩; have n0_ := Aside0.mk (blk_below (g := gb209) (o := .cells #[.int .i64 a0_0, .int .i64 a0_1, .int .i64 a0_2, .int .i64 a0_3, .int .i64 a0_4, .slice A0_5 l0_5.length c0_5, .slice A0_6 l0_6.length c0_6] 49 (0, 0)) (by (with_reducible repeat (first | refine blk_drewN ?_ _ | refine blk_drew ?_ | refine blk_alloc ?_ _)); exact BK209.out) hb); have n1_ := Aside0.mk (blk_below (g := gb210) (o := .cells #[.int .i64 a1_0, .int .i64 a1_1, .int .i64 a1_2, .int .i64 a1_3, .int .i64 a1_4, .slice A1_5 l1_5.length c1_5, .slice A1_6 l1_6.length c1_6] 49 (0, 0)) (by (with_reducible repeat (first | refine blk_drewN ?_ _ | refine blk_drew ?_ | refine blk_alloc ?_ _)); exact BK210.out) hb); have n2_ := Aside0.mk (below_step (by repeat (first | (with_reducible first | exact HB.out | apply below_alloc | apply pw_below_drewN | apply below_drew1 | refine below_set ?_ GE209.out | refine below_set ?_ GE210.out) | exact HB.out)) hb); clear BK209; clear BK210; clear HB; have BK209 := n0_; have BK210 := n1_; have HB := n2_; clear n0_ n1_ n2_; (try clear hb); (try clear hb2); (try clear hk); (try clear hi); have hcz35_0 : w34.cell? ⟨gb209, 0, none⟩ = some (.int .i64 a0_0) := (blk_cell BK209.out 0).trans rfl; have hcz35_1 : w34.cell? ⟨gb209, 1, none⟩ = some (.int .i64 a0_1) := (blk_cell BK209.out 1).trans rfl; have hcz35_2 : w34.cell? ⟨gb209, 2, none⟩ = some (.int .i64 a0_2) := (blk_cell BK209.out 2).trans rfl; have hcz35_3 : w34.cell? ⟨gb209, 3, none⟩ = some (.int .i64 a0_3) := (blk_cell BK209.out 3).trans rfl; have hcz35_4 : w34.cell? ⟨gb209, 4, none⟩ = some (.int .i64 a0_4) := (blk_cell BK209.out 4).trans rfl; have hcz35_5 : w34.cell? ⟨gb209, 5, none⟩ = some (.slice A0_5 l0_5.length c0_5) := (blk_cell BK209.out 5).trans rfl; have hcz35_6 : w34.cell? ⟨gb209, 6, none⟩ = some (.slice A0_6 l0_6.length c0_6) := (blk_cell BK209.out 6).trans rfl; have hfz35_0 := blk_frozen BK209.out 0; have hfz35_1 := blk_frozen BK209.out 1; have hfz35_2 := blk_frozen BK209.out 2; have hfz35_3 := blk_frozen BK209.out 3; have hfz35_4 := blk_frozen BK209.out 4; have hfz35_5 := blk_frozen BK209.out 5; have hfz35_6 := blk_frozen BK209.out 6) | (go_at_call 20; (with_reducible refine (siskinref14_Check.calls k a0_0 a0_1 a0_2 a0_3 a0_4 _ _ l0_5 _ _ l0_6 t213 _ ?side1 ?side2 ?side3 ?side4 A18.out).mono ?_); (case side1 => repeat (first | exact (Kd.C_below HR0_5.out HB.out) | (with_reducible refine Kd.C_alloc ?_ _) | (with_reducible refine Kd.C_drewN ?_ _) | (with_reducible refine Kd.C_drew ?_))); (case side2 => exact HC0_5.out); (case side3 => repeat (first | exact (Kd.C_below HR0_6.out HB.out) | (with_reducible refine Kd.C_alloc ?_ _) | (with_reducible refine Kd.C_drewN ?_ _) | (with_reducible refine Kd.C_drew ?_))); (case side4 => exact HC0_6.out); rintro e w36 ⟨rfl, hb⟩; have n0_ := Aside0.mk (blk_below (g := gb209) (o := .cells #[.int .i64 a0_0, .int .i64 a0_1, .int .i64 a0_2, .int .i64 a0_3, .int .i64 a0_4, .slice A0_5 l0_5.length c0_5, .slice A0_6 l0_6.length c0_6] 49 (0, 0)) (by (with_reducible repeat (first | refine blk_drewN ?_ _ | refine blk_drew ?_ | refine blk_alloc ?_ _)); exact BK209.out) hb); have n1_ := Aside0.mk (blk_below (g := gb210) (o := .cells #[.int .i64 a1_0, .int .i64 a1_1, .int .i64 a1_2, .int .i64 a1_3, .int .i64 a1_4, .slice A1_5 l1_5.length c1_5, .slice A1_6 l1_6.length c1_6] 49 (0, 0)) (by (with_reducible repeat (first | refine blk_drewN ?_ _ | refine blk_drew ?_ | refine blk_alloc ?_ _)); exact BK210.out) hb); have n2_ := Aside0.mk (below_step (by repeat (first | (with_reducible first | exact HB.out | apply below_alloc | apply pw_below_drewN | apply below_drew1 | refine below_set ?_ GE209.out | refine below_set ?_ GE210.out) | exact HB.out)) hb); clear BK209; clear BK210; clear HB; have BK209 := n0_; have BK210 := n1_; have HB := n2_; clear n0_ n1_ n2_; (try clear hb); (try clear hb2); (try clear hk); (try clear hi)))
          go_meet
          case rel => exact ⟨_, (true), (by first | rfl | (simp; done) | (simp [*]; done)), H', ⟨by first | omega | exact Nat.le_refl _⟩, ⟨by (with_reducible repeat (first | refine blk_drewN ?_ _ | refine blk_drew ?_ | refine blk_alloc ?_ _)); exact BK209.out⟩, ⟨by (with_reducible repeat (first | refine blk_drewN ?_ _ | refine blk_drew ?_ | refine blk_alloc ?_ _)); exact BK210.out⟩, ⟨by repeat (first | (with_reducible first | exact HB.out | apply below_alloc | apply pw_below_drewN | apply below_drew1 | refine below_set ?_ GE209.out | refine below_set ?_ GE210.out) | exact HB.out)⟩⟩
  case rest =>
    clear HC3
    try clear c1
    try clear c2
    try clear p2
    try clear c3
    try clear c5
    try clear c7
    try clear c8
    try clear c12
    try clear c13
    try clear c19
    try clear c19b0
    try clear c19b1
    try clear c21
    try clear c30
    try clear hcz14_0
    try clear hcz14_1
    try clear hcz14_2
    try clear hcz14_3
    try clear hcz14_4
    try clear hcz14_5
    try clear hcz14_6
    try clear hcz16_0
    try clear hcz16_1
    try clear hcz16_2
    try clear hcz16_3
    try clear hcz16_4
    try clear hcz16_5
    try clear hcz16_6
    try clear hcz22_0
    try clear hcz22_1
    try clear hcz22_2
    try clear hcz22_3
    try clear hcz22_4
    try clear hcz22_5
    try clear hcz22_6
    try clear hcz24_0
    try clear hcz24_1
    try clear hcz24_2
    try clear hcz24_3
    try clear hcz24_4
    try clear hcz24_5
    try clear hcz24_6
    try clear hcz26_0
    try clear hcz26_1
    try clear hcz26_2
    try clear hcz26_3
    try clear hcz26_4
    try clear hcz26_5
    try clear hcz26_6
    try clear hcz28_0
    try clear hcz28_1
    try clear hcz28_2
    try clear hcz28_3
    try clear hcz28_4
    try clear hcz28_5
    try clear hcz28_6
    try clear hcz31_0
    try clear hcz31_1
    try clear hcz31_2
    try clear hcz31_3
    try clear hcz31_4
    try clear hcz31_5
    try clear hcz31_6
    try clear hcz33_0
    try clear hcz33_1
    try clear hcz33_2
    try clear hcz33_3
    try clear hcz33_4
    try clear hcz33_5
    try clear hcz33_6
    try clear hcz35_0
    try clear hcz35_1
    try clear hcz35_2
    try clear hcz35_3
    try clear hcz35_4
    try clear hcz35_5
    try clear hcz35_6
    try clear hcz9_0
    try clear hcz9_1
    try clear hcz9_2
    try clear hcz9_3
    try clear hcz9_4
    try clear hcz9_5
    try clear hcz9_6
    try clear hfz14_0
    try clear hfz14_1
    try clear hfz14_2
    try clear hfz14_3
    try clear hfz14_4
    try clear hfz14_5
    try clear hfz14_6
    try clear hfz16_0
    try clear hfz16_1
    try clear hfz16_2
    try clear hfz16_3
    try clear hfz16_4
    try clear hfz16_5
    try clear hfz16_6
    try clear hfz22_0
    try clear hfz22_1
    try clear hfz22_2
    try clear hfz22_3
    try clear hfz22_4
    try clear hfz22_5
    try clear hfz22_6
    try clear hfz24_0
    try clear hfz24_1
    try clear hfz24_2
    try clear hfz24_3
    try clear hfz24_4
    try clear hfz24_5
    try clear hfz24_6
    try clear hfz26_0
    try clear hfz26_1
    try clear hfz26_2
    try clear hfz26_3
    try clear hfz26_4
    try clear hfz26_5
    try clear hfz26_6
    try clear hfz28_0
    try clear hfz28_1
    try clear hfz28_2
    try clear hfz28_3
    try clear hfz28_4
    try clear hfz28_5
    try clear hfz28_6
    try clear hfz31_0
    try clear hfz31_1
    try clear hfz31_2
    try clear hfz31_3
    try clear hfz31_4
    try clear hfz31_5
    try clear hfz31_6
    try clear hfz33_0
    try clear hfz33_1
    try clear hfz33_2
    try clear hfz33_3
    try clear hfz33_4
    try clear hfz33_5
    try clear hfz33_6
    try clear hfz35_0
    try clear hfz35_1
    try clear hfz35_2
    try clear hfz35_3
    try clear hfz35_4
    try clear hfz35_5
    try clear hfz35_6
    try clear hfz9_0
    try clear hfz9_1
    try clear hfz9_2
    try clear hfz9_3
    try clear hfz9_4
    try clear hfz9_5
    try clear hfz9_6
    obtain ⟨kq, x24_2, rfl, HA, HJ2, BK209, BK210, HB⟩ := hcut
    cases kq with
    | zero => exact absurd HA.out (by simp [siskinlaw14_ConfBack.j0])
    | succ kj2 =>
      have H := HA.out
      clear HA
      simp only [siskinlaw14_ConfBack.j0] at H
      by_cases c37 : x24_2 = true
      · subst c37
        have H1 : ((siskinlaw14_works.f kj2).bind fun t215 => (some t215)) = some r := by rw [if_pos rfl] at H; exact H
        clear H
        have H := H1
        clear H1
        replace H := Option.bind_eq_some_iff.mp H
        obtain ⟨t215, A380, H⟩ := H
        replace H : (some t215) = some r := H
        have A38 := Aside0.mk A380
        clear A380
        obtain rfl := Option.some.inj H
        go_wp2_with (first | ((with_reducible refine gate_callee (f := 14) rfl ?_); refine goesL_ (some 25) rfl rfl Tryd.func14 (by kernel_rfl) rfl #[] rfl (by (try simp only [List.map_toArray, List.map_cons, List.map_nil]); first | done | rfl | (simp only [List.length_drop, List.length_take]; rfl)) ?_; (with_reducible refine (siskinlaw14_works.calls kj2  t215 _ ?side1 A38.out).mono ?_); (case side1 => exact Laid.below HLD.out (by repeat (first | (with_reducible first | exact HB.out | apply below_alloc | apply pw_below_drewN | apply below_drew1 | refine below_set ?_ GE209.out | refine below_set ?_ GE210.out) | exact HB.out))); rintro e w39 ⟨rfl, hb⟩; refine ⟨_, rfl, ?_⟩; have n0_ := Aside0.mk (blk_below (g := gb209) (o := .cells #[.int .i64 a0_0, .int .i64 a0_1, .int .i64 a0_2, .int .i64 a0_3, .int .i64 a0_4, .slice A0_5 l0_5.length c0_5, .slice A0_6 l0_6.length c0_6] 49 (0, 0)) (by (with_reducible repeat (first | refine blk_drewN ?_ _ | refine blk_drew ?_ | refine blk_alloc ?_ _)); exact BK209.out) hb); have n1_ := Aside0.mk (blk_below (g := gb210) (o := .cells #[.int .i64 a1_0, .int .i64 a1_1, .int .i64 a1_2, .int .i64 a1_3, .int .i64 a1_4, .slice A1_5 l1_5.length c1_5, .slice A1_6 l1_6.length c1_6] 49 (0, 0)) (by (with_reducible repeat (first | refine blk_drewN ?_ _ | refine blk_drew ?_ | refine blk_alloc ?_ _)); exact BK210.out) hb); have n2_ := Aside0.mk (below_step (by repeat (first | (with_reducible first | exact HB.out | apply below_alloc | apply pw_below_drewN | apply below_drew1 | refine below_set ?_ GE209.out | refine below_set ?_ GE210.out) | exact HB.out)) hb); clear BK209; clear BK210; clear HB; have BK209 := n0_; have BK210 := n1_; have HB := n2_; clear n0_ n1_ n2_; (try clear hb); (try clear hb2); (try clear hk); (try clear hi)))
        go_ret
        exact ⟨by first | rfl | (simp [errW_none, errW_some] <;> rfl) | (simp [*, errW_none, errW_some] <;> rfl), by repeat (first | (with_reducible first | exact HB.out | apply below_alloc | apply pw_below_drewN | apply below_drew1 | refine below_set ?_ GE209.out | refine below_set ?_ GE210.out) | exact HB.out)⟩
      · replace c37 := Bool.eq_false_iff.mpr c37
        subst c37
        have H1 : ((conf_Text.f kj2 a0_0 a0_1 a0_2 a0_3 a0_4 l0_5 l0_6).bind fun t216 => ((conf_Read.f t216).bind fun bt217 => (if bt217.2.2.2.2.2.2.2.2 = 0 then (if bt217.2.2.2.2.2.2.2.1 = 0 then ((siskinref14_Same.f kj2 bt217.1 bt217.2.1 bt217.2.2.1 bt217.2.2.2.1 bt217.2.2.2.2.1 bt217.2.2.2.2.2.1 bt217.2.2.2.2.2.2.1 a0_0 a0_1 a0_2 a0_3 a0_4 l0_5 l0_6).bind fun t231 => (if t231 = true then ((conf_Text.f kj2 a1_0 a1_1 a1_2 a1_3 a1_4 l1_5 l1_6).bind fun t232 => ((siskinref14_Same.f kj2 a0_0 a0_1 a0_2 a0_3 a0_4 l0_5 l0_6 a1_0 a1_1 a1_2 a1_3 a1_4 l1_5 l1_6).bind fun t233 => (if ((t216.toList == t232.toList) == t233) = true then ((siskinlaw14_works.f kj2).bind fun t234 => (some t234)) else (some false)))) else (some false))) else (some false)) else (some false)))) = some r := by rw [if_neg (show ¬ (false = true) by decide)] at H; exact H
        clear H
        have H := H1
        clear H1
        replace H := Option.bind_eq_some_iff.mp H
        obtain ⟨t216, A400, H⟩ := H
        replace H : ((conf_Read.f t216).bind fun bt217 => (if bt217.2.2.2.2.2.2.2.2 = 0 then (if bt217.2.2.2.2.2.2.2.1 = 0 then ((siskinref14_Same.f kj2 bt217.1 bt217.2.1 bt217.2.2.1 bt217.2.2.2.1 bt217.2.2.2.2.1 bt217.2.2.2.2.2.1 bt217.2.2.2.2.2.2.1 a0_0 a0_1 a0_2 a0_3 a0_4 l0_5 l0_6).bind fun t231 => (if t231 = true then ((conf_Text.f kj2 a1_0 a1_1 a1_2 a1_3 a1_4 l1_5 l1_6).bind fun t232 => ((siskinref14_Same.f kj2 a0_0 a0_1 a0_2 a0_3 a0_4 l0_5 l0_6 a1_0 a1_1 a1_2 a1_3 a1_4 l1_5 l1_6).bind fun t233 => (if ((t216.toList == t232.toList) == t233) = true then ((siskinlaw14_works.f kj2).bind fun t234 => (some t234)) else (some false)))) else (some false))) else (some false)) else (some false))) = some r := H
        have A40 := Aside0.mk A400
        clear A400
        replace H := Option.bind_eq_some_iff.mp H
        obtain ⟨⟨t217, t218, t219, t220, t221, t222, t225, t228, t229⟩, A410, H⟩ := H
        replace H : (if t229 = 0 then (if t228 = 0 then ((siskinref14_Same.f kj2 t217 t218 t219 t220 t221 t222 t225 a0_0 a0_1 a0_2 a0_3 a0_4 l0_5 l0_6).bind fun t231 => (if t231 = true then ((conf_Text.f kj2 a1_0 a1_1 a1_2 a1_3 a1_4 l1_5 l1_6).bind fun t232 => ((siskinref14_Same.f kj2 a0_0 a0_1 a0_2 a0_3 a0_4 l0_5 l0_6 a1_0 a1_1 a1_2 a1_3 a1_4 l1_5 l1_6).bind fun t233 => (if ((t216.toList == t232.toList) == t233) = true then ((siskinlaw14_works.f kj2).bind fun t234 => (some t234)) else (some false)))) else (some false))) else (some false)) else (some false)) = some r := H
        have A41 := Aside0.mk A410
        clear A410
        by_cases c42 : t229 = 0
        · rw [if_pos c42] at H
          have c42b0 : (t229 == 0) = true := beq_iff_eq.mpr c42
          have c42b1 : (t229 != 0) = false := bne_eq_false_iff_eq.mpr c42
          clear c42
          by_cases c43 : t228 = 0
          · rw [if_pos c43] at H
            have c43b0 : (t228 == 0) = true := beq_iff_eq.mpr c43
            have c43b1 : (t228 != 0) = false := bne_eq_false_iff_eq.mpr c43
            clear c43
            replace H := Option.bind_eq_some_iff.mp H
            obtain ⟨t231, A440, H⟩ := H
            replace H : (if t231 = true then ((conf_Text.f kj2 a1_0 a1_1 a1_2 a1_3 a1_4 l1_5 l1_6).bind fun t232 => ((siskinref14_Same.f kj2 a0_0 a0_1 a0_2 a0_3 a0_4 l0_5 l0_6 a1_0 a1_1 a1_2 a1_3 a1_4 l1_5 l1_6).bind fun t233 => (if ((t216.toList == t232.toList) == t233) = true then ((siskinlaw14_works.f kj2).bind fun t234 => (some t234)) else (some false)))) else (some false)) = some r := H
            have A44 := Aside0.mk A440
            clear A440
            by_cases c45 : t231 = true
            · subst c45
              have H1 : ((conf_Text.f kj2 a1_0 a1_1 a1_2 a1_3 a1_4 l1_5 l1_6).bind fun t232 => ((siskinref14_Same.f kj2 a0_0 a0_1 a0_2 a0_3 a0_4 l0_5 l0_6 a1_0 a1_1 a1_2 a1_3 a1_4 l1_5 l1_6).bind fun t233 => (if ((t216.toList == t232.toList) == t233) = true then ((siskinlaw14_works.f kj2).bind fun t234 => (some t234)) else (some false)))) = some r := by rw [if_pos rfl] at H; exact H
              clear H
              have H := H1
              clear H1
              replace H := Option.bind_eq_some_iff.mp H
              obtain ⟨t232, A460, H⟩ := H
              replace H : ((siskinref14_Same.f kj2 a0_0 a0_1 a0_2 a0_3 a0_4 l0_5 l0_6 a1_0 a1_1 a1_2 a1_3 a1_4 l1_5 l1_6).bind fun t233 => (if ((t216.toList == t232.toList) == t233) = true then ((siskinlaw14_works.f kj2).bind fun t234 => (some t234)) else (some false))) = some r := H
              have A46 := Aside0.mk A460
              clear A460
              replace H := Option.bind_eq_some_iff.mp H
              obtain ⟨t233, A470, H⟩ := H
              replace H : (if ((t216.toList == t232.toList) == t233) = true then ((siskinlaw14_works.f kj2).bind fun t234 => (some t234)) else (some false)) = some r := H
              have A47 := Aside0.mk A470
              clear A470
              by_cases c48 : ((t216.toList == t232.toList) == t233) = true
              · rw [if_pos c48] at H
                have c48b0 : ((t216.toList == t232.toList) == t233) = true := c48
                (try (have c48b1 : decide ((t216.toList == t232.toList) = t233) = true := by simpa using c48))
                (try (have c48b2 : ((t216.toList == t232.toList) == t233) = true := by simpa using c48))
                clear c48
                replace H := Option.bind_eq_some_iff.mp H
                obtain ⟨t234, A490, H⟩ := H
                replace H : (some t234) = some r := H
                have A49 := Aside0.mk A490
                clear A490
                obtain rfl := Option.some.inj H
                have hnb50 := NB209_210.out
                have hnc50 := NB210_209.out
                have hcz51_0 : wc.cell? ⟨gb209, 0, none⟩ = some (.int .i64 a0_0) := (blk_cell BK209.out 0).trans rfl
                have hcz51_1 : wc.cell? ⟨gb209, 1, none⟩ = some (.int .i64 a0_1) := (blk_cell BK209.out 1).trans rfl
                have hcz51_2 : wc.cell? ⟨gb209, 2, none⟩ = some (.int .i64 a0_2) := (blk_cell BK209.out 2).trans rfl
                have hcz51_3 : wc.cell? ⟨gb209, 3, none⟩ = some (.int .i64 a0_3) := (blk_cell BK209.out 3).trans rfl
                have hcz51_4 : wc.cell? ⟨gb209, 4, none⟩ = some (.int .i64 a0_4) := (blk_cell BK209.out 4).trans rfl
                have hcz51_5 : wc.cell? ⟨gb209, 5, none⟩ = some (.slice A0_5 l0_5.length c0_5) := (blk_cell BK209.out 5).trans rfl
                have hcz51_6 : wc.cell? ⟨gb209, 6, none⟩ = some (.slice A0_6 l0_6.length c0_6) := (blk_cell BK209.out 6).trans rfl
                have hfz51_0 := blk_frozen BK209.out 0
                have hfz51_1 := blk_frozen BK209.out 1
                have hfz51_2 := blk_frozen BK209.out 2
                have hfz51_3 := blk_frozen BK209.out 3
                have hfz51_4 := blk_frozen BK209.out 4
                have hfz51_5 := blk_frozen BK209.out 5
                have hfz51_6 := blk_frozen BK209.out 6
                try go_wp2_with (first | ((with_reducible refine gate_callee (f := 21) rfl ?_); refine goesL_ (some 27) rfl rfl Tryd.func21 (by kernel_rfl) rfl #[.agg #[.int .i64 a0_0, .int .i64 a0_1, .int .i64 a0_2, .int .i64 a0_3, .int .i64 a0_4, .slice A0_5 l0_5.length c0_5, .slice A0_6 l0_6.length c0_6]] rfl (by (try simp only [List.map_toArray, List.map_cons, List.map_nil]); first | done | rfl | (simp only [List.length_drop, List.length_take]; rfl)) ?_; (with_reducible refine (conf_Text.calls kj2 a0_0 a0_1 a0_2 a0_3 a0_4 _ _ l0_5 _ _ l0_6 t216 _ ?side1 ?side2 ?side3 ?side4 ?side5 A40.out).mono ?_); (case side1 => repeat (first | exact (Kd.C_below HR0_5.out HB.out) | (with_reducible refine Kd.C_alloc ?_ _) | (with_reducible refine Kd.C_drewN ?_ _) | (with_reducible refine Kd.C_drew ?_))); (case side2 => exact HC0_5.out); (case side3 => repeat (first | exact (Kd.C_below HR0_6.out HB.out) | (with_reducible refine Kd.C_alloc ?_ _) | (with_reducible refine Kd.C_drewN ?_ _) | (with_reducible refine Kd.C_drew ?_))); (case side4 => exact HC0_6.out); (case side5 => exact Laid.below HLD.out (by repeat (first | (with_reducible first | exact HB.out | apply below_alloc | apply pw_below_drewN | apply below_drew1 | refine below_set ?_ GE209.out | refine below_set ?_ GE210.out) | exact HB.out))); rintro e w52 ⟨rfl, hb⟩; refine ⟨_, rfl, ?_⟩; have n0_ := Aside0.mk (blk_below (g := gb209) (o := .cells #[.int .i64 a0_0, .int .i64 a0_1, .int .i64 a0_2, .int .i64 a0_3, .int .i64 a0_4, .slice A0_5 l0_5.length c0_5, .slice A0_6 l0_6.length c0_6] 49 (0, 0)) (by (with_reducible repeat (first | refine blk_drewN ?_ _ | refine blk_drew ?_ | refine blk_alloc ?_ _)); exact BK209.out) hb); have n1_ := Aside0.mk (blk_below (g := gb210) (o := .cells #[.int .i64 a1_0, .int .i64 a1_1, .int .i64 a1_2, .int .i64 a1_3, .int .i64 a1_4, .slice A1_5 l1_5.length c1_5, .slice A1_6 l1_6.length c1_6] 49 (0, 0)) (by (with_reducible repeat (first | refine blk_drewN ?_ _ | refine blk_drew ?_ | refine blk_alloc ?_ _)); exact BK210.out) hb); have n2_ := Aside0.mk (below_step (by repeat (first | (with_reducible first | exact HB.out | apply below_alloc | apply pw_below_drewN | apply below_drew1 | refine below_set ?_ GE209.out | refine below_set ?_ GE210.out) | exact HB.out)) hb); clear BK209; clear BK210; clear HB; have BK209 := n0_; have BK210 := n1_; have HB := n2_; clear n0_ n1_ n2_; (try clear hb); (try clear hb2); (try clear hk); (try clear hi)) | ((with_reducible refine gate_callee (f := 22) rfl ?_); refine goesL_ (some 30) rfl rfl Tryd.func22 (by kernel_rfl) rfl #[.string t216] rfl (by (try simp only [List.map_toArray, List.map_cons, List.map_nil]); first | done | rfl | (simp only [List.length_drop, List.length_take]; rfl)) ?_; (with_reducible refine (conf_Read.calls t216 t217 t218 t219 t220 t221 t222 t225 t228 t229 _ ?side1 A41.out).mono ?_); (case side1 => exact Laid.below HLD.out (by repeat (first | (with_reducible first | exact HB.out | apply below_alloc | apply pw_below_drewN | apply below_drew1 | refine below_set ?_ GE209.out | refine below_set ?_ GE210.out) | exact HB.out))); rintro e w53 ⟨v223, v226, rfl, ho0, ho1, hb⟩; refine ⟨_, rfl, ?_⟩; have n0_ := Aside0.mk (Kd.R_lower ho0 (below_size (by repeat (first | (with_reducible first | exact HB.out | apply below_alloc | apply pw_below_drewN | apply below_drew1 | refine below_set ?_ GE209.out | refine below_set ?_ GE210.out) | exact HB.out)))); have n1_ := Aside0.mk (Kd.R_lower ho1 (below_size (by repeat (first | (with_reducible first | exact HB.out | apply below_alloc | apply pw_below_drewN | apply below_drew1 | refine below_set ?_ GE209.out | refine below_set ?_ GE210.out) | exact HB.out)))); have n2_ := Aside0.mk (blk_below (g := gb209) (o := .cells #[.int .i64 a0_0, .int .i64 a0_1, .int .i64 a0_2, .int .i64 a0_3, .int .i64 a0_4, .slice A0_5 l0_5.length c0_5, .slice A0_6 l0_6.length c0_6] 49 (0, 0)) (by (with_reducible repeat (first | refine blk_drewN ?_ _ | refine blk_drew ?_ | refine blk_alloc ?_ _)); exact BK209.out) hb); have n3_ := Aside0.mk (blk_below (g := gb210) (o := .cells #[.int .i64 a1_0, .int .i64 a1_1, .int .i64 a1_2, .int .i64 a1_3, .int .i64 a1_4, .slice A1_5 l1_5.length c1_5, .slice A1_6 l1_6.length c1_6] 49 (0, 0)) (by (with_reducible repeat (first | refine blk_drewN ?_ _ | refine blk_drew ?_ | refine blk_alloc ?_ _)); exact BK210.out) hb); have n4_ := Aside0.mk (below_step (by repeat (first | (with_reducible first | exact HB.out | apply below_alloc | apply pw_below_drewN | apply below_drew1 | refine below_set ?_ GE209.out | refine below_set ?_ GE210.out) | exact HB.out)) hb); clear BK209; clear BK210; clear HB; have HO224 := n0_; have HO227 := n1_; have BK209 := n2_; have BK210 := n3_; have HB := n4_; clear n0_ n1_ n2_ n3_ n4_; (try clear hb); (try clear hb2); (try clear hk); (try clear hi); (try clear ho0); (try clear ho1)) | ((with_reducible refine gate_dst (N := 6) rfl ?_); refine box_event ?hg (N := 6) ?hd (cs := #[.int .i64 0, .int .i64 0, .int .i64 0, .int .i64 0, .int .i64 0, .slice none 0 0, .slice none 0 0]) (t := 49) ?hr ?_; (case hd => rfl); (case hg => rfl); (case hr => first | (go_simp; done) | (go_simp; rfl)); intro gb230 hg w54 hbox hb; have n0_ := Aside0.mk (Kd.R_below (by (with_reducible repeat (first | apply Kd.R_alloc | apply Kd.R_drewN | apply Kd.R_drew)); exact HO224.out) hb); have n1_ := Aside0.mk (Kd.R_below (by (with_reducible repeat (first | apply Kd.R_alloc | apply Kd.R_drewN | apply Kd.R_drew)); exact HO227.out) hb); have n2_ := Aside0.mk (blk_below (g := gb209) (o := .cells #[.int .i64 a0_0, .int .i64 a0_1, .int .i64 a0_2, .int .i64 a0_3, .int .i64 a0_4, .slice A0_5 l0_5.length c0_5, .slice A0_6 l0_6.length c0_6] 49 (0, 0)) (by (with_reducible repeat (first | refine blk_drewN ?_ _ | refine blk_drew ?_ | refine blk_alloc ?_ _)); exact BK209.out) hb); have n3_ := Aside0.mk (blk_below (g := gb210) (o := .cells #[.int .i64 a1_0, .int .i64 a1_1, .int .i64 a1_2, .int .i64 a1_3, .int .i64 a1_4, .slice A1_5 l1_5.length c1_5, .slice A1_6 l1_6.length c1_6] 49 (0, 0)) (by (with_reducible repeat (first | refine blk_drewN ?_ _ | refine blk_drew ?_ | refine blk_alloc ?_ _)); exact BK210.out) hb); have n4_ := Aside0.mk (below_step (by repeat (first | (with_reducible first | exact HB.out | apply below_alloc | apply pw_below_drewN | apply below_drew1 | refine below_set ?_ GE209.out | refine below_set ?_ GE210.out) | exact HB.out)) hb); have n5_ := Aside0.mk (hbox); have n6_ := Aside0.mk ((by rw [hg]; exact (below_size (by repeat (first | (with_reducible first | exact HB.out | apply below_alloc | apply pw_below_drewN | apply below_drew1 | refine below_set ?_ GE209.out | refine below_set ?_ GE210.out) | exact HB.out))) : w.heap.size ≤ gb230)); have n7_ := Aside0.mk ((by rw [hg]; exact (below_size (by repeat (first | (with_reducible first | exact HB.out | apply below_alloc | apply pw_below_drewN | apply below_drew1 | refine below_set ?_ GE209.out | refine below_set ?_ GE210.out) | exact HB.out))) : w.heap.size ≤ gb230)); have n8_ := Aside0.mk ((by rw [hg]; exact Nat.ne_of_lt (blk_lt (g := gb209) (o := .cells #[.int .i64 a0_0, .int .i64 a0_1, .int .i64 a0_2, .int .i64 a0_3, .int .i64 a0_4, .slice A0_5 l0_5.length c0_5, .slice A0_6 l0_6.length c0_6] 49 (0, 0)) (by (with_reducible repeat (first | refine blk_drewN ?_ _ | refine blk_drew ?_ | refine blk_alloc ?_ _)); exact BK209.out)) : gb209 ≠ gb230)); have n9_ := Aside0.mk ((by rw [hg]; exact Nat.ne_of_gt (blk_lt (g := gb209) (o := .cells #[.int .i64 a0_0, .int .i64 a0_1, .int .i64 a0_2, .int .i64 a0_3, .int .i64 a0_4, .slice A0_5 l0_5.length c0_5, .slice A0_6 l0_6.length c0_6] 49 (0, 0)) (by (with_reducible repeat (first | refine blk_drewN ?_ _ | refine blk_drew ?_ | refine blk_alloc ?_ _)); exact BK209.out)) : gb230 ≠ gb209)); have n10_ := Aside0.mk ((by rw [hg]; exact Nat.ne_of_lt (blk_lt (g := gb210) (o := .cells #[.int .i64 a1_0, .int .i64 a1_1, .int .i64 a1_2, .int .i64 a1_3, .int .i64 a1_4, .slice A1_5 l1_5.length c1_5, .slice A1_6 l1_6.length c1_6] 49 (0, 0)) (by (with_reducible repeat (first | refine blk_drewN ?_ _ | refine blk_drew ?_ | refine blk_alloc ?_ _)); exact BK210.out)) : gb210 ≠ gb230)); have n11_ := Aside0.mk ((by rw [hg]; exact Nat.ne_of_gt (blk_lt (g := gb210) (o := .cells #[.int .i64 a1_0, .int .i64 a1_1, .int .i64 a1_2, .int .i64 a1_3, .int .i64 a1_4, .slice A1_5 l1_5.length c1_5, .slice A1_6 l1_6.length c1_6] 49 (0, 0)) (by (with_reducible repeat (first | refine blk_drewN ?_ _ | refine blk_drew ?_ | refine blk_alloc ?_ _)); exact BK210.out)) : gb230 ≠ gb210)); clear HO224; clear HO227; clear BK209; clear BK210; clear HB; have HO224 := n0_; have HO227 := n1_; have BK209 := n2_; have BK210 := n3_; have HB := n4_; have BK230 := n5_; have GW230 := n6_; have GE230 := n7_; have NB209_230 := n8_; have NB230_209 := n9_; have NB210_230 := n10_; have NB230_210 := n11_; clear n0_ n1_ n2_ n3_ n4_ n5_ n6_ n7_ n8_ n9_ n10_ n11_; clear hb hbox hg; have hnb55 := NB230_209.out; have hnc55 := NB209_230.out; have hnb56 := NB230_210.out; have hnc56 := NB210_230.out; have hcz57_0 : w54.cell? ⟨gb230, 0, none⟩ = some (.int .i64 0) := (blk_cell BK230.out 0).trans rfl; have hcz57_1 : w54.cell? ⟨gb230, 1, none⟩ = some (.int .i64 0) := (blk_cell BK230.out 1).trans rfl; have hcz57_2 : w54.cell? ⟨gb230, 2, none⟩ = some (.int .i64 0) := (blk_cell BK230.out 2).trans rfl; have hcz57_3 : w54.cell? ⟨gb230, 3, none⟩ = some (.int .i64 0) := (blk_cell BK230.out 3).trans rfl; have hcz57_4 : w54.cell? ⟨gb230, 4, none⟩ = some (.int .i64 0) := (blk_cell BK230.out 4).trans rfl; have hcz57_5 : w54.cell? ⟨gb230, 5, none⟩ = some (.slice none 0 0) := (blk_cell BK230.out 5).trans rfl; have hcz57_6 : w54.cell? ⟨gb230, 6, none⟩ = some (.slice none 0 0) := (blk_cell BK230.out 6).trans rfl; have hfz57_0 := blk_frozen BK230.out 0; have hfz57_1 := blk_frozen BK230.out 1; have hfz57_2 := blk_frozen BK230.out 2; have hfz57_3 := blk_frozen BK230.out 3; have hfz57_4 := blk_frozen BK230.out 4; have hfz57_5 := blk_frozen BK230.out 5; have hfz57_6 := blk_frozen BK230.out 6; obtain ⟨Ao58, co58, eo58⟩ := Kd.R_slice HO224.out; subst eo58; obtain ⟨Ao59, co59, eo59⟩ := Kd.R_slice HO227.out; subst eo59))
                have n0_ : Aside0 (Kd.R Kd.string 9 (((((((w54.setCell ⟨gb230, 0, none⟩ (.int .i64 t217)).setCell ⟨gb230, 1, none⟩ (.int .i64 t218)).setCell ⟨gb230, 2, none⟩ (.int .i64 t219)).setCell ⟨gb230, 3, none⟩ (.int .i64 t220)).setCell ⟨gb230, 4, none⟩ (.int .i64 t221)).setCell ⟨gb230, 5, none⟩ (.slice Ao58 t222.length co58)).setCell ⟨gb230, 6, none⟩ (.slice Ao59 t225.length co59)) w.heap.size (fun _ => True) (.slice Ao58 t222.length co58) t222) := ⟨by (with_reducible repeat (first | apply Kd.R_alloc | apply Kd.R_drewN | apply Kd.R_drew)); exact Kd.R_mono (Kd.R_far (p := ⟨gb230, 6, none⟩) (Kd.R_far (p := ⟨gb230, 5, none⟩) (Kd.R_far (p := ⟨gb230, 4, none⟩) (Kd.R_far (p := ⟨gb230, 3, none⟩) (Kd.R_far (p := ⟨gb230, 2, none⟩) (Kd.R_far (p := ⟨gb230, 1, none⟩) (Kd.R_far (p := ⟨gb230, 0, none⟩) (Kd.R_types HO224.out BK230.out (by decide)) (fun _ hk => hk.2) (.int .i64 t217)) (fun _ hk => hk.2) (.int .i64 t218)) (fun _ hk => hk.2) (.int .i64 t219)) (fun _ hk => hk.2) (.int .i64 t220)) (fun _ hk => hk.2) (.int .i64 t221)) (fun _ hk => hk.2) (.slice Ao58 t222.length co58)) (fun _ hk => hk.2) (.slice Ao59 t225.length co59)) (fun _ hk => trivial)⟩
                have n1_ : Aside0 (Kd.R k79 79 (((((((w54.setCell ⟨gb230, 0, none⟩ (.int .i64 t217)).setCell ⟨gb230, 1, none⟩ (.int .i64 t218)).setCell ⟨gb230, 2, none⟩ (.int .i64 t219)).setCell ⟨gb230, 3, none⟩ (.int .i64 t220)).setCell ⟨gb230, 4, none⟩ (.int .i64 t221)).setCell ⟨gb230, 5, none⟩ (.slice Ao58 t222.length co58)).setCell ⟨gb230, 6, none⟩ (.slice Ao59 t225.length co59)) w.heap.size (fun _ => True) (.slice Ao59 t225.length co59) t225) := ⟨by (with_reducible repeat (first | apply Kd.R_alloc | apply Kd.R_drewN | apply Kd.R_drew)); exact Kd.R_mono (Kd.R_far (p := ⟨gb230, 6, none⟩) (Kd.R_far (p := ⟨gb230, 5, none⟩) (Kd.R_far (p := ⟨gb230, 4, none⟩) (Kd.R_far (p := ⟨gb230, 3, none⟩) (Kd.R_far (p := ⟨gb230, 2, none⟩) (Kd.R_far (p := ⟨gb230, 1, none⟩) (Kd.R_far (p := ⟨gb230, 0, none⟩) (Kd.R_types HO227.out BK230.out (by decide)) (fun _ hk => hk.2) (.int .i64 t217)) (fun _ hk => hk.2) (.int .i64 t218)) (fun _ hk => hk.2) (.int .i64 t219)) (fun _ hk => hk.2) (.int .i64 t220)) (fun _ hk => hk.2) (.int .i64 t221)) (fun _ hk => hk.2) (.slice Ao58 t222.length co58)) (fun _ hk => hk.2) (.slice Ao59 t225.length co59)) (fun _ hk => trivial)⟩
                have n2_ : Aside0 ((((((((w54.setCell ⟨gb230, 0, none⟩ (.int .i64 t217)).setCell ⟨gb230, 1, none⟩ (.int .i64 t218)).setCell ⟨gb230, 2, none⟩ (.int .i64 t219)).setCell ⟨gb230, 3, none⟩ (.int .i64 t220)).setCell ⟨gb230, 4, none⟩ (.int .i64 t221)).setCell ⟨gb230, 5, none⟩ (.slice Ao58 t222.length co58)).setCell ⟨gb230, 6, none⟩ (.slice Ao59 t225.length co59)).heap[gb209]? = some (.cells #[.int .i64 a0_0, .int .i64 a0_1, .int .i64 a0_2, .int .i64 a0_3, .int .i64 a0_4, .slice A0_5 l0_5.length c0_5, .slice A0_6 l0_6.length c0_6] 49 (0, 0))) := ⟨by (with_reducible repeat (first | refine blk_drewN ?_ _ | refine blk_drew ?_ | refine blk_alloc ?_ _)); refine blk_far ?_ NB209_230.out _; (with_reducible repeat (first | refine blk_drewN ?_ _ | refine blk_drew ?_ | refine blk_alloc ?_ _)); refine blk_far ?_ NB209_230.out _; (with_reducible repeat (first | refine blk_drewN ?_ _ | refine blk_drew ?_ | refine blk_alloc ?_ _)); refine blk_far ?_ NB209_230.out _; (with_reducible repeat (first | refine blk_drewN ?_ _ | refine blk_drew ?_ | refine blk_alloc ?_ _)); refine blk_far ?_ NB209_230.out _; (with_reducible repeat (first | refine blk_drewN ?_ _ | refine blk_drew ?_ | refine blk_alloc ?_ _)); refine blk_far ?_ NB209_230.out _; (with_reducible repeat (first | refine blk_drewN ?_ _ | refine blk_drew ?_ | refine blk_alloc ?_ _)); refine blk_far ?_ NB209_230.out _; (with_reducible repeat (first | refine blk_drewN ?_ _ | refine blk_drew ?_ | refine blk_alloc ?_ _)); refine blk_far ?_ NB209_230.out _; (with_reducible repeat (first | refine blk_drewN ?_ _ | refine blk_drew ?_ | refine blk_alloc ?_ _)); exact BK209.out⟩
                have n3_ : Aside0 ((((((((w54.setCell ⟨gb230, 0, none⟩ (.int .i64 t217)).setCell ⟨gb230, 1, none⟩ (.int .i64 t218)).setCell ⟨gb230, 2, none⟩ (.int .i64 t219)).setCell ⟨gb230, 3, none⟩ (.int .i64 t220)).setCell ⟨gb230, 4, none⟩ (.int .i64 t221)).setCell ⟨gb230, 5, none⟩ (.slice Ao58 t222.length co58)).setCell ⟨gb230, 6, none⟩ (.slice Ao59 t225.length co59)).heap[gb210]? = some (.cells #[.int .i64 a1_0, .int .i64 a1_1, .int .i64 a1_2, .int .i64 a1_3, .int .i64 a1_4, .slice A1_5 l1_5.length c1_5, .slice A1_6 l1_6.length c1_6] 49 (0, 0))) := ⟨by (with_reducible repeat (first | refine blk_drewN ?_ _ | refine blk_drew ?_ | refine blk_alloc ?_ _)); refine blk_far ?_ NB210_230.out _; (with_reducible repeat (first | refine blk_drewN ?_ _ | refine blk_drew ?_ | refine blk_alloc ?_ _)); refine blk_far ?_ NB210_230.out _; (with_reducible repeat (first | refine blk_drewN ?_ _ | refine blk_drew ?_ | refine blk_alloc ?_ _)); refine blk_far ?_ NB210_230.out _; (with_reducible repeat (first | refine blk_drewN ?_ _ | refine blk_drew ?_ | refine blk_alloc ?_ _)); refine blk_far ?_ NB210_230.out _; (with_reducible repeat (first | refine blk_drewN ?_ _ | refine blk_drew ?_ | refine blk_alloc ?_ _)); refine blk_far ?_ NB210_230.out _; (with_reducible repeat (first | refine blk_drewN ?_ _ | refine blk_drew ?_ | refine blk_alloc ?_ _)); refine blk_far ?_ NB210_230.out _; (with_reducible repeat (first | refine blk_drewN ?_ _ | refine blk_drew ?_ | refine blk_alloc ?_ _)); refine blk_far ?_ NB210_230.out _; (with_reducible repeat (first | refine blk_drewN ?_ _ | refine blk_drew ?_ | refine blk_alloc ?_ _)); exact BK210.out⟩
                have n4_ : Aside0 ((((((((w54.setCell ⟨gb230, 0, none⟩ (.int .i64 t217)).setCell ⟨gb230, 1, none⟩ (.int .i64 t218)).setCell ⟨gb230, 2, none⟩ (.int .i64 t219)).setCell ⟨gb230, 3, none⟩ (.int .i64 t220)).setCell ⟨gb230, 4, none⟩ (.int .i64 t221)).setCell ⟨gb230, 5, none⟩ (.slice Ao58 t222.length co58)).setCell ⟨gb230, 6, none⟩ (.slice Ao59 t225.length co59)).heap[gb230]? = some (.cells #[.int .i64 t217, .int .i64 t218, .int .i64 t219, .int .i64 t220, .int .i64 t221, .slice Ao58 t222.length co58, .slice Ao59 t225.length co59] 49 (0, 0))) := ⟨by (with_reducible repeat (first | refine blk_drewN ?_ _ | refine blk_drew ?_ | refine blk_alloc ?_ _)); refine blk_put (cs := #[.int .i64 t217, .int .i64 t218, .int .i64 t219, .int .i64 t220, .int .i64 t221, .slice Ao58 t222.length co58, .slice none 0 0]) ?_ 6 _ rfl; (with_reducible repeat (first | refine blk_drewN ?_ _ | refine blk_drew ?_ | refine blk_alloc ?_ _)); refine blk_put (cs := #[.int .i64 t217, .int .i64 t218, .int .i64 t219, .int .i64 t220, .int .i64 t221, .slice none 0 0, .slice none 0 0]) ?_ 5 _ rfl; (with_reducible repeat (first | refine blk_drewN ?_ _ | refine blk_drew ?_ | refine blk_alloc ?_ _)); refine blk_put (cs := #[.int .i64 t217, .int .i64 t218, .int .i64 t219, .int .i64 t220, .int .i64 0, .slice none 0 0, .slice none 0 0]) ?_ 4 _ rfl; (with_reducible repeat (first | refine blk_drewN ?_ _ | refine blk_drew ?_ | refine blk_alloc ?_ _)); refine blk_put (cs := #[.int .i64 t217, .int .i64 t218, .int .i64 t219, .int .i64 0, .int .i64 0, .slice none 0 0, .slice none 0 0]) ?_ 3 _ rfl; (with_reducible repeat (first | refine blk_drewN ?_ _ | refine blk_drew ?_ | refine blk_alloc ?_ _)); refine blk_put (cs := #[.int .i64 t217, .int .i64 t218, .int .i64 0, .int .i64 0, .int .i64 0, .slice none 0 0, .slice none 0 0]) ?_ 2 _ rfl; (with_reducible repeat (first | refine blk_drewN ?_ _ | refine blk_drew ?_ | refine blk_alloc ?_ _)); refine blk_put (cs := #[.int .i64 t217, .int .i64 0, .int .i64 0, .int .i64 0, .int .i64 0, .slice none 0 0, .slice none 0 0]) ?_ 1 _ rfl; (with_reducible repeat (first | refine blk_drewN ?_ _ | refine blk_drew ?_ | refine blk_alloc ?_ _)); refine blk_put (cs := #[.int .i64 0, .int .i64 0, .int .i64 0, .int .i64 0, .int .i64 0, .slice none 0 0, .slice none 0 0]) ?_ 0 _ rfl; (with_reducible repeat (first | refine blk_drewN ?_ _ | refine blk_drew ?_ | refine blk_alloc ?_ _)); exact BK230.out⟩
                have n5_ : Aside0 (Below w.heap.size w (((((((w54.setCell ⟨gb230, 0, none⟩ (.int .i64 t217)).setCell ⟨gb230, 1, none⟩ (.int .i64 t218)).setCell ⟨gb230, 2, none⟩ (.int .i64 t219)).setCell ⟨gb230, 3, none⟩ (.int .i64 t220)).setCell ⟨gb230, 4, none⟩ (.int .i64 t221)).setCell ⟨gb230, 5, none⟩ (.slice Ao58 t222.length co58)).setCell ⟨gb230, 6, none⟩ (.slice Ao59 t225.length co59))) := ⟨by repeat (first | (with_reducible first | exact HB.out | apply below_alloc | apply pw_below_drewN | apply below_drew1 | refine below_set ?_ GE209.out | refine below_set ?_ GE210.out | refine below_set ?_ GE230.out) | exact HB.out)⟩
                (try clear HO224)
                (try clear HO227)
                (try clear BK209)
                (try clear BK210)
                (try clear BK230)
                (try clear HB)
                generalize (((((((w54.setCell ⟨gb230, 0, none⟩ (.int .i64 t217)).setCell ⟨gb230, 1, none⟩ (.int .i64 t218)).setCell ⟨gb230, 2, none⟩ (.int .i64 t219)).setCell ⟨gb230, 3, none⟩ (.int .i64 t220)).setCell ⟨gb230, 4, none⟩ (.int .i64 t221)).setCell ⟨gb230, 5, none⟩ (.slice Ao58 t222.length co58)).setCell ⟨gb230, 6, none⟩ (.slice Ao59 t225.length co59)) = w60 at n0_ n1_ n2_ n3_ n4_ n5_ ⊢
                have HO224 := n0_
                have HO227 := n1_
                have BK209 := n2_
                have BK210 := n3_
                have BK230 := n4_
                have HB := n5_
                clear n0_ n1_ n2_ n3_ n4_ n5_
                have n0_ := Aside0.mk (Kd.R_drew HO224.out)
                have n1_ := Aside0.mk (Kd.R_drew HO227.out)
                have n2_ := Aside0.mk (blk_drew BK209.out)
                have n3_ := Aside0.mk (blk_drew BK210.out)
                have n4_ := Aside0.mk (blk_drew BK230.out)
                have n5_ := Aside0.mk (below_drew1 HB.out)
                clear HO224
                clear HO227
                clear BK209
                clear BK210
                clear BK230
                clear HB
                have HO224 := n0_
                have HO227 := n1_
                have BK209 := n2_
                have BK210 := n3_
                have BK230 := n4_
                have HB := n5_
                clear n0_ n1_ n2_ n3_ n4_ n5_
                refine start_ (n := 25) (S := fun w' => w'.cell? ⟨gb230, 0, none⟩ = some (.int .i64 t217) ∧ w'.cell? ⟨gb230, 1, none⟩ = some (.int .i64 t218) ∧ w'.cell? ⟨gb230, 2, none⟩ = some (.int .i64 t219) ∧ w'.cell? ⟨gb230, 3, none⟩ = some (.int .i64 t220) ∧ w'.cell? ⟨gb230, 4, none⟩ = some (.int .i64 t221) ∧ w'.cell? ⟨gb230, 5, none⟩ = some (.slice Ao58 t222.length co58) ∧ w'.cell? ⟨gb230, 6, none⟩ = some (.slice Ao59 t225.length co59) ∧ w'.cell? ⟨gb209, 0, none⟩ = some (.int .i64 a0_0) ∧ w'.cell? ⟨gb209, 1, none⟩ = some (.int .i64 a0_1) ∧ w'.cell? ⟨gb209, 2, none⟩ = some (.int .i64 a0_2) ∧ w'.cell? ⟨gb209, 3, none⟩ = some (.int .i64 a0_3) ∧ w'.cell? ⟨gb209, 4, none⟩ = some (.int .i64 a0_4) ∧ w'.cell? ⟨gb209, 5, none⟩ = some (.slice A0_5 l0_5.length c0_5) ∧ w'.cell? ⟨gb209, 6, none⟩ = some (.slice A0_6 l0_6.length c0_6) ∧ w'.cell? ⟨gb210, 0, none⟩ = some (.int .i64 a1_0) ∧ w'.cell? ⟨gb210, 1, none⟩ = some (.int .i64 a1_1) ∧ w'.cell? ⟨gb210, 2, none⟩ = some (.int .i64 a1_2) ∧ w'.cell? ⟨gb210, 3, none⟩ = some (.int .i64 a1_3) ∧ w'.cell? ⟨gb210, 4, none⟩ = some (.int .i64 a1_4) ∧ w'.cell? ⟨gb210, 5, none⟩ = some (.slice A1_5 l1_5.length c1_5) ∧ w'.cell? ⟨gb210, 6, none⟩ = some (.slice A1_6 l1_6.length c1_6)) (ds := []) #[false, false, false, false, false, false, false, false, false, false, false, false, false, false, false, false, false, false, false, false, false, false, false, false, false] (by kernel_rfl) rfl rfl ⟨(blk_cell BK230.out 0).trans rfl, (blk_cell BK230.out 1).trans rfl, (blk_cell BK230.out 2).trans rfl, (blk_cell BK230.out 3).trans rfl, (blk_cell BK230.out 4).trans rfl, (blk_cell BK230.out 5).trans rfl, (blk_cell BK230.out 6).trans rfl, (blk_cell BK209.out 0).trans rfl, (blk_cell BK209.out 1).trans rfl, (blk_cell BK209.out 2).trans rfl, (blk_cell BK209.out 3).trans rfl, (blk_cell BK209.out 4).trans rfl, (blk_cell BK209.out 5).trans rfl, (blk_cell BK209.out 6).trans rfl, (blk_cell BK210.out 0).trans rfl, (blk_cell BK210.out 1).trans rfl, (blk_cell BK210.out 2).trans rfl, (blk_cell BK210.out 3).trans rfl, (blk_cell BK210.out 4).trans rfl, (blk_cell BK210.out 5).trans rfl, (blk_cell BK210.out 6).trans rfl⟩ (fun hHeld => ?_); refine with_tabW siskinlaw14_ConfBack.tab5 siskinlaw14_ConfBack.bits5 (fun HT_ HW_ => ?_)
                generalize w60.drew = w61 at HO224 HO227 BK209 BK210 BK230 HB hHeld ⊢
                refine pure_ (i := 0) (N := some 34) (v := ?_) (a' := ?_) #[true, false, false, false, false, false, false, false, false, false, false, false, false, false, false, false, false, false, false, false, false, false, false, false, false] rfl rfl (any_of HT_.out (by kernel_rfl)) (fun _ _ _ h => h) (Or.inl ⟨by rfl, ?_⟩) ?_ ?_
                rotate_left
                · intro w'
                  go_simp
                  with_reducible rfl
                rotate_left
                · simp only [Act.put, List.setIfInBounds_toArray, List.set_cons_zero, List.set_cons_succ, i64_w, i32_w]
                  rfl
                refine pure_ (i := 1) (N := some 35) (v := ?_) (a' := ?_) #[true, true, false, false, false, false, false, false, false, false, false, false, false, false, false, false, false, false, false, false, false, false, false, false, false] rfl rfl (any_of HT_.out (by kernel_rfl)) (fun _ _ _ h => h) (Or.inl ⟨by rfl, ?_⟩) ?_ ?_
                rotate_left
                · intro w'
                  go_simp
                  with_reducible rfl
                rotate_left
                · simp only [Act.put, List.setIfInBounds_toArray, List.set_cons_zero, List.set_cons_succ, i64_w, i32_w]
                  rfl
                refine pure_ (i := 2) (N := some 36) (v := ?_) (a' := ?_) #[true, true, true, false, false, false, false, false, false, false, false, false, false, false, false, false, false, false, false, false, false, false, false, false, false] rfl rfl (any_of HT_.out (by kernel_rfl)) (fun _ _ _ h => h) (Or.inl ⟨by rfl, ?_⟩) ?_ ?_
                rotate_left
                · intro w'
                  go_simp
                  with_reducible rfl
                rotate_left
                · simp only [Act.put, List.setIfInBounds_toArray, List.set_cons_zero, List.set_cons_succ, i64_w, i32_w]
                  rfl
                refine pure_ (i := 3) (N := some 37) (v := ?_) (a' := ?_) #[true, true, true, true, false, false, false, false, false, false, false, false, false, false, false, false, false, false, false, false, false, false, false, false, false] rfl rfl (any_of HT_.out (by kernel_rfl)) (fun _ _ _ h => h) (Or.inl ⟨by rfl, ?_⟩) ?_ ?_
                rotate_left
                · intro w'
                  go_simp
                  with_reducible rfl
                rotate_left
                · simp only [Act.put, List.setIfInBounds_toArray, List.set_cons_zero, List.set_cons_succ, i64_w, i32_w]
                  rfl
                refine pure_ (i := 4) (N := some 38) (v := ?_) (a' := ?_) #[true, true, true, true, true, false, false, false, false, false, false, false, false, false, false, false, false, false, false, false, false, false, false, false, false] rfl rfl (any_of HT_.out (by kernel_rfl)) (fun _ _ _ h => h) (Or.inl ⟨by rfl, ?_⟩) ?_ ?_
                rotate_left
                · intro w'
                  go_simp
                  with_reducible rfl
                rotate_left
                · simp only [Act.put, List.setIfInBounds_toArray, List.set_cons_zero, List.set_cons_succ, i64_w, i32_w]
                  rfl
                refine pure_ (i := 5) (N := some 39) (v := ?_) (a' := ?_) #[true, true, true, true, true, true, false, false, false, false, false, false, false, false, false, false, false, false, false, false, false, false, false, false, false] rfl rfl (any_of HT_.out (by kernel_rfl)) (fun _ _ _ h => h) (Or.inl ⟨by rfl, ?_⟩) ?_ ?_
                rotate_left
                · intro w'
                  go_simp
                  with_reducible rfl
                rotate_left
                · simp only [Act.put, List.setIfInBounds_toArray, List.set_cons_zero, List.set_cons_succ, i64_w, i32_w]
                  rfl
                refine pure_ (i := 6) (N := some 40) (v := ?_) (a' := ?_) #[true, true, true, true, true, true, true, false, false, false, false, false, false, false, false, false, false, false, false, false, false, false, false, false, false] rfl rfl (any_of HT_.out (by kernel_rfl)) (fun _ _ _ h => h) (Or.inl ⟨by rfl, ?_⟩) ?_ ?_
                rotate_left
                · intro w'
                  go_simp
                  with_reducible rfl
                rotate_left
                · simp only [Act.put, List.setIfInBounds_toArray, List.set_cons_zero, List.set_cons_succ, i64_w, i32_w]
                  rfl
                refine take_ (i := 7) (N := some 41) (v := ?_) (a' := ?_) #[true, true, true, true, true, true, true, true, false, false, false, false, false, false, false, false, false, false, false, false, false, false, false, false, false] rfl rfl (take_ofW HT_.out HW_.out (by kernel_rfl)) (fun _ _ _ h => h) (Or.inl ⟨by rfl, ?_⟩) hHeld ?_ ?_
                rotate_left
                · rintro w' ⟨s0, s1, s2, s3, s4, s5, s6, s7, s8, s9, s10, s11, s12, s13, s14, s15, s16, s17, s18, s19, s20⟩
                  go_simp
                  with_reducible rfl
                rotate_left
                · simp only [Act.put, List.setIfInBounds_toArray, List.set_cons_zero, List.set_cons_succ, i64_w, i32_w]
                  rfl
                refine take_ (i := 8) (N := some 42) (v := ?_) (a' := ?_) #[true, true, true, true, true, true, true, true, true, false, false, false, false, false, false, false, false, false, false, false, false, false, false, false, false] rfl rfl (take_ofW HT_.out HW_.out (by kernel_rfl)) (fun _ _ _ h => h) (Or.inl ⟨by rfl, ?_⟩) hHeld ?_ ?_
                rotate_left
                · rintro w' ⟨s0, s1, s2, s3, s4, s5, s6, s7, s8, s9, s10, s11, s12, s13, s14, s15, s16, s17, s18, s19, s20⟩
                  go_simp
                  with_reducible rfl
                rotate_left
                · simp only [Act.put, List.setIfInBounds_toArray, List.set_cons_zero, List.set_cons_succ, i64_w, i32_w]
                  rfl
                refine one_ (i := 9) (N := some 43) #[true, true, true, true, true, true, true, true, true, true, false, false, false, false, false, false, false, false, false, false, false, false, false, false, false] rfl rfl (one_of HT_.out (by kernel_rfl)) (by decide) (fun K hK => ?_)
                refine goes_ Tryd.func23 (by kernel_rfl) rfl #[.agg #[.int .i64 t217, .int .i64 t218, .int .i64 t219, .int .i64 t220, .int .i64 t221, .slice Ao58 t222.length co58, .slice Ao59 t225.length co59], .agg #[.int .i64 a0_0, .int .i64 a0_1, .int .i64 a0_2, .int .i64 a0_3, .int .i64 a0_4, .slice A0_5 l0_5.length c0_5, .slice A0_6 l0_6.length c0_6]] (by rfl) rfl rfl (by (try simp only [List.map_toArray, List.map_cons, List.map_nil]); first | done | rfl | (simp only [List.length_drop, List.length_take]; rfl)) ?_
                with_reducible refine (siskinref14_Same.calls kj2 t217 t218 t219 t220 t221 _ _ t222 _ _ t225 a0_0 a0_1 a0_2 a0_3 a0_4 _ _ l0_5 _ _ l0_6 true _ ?side1 ?side2 ?side3 ?side4 ?side5 ?side6 ?side7 ?side8 A44.out).mono ?_
                (case side1 => repeat (first | exact (Kd.R_reads' HO224.out).2.2 | (with_reducible refine Kd.C_alloc ?_ _) | (with_reducible refine Kd.C_drewN ?_ _) | (with_reducible refine Kd.C_drew ?_)))
                (case side2 => exact (Kd.R_reads' HO224.out).2.1)
                (case side3 => repeat (first | exact (Kd.R_reads' HO227.out).2.2 | (with_reducible refine Kd.C_alloc ?_ _) | (with_reducible refine Kd.C_drewN ?_ _) | (with_reducible refine Kd.C_drew ?_)))
                (case side4 => exact (Kd.R_reads' HO227.out).2.1)
                (case side5 => repeat (first | exact (Kd.C_below HR0_5.out HB.out) | (with_reducible refine Kd.C_alloc ?_ _) | (with_reducible refine Kd.C_drewN ?_ _) | (with_reducible refine Kd.C_drew ?_)))
                (case side6 => exact HC0_5.out)
                (case side7 => repeat (first | exact (Kd.C_below HR0_6.out HB.out) | (with_reducible refine Kd.C_alloc ?_ _) | (with_reducible refine Kd.C_drewN ?_ _) | (with_reducible refine Kd.C_drew ?_)))
                (case side8 => exact HC0_6.out)
                rintro e w62 ⟨rfl, hb⟩
                refine ⟨_, rfl, ?_⟩
                have n0_ := Aside0.mk (Kd.R_below (by (with_reducible repeat (first | apply Kd.R_alloc | apply Kd.R_drewN | apply Kd.R_drew)); exact HO224.out) hb)
                have n1_ := Aside0.mk (Kd.R_below (by (with_reducible repeat (first | apply Kd.R_alloc | apply Kd.R_drewN | apply Kd.R_drew)); exact HO227.out) hb)
                have n2_ := Aside0.mk (blk_below (g := gb209) (o := .cells #[.int .i64 a0_0, .int .i64 a0_1, .int .i64 a0_2, .int .i64 a0_3, .int .i64 a0_4, .slice A0_5 l0_5.length c0_5, .slice A0_6 l0_6.length c0_6] 49 (0, 0)) (by (with_reducible repeat (first | refine blk_drewN ?_ _ | refine blk_drew ?_ | refine blk_alloc ?_ _)); exact BK209.out) hb)
                have n3_ := Aside0.mk (blk_below (g := gb210) (o := .cells #[.int .i64 a1_0, .int .i64 a1_1, .int .i64 a1_2, .int .i64 a1_3, .int .i64 a1_4, .slice A1_5 l1_5.length c1_5, .slice A1_6 l1_6.length c1_6] 49 (0, 0)) (by (with_reducible repeat (first | refine blk_drewN ?_ _ | refine blk_drew ?_ | refine blk_alloc ?_ _)); exact BK210.out) hb)
                have n4_ := Aside0.mk (blk_below (g := gb230) (o := .cells #[.int .i64 t217, .int .i64 t218, .int .i64 t219, .int .i64 t220, .int .i64 t221, .slice Ao58 t222.length co58, .slice Ao59 t225.length co59] 49 (0, 0)) (by (with_reducible repeat (first | refine blk_drewN ?_ _ | refine blk_drew ?_ | refine blk_alloc ?_ _)); exact BK230.out) hb)
                have n5_ := Aside0.mk (below_step (by repeat (first | (with_reducible first | exact HB.out | apply below_alloc | apply pw_below_drewN | apply below_drew1 | refine below_set ?_ GE209.out | refine below_set ?_ GE210.out | refine below_set ?_ GE230.out) | exact HB.out)) hb)
                clear HO224
                clear HO227
                clear BK209
                clear BK210
                clear BK230
                clear HB
                have HO224 := n0_
                have HO227 := n1_
                have BK209 := n2_
                have BK210 := n3_
                have BK230 := n4_
                have HB := n5_
                clear n0_ n1_ n2_ n3_ n4_ n5_
                (try clear hb)
                (try clear hb2)
                (try clear hk)
                (try clear hi)
                refine hK.out _ _ ⟨(blk_cell BK230.out 0).trans rfl, (blk_cell BK230.out 1).trans rfl, (blk_cell BK230.out 2).trans rfl, (blk_cell BK230.out 3).trans rfl, (blk_cell BK230.out 4).trans rfl, (blk_cell BK230.out 5).trans rfl, (blk_cell BK230.out 6).trans rfl, (blk_cell BK209.out 0).trans rfl, (blk_cell BK209.out 1).trans rfl, (blk_cell BK209.out 2).trans rfl, (blk_cell BK209.out 3).trans rfl, (blk_cell BK209.out 4).trans rfl, (blk_cell BK209.out 5).trans rfl, (blk_cell BK209.out 6).trans rfl, (blk_cell BK210.out 0).trans rfl, (blk_cell BK210.out 1).trans rfl, (blk_cell BK210.out 2).trans rfl, (blk_cell BK210.out 3).trans rfl, (blk_cell BK210.out 4).trans rfl, (blk_cell BK210.out 5).trans rfl, (blk_cell BK210.out 6).trans rfl⟩ (fun hHeld => ?_)
                clear hK K
                refine norm_ (a' := ?_) ?_ ?_
                rotate_left
                · show Act.put _ (some 43) _ = _
                  simp only [Act.put, List.setIfInBounds_toArray, List.set_cons_zero, List.set_cons_succ, i64_w, i32_w]
                  rfl
                refine pure_ (i := 10) (N := some 44) (v := ?_) (a' := ?_) #[true, true, true, true, true, true, true, true, true, true, true, false, false, false, false, false, false, false, false, false, false, false, false, false, false] rfl rfl (any_of HT_.out (by kernel_rfl)) (fun _ _ _ h => h) (Or.inl ⟨by rfl, ?_⟩) ?_ ?_
                rotate_left
                · intro w'
                  go_simp
                  with_reducible rfl
                rotate_left
                · simp only [Act.put, List.setIfInBounds_toArray, List.set_cons_zero, List.set_cons_succ, i64_w, i32_w]
                  rfl
                refine pure_ (i := 11) (N := some 45) (v := ?_) (a' := ?_) #[true, true, true, true, true, true, true, true, true, true, true, true, false, false, false, false, false, false, false, false, false, false, false, false, false] rfl rfl (any_of HT_.out (by kernel_rfl)) (fun _ _ _ h => h) (Or.inl ⟨by rfl, ?_⟩) ?_ ?_
                rotate_left
                · intro w'
                  go_simp
                  with_reducible rfl
                rotate_left
                · simp only [Act.put, List.setIfInBounds_toArray, List.set_cons_zero, List.set_cons_succ, i64_w, i32_w]
                  rfl
                refine pure_ (i := 12) (N := some 46) (v := ?_) (a' := ?_) #[true, true, true, true, true, true, true, true, true, true, true, true, true, false, false, false, false, false, false, false, false, false, false, false, false] rfl rfl (any_of HT_.out (by kernel_rfl)) (fun _ _ _ h => h) (Or.inl ⟨by rfl, ?_⟩) ?_ ?_
                rotate_left
                · intro w'
                  go_simp
                  with_reducible rfl
                rotate_left
                · simp only [Act.put, List.setIfInBounds_toArray, List.set_cons_zero, List.set_cons_succ, i64_w, i32_w]
                  rfl
                refine take_ (i := 13) (N := some 47) (v := ?_) (a' := ?_) #[true, true, true, true, true, true, true, true, true, true, true, true, true, true, false, false, false, false, false, false, false, false, false, false, false] rfl rfl (take_ofW HT_.out HW_.out (by kernel_rfl)) (fun _ _ _ h => h) (Or.inl ⟨by rfl, ?_⟩) hHeld ?_ ?_
                rotate_left
                · rintro w' ⟨s0, s1, s2, s3, s4, s5, s6, s7, s8, s9, s10, s11, s12, s13, s14, s15, s16, s17, s18, s19, s20⟩
                  go_simp
                  with_reducible rfl
                rotate_left
                · simp only [Act.put, List.setIfInBounds_toArray, List.set_cons_zero, List.set_cons_succ, i64_w, i32_w]
                  rfl
                refine take_ (i := 16) (N := some 50) (v := ?_) (a' := ?_) #[true, true, true, true, true, true, true, true, true, true, true, true, true, true, false, false, true, false, false, false, false, false, false, false, false] rfl rfl (take_ofW HT_.out HW_.out (by kernel_rfl)) (fun _ _ _ h => h) (Or.inl ⟨by rfl, ?_⟩) hHeld ?_ ?_
                rotate_left
                · rintro w' ⟨s0, s1, s2, s3, s4, s5, s6, s7, s8, s9, s10, s11, s12, s13, s14, s15, s16, s17, s18, s19, s20⟩
                  go_simp
                  with_reducible rfl
                rotate_left
                · simp only [Act.put, List.setIfInBounds_toArray, List.set_cons_zero, List.set_cons_succ, i64_w, i32_w]
                  rfl
                refine take_ (i := 17) (N := some 51) (v := ?_) (a' := ?_) #[true, true, true, true, true, true, true, true, true, true, true, true, true, true, false, false, true, true, false, false, false, false, false, false, false] rfl rfl (take_ofW HT_.out HW_.out (by kernel_rfl)) (fun _ _ _ h => h) (Or.inl ⟨by rfl, ?_⟩) hHeld ?_ ?_
                rotate_left
                · rintro w' ⟨s0, s1, s2, s3, s4, s5, s6, s7, s8, s9, s10, s11, s12, s13, s14, s15, s16, s17, s18, s19, s20⟩
                  go_simp
                  with_reducible rfl
                rotate_left
                · simp only [Act.put, List.setIfInBounds_toArray, List.set_cons_zero, List.set_cons_succ, i64_w, i32_w]
                  rfl
                refine one_ (i := 14) (N := some 48) #[true, true, true, true, true, true, true, true, true, true, true, true, true, true, true, false, true, true, false, false, false, false, false, false, false] rfl rfl (one_of HT_.out (by kernel_rfl)) (by decide) (fun K hK => ?_)
                refine goes_ Tryd.func21 (by kernel_rfl) rfl #[.agg #[.int .i64 a1_0, .int .i64 a1_1, .int .i64 a1_2, .int .i64 a1_3, .int .i64 a1_4, .slice A1_5 l1_5.length c1_5, .slice A1_6 l1_6.length c1_6]] (by rfl) rfl rfl (by (try simp only [List.map_toArray, List.map_cons, List.map_nil]); first | done | rfl | (simp only [List.length_drop, List.length_take]; rfl)) ?_
                with_reducible refine (conf_Text.calls kj2 a1_0 a1_1 a1_2 a1_3 a1_4 _ _ l1_5 _ _ l1_6 t232 _ ?side1 ?side2 ?side3 ?side4 ?side5 A46.out).mono ?_
                (case side1 => repeat (first | exact (Kd.C_below HR1_5.out HB.out) | (with_reducible refine Kd.C_alloc ?_ _) | (with_reducible refine Kd.C_drewN ?_ _) | (with_reducible refine Kd.C_drew ?_)))
                (case side2 => exact HC1_5.out)
                (case side3 => repeat (first | exact (Kd.C_below HR1_6.out HB.out) | (with_reducible refine Kd.C_alloc ?_ _) | (with_reducible refine Kd.C_drewN ?_ _) | (with_reducible refine Kd.C_drew ?_)))
                (case side4 => exact HC1_6.out)
                (case side5 => exact Laid.below HLD.out (by repeat (first | (with_reducible first | exact HB.out | apply below_alloc | apply pw_below_drewN | apply below_drew1 | refine below_set ?_ GE209.out | refine below_set ?_ GE210.out | refine below_set ?_ GE230.out) | exact HB.out)))
                rintro e w63 ⟨rfl, hb⟩
                refine ⟨_, rfl, ?_⟩
                have n0_ := Aside0.mk (Kd.R_below (by (with_reducible repeat (first | apply Kd.R_alloc | apply Kd.R_drewN | apply Kd.R_drew)); exact HO224.out) hb)
                have n1_ := Aside0.mk (Kd.R_below (by (with_reducible repeat (first | apply Kd.R_alloc | apply Kd.R_drewN | apply Kd.R_drew)); exact HO227.out) hb)
                have n2_ := Aside0.mk (blk_below (g := gb209) (o := .cells #[.int .i64 a0_0, .int .i64 a0_1, .int .i64 a0_2, .int .i64 a0_3, .int .i64 a0_4, .slice A0_5 l0_5.length c0_5, .slice A0_6 l0_6.length c0_6] 49 (0, 0)) (by (with_reducible repeat (first | refine blk_drewN ?_ _ | refine blk_drew ?_ | refine blk_alloc ?_ _)); exact BK209.out) hb)
                have n3_ := Aside0.mk (blk_below (g := gb210) (o := .cells #[.int .i64 a1_0, .int .i64 a1_1, .int .i64 a1_2, .int .i64 a1_3, .int .i64 a1_4, .slice A1_5 l1_5.length c1_5, .slice A1_6 l1_6.length c1_6] 49 (0, 0)) (by (with_reducible repeat (first | refine blk_drewN ?_ _ | refine blk_drew ?_ | refine blk_alloc ?_ _)); exact BK210.out) hb)
                have n4_ := Aside0.mk (blk_below (g := gb230) (o := .cells #[.int .i64 t217, .int .i64 t218, .int .i64 t219, .int .i64 t220, .int .i64 t221, .slice Ao58 t222.length co58, .slice Ao59 t225.length co59] 49 (0, 0)) (by (with_reducible repeat (first | refine blk_drewN ?_ _ | refine blk_drew ?_ | refine blk_alloc ?_ _)); exact BK230.out) hb)
                have n5_ := Aside0.mk (below_step (by repeat (first | (with_reducible first | exact HB.out | apply below_alloc | apply pw_below_drewN | apply below_drew1 | refine below_set ?_ GE209.out | refine below_set ?_ GE210.out | refine below_set ?_ GE230.out) | exact HB.out)) hb)
                clear HO224
                clear HO227
                clear BK209
                clear BK210
                clear BK230
                clear HB
                have HO224 := n0_
                have HO227 := n1_
                have BK209 := n2_
                have BK210 := n3_
                have BK230 := n4_
                have HB := n5_
                clear n0_ n1_ n2_ n3_ n4_ n5_
                (try clear hb)
                (try clear hb2)
                (try clear hk)
                (try clear hi)
                refine hK.out _ _ ⟨(blk_cell BK230.out 0).trans rfl, (blk_cell BK230.out 1).trans rfl, (blk_cell BK230.out 2).trans rfl, (blk_cell BK230.out 3).trans rfl, (blk_cell BK230.out 4).trans rfl, (blk_cell BK230.out 5).trans rfl, (blk_cell BK230.out 6).trans rfl, (blk_cell BK209.out 0).trans rfl, (blk_cell BK209.out 1).trans rfl, (blk_cell BK209.out 2).trans rfl, (blk_cell BK209.out 3).trans rfl, (blk_cell BK209.out 4).trans rfl, (blk_cell BK209.out 5).trans rfl, (blk_cell BK209.out 6).trans rfl, (blk_cell BK210.out 0).trans rfl, (blk_cell BK210.out 1).trans rfl, (blk_cell BK210.out 2).trans rfl, (blk_cell BK210.out 3).trans rfl, (blk_cell BK210.out 4).trans rfl, (blk_cell BK210.out 5).trans rfl, (blk_cell BK210.out 6).trans rfl⟩ (fun hHeld => ?_)
                clear hK K
                refine norm_ (a' := ?_) ?_ ?_
                rotate_left
                · show Act.put _ (some 48) _ = _
                  simp only [Act.put, List.setIfInBounds_toArray, List.set_cons_zero, List.set_cons_succ, i64_w, i32_w]
                  rfl
                refine pure_ (i := 15) (N := some 49) (v := ?_) (a' := ?_) #[true, true, true, true, true, true, true, true, true, true, true, true, true, true, true, true, true, true, false, false, false, false, false, false, false] rfl rfl (any_of HT_.out (by kernel_rfl)) (fun _ _ _ h => h) (Or.inl ⟨by rfl, ?_⟩) ?_ ?_
                rotate_left
                · intro w'
                  go_simp
                  with_reducible rfl
                rotate_left
                · simp only [Act.put, List.setIfInBounds_toArray, List.set_cons_zero, List.set_cons_succ, i64_w, i32_w]
                  rfl
                refine one_ (i := 18) (N := some 52) #[true, true, true, true, true, true, true, true, true, true, true, true, true, true, true, true, true, true, true, false, false, false, false, false, false] rfl rfl (one_of HT_.out (by kernel_rfl)) (by decide) (fun K hK => ?_)
                refine goes_ Tryd.func23 (by kernel_rfl) rfl #[.agg #[.int .i64 a0_0, .int .i64 a0_1, .int .i64 a0_2, .int .i64 a0_3, .int .i64 a0_4, .slice A0_5 l0_5.length c0_5, .slice A0_6 l0_6.length c0_6], .agg #[.int .i64 a1_0, .int .i64 a1_1, .int .i64 a1_2, .int .i64 a1_3, .int .i64 a1_4, .slice A1_5 l1_5.length c1_5, .slice A1_6 l1_6.length c1_6]] (by rfl) rfl rfl (by (try simp only [List.map_toArray, List.map_cons, List.map_nil]); first | done | rfl | (simp only [List.length_drop, List.length_take]; rfl)) ?_
                with_reducible refine (siskinref14_Same.calls kj2 a0_0 a0_1 a0_2 a0_3 a0_4 _ _ l0_5 _ _ l0_6 a1_0 a1_1 a1_2 a1_3 a1_4 _ _ l1_5 _ _ l1_6 t233 _ ?side1 ?side2 ?side3 ?side4 ?side5 ?side6 ?side7 ?side8 A47.out).mono ?_
                (case side1 => repeat (first | exact (Kd.C_below HR0_5.out HB.out) | (with_reducible refine Kd.C_alloc ?_ _) | (with_reducible refine Kd.C_drewN ?_ _) | (with_reducible refine Kd.C_drew ?_)))
                (case side2 => exact HC0_5.out)
                (case side3 => repeat (first | exact (Kd.C_below HR0_6.out HB.out) | (with_reducible refine Kd.C_alloc ?_ _) | (with_reducible refine Kd.C_drewN ?_ _) | (with_reducible refine Kd.C_drew ?_)))
                (case side4 => exact HC0_6.out)
                (case side5 => repeat (first | exact (Kd.C_below HR1_5.out HB.out) | (with_reducible refine Kd.C_alloc ?_ _) | (with_reducible refine Kd.C_drewN ?_ _) | (with_reducible refine Kd.C_drew ?_)))
                (case side6 => exact HC1_5.out)
                (case side7 => repeat (first | exact (Kd.C_below HR1_6.out HB.out) | (with_reducible refine Kd.C_alloc ?_ _) | (with_reducible refine Kd.C_drewN ?_ _) | (with_reducible refine Kd.C_drew ?_)))
                (case side8 => exact HC1_6.out)
                rintro e w64 ⟨rfl, hb⟩
                refine ⟨_, rfl, ?_⟩
                have n0_ := Aside0.mk (Kd.R_below (by (with_reducible repeat (first | apply Kd.R_alloc | apply Kd.R_drewN | apply Kd.R_drew)); exact HO224.out) hb)
                have n1_ := Aside0.mk (Kd.R_below (by (with_reducible repeat (first | apply Kd.R_alloc | apply Kd.R_drewN | apply Kd.R_drew)); exact HO227.out) hb)
                have n2_ := Aside0.mk (blk_below (g := gb209) (o := .cells #[.int .i64 a0_0, .int .i64 a0_1, .int .i64 a0_2, .int .i64 a0_3, .int .i64 a0_4, .slice A0_5 l0_5.length c0_5, .slice A0_6 l0_6.length c0_6] 49 (0, 0)) (by (with_reducible repeat (first | refine blk_drewN ?_ _ | refine blk_drew ?_ | refine blk_alloc ?_ _)); exact BK209.out) hb)
                have n3_ := Aside0.mk (blk_below (g := gb210) (o := .cells #[.int .i64 a1_0, .int .i64 a1_1, .int .i64 a1_2, .int .i64 a1_3, .int .i64 a1_4, .slice A1_5 l1_5.length c1_5, .slice A1_6 l1_6.length c1_6] 49 (0, 0)) (by (with_reducible repeat (first | refine blk_drewN ?_ _ | refine blk_drew ?_ | refine blk_alloc ?_ _)); exact BK210.out) hb)
                have n4_ := Aside0.mk (blk_below (g := gb230) (o := .cells #[.int .i64 t217, .int .i64 t218, .int .i64 t219, .int .i64 t220, .int .i64 t221, .slice Ao58 t222.length co58, .slice Ao59 t225.length co59] 49 (0, 0)) (by (with_reducible repeat (first | refine blk_drewN ?_ _ | refine blk_drew ?_ | refine blk_alloc ?_ _)); exact BK230.out) hb)
                have n5_ := Aside0.mk (below_step (by repeat (first | (with_reducible first | exact HB.out | apply below_alloc | apply pw_below_drewN | apply below_drew1 | refine below_set ?_ GE209.out | refine below_set ?_ GE210.out | refine below_set ?_ GE230.out) | exact HB.out)) hb)
                clear HO224
                clear HO227
                clear BK209
                clear BK210
                clear BK230
                clear HB
                have HO224 := n0_
                have HO227 := n1_
                have BK209 := n2_
                have BK210 := n3_
                have BK230 := n4_
                have HB := n5_
                clear n0_ n1_ n2_ n3_ n4_ n5_
                (try clear hb)
                (try clear hb2)
                (try clear hk)
                (try clear hi)
                refine hK.out _ _ ⟨(blk_cell BK230.out 0).trans rfl, (blk_cell BK230.out 1).trans rfl, (blk_cell BK230.out 2).trans rfl, (blk_cell BK230.out 3).trans rfl, (blk_cell BK230.out 4).trans rfl, (blk_cell BK230.out 5).trans rfl, (blk_cell BK230.out 6).trans rfl, (blk_cell BK209.out 0).trans rfl, (blk_cell BK209.out 1).trans rfl, (blk_cell BK209.out 2).trans rfl, (blk_cell BK209.out 3).trans rfl, (blk_cell BK209.out 4).trans rfl, (blk_cell BK209.out 5).trans rfl, (blk_cell BK209.out 6).trans rfl, (blk_cell BK210.out 0).trans rfl, (blk_cell BK210.out 1).trans rfl, (blk_cell BK210.out 2).trans rfl, (blk_cell BK210.out 3).trans rfl, (blk_cell BK210.out 4).trans rfl, (blk_cell BK210.out 5).trans rfl, (blk_cell BK210.out 6).trans rfl⟩ (fun hHeld => ?_)
                clear hK K
                refine norm_ (a' := ?_) ?_ ?_
                rotate_left
                · show Act.put _ (some 52) _ = _
                  simp only [Act.put, List.setIfInBounds_toArray, List.set_cons_zero, List.set_cons_succ, i64_w, i32_w]
                  rfl
                refine pure_ (i := 19) (N := some 53) (v := ?_) (a' := ?_) #[true, true, true, true, true, true, true, true, true, true, true, true, true, true, true, true, true, true, true, true, false, false, false, false, false] rfl rfl (any_of HT_.out (by kernel_rfl)) (fun _ _ _ h => h) (Or.inl ⟨by rfl, ?_⟩) ?_ ?_
                rotate_left
                · intro w'
                  go_simp
                  with_reducible rfl
                rotate_left
                · simp only [Act.put, List.setIfInBounds_toArray, List.set_cons_zero, List.set_cons_succ, i64_w, i32_w]
                  rfl
                refine pure_ (i := 20) (N := some 54) (v := ?_) (a' := ?_) #[true, true, true, true, true, true, true, true, true, true, true, true, true, true, true, true, true, true, true, true, true, false, false, false, false] rfl rfl (any_of HT_.out (by kernel_rfl)) (fun _ _ _ h => h) (Or.inl ⟨by rfl, ?_⟩) ?_ ?_
                rotate_left
                · intro w'
                  go_simp
                  with_reducible rfl
                rotate_left
                · simp only [Act.put, List.setIfInBounds_toArray, List.set_cons_zero, List.set_cons_succ, i64_w, i32_w]
                  rfl
                refine pure_ (i := 21) (N := some 55) (v := ?_) (a' := ?_) #[true, true, true, true, true, true, true, true, true, true, true, true, true, true, true, true, true, true, true, true, true, true, false, false, false] rfl rfl (any_of HT_.out (by kernel_rfl)) (fun _ _ _ h => h) (Or.inl ⟨by rfl, ?_⟩) ?_ ?_
                rotate_left
                · intro w'
                  go_simp
                  with_reducible rfl
                rotate_left
                · simp only [Act.put, List.setIfInBounds_toArray, List.set_cons_zero, List.set_cons_succ, i64_w, i32_w]
                  rfl
                refine one_ (i := 22) (N := some 56) #[true, true, true, true, true, true, true, true, true, true, true, true, true, true, true, true, true, true, true, true, true, true, true, false, false] rfl rfl (one_of HT_.out (by kernel_rfl)) (by decide) (fun K hK => ?_)
                refine goes_ Tryd.func14 (by kernel_rfl) rfl #[] (by rfl) rfl rfl (by (try simp only [List.map_toArray, List.map_cons, List.map_nil]); first | done | rfl | (simp only [List.length_drop, List.length_take]; rfl)) ?_
                with_reducible refine (siskinlaw14_works.calls kj2  t234 _ ?side1 A49.out).mono ?_
                (case side1 => exact Laid.below HLD.out (by repeat (first | (with_reducible first | exact HB.out | apply below_alloc | apply pw_below_drewN | apply below_drew1 | refine below_set ?_ GE209.out | refine below_set ?_ GE210.out | refine below_set ?_ GE230.out) | exact HB.out)))
                rintro e w65 ⟨rfl, hb⟩
                refine ⟨_, rfl, ?_⟩
                have n0_ := Aside0.mk (Kd.R_below (by (with_reducible repeat (first | apply Kd.R_alloc | apply Kd.R_drewN | apply Kd.R_drew)); exact HO224.out) hb)
                have n1_ := Aside0.mk (Kd.R_below (by (with_reducible repeat (first | apply Kd.R_alloc | apply Kd.R_drewN | apply Kd.R_drew)); exact HO227.out) hb)
                have n2_ := Aside0.mk (blk_below (g := gb209) (o := .cells #[.int .i64 a0_0, .int .i64 a0_1, .int .i64 a0_2, .int .i64 a0_3, .int .i64 a0_4, .slice A0_5 l0_5.length c0_5, .slice A0_6 l0_6.length c0_6] 49 (0, 0)) (by (with_reducible repeat (first | refine blk_drewN ?_ _ | refine blk_drew ?_ | refine blk_alloc ?_ _)); exact BK209.out) hb)
                have n3_ := Aside0.mk (blk_below (g := gb210) (o := .cells #[.int .i64 a1_0, .int .i64 a1_1, .int .i64 a1_2, .int .i64 a1_3, .int .i64 a1_4, .slice A1_5 l1_5.length c1_5, .slice A1_6 l1_6.length c1_6] 49 (0, 0)) (by (with_reducible repeat (first | refine blk_drewN ?_ _ | refine blk_drew ?_ | refine blk_alloc ?_ _)); exact BK210.out) hb)
                have n4_ := Aside0.mk (blk_below (g := gb230) (o := .cells #[.int .i64 t217, .int .i64 t218, .int .i64 t219, .int .i64 t220, .int .i64 t221, .slice Ao58 t222.length co58, .slice Ao59 t225.length co59] 49 (0, 0)) (by (with_reducible repeat (first | refine blk_drewN ?_ _ | refine blk_drew ?_ | refine blk_alloc ?_ _)); exact BK230.out) hb)
                have n5_ := Aside0.mk (below_step (by repeat (first | (with_reducible first | exact HB.out | apply below_alloc | apply pw_below_drewN | apply below_drew1 | refine below_set ?_ GE209.out | refine below_set ?_ GE210.out | refine below_set ?_ GE230.out) | exact HB.out)) hb)
                clear HO224
                clear HO227
                clear BK209
                clear BK210
                clear BK230
                clear HB
                have HO224 := n0_
                have HO227 := n1_
                have BK209 := n2_
                have BK210 := n3_
                have BK230 := n4_
                have HB := n5_
                clear n0_ n1_ n2_ n3_ n4_ n5_
                (try clear hb)
                (try clear hb2)
                (try clear hk)
                (try clear hi)
                refine hK.out _ _ ⟨(blk_cell BK230.out 0).trans rfl, (blk_cell BK230.out 1).trans rfl, (blk_cell BK230.out 2).trans rfl, (blk_cell BK230.out 3).trans rfl, (blk_cell BK230.out 4).trans rfl, (blk_cell BK230.out 5).trans rfl, (blk_cell BK230.out 6).trans rfl, (blk_cell BK209.out 0).trans rfl, (blk_cell BK209.out 1).trans rfl, (blk_cell BK209.out 2).trans rfl, (blk_cell BK209.out 3).trans rfl, (blk_cell BK209.out 4).trans rfl, (blk_cell BK209.out 5).trans rfl, (blk_cell BK209.out 6).trans rfl, (blk_cell BK210.out 0).trans rfl, (blk_cell BK210.out 1).trans rfl, (blk_cell BK210.out 2).trans rfl, (blk_cell BK210.out 3).trans rfl, (blk_cell BK210.out 4).trans rfl, (blk_cell BK210.out 5).trans rfl, (blk_cell BK210.out 6).trans rfl⟩ (fun hHeld => ?_)
                clear hK K
                refine norm_ (a' := ?_) ?_ ?_
                rotate_left
                · show Act.put _ (some 56) _ = _
                  simp only [Act.put, List.setIfInBounds_toArray, List.set_cons_zero, List.set_cons_succ, i64_w, i32_w]
                  rfl
                refine pure_ (i := 23) (N := some 57) (v := ?_) (a' := ?_) #[true, true, true, true, true, true, true, true, true, true, true, true, true, true, true, true, true, true, true, true, true, true, true, true, false] rfl rfl (any_of HT_.out (by kernel_rfl)) (fun _ _ _ h => h) (Or.inl ⟨by rfl, ?_⟩) ?_ ?_
                rotate_left
                · intro w'
                  go_simp
                  with_reducible rfl
                rotate_left
                · simp only [Act.put, List.setIfInBounds_toArray, List.set_cons_zero, List.set_cons_succ, i64_w, i32_w]
                  rfl
                refine pure_ (i := 24) (N := some 4) (v := ?_) (a' := ?_) #[true, true, true, true, true, true, true, true, true, true, true, true, true, true, true, true, true, true, true, true, true, true, true, true, true] rfl rfl (any_of HT_.out (by kernel_rfl)) (fun _ _ _ h => h) (Or.inl ⟨by rfl, ?_⟩) ?_ ?_
                rotate_left
                · intro w'
                  go_simp
                  with_reducible rfl
                rotate_left
                · simp only [Act.put, List.setIfInBounds_toArray, List.set_cons_zero, List.set_cons_succ, i64_w, i32_w]
                  rfl
                refine done_ (done_of HT_.out (by kernel_rfl)) ?_
                try go_wp2
                go_ret
                exact ⟨by first | rfl | (simp [errW_none, errW_some] <;> rfl) | (simp [*, errW_none, errW_some] <;> rfl), by repeat (first | (with_reducible first | exact HB.out | apply below_alloc | apply pw_below_drewN | apply below_drew1 | refine below_set ?_ GE209.out | refine below_set ?_ GE210.out | refine below_set ?_ GE230.out) | exact HB.out)⟩
              · rw [if_neg c48] at H
                exact absurd (Option.some.inj H) (by rw [hrt.out]; decide)
            · replace c45 := Bool.eq_false_iff.mpr c45
              subst c45
              have H1 : (some false) = some r := by rw [if_neg (show ¬ (false = true) by decide)] at H; exact H
              exact absurd (Option.some.inj H1) (by rw [hrt.out]; decide)
          · rw [if_neg c43] at H
            exact absurd (Option.some.inj H) (by rw [hrt.out]; decide)
        · rw [if_neg c42] at H
          exact absurd (Option.some.inj H) (by rw [hrt.out]; decide)
end Go.Proofs.YtmppkcdphgelcaaDoor.PConf
set_option linter.unusedVariables false
set_option linter.unusedSimpArgs false
namespace Go.Proofs.YtmppkcdphgelcaaDoor.PConf
open Go.RowKit Go.Proofs.YtmppkcdphgelcaaDoorW.PrintWords Go.Lib
def gb (s : ByteArray) (i : Nat) : Nat := (s.get! i).toNat
theorem gb_lt (s : ByteArray) (i : Nat) : gb s i < 256 := UInt8.toNat_lt _
theorem bt_gb (s : ByteArray) (i : Nat) : bt s (i : Int) = (gb s i : Int) := by
  unfold bt gb
  split
  · rename_i h
    have h' : i < s.size := h
    cases s with
    | mk d =>
      show ((d[i]).toNat : Int) = (d[i]!.toNat : Int)
      rw [getElem!_pos d i h']
  · rename_i h
    have h' : ¬ i < s.size := h
    cases s with
    | mk d =>
      show (0 : Int) = (d[i]!.toNat : Int)
      rw [getElem!_neg d i h']; rfl
theorem wrap_nat (n : Nat) (h : n < 9223372036854775808) : wrap64 (n : Int) = n := by unfold wrap64; omega
def mOf (c : Nat) : Nat := if 194 ≤ c ∧ c < 224 then 2 else if 224 ≤ c ∧ c < 240 then 3 else if 240 ≤ c ∧ c < 245 then 4 else 0
def sizeN (n b0 b1 b2 b3 : Nat) : Nat :=
  if b0 < 128 then 1 else if n < mOf b0 then 0
  else if 1 < mOf b0 ∧ (b1 < 128 ∨ 191 < b1) then 0 else if 2 < mOf b0 ∧ (b2 < 128 ∨ 191 < b2) then 0 else if 3 < mOf b0 ∧ (b3 < 128 ∨ 191 < b3) then 0
  else if 2 < mOf b0 ∧ (b0 = 224 ∧ b1 < 160 ∨ b0 = 237 ∧ 159 < b1 ∨ b0 = 240 ∧ b1 < 144 ∨ b0 = 244 ∧ 143 < b1) then 0 else mOf b0
theorem Sj0 (k : Nat) (s : ByteArray) (c m : Int) (b : Bool) : siskinref04_Size.j0 (k + 1) s c m b = if b = true then siskinref04_Size.j1 k s c 2 else siskinref04_Size.j1 k s c m := by rw [siskinref04_Size.j0]
theorem Sj1 (k : Nat) (s : ByteArray) (c m : Int) : siskinref04_Size.j1 (k + 1) s c m = if c ≥ 224 then siskinref04_Size.j2 k s c m (decide (c < 240)) else siskinref04_Size.j2 k s c m false := by rw [siskinref04_Size.j1]
theorem Sj2 (k : Nat) (s : ByteArray) (c m : Int) (b : Bool) : siskinref04_Size.j2 (k + 1) s c m b = if b = true then siskinref04_Size.j3 k s c 3 else siskinref04_Size.j3 k s c m := by rw [siskinref04_Size.j2]
theorem Sj3 (k : Nat) (s : ByteArray) (c m : Int) : siskinref04_Size.j3 (k + 1) s c m = if c ≥ 240 then siskinref04_Size.j4 k s c m (decide (c < 245)) else siskinref04_Size.j4 k s c m false := by rw [siskinref04_Size.j3]
theorem Sj4 (k : Nat) (s : ByteArray) (c m : Int) (b : Bool) : siskinref04_Size.j4 (k + 1) s c m b = if b = true then siskinref04_Size.j5 k s c 4 else siskinref04_Size.j5 k s c m := by rw [siskinref04_Size.j4]
theorem chain (k : Nat) (s : ByteArray) (c : Nat) : (if (c : Int) ≥ 194 then siskinref04_Size.j0 (k + 5 + 1) s c 0 (decide ((c : Int) < 224)) else siskinref04_Size.j0 (k + 5 + 1) s c 0 false) = siskinref04_Size.j5 (k + 1) s c (mOf c : Nat) := by
  simp only [Sj0 (k + 5), Sj1 (k + 4), Sj2 (k + 3), Sj3 (k + 2), Sj4 (k + 1), decide_eq_true_eq, Bool.false_eq_true, if_false]
  unfold mOf
  repeat' split
  all_goals first | rfl | (exfalso; omega)
theorem Sl0_yes (k : Nat) (s : ByteArray) (c m i : Nat) (h : i < m) (hs : i < s.size) (hi : i < 9) : siskinref04_Size.l0 (k + 1) s c m i = if gb s i < 128 ∨ 191 < gb s i then some 0 else siskinref04_Size.l0 k s c m ((i + 1 : Nat) : Int) := by
  rw [siskinref04_Size.l0, if_pos (by omega), if_pos (by omega), if_pos (by omega), bt_gb]
  have e : wrap64 ((i : Int) + 1) = ((i + 1 : Nat) : Int) := wrap_nat (i + 1) (by omega)
  rw [e]
  repeat' split
  all_goals first | rfl | (exfalso; omega)
theorem Sl0_no (k : Nat) (s : ByteArray) (c m i : Nat) (h : ¬ i < m) (hs : m ≤ s.size) : siskinref04_Size.l0 (k + 1) s c m i = some ((if 2 < m ∧ (c = 224 ∧ gb s 1 < 160 ∨ c = 237 ∧ 159 < gb s 1 ∨ c = 240 ∧ gb s 1 < 144 ∨ c = 244 ∧ 143 < gb s 1) then 0 else m : Nat) : Int) := by
  have b1 : bt s 1 = (gb s 1 : Int) := bt_gb s 1
  have w1 : wrap64 (bt s 1) = (gb s 1 : Int) := by rw [b1]; exact wrap_nat _ (by have := gb_lt s 1; omega)
  rw [siskinref04_Size.l0, if_neg (by omega), w1]
  generalize gb s 1 = g at *
  repeat' split
  all_goals first | rfl | (exfalso; omega) | skip
theorem size_tail (k : Nat) (s : ByteArray) (c m : Nat) (hm : m ≤ 4) (h1 : m ≠ 1) (hs : m ≤ s.size) : siskinref04_Size.l0 (k + 5) s c m 1 = some ((if 1 < m ∧ (gb s 1 < 128 ∨ 191 < gb s 1) then 0 else if 2 < m ∧ (gb s 2 < 128 ∨ 191 < gb s 2) then 0 else if 3 < m ∧ (gb s 3 < 128 ∨ 191 < gb s 3) then 0
  else if 2 < m ∧ (c = 224 ∧ gb s 1 < 160 ∨ c = 237 ∧ 159 < gb s 1 ∨ c = 240 ∧ gb s 1 < 144 ∨ c = 244 ∧ 143 < gb s 1) then 0 else m : Nat) : Int) := by
  have hmc : m = 0 ∨ m = 2 ∨ m = 3 ∨ m = 4 := by omega
  show siskinref04_Size.l0 (k + 4 + 1) s c m ((1 : Nat) : Int) = _
  rcases hmc with rfl | rfl | rfl | rfl
  · rw [Sl0_no _ _ _ _ _ (by omega) hs]; simp
  · rw [Sl0_yes _ _ _ _ _ (by omega) (by omega) (by omega), Sl0_no (k + 3) _ _ _ _ (by omega) hs]
    try simp only [Nat.reduceAdd]
    repeat' split
    all_goals first | rfl | (exfalso; omega)
  · rw [Sl0_yes _ _ _ _ _ (by omega) (by omega) (by omega), Sl0_yes (k + 3) _ _ _ _ (by omega) (by omega) (by omega), Sl0_no (k + 2) _ _ _ _ (by omega) hs]
    try simp only [Nat.reduceAdd]
    repeat' split
    all_goals first | rfl | (exfalso; omega)
  · rw [Sl0_yes _ _ _ _ _ (by omega) (by omega) (by omega), Sl0_yes (k + 3) _ _ _ _ (by omega) (by omega) (by omega), Sl0_yes (k + 2) _ _ _ _ (by omega) (by omega) (by omega), Sl0_no (k + 1) _ _ _ _ (by omega) hs]
    try simp only [Nat.reduceAdd]
    repeat' split
    all_goals first | rfl | (exfalso; omega)
theorem mOf_le (c : Nat) : mOf c ≤ 4 ∧ mOf c ≠ 1 := by unfold mOf; repeat' split
                                                       all_goals omega
theorem ref_size (k : Nat) (s : ByteArray) (hs : 0 < s.size) : siskinref04_Size.f (k + 12) s = some ((sizeN s.size (gb s 0) (gb s 1) (gb s 2) (gb s 3) : Nat) : Int) := by
  have b0 : bt s 0 = (gb s 0 : Int) := bt_gb s 0
  have w0 : wrap64 (bt s 0) = (gb s 0 : Int) := by rw [b0]; exact wrap_nat _ (by have := gb_lt s 0; omega)
  unfold siskinref04_Size.f sizeN
  rw [if_pos (by omega), w0]
  by_cases h : gb s 0 < 128
  · rw [if_pos (by omega), if_pos h]; rfl
  · rw [if_neg (by omega), if_neg h, chain (k + 6), siskinref04_Size.j5]
    by_cases h2 : s.size < mOf (gb s 0)
    · rw [if_pos (by omega), if_pos h2]; rfl
    · rw [if_neg (by omega), if_neg h2]
      exact size_tail (k + 1) s _ _ (mOf_le _).1 (mOf_le _).2 (by omega)
set_option maxHeartbeats 1000000 in
theorem size_dec (n b0 b1 b2 b3 : Nat) (hn : 1 ≤ n) (h0 : b0 < 256) (h1 : b1 < 256) (h2 : b2 < 256) (h3 : b3 < 256) :
    (sizeN n b0 b1 b2 b3 = 0 ∧ decodeN n b0 b1 b2 b3 = (65533, 1)) ∨ (sizeN n b0 b1 b2 b3 = 1 ∧ b0 < 128 ∧ decodeN n b0 b1 b2 b3 = (b0, 1)) ∨
    (sizeN n b0 b1 b2 b3 = 2 ∧ 2 ≤ n ∧ 194 ≤ b0 ∧ 128 ≤ b1 ∧ decodeN n b0 b1 b2 b3 = ((b0 - 192) * 64 + b1 - 128, 2)) ∨ (sizeN n b0 b1 b2 b3 = 3 ∧ 3 ≤ n ∧ 224 ≤ b0 ∧ 128 ≤ b1 ∧ 128 ≤ b2 ∧ decodeN n b0 b1 b2 b3 = ((b0 - 224) * 4096 + (b1 - 128) * 64 + b2 - 128, 3)) ∨
    (sizeN n b0 b1 b2 b3 = 4 ∧ 4 ≤ n ∧ 240 ≤ b0 ∧ 128 ≤ b1 ∧ 128 ≤ b2 ∧ 128 ≤ b3 ∧ decodeN n b0 b1 b2 b3 = ((b0 - 240) * 262144 + (b1 - 128) * 4096 + (b2 - 128) * 64 + b3 - 128, 4)) := by
  by_cases c1 : b0 < 128
  · unfold sizeN decodeN
    rw [if_pos c1, if_pos c1]; exact .inr (.inl ⟨rfl, c1, rfl⟩)
  · by_cases c2 : b0 < 194
    · have hm : mOf b0 = 0 := by unfold mOf; repeat' split
                                 all_goals omega
      refine .inl ⟨?_, ?_⟩
      · unfold sizeN; rw [hm]; repeat' split
        all_goals first | rfl | omega
      · unfold decodeN
        repeat' split
        all_goals first | rfl | (exfalso; omega)
    · by_cases c3 : b0 < 224
      · have hm : mOf b0 = 2 := by unfold mOf; repeat' split
                                   all_goals omega
        by_cases hg : 2 ≤ n ∧ 128 ≤ b1 ∧ b1 ≤ 191
        · refine .inr (.inr (.inl ⟨?_, hg.1, by omega, hg.2.1, ?_⟩))
          · unfold sizeN; rw [hm]; repeat' split
            all_goals first | rfl | omega
          · unfold decodeN
            repeat' split
            all_goals first | (exfalso; omega) | (apply Prod.ext <;> simp only <;> omega)
        · refine .inl ⟨?_, ?_⟩
          · unfold sizeN; rw [hm]; repeat' split
            all_goals first | rfl | omega
          · unfold decodeN
            repeat' split
            all_goals first | rfl | (exfalso; omega)
      · by_cases c4 : b0 < 240
        · have hm : mOf b0 = 3 := by unfold mOf; repeat' split
                                     all_goals omega
          by_cases hg : 3 ≤ n ∧ 128 ≤ b1 ∧ b1 ≤ 191 ∧ 128 ≤ b2 ∧ b2 ≤ 191 ∧ ¬ (b0 = 224 ∧ b1 < 160) ∧ ¬ (b0 = 237 ∧ 159 < b1)
          · refine .inr (.inr (.inr (.inl ⟨?_, hg.1, by omega, by omega, by omega, ?_⟩)))
            · unfold sizeN; rw [hm]; repeat' split
              all_goals first | rfl | omega
            · unfold decodeN
              repeat' split
              all_goals first | (exfalso; omega) | (apply Prod.ext <;> simp only <;> omega)
          · refine .inl ⟨?_, ?_⟩
            · unfold sizeN; rw [hm]; repeat' split
              all_goals first | rfl | omega
            · unfold decodeN
              repeat' split
              all_goals first | rfl | (exfalso; omega)
        · by_cases c5 : b0 < 245
          · have hm : mOf b0 = 4 := by unfold mOf; repeat' split
                                       all_goals omega
            by_cases hg : 4 ≤ n ∧ 128 ≤ b1 ∧ b1 ≤ 191 ∧ 128 ≤ b2 ∧ b2 ≤ 191 ∧ 128 ≤ b3 ∧ b3 ≤ 191 ∧ ¬ (b0 = 240 ∧ b1 < 144) ∧ ¬ (b0 = 244 ∧ 143 < b1)
            · refine .inr (.inr (.inr (.inr ⟨?_, hg.1, by omega, by omega, by omega, by omega, ?_⟩)))
              · unfold sizeN; rw [hm]; repeat' split
                all_goals first | rfl | omega
              · unfold decodeN
                repeat' split
                all_goals first | (exfalso; omega) | (apply Prod.ext <;> simp only <;> omega)
            · refine .inl ⟨?_, ?_⟩
              · unfold sizeN; rw [hm]; repeat' split
                all_goals first | rfl | omega
              · unfold decodeN
                repeat' split
                all_goals first | rfl | (exfalso; omega)
          · have hm : mOf b0 = 0 := by unfold mOf; repeat' split
                                       all_goals omega
            refine .inl ⟨?_, ?_⟩
            · unfold sizeN; rw [hm]; repeat' split
              all_goals first | rfl | omega
            · unfold decodeN
              repeat' split
              all_goals first | rfl | (exfalso; omega)
end Go.Proofs.YtmppkcdphgelcaaDoor.PConf
set_option linter.unusedVariables false
set_option linter.unusedSimpArgs false
namespace Go.Proofs.YtmppkcdphgelcaaDoor.PConf
open Go.RowKit Go.Proofs.YtmppkcdphgelcaaDoorW.PrintWords Go.Lib
def decAt (s : ByteArray) : Nat × Nat := decodeN s.size (gb s 0) (gb s 1) (gb s 2) (gb s 3)
theorem size_whole (s : ByteArray) (hs : 0 < s.size) : (sizeN s.size (gb s 0) (gb s 1) (gb s 2) (gb s 3) = 0 → (decAt s).1 = 65533) ∧ 1 ≤ (decAt s).2 ∧ (decAt s).2 ≤ s.size := by
  unfold decAt
  rcases size_dec s.size (gb s 0) (gb s 1) (gb s 2) (gb s 3) (by omega) (gb_lt _ _) (gb_lt _ _) (gb_lt _ _) (gb_lt _ _) with ⟨h, e⟩ | ⟨h, _, e⟩ | ⟨h, _, _, _, e⟩ | ⟨h, _, _, _, _, e⟩ | ⟨h, _, _, _, _, _, e⟩ <;> rw [h, e] <;> refine ⟨fun h => ?_, ?_, ?_⟩ <;> first | omega | rfl
theorem wrap_int (x : Int) (h : -9223372036854775808 ≤ x) (h' : x ≤ 9223372036854775807) : wrap64 x = x := by unfold wrap64; omega
theorem first2 (g0 g1 : Nat) (l0 : g0 < 256) (l1 : g1 < 256) (h0 : 194 ≤ g0) (h1 : 128 ≤ g1) : wrap64 ((wrap64 ((wrap64 ((wrap64 ((wrap64 (g0 : Int)) - 192)) * 64)) + (wrap64 (g1 : Int)))) - 128) = (((g0 - 192) * 64 + g1 - 128 : Nat) : Int) := by
  rw [wrap_int g0 (by omega) (by omega), wrap_int g1 (by omega) (by omega), wrap_int ((g0 : Int) - 192) (by omega) (by omega), wrap_int (((g0 : Int) - 192) * 64) (by omega) (by omega), wrap_int (((g0 : Int) - 192) * 64 + g1) (by omega) (by omega), wrap_int (((g0 : Int) - 192) * 64 + g1 - 128) (by omega) (by omega)]
  omega
theorem first3 (g0 g1 g2 : Nat) (l0 : g0 < 256) (l1 : g1 < 256) (l2 : g2 < 256) (h0 : 224 ≤ g0) (h1 : 128 ≤ g1) (h2 : 128 ≤ g2) : wrap64 ((wrap64 ((wrap64 ((wrap64 ((wrap64 ((wrap64 (g0 : Int)) - 224)) * 4096)) + (wrap64 ((wrap64 ((wrap64 (g1 : Int)) - 128)) * 64)))) + (wrap64 (g2 : Int)))) - 128) = (((g0 - 224) * 4096 + (g1 - 128) * 64 + g2 - 128 : Nat) : Int) := by
  rw [wrap_int g0 (by omega) (by omega), wrap_int g1 (by omega) (by omega), wrap_int g2 (by omega) (by omega), wrap_int ((g0 : Int) - 224) (by omega) (by omega), wrap_int ((g1 : Int) - 128) (by omega) (by omega), wrap_int (((g0 : Int) - 224) * 4096) (by omega) (by omega), wrap_int (((g1 : Int) - 128) * 64) (by omega) (by omega),
    wrap_int (((g0 : Int) - 224) * 4096 + ((g1 : Int) - 128) * 64) (by omega) (by omega), wrap_int (((g0 : Int) - 224) * 4096 + ((g1 : Int) - 128) * 64 + g2) (by omega) (by omega), wrap_int (((g0 : Int) - 224) * 4096 + ((g1 : Int) - 128) * 64 + g2 - 128) (by omega) (by omega)]
  omega
theorem first4 (g0 g1 g2 g3 : Nat) (l0 : g0 < 256) (l1 : g1 < 256) (l2 : g2 < 256) (l3 : g3 < 256) (h0 : 240 ≤ g0) (h1 : 128 ≤ g1) (h2 : 128 ≤ g2) (h3 : 128 ≤ g3) : wrap64 ((wrap64 ((wrap64 ((wrap64 ((wrap64 ((wrap64 ((wrap64 (g0 : Int)) - 240)) * 262144)) + (wrap64 ((wrap64 ((wrap64 (g1 : Int)) - 128)) * 4096)))) + (wrap64 ((wrap64 ((wrap64 (g2 : Int)) - 128)) * 64)))) + (wrap64 (g3 : Int)))) - 128) = (((g0 - 240) * 262144 + (g1 - 128) * 4096 + (g2 - 128) * 64 + g3 - 128 : Nat) : Int) := by
  rw [wrap_int g0 (by omega) (by omega), wrap_int g1 (by omega) (by omega), wrap_int g2 (by omega) (by omega), wrap_int g3 (by omega) (by omega), wrap_int ((g0 : Int) - 240) (by omega) (by omega), wrap_int ((g1 : Int) - 128) (by omega) (by omega), wrap_int ((g2 : Int) - 128) (by omega) (by omega), wrap_int (((g0 : Int) - 240) * 262144) (by omega) (by omega), wrap_int (((g1 : Int) - 128) * 4096) (by omega) (by omega), wrap_int (((g2 : Int) - 128) * 64) (by omega) (by omega),
    wrap_int (((g0 : Int) - 240) * 262144 + ((g1 : Int) - 128) * 4096) (by omega) (by omega), wrap_int (((g0 : Int) - 240) * 262144 + ((g1 : Int) - 128) * 4096 + ((g2 : Int) - 128) * 64) (by omega) (by omega), wrap_int (((g0 : Int) - 240) * 262144 + ((g1 : Int) - 128) * 4096 + ((g2 : Int) - 128) * 64 + g3) (by omega) (by omega), wrap_int (((g0 : Int) - 240) * 262144 + ((g1 : Int) - 128) * 4096 + ((g2 : Int) - 128) * 64 + g3 - 128) (by omega) (by omega)]
  omega
theorem ref_first (k : Nat) (s : ByteArray) (hs : 0 < s.size) : siskinref04_First.f (k + 12) s = some (((decAt s).1 : Int), ((decAt s).2 : Int)) := by
  unfold siskinref04_First.f decAt
  rw [ref_size k s hs]
  simp only [Option.bind_some]
  have b0 : bt s 0 = (gb s 0 : Int) := bt_gb s 0
  have b1 : bt s 1 = (gb s 1 : Int) := bt_gb s 1
  have b2 : bt s 2 = (gb s 2 : Int) := bt_gb s 2
  have b3 : bt s 3 = (gb s 3 : Int) := bt_gb s 3
  rw [b0, b1, b2, b3]
  have l0 := gb_lt s 0
  have l1 := gb_lt s 1
  have l2 := gb_lt s 2
  have l3 := gb_lt s 3
  rcases size_dec s.size (gb s 0) (gb s 1) (gb s 2) (gb s 3) (by omega) l0 l1 l2 l3 with ⟨h, e⟩ | ⟨h, g0, e⟩ | ⟨h, n, g0, g1, e⟩ | ⟨h, n, g0, g1, g2, e⟩ | ⟨h, n, g0, g1, g2, g3, e⟩ <;> rw [h, e]
  · rfl
  · rw [if_neg (by omega), if_pos (by omega), if_pos (by omega), wrap_nat _ (by omega)]; rfl
  · rw [if_neg (by omega), if_pos (by omega), if_neg (by omega), if_pos (by omega), if_pos (by omega), first2 _ _ l0 l1 g0 g1]; rfl
  · rw [if_neg (by omega), if_pos (by omega), if_neg (by omega), if_neg (by omega), if_pos (by omega), if_pos (by omega), if_pos (by omega), first3 _ _ _ l0 l1 l2 g0 g1 g2]; rfl
  · rw [if_neg (by omega), if_pos (by omega), if_neg (by omega), if_neg (by omega), if_neg (by omega), if_pos (by omega), if_pos (by omega), if_pos (by omega), first4 _ _ _ _ l0 l1 l2 l3 g0 g1 g2 g3]; rfl
theorem gb_drop (s : ByteArray) (pos i : Nat) : gb (s.extract pos s.size) i = gb s (pos + i) := by
  have h := bt_gb (s.extract pos s.size) i
  have h' := bt_gb s (pos + i)
  have : bt (s.extract pos s.size) (i : Int) = bt s ((pos + i : Nat) : Int) := by
    unfold bt
    simp only [Int.toNat_natCast, ByteArray.size_extract, Nat.min_self]
    by_cases hi : pos + i < s.size
    · rw [dif_pos (by omega), dif_pos hi]
      simp [ByteArray.getElem_extract]
    · rw [dif_neg (by omega), dif_neg hi]
  omega
theorem decAt_drop (s : ByteArray) (pos : Nat) : decAt (s.extract pos s.size) = Utf8.decode s pos := by
  unfold decAt
  rw [decode_at, gb_drop, gb_drop, gb_drop, gb_drop]
  simp only [ByteArray.size_extract, Nat.min_self, Nat.add_zero]
  rfl
def runesL (s : ByteArray) : Nat → Nat → List S138
  | 0, _ => []
  | f + 1, pos => if pos < s.size then ⟨pos, ((Utf8.decode s pos).1 : Nat), decide (sizeN (s.size - pos) (gb s pos) (gb s (pos + 1)) (gb s (pos + 2)) (gb s (pos + 3)) > 0)⟩ :: runesL s f (pos + (Utf8.decode s pos).2) else []
theorem dec_step (s : ByteArray) (pos : Nat) (h : pos < s.size) : 1 ≤ (Utf8.decode s pos).2 ∧ pos + (Utf8.decode s pos).2 ≤ s.size ∧ (sizeN (s.size - pos) (gb s pos) (gb s (pos + 1)) (gb s (pos + 2)) (gb s (pos + 3)) = 0 → (Utf8.decode s pos).1 = 65533) := by
  have hz : (s.extract pos s.size).size = s.size - pos := by simp
  have := size_whole (s.extract pos s.size) (by omega)
  rw [decAt_drop, gb_drop, gb_drop, gb_drop, gb_drop, Nat.add_zero, hz] at this
  exact ⟨this.2.1, by omega, this.1⟩
theorem runes_loop (s : ByteArray) (hs : s.size ≤ 1000000000) : ∀ (f pos k : Nat) (acc : List S138), s.size ≤ pos + f → f + 13 ≤ k → acc.length ≤ pos → siskinref04_Runes.l0 k s acc pos = some (acc ++ runesL s f pos) := by
  intro f
  induction f with
  | zero =>
    intro pos k acc h hk ha
    obtain ⟨k, rfl⟩ : ∃ m, k = m + 1 := ⟨k - 1, by omega⟩
    rw [siskinref04_Runes.l0, if_neg (by omega), runesL, List.append_nil]
  | succ f ih =>
    intro pos k acc h hk ha
    obtain ⟨k, rfl⟩ : ∃ m, k = m + 12 + 1 := ⟨k - 13, by omega⟩
    by_cases hp : pos < s.size
    · have hz : (s.extract pos s.size).size = s.size - pos := by simp
      obtain ⟨d1, d2, _⟩ := dec_step s pos hp
      rw [siskinref04_Runes.l0, if_pos (by omega), if_pos (by omega), if_pos (by omega), Int.toNat_natCast, ref_first k _ (by omega), ref_size k _ (by omega)]
      simp only [Option.bind_some]
      rw [if_pos (by omega), decAt_drop, hz, gb_drop, gb_drop, gb_drop, gb_drop]
      simp only [Nat.add_zero]
      have hd : decide (((sizeN (s.size - pos) (gb s pos) (gb s (pos + 1)) (gb s (pos + 2)) (gb s (pos + 3)) : Nat) : Int) > 0) = decide (sizeN (s.size - pos) (gb s pos) (gb s (pos + 1)) (gb s (pos + 2)) (gb s (pos + 3)) > 0) := decide_eq_decide.mpr (by omega)
      have hw : wrap64 ((pos : Int) + ((Utf8.decode s pos).2 : Int)) = ((pos + (Utf8.decode s pos).2 : Nat) : Int) := wrap_nat (pos + (Utf8.decode s pos).2) (by omega)
      rw [hw, ih _ _ _ (by omega) (by omega) (by simp; omega), runesL, if_pos hp, List.append_assoc]
      rw [hd]; rfl
    · rw [siskinref04_Runes.l0, if_neg (by omega), runesL, if_neg hp, List.append_nil]
theorem letter_ref (c : Int) : siskinref04_Letter.f c = some (glyph_Name.letter c) := (show siskinref04_Letter.f c = glyph_Letter.f c from rfl).trans (glyph_Name.letter_some c)
theorem letter_bad : glyph_Name.letter 65533 = false := by unfold glyph_Name.letter glyph_Letter.f; decide
def okRune (r : S138) : Bool := r.f2 && glyph_Name.letter r.f1
def nameEnd (l : List S138) : Bool := decide (0 < l.length) && (decide (l.length ≤ 16) && decide ((rd_T138 l 0).f1 > 57))
theorem name_loop (l : List S138) (hl : l.length ≤ 1000000000) : ∀ (j i k : Nat), i + j = l.length → j < k → siskinref04_Name.l0 k l i = some ((l.drop i).all okRune && nameEnd l) := by
  intro j
  induction j with
  | zero =>
    intro i k hi hk
    obtain ⟨k, rfl⟩ : ∃ m, k = m + 1 := ⟨k - 1, by omega⟩
    rw [siskinref04_Name.l0, if_neg (by omega), List.drop_eq_nil_of_le (by omega)]
    unfold nameEnd
    by_cases h0 : 0 < l.length
    · rw [if_pos (by omega)]
      by_cases h1 : l.length ≤ 16
      · rw [if_pos (by omega), if_pos (by omega)]; simp [h0, h1]
      · rw [if_neg (by omega)]; simp [h1]
    · rw [if_neg (by omega)]; simp [h0]
  | succ j ih =>
    intro i k hi hk
    obtain ⟨k, rfl⟩ : ∃ m, k = m + 1 := ⟨k - 1, by omega⟩
    have hlt : i < l.length := by omega
    have hrd : rd_T138 l (i : Int) = l[i] := by unfold rd_T138; rw [Int.toNat_natCast, List.getD_eq_getElem?_getD, List.getElem?_eq_getElem hlt]; rfl
    rw [siskinref04_Name.l0, if_pos (by omega), if_pos (by omega), hrd, List.drop_eq_getElem_cons hlt, List.all_cons]
    unfold okRune
    by_cases h2 : l[i].f2 = true
    · rw [if_pos h2, letter_ref]
      simp only [Option.bind_some]
      by_cases h3 : glyph_Name.letter l[i].f1 = true
      · rw [if_pos h3, show wrap64 ((i : Int) + 1) = ((i + 1 : Nat) : Int) from wrap_nat (i + 1) (by omega), ih (i + 1) k (by omega) (by omega), h2, h3]
        simp only [Bool.and_self, Bool.true_and]
        rfl
      · rw [if_neg h3, eq_false_of_ne_true h3]; simp
    · rw [if_neg h2, eq_false_of_ne_true h2]; simp
theorem from_runes (s : ByteArray) : ∀ (f pos n : Nat), s.size ≤ pos + f → glyph_Name.from s f pos n = ((runesL s f pos).all okRune && (decide (1 ≤ n + (runesL s f pos).length ∧ n + (runesL s f pos).length ≤ 16) && (!decide (n = 0) || !decide (0 < (runesL s f pos).length) || decide ((rd_T138 (runesL s f pos) 0).f1 > 57)))) := by
  intro f
  induction f with
  | zero => intro pos n h; simp [glyph_Name.from, runesL]; exact (Bool.decide_and _ _).symm
  | succ f ih =>
    intro pos n h
    unfold glyph_Name.from runesL
    by_cases hp : pos < s.size
    · rw [if_pos hp, if_pos hp]
      obtain ⟨d1, d2, d3⟩ := dec_step s pos hp
      have hrd : ∀ l, rd_T138 ((⟨pos, ((Utf8.decode s pos).1 : Nat), decide (sizeN (s.size - pos) (gb s pos) (gb s (pos + 1)) (gb s (pos + 2)) (gb s (pos + 3)) > 0)⟩ : S138) :: l) 0 = ⟨pos, ((Utf8.decode s pos).1 : Nat), decide (sizeN (s.size - pos) (gb s pos) (gb s (pos + 1)) (gb s (pos + 2)) (gb s (pos + 3)) > 0)⟩ := fun l => rfl
      rw [hrd, List.all_cons, List.length_cons]
      by_cases hl : glyph_Name.letter ((Utf8.decode s pos).1 : Nat) = true
      · have hsz : sizeN (s.size - pos) (gb s pos) (gb s (pos + 1)) (gb s (pos + 2)) (gb s (pos + 3)) > 0 := by
          by_cases h0 : sizeN (s.size - pos) (gb s pos) (gb s (pos + 1)) (gb s (pos + 2)) (gb s (pos + 3)) = 0
          · rw [d3 h0] at hl
            exact absurd hl (by rw [show ((65533 : Nat) : Int) = 65533 from rfl, letter_bad]; decide)
          · omega
        have ho : okRune ⟨pos, ((Utf8.decode s pos).1 : Nat), decide (sizeN (s.size - pos) (gb s pos) (gb s (pos + 1)) (gb s (pos + 2)) (gb s (pos + 3)) > 0)⟩ = true := by
          unfold okRune; simp [hl, hsz]
        rw [ho]
        by_cases hn : n = 0 ∧ (Utf8.decode s pos).1 ≤ 57
        · rw [if_neg (fun h => h.2 hn)]
          have : decide ((((Utf8.decode s pos).1 : Nat) : Int) > 57) = false := decide_eq_false (by omega)
          simp only [this]
          simp [hn.1]
        · rw [if_pos ⟨hl, hn⟩, ih _ _ (by omega)]
          have hx : ((!decide (n = 0) || !decide (0 < (runesL s f (pos + (Utf8.decode s pos).2)).length + 1) || decide ((((Utf8.decode s pos).1 : Nat) : Int) > 57)) : Bool) = true := by
            by_cases h0 : n = 0
            · have : ¬ (Utf8.decode s pos).1 ≤ 57 := fun h => hn ⟨h0, h⟩
              simp; right; omega
            · simp [h0]
          simp only [hx, Bool.true_and, Bool.and_true]
          rw [show n + 1 + (runesL s f (pos + (Utf8.decode s pos).2)).length = n + ((runesL s f (pos + (Utf8.decode s pos).2)).length + 1) by omega]
          simp
      · rw [if_neg (fun h => hl h.1)]
        have ho : okRune ⟨pos, ((Utf8.decode s pos).1 : Nat), decide (sizeN (s.size - pos) (gb s pos) (gb s (pos + 1)) (gb s (pos + 2)) (gb s (pos + 3)) > 0)⟩ = false := by
          unfold okRune; simp [eq_false_of_ne_true hl]
        rw [ho]; rfl
    · rw [if_neg hp, if_neg hp]; simp
theorem runes_len (s : ByteArray) : ∀ (f pos : Nat), (runesL s f pos).length ≤ f := by
  intro f
  induction f with
  | zero => intro pos; simp [runesL]
  | succ f ih => intro pos; unfold runesL; split
                 · have := ih (pos + (Utf8.decode s pos).2); simp; omega
                 · simp
theorem ref_name (s : ByteArray) (hs : s.size ≤ 1000000000) (k : Nat) (hk : s.size + 14 ≤ k) : siskinref04_Name.f k s = some (glyph_Name.from s s.size 0 0) := by
  unfold siskinref04_Name.f siskinref04_Runes.f
  rw [show (0 : Int) = ((0 : Nat) : Int) from rfl, runes_loop s hs s.size 0 k [] (by omega) (by omega) (by simp)]
  have hl := runes_len s s.size 0
  simp only [Option.bind_some, List.nil_append]
  rw [name_loop _ (by omega) (runesL s s.size 0).length 0 k (by omega) (by omega), from_runes s s.size 0 0 (by omega), List.drop_zero]
  unfold nameEnd
  congr 2
  rw [Nat.zero_add]
  by_cases h : 0 < (runesL s s.size 0).length
  · have h1 : 1 ≤ (runesL s s.size 0).length := h
    by_cases h2 : (runesL s s.size 0).length ≤ 16 <;> simp [h, h1, h2]
  · have h1 : ¬ 1 ≤ (runesL s s.size 0).length := h
    simp [h, h1]
end Go.Proofs.YtmppkcdphgelcaaDoor.PConf
set_option linter.unusedVariables false
set_option linter.unusedSimpArgs false
namespace Go.Proofs.YtmppkcdphgelcaaDoor.PConf
open Go.RowKit Go.Proofs.YtmppkcdphgelcaaDoor Go.Proofs.YtmppkcdphgelcaaDoorW.PrintWords Go.Proofs.YtmppkcdphgelcaaDoorW.PrintMore Go.Lib
theorem wrap_u64 (n : Int) (h0 : 0 ≤ n) (h : n < 18446744073709551616) : IntKind.u64.wrap n = n := by
  simp [IntKind.wrap, IntKind.bits, IntKind.signed]; omega
theorem wrap_u64' (n : Int) (h0 : 0 ≤ n) (h : n < 2 ^ 64) : IntKind.u64.wrap n = n := wrap_u64 n h0 (by omega)
theorem two_pow_le (n : Nat) (h : n ≤ 63) : 2 ^ n ≤ 9223372036854775808 := Nat.le_trans (Nat.pow_le_pow_right (by decide) h) (Nat.le_refl (2 ^ 63))
theorem bit_loop : ∀ (j i k : Nat), i + j ≤ 63 → j < k → siskinref05_Bit.l0 k ((i + j : Nat) : Int) ((2 ^ i : Nat) : Int) (i : Int) = some ((2 ^ (i + j) : Nat) : Int) := by
  intro j
  induction j with
  | zero =>
    intro i k h hk
    obtain ⟨k, rfl⟩ : ∃ m, k = m + 1 := ⟨k - 1, by omega⟩
    rw [siskinref05_Bit.l0, if_neg (by omega)]; rfl
  | succ j ih =>
    intro i k h hk
    obtain ⟨k, rfl⟩ : ∃ m, k = m + 1 := ⟨k - 1, by omega⟩
    have hp : 2 ^ i ≤ 4611686018427387904 := Nat.le_trans (Nat.pow_le_pow_right (by decide) (by omega)) (Nat.le_refl (2 ^ 62))
    rw [siskinref05_Bit.l0, if_pos (by omega), show wrap64 ((i : Int) + 1) = ((i + 1 : Nat) : Int) from wrap_nat (i + 1) (by omega), wrap_u64 _ (Int.mul_nonneg (Int.natCast_nonneg _) (by decide)) (by omega),
      show ((2 ^ i : Nat) : Int) * 2 = ((2 ^ (i + 1) : Nat) : Int) by rw [Nat.pow_succ]; omega, show i + (j + 1) = i + 1 + j by omega]
    exact ih (i + 1) k (by omega) (by omega)
theorem ref_bit (i k : Nat) (h : i ≤ 63) (hk : i < k) : siskinref05_Bit.f k i = some ((2 ^ i : Nat) : Int) := by
  have := bit_loop i 0 k (by omega) hk
  rw [Nat.zero_add] at this
  exact this
theorem ref_has (a i k : Nat) (h : i ≤ 63) (hk : i < k) (ha : a < 18446744073709551616) : siskinref05_Has.f k a i = some (a.testBit i) := by
  unfold siskinref05_Has.f
  rw [if_pos (by omega), if_pos (by omega), ref_bit i k h hk]
  simp only [Option.bind_some]
  have hp : 0 < 2 ^ i := Nat.two_pow_pos i
  have hd : a / 2 ^ i ≤ a := Nat.div_le_self _ _
  have hq : (a : Int) / ((2 ^ i : Nat) : Int) = ((a / 2 ^ i : Nat) : Int) := rfl
  rw [if_neg (by omega), Int.tdiv_eq_ediv_of_nonneg (by omega), hq, Nat.testBit_eq_decide_div_mod_eq]
  generalize a / 2 ^ i = q at *
  rw [wrap_u64 _ (by omega) (by omega), Int.tmod_eq_emod_of_nonneg (by omega)]
  congr 1
  by_cases hx : q % 2 = 1
  · rw [decide_eq_true hx, show (q : Int) % 2 = 1 by omega]; rfl
  · rw [decide_eq_false hx, show (q : Int) % 2 = 0 by omega]; rfl
theorem and_not (a n : Nat) (ha : a < 18446744073709551616) (hn : n ≤ 63) : (Go.bits .andNot .u64 a ((2 ^ n - 1 : Nat) : Int) = 0) ↔ a < 2 ^ n := by
  have hb : 2 ^ n - 1 < 18446744073709551616 := by have := two_pow_le n hn; omega
  have hw : ∀ z : BitVec IntKind.u64.bits, IntKind.u64.wrap (z.toNat : Int) = (z.toNat : Int) := fun z => wrap_u64' _ (by omega) (by have := z.isLt; exact_mod_cast this)
  unfold Go.bits
  simp only
  rw [hw]
  constructor
  · intro h
    have hz : (BitVec.ofInt IntKind.u64.bits (a : Int) &&& ~~~(BitVec.ofInt IntKind.u64.bits ((2 ^ n - 1 : Nat) : Int))) = 0 := BitVec.eq_of_toNat_eq (by simpa using h)
    apply Nat.lt_pow_two_of_testBit
    intro i hi
    by_cases h64 : i < 64
    · have := congrArg (fun v => BitVec.getLsbD v i) hz
      simp only [BitVec.getLsbD_and, BitVec.getLsbD_not, BitVec.ofInt_natCast, BitVec.getLsbD_ofNat, Nat.testBit_two_pow_sub_one] at this
      have h64' : i < IntKind.u64.bits := h64
      simp [h64'] at this
      have hni : ¬ i < n := by omega
      simpa [hni] using this
    · exact Nat.testBit_lt_two_pow (Nat.lt_of_lt_of_le ha (Nat.le_trans (Nat.le_refl (2 ^ 64)) (Nat.pow_le_pow_right (by decide) (by omega))))
  · intro h
    have hz : (BitVec.ofInt IntKind.u64.bits (a : Int) &&& ~~~(BitVec.ofInt IntKind.u64.bits ((2 ^ n - 1 : Nat) : Int))) = 0 := by
      apply BitVec.eq_of_getLsbD_eq
      intro i hi
      simp only [BitVec.getLsbD_and, BitVec.getLsbD_not, BitVec.ofInt_natCast, BitVec.getLsbD_ofNat, Nat.testBit_two_pow_sub_one]
      by_cases hin : i < n
      · simp [hin, hi]
      · have : a.testBit i = false := Nat.testBit_lt_two_pow (Nat.lt_of_lt_of_le h (Nat.pow_le_pow_right (by decide) (by omega)))
        simp [this]
    rw [hz]; rfl
theorem below_eq (n : Nat) (h : n ≤ 63) : flock_Below.f n = some ((2 ^ n - 1 : Nat) : Int) := by
  unfold flock_Below.f
  by_cases h0 : n = 0
  · subst h0; rfl
  · have hp := two_pow_le n h
    have hp0 : 0 < 2 ^ n := Nat.two_pow_pos n
    have hs : shl .u64 1 (n : Int) = ((2 ^ n : Nat) : Int) := by
      unfold shl
      rw [show min ((n : Int)).toNat (IntKind.bits .u64) = n by show min n 64 = n; omega, Int.one_mul, show (2 : Int) ^ n = ((2 ^ n : Nat) : Int) by simp]
      exact wrap_u64 _ (by omega) (by omega)
    rw [if_neg (by omega), if_neg (by omega), if_pos (by omega), hs, wrap_u64 _ (by omega) (by omega)]
    congr 1; omega
def namesN (l : List ByteArray) : Int := if 16 < l.length then 1 else if names_Check.named l = false then 5 else if 0 ≤ firstN (names_Check.geq l) (l.length - 1) 0 then 1 else 0
theorem names_n (l : List ByteArray) (hs : ∀ s ∈ l, s.size ≤ 4611686018427387904) (hl : l.length ≤ 9223372036854775807) : names_Check.f l = some (namesN l) := by
  unfold names_Check.f namesN
  rw [if_pos ⟨hs, hl⟩]
theorem rdOf_at (l : List ByteArray) (i : Nat) (h : i < l.length) : rdOf ByteArray.empty l (i : Int) = l[i] := by
  unfold rdOf; rw [Int.toNat_natCast, List.getD_eq_getElem?_getD, List.getElem?_eq_getElem h]; rfl
theorem names_l1 (l : List ByteArray) (hl : l.length ≤ 16) : ∀ (j i k : Nat), i + 1 + j = l.length → j < k → siskinref05_Check.l1 k l ((i + 1 : Nat) : Int) = some (if 0 ≤ firstN (names_Check.geq l) j i then 1 else 0) := by
  intro j
  induction j with
  | zero =>
    intro i k h hk
    obtain ⟨k, rfl⟩ : ∃ m, k = m + 1 := ⟨k - 1, by omega⟩
    rw [siskinref05_Check.l1, if_neg (by omega), firstN]; rfl
  | succ j ih =>
    intro i k h hk
    obtain ⟨k, rfl⟩ : ∃ m, k = m + 1 := ⟨k - 1, by omega⟩
    have e1 : wrap64 (((i + 1 : Nat) : Int) - 1) = (i : Int) := by unfold wrap64; omega
    have e2 : wrap64 (((i + 1 : Nat) : Int) + 1) = ((i + 1 + 1 : Nat) : Int) := wrap_nat (i + 1 + 1) (by omega)
    rw [siskinref05_Check.l1, if_pos (by omega), if_pos (by omega), e1, e2, if_pos (by omega), if_pos (by omega), firstN]
    have hg : names_Check.geq l i = !(Op.bytesLess (rdOf ByteArray.empty l (i : Int)).toList (rdOf ByteArray.empty l ((i + 1 : Nat) : Int)).toList) := rfl
    by_cases hb : Op.bytesLess (rdOf ByteArray.empty l (i : Int)).toList (rdOf ByteArray.empty l ((i + 1 : Nat) : Int)).toList = true
    · rw [if_pos hb, hg, hb]
      exact ih (i + 1) k (by omega) (by omega)
    · rw [if_neg hb, hg, eq_false_of_ne_true hb]
      simp
theorem names_l0 (l : List ByteArray) (hl : l.length ≤ 16) (M : Nat) (hM : M ≤ 1000000000) (hs : ∀ s ∈ l, s.size ≤ M) : ∀ (j i k : Nat), i + j = l.length → j + 40 + M ≤ k → siskinref05_Check.l0 k l i = some (if (l.drop i).all (fun s => glyph_Name.from s s.size 0 0) = false then 5 else if 0 ≤ firstN (names_Check.geq l) (l.length - 1) 0 then 1 else 0) := by
  intro j
  induction j with
  | zero =>
    intro i k h hk
    obtain ⟨k, rfl⟩ : ∃ m, k = m + 1 := ⟨k - 1, by omega⟩
    rw [siskinref05_Check.l0, if_neg (by omega), List.drop_eq_nil_of_le (by omega)]
    rw [List.all_nil, if_neg (by decide)]
    by_cases h0 : l.length = 0
    · obtain ⟨k, rfl⟩ : ∃ m, k = m + 1 := ⟨k - 1, by omega⟩
      rw [siskinref05_Check.l1, if_neg (by omega), h0]; rfl
    · exact names_l1 l hl (l.length - 1) 0 k (by omega) (by omega)
  | succ j ih =>
    intro i k h hk
    obtain ⟨k, rfl⟩ : ∃ m, k = m + 1 := ⟨k - 1, by omega⟩
    have hlt : i < l.length := by omega
    have hz := hs l[i] (List.getElem_mem hlt)
    rw [siskinref05_Check.l0, if_pos (by omega), if_pos (by omega), rdOf_at l i hlt, ref_name _ (by omega) k (by omega), List.drop_eq_getElem_cons hlt, List.all_cons]
    simp only [Option.bind_some]
    by_cases hg : glyph_Name.from l[i] l[i].size 0 0 = true
    · rw [if_pos hg, show wrap64 ((i : Int) + 1) = ((i + 1 : Nat) : Int) from wrap_nat (i + 1) (by omega), ih (i + 1) k (by omega) (by omega), hg, Bool.true_and]
    · rw [if_neg hg, eq_false_of_ne_true hg]; rfl
theorem ref_names (l : List ByteArray) (M : Nat) (hM : M ≤ 1000000000) (hs : ∀ s ∈ l, s.size ≤ M) (k : Nat) (hk : 60 + M ≤ k) : siskinref05_Check.f k l = some (namesN l) := by
  unfold siskinref05_Check.f namesN
  by_cases h : 16 < l.length
  · rw [if_pos (by omega), if_pos h]
  · rw [if_neg (by omega), if_neg h]
    exact names_l0 l (by omega) M hM hs l.length 0 k (by omega) (by omega)
def okW (n : Nat) (w : S79) : Bool := decide (1 ≤ w.f0 ∧ w.f0 ≤ 255 ∧ 1 ≤ w.f1 ∧ w.f1 ≤ 64 ∧ w.f2 < ((2 ^ n : Nat) : Int))
def checkN (a0 a1 a2 a3 a4 : Int) (nm : List ByteArray) (wk : List S79) : Int :=
  if 1 ≤ a0 ∧ a0 ≤ 8 ∧ 1 ≤ a1 ∧ a1 ≤ 1000 ∧ 1 ≤ a2 ∧ a2 ≤ 1000 ∧ 0 ≤ a3 ∧ a3 ≤ 65536 ∧ 1 ≤ a4 ∧ a4 ≤ 16 then
    if namesN nm = 0 then if 1 ≤ wk.length ∧ wk.length ≤ 64 then if wk.all (okW nm.length) = true then 0 else 1 else 1 else namesN nm
  else 1
theorem in_eq (a lo hi : Int) : conf_in.f a lo hi = some (decide (lo ≤ a ∧ a ≤ hi)) := by
  unfold conf_in.f
  by_cases h : a ≥ lo
  · rw [if_pos h]; simp [h]
  · rw [if_neg h]; simp [show ¬ lo ≤ a from h]
theorem names_small {l : List ByteArray} (h : namesN l = 0) : l.length ≤ 16 := by
  unfold namesN at h
  by_cases h16 : 16 < l.length
  · rw [if_pos h16] at h; cases h
  · omega
theorem rd_wk (wk : List S79) (i : Nat) (h : i < wk.length) : rd_T79 wk (i : Int) = wk[i] := by
  unfold rd_T79; rw [Int.toNat_natCast, List.getD_eq_getElem?_getD, List.getElem?_eq_getElem h]; rfl
theorem check_loop (nm : List ByteArray) (hn : nm.length ≤ 16) (wk x6 : List S79) (hw : wk.length ≤ 64) (hb : ∀ w ∈ wk, 0 ≤ w.f2 ∧ w.f2 < 18446744073709551616) (a0 a1 a2 a3 a4 : Int) : ∀ (j i k : Nat), i + j = wk.length → j < k →
    conf_Check.l0 k wk (wk.length : Int) i a0 a1 a2 a3 a4 nm x6 = some (if (wk.drop i).all (okW nm.length) = true then 0 else 1) := by
  intro j
  induction j with
  | zero =>
    intro i k h hk
    obtain ⟨k, rfl⟩ : ∃ m, k = m + 1 := ⟨k - 1, by omega⟩
    rw [conf_Check.l0, if_neg (by omega), List.drop_eq_nil_of_le (by omega)]; rfl
  | succ j ih =>
    intro i k h hk
    obtain ⟨k, rfl⟩ : ∃ m, k = m + 1 := ⟨k - 1, by omega⟩
    have hlt : i < wk.length := by omega
    obtain ⟨b0, b1⟩ := hb wk[i] (List.getElem_mem hlt)
    obtain ⟨u, hu⟩ := Int.eq_ofNat_of_zero_le b0
    rw [conf_Check.l0, if_pos (by omega), if_pos (by omega), if_pos (by omega), rd_wk wk i hlt, in_eq, in_eq, below_eq _ (by omega), List.drop_eq_getElem_cons hlt, List.all_cons]
    simp only [Option.bind_some, decide_eq_true_eq]
    have ho : okW nm.length wk[i] = decide (1 ≤ wk[i].f0 ∧ wk[i].f0 ≤ 255 ∧ 1 ≤ wk[i].f1 ∧ wk[i].f1 ≤ 64 ∧ wk[i].f2 < ((2 ^ nm.length : Nat) : Int)) := rfl
    rw [ho, hu]
    by_cases h0 : 1 ≤ wk[i].f0 ∧ wk[i].f0 ≤ 255
    · rw [if_pos h0]
      by_cases h1 : 1 ≤ wk[i].f1 ∧ wk[i].f1 ≤ 64
      · rw [if_pos h1]
        have han := and_not u nm.length (by omega) (by omega)
        by_cases h2 : u < 2 ^ nm.length
        · rw [if_pos (han.mpr h2), show wrap64 ((i : Int) + 1) = ((i + 1 : Nat) : Int) from wrap_nat (i + 1) (by omega), ih (i + 1) k (by omega) (by omega), decide_eq_true (by refine ⟨h0.1, h0.2, h1.1, h1.2, by omega⟩), Bool.true_and]
        · rw [if_neg (fun h => h2 (han.mp h)), decide_eq_false (by omega)]; rfl
      · rw [if_neg h1, decide_eq_false (fun h => h1 ⟨h.2.2.1, h.2.2.2.1⟩)]; rfl
    · rw [if_neg h0, decide_eq_false (fun h => h0 ⟨h.1, h.2.1⟩)]; rfl
theorem conf_check (a0 a1 a2 a3 a4 : Int) (nm : List ByteArray) (wk : List S79) (hs : ∀ s ∈ nm, s.size ≤ 4611686018427387904) (hl : nm.length ≤ 9223372036854775807) (hb : ∀ w ∈ wk, 0 ≤ w.f2 ∧ w.f2 < 18446744073709551616) (k : Nat) (hk : 70 ≤ k) :
    conf_Check.f k a0 a1 a2 a3 a4 nm wk = some (checkN a0 a1 a2 a3 a4 nm wk) := by
  obtain ⟨k, rfl⟩ : ∃ m, k = m + 1 := ⟨k - 1, by omega⟩
  unfold conf_Check.f checkN
  simp only [in_eq, Option.bind_some, decide_eq_true_eq]
  have hj : ∀ b : Bool, conf_Check.j0 (k + 1) b a0 a1 a2 a3 a4 nm wk = if b = true then some 1 else (if namesN nm = 0 then (if 1 ≤ wk.length ∧ wk.length ≤ 64 then (if wk.all (okW nm.length) = true then some 0 else some 1) else some 1) else some (namesN nm)) := by
    intro b
    rw [conf_Check.j0]
    by_cases hbt : b = true
    · rw [if_pos hbt, if_pos hbt]
    · rw [if_neg hbt, if_neg hbt, names_n nm hs hl]
      simp only [Option.bind_some]
      by_cases hn : namesN nm = 0
      · rw [if_pos hn, if_pos hn, in_eq]
        simp only [Option.bind_some, decide_eq_true_eq]
        by_cases hw : 1 ≤ wk.length ∧ wk.length ≤ 64
        · rw [if_pos (by omega), if_pos hw]
          have := check_loop nm (names_small hn) wk wk hw.2 hb a0 a1 a2 a3 a4 wk.length 0 k (by omega) (by omega)
          rw [List.drop_zero] at this
          rw [show (0 : Int) = ((0 : Nat) : Int) from rfl, this]
          split <;> rfl
        · rw [if_neg (by omega), if_neg hw]
      · rw [if_neg hn, if_neg hn]
  by_cases r0 : 1 ≤ a0 ∧ a0 ≤ 8
  · by_cases r1 : 1 ≤ a1 ∧ a1 ≤ 1000
    · by_cases r2 : 1 ≤ a2 ∧ a2 ≤ 1000
      · by_cases r3 : 0 ≤ a3 ∧ a3 ≤ 65536
        · by_cases r4 : 1 ≤ a4 ∧ a4 ≤ 16
          · rw [if_pos r0, if_pos r1, if_pos r2, if_pos r3, hj, decide_eq_true r4, if_neg (by decide), if_pos (show 1 ≤ a0 ∧ a0 ≤ 8 ∧ 1 ≤ a1 ∧ a1 ≤ 1000 ∧ 1 ≤ a2 ∧ a2 ≤ 1000 ∧ 0 ≤ a3 ∧ a3 ≤ 65536 ∧ 1 ≤ a4 ∧ a4 ≤ 16 by omega)]
            repeat' split
            all_goals rfl
          · rw [if_pos r0, if_pos r1, if_pos r2, if_pos r3, hj, decide_eq_false r4, if_pos (by decide), if_neg (by omega)]
        · rw [if_pos r0, if_pos r1, if_pos r2, if_neg r3, hj, if_pos rfl, if_neg (by omega)]
      · rw [if_pos r0, if_pos r1, if_neg r2, hj, if_pos rfl, if_neg (by omega)]
    · rw [if_pos r0, if_neg r1, hj, if_pos rfl, if_neg (by omega)]
  · rw [if_neg r0, hj, if_pos rfl, if_neg (by omega)]
theorem has_loop (nm : List ByteArray) (wk : List S79) (a0 a1 a2 a3 a4 x4 w0 w1 : Int) (u : Nat) (hu : u < 18446744073709551616) : ∀ (j i k : Nat), i + j = 64 → j + 66 < k →
    siskinref14_Check.l1 k x4 i a0 a1 a2 a3 a4 nm wk w0 w1 u = if u < 2 ^ i then siskinref14_Check.l0 (k - j - 1) (wrap64 (x4 + 1)) a0 a1 a2 a3 a4 nm wk else some 1 := by
  intro j
  induction j with
  | zero =>
    intro i k h hk
    obtain ⟨k, rfl⟩ : ∃ m, k = m + 1 := ⟨k - 1, by omega⟩
    rw [siskinref14_Check.l1, if_neg (by omega), if_pos (by rw [show i = 64 by omega]; exact hu)]; rfl
  | succ j ih =>
    intro i k h hk
    obtain ⟨k, rfl⟩ : ∃ m, k = m + 1 := ⟨k - 1, by omega⟩
    rw [siskinref14_Check.l1, if_pos (by omega), ref_has u i k (by omega) (by omega) hu]
    simp only [Option.bind_some]
    by_cases hb : u.testBit i = true
    · rw [if_pos hb, if_neg (fun hlt => by rw [Nat.testBit_lt_two_pow hlt] at hb; cases hb)]
    · rw [if_neg hb, show wrap64 ((i : Int) + 1) = ((i + 1 : Nat) : Int) from wrap_nat (i + 1) (by omega), ih (i + 1) k (by omega) (by omega), show k + 1 - (j + 1) - 1 = k - j - 1 by omega]
      have hiff : u < 2 ^ (i + 1) ↔ u < 2 ^ i := by
        constructor
        · intro hlt
          apply Nat.lt_pow_two_of_testBit
          intro m hm
          rcases Nat.lt_or_ge i m with h1 | h1
          · exact Nat.testBit_lt_two_pow (Nat.lt_of_lt_of_le hlt (Nat.pow_le_pow_right (by decide) (by omega)))
          · rw [show m = i by omega]; exact eq_false_of_ne_true hb
        · intro hlt; exact Nat.lt_of_lt_of_le hlt (Nat.pow_le_pow_right (by decide) (by omega))
      by_cases hx : u < 2 ^ i
      · rw [if_pos (hiff.mpr hx), if_pos hx]
      · rw [if_neg (fun h => hx (hiff.mp h)), if_neg hx]
theorem ref_check_loop (nm : List ByteArray) (hn : nm.length ≤ 16) (wk : List S79) (hw : wk.length ≤ 64) (hb : ∀ w ∈ wk, 0 ≤ w.f2 ∧ w.f2 < 18446744073709551616) (a0 a1 a2 a3 a4 : Int) : ∀ (j i k : Nat), i + j = wk.length → j * 67 + 140 < k →
    siskinref14_Check.l0 k i a0 a1 a2 a3 a4 nm wk = some (if (wk.drop i).all (okW nm.length) = true then 0 else 1) := by
  intro j
  induction j with
  | zero =>
    intro i k h hk
    obtain ⟨k, rfl⟩ : ∃ m, k = m + 1 := ⟨k - 1, by omega⟩
    rw [siskinref14_Check.l0, if_neg (by omega), List.drop_eq_nil_of_le (by omega)]; rfl
  | succ j ih =>
    intro i k h hk
    obtain ⟨k, rfl⟩ : ∃ m, k = m + 2 := ⟨k - 2, by omega⟩
    have hlt : i < wk.length := by omega
    obtain ⟨b0, b1⟩ := hb wk[i] (List.getElem_mem hlt)
    obtain ⟨u, hu⟩ := Int.eq_ofNat_of_zero_le b0
    have ho : okW nm.length wk[i] = decide (1 ≤ wk[i].f0 ∧ wk[i].f0 ≤ 255 ∧ 1 ≤ wk[i].f1 ∧ wk[i].f1 ≤ 64 ∧ wk[i].f2 < ((2 ^ nm.length : Nat) : Int)) := rfl
    have h3 : ∀ b : Bool, siskinref14_Check.j3 (k + 1) i b a0 a1 a2 a3 a4 nm wk wk[i].f0 wk[i].f1 wk[i].f2 = if b = true then some 1 else if u < 2 ^ nm.length then some (if (wk.drop (i + 1)).all (okW nm.length) = true then 0 else 1) else some 1 := by
      intro b
      rw [siskinref14_Check.j3]
      split
      · rfl
      · rw [hu, has_loop nm wk a0 a1 a2 a3 a4 i _ _ u (by omega) (64 - nm.length) nm.length k (by omega) (by omega), show wrap64 ((i : Int) + 1) = ((i + 1 : Nat) : Int) from wrap_nat (i + 1) (by omega), ih (i + 1) _ (by omega) (by omega)]
    rw [siskinref14_Check.l0, if_pos (by omega), if_pos (by omega), rd_wk wk i hlt, List.drop_eq_getElem_cons hlt, List.all_cons, ho, hu]
    rw [hu] at h3
    simp only [h3, if_true]
    by_cases hy : 1 ≤ wk[i].f0 ∧ wk[i].f0 ≤ 255 ∧ 1 ≤ wk[i].f1 ∧ wk[i].f1 ≤ 64
    · rw [if_neg (by omega), if_neg (by omega), if_neg (by omega), decide_eq_false (show ¬ wk[i].f1 > 64 by omega), if_neg (by decide)]
      by_cases h2 : u < 2 ^ nm.length
      · rw [if_pos h2, decide_eq_true (by refine ⟨hy.1, hy.2.1, hy.2.2.1, hy.2.2.2, by omega⟩), Bool.true_and]
      · rw [if_neg h2, decide_eq_false (fun h => h2 (by omega))]; rfl
    · have hd : decide (1 ≤ wk[i].f0 ∧ wk[i].f0 ≤ 255 ∧ 1 ≤ wk[i].f1 ∧ wk[i].f1 ≤ 64 ∧ ((u : Nat) : Int) < ((2 ^ nm.length : Nat) : Int)) = false := decide_eq_false (fun h => hy ⟨h.1, h.2.1, h.2.2.1, h.2.2.2.1⟩)
      rw [hd]
      by_cases g0 : wk[i].f0 < 1
      · rw [if_pos g0]; rfl
      · rw [if_neg g0]
        by_cases g1 : wk[i].f0 > 255
        · rw [if_pos g1]; rfl
        · rw [if_neg g1]
          by_cases g2 : wk[i].f1 < 1
          · rw [if_pos g2]; rfl
          · rw [if_neg g2, decide_eq_true (show wk[i].f1 > 64 by omega)]; rfl
theorem ref_check (a0 a1 a2 a3 a4 : Int) (nm : List ByteArray) (wk : List S79) (M : Nat) (hM : M ≤ 1000000000) (hs : ∀ s ∈ nm, s.size ≤ M) (hb : ∀ w ∈ wk, 0 ≤ w.f2 ∧ w.f2 < 18446744073709551616) (k : Nat) (hk : 5000 + M ≤ k) :
    siskinref14_Check.f k a0 a1 a2 a3 a4 nm wk = some (checkN a0 a1 a2 a3 a4 nm wk) := by
  obtain ⟨k, rfl⟩ : ∃ m, k = m + 2 := ⟨k - 2, by omega⟩
  unfold siskinref14_Check.f checkN
  have hj : ∀ b : Bool, siskinref14_Check.j0 (k + 2) b a0 a1 a2 a3 a4 nm wk = if b = true then some 1 else (if namesN nm = 0 then (if 1 ≤ wk.length ∧ wk.length ≤ 64 then (if wk.all (okW nm.length) = true then some 0 else some 1) else some 1) else some (namesN nm)) := by
    intro b
    rw [siskinref14_Check.j0]
    by_cases hbt : b = true
    · rw [if_pos hbt, if_pos hbt]
    · rw [if_neg hbt, if_neg hbt, ref_names nm M hM hs (k + 1) (by omega)]
      simp only [Option.bind_some]
      by_cases hn : namesN nm = 0
      · rw [if_pos hn, if_pos hn]
        have h1 : ∀ b : Bool, siskinref14_Check.j1 (k + 1) b a0 a1 a2 a3 a4 nm wk = if b = true then some 1 else siskinref14_Check.l0 k 0 a0 a1 a2 a3 a4 nm wk := fun b => by rw [siskinref14_Check.j1]
        by_cases hw : 1 ≤ wk.length ∧ wk.length ≤ 64
        · rw [if_neg (by omega), if_pos hw, h1, decide_eq_false (by omega), if_neg (by decide)]
          have := ref_check_loop nm (names_small hn) wk hw.2 hb a0 a1 a2 a3 a4 wk.length 0 k (by omega) (by omega)
          rw [List.drop_zero] at this
          rw [show (0 : Int) = ((0 : Nat) : Int) from rfl, this]
          split <;> rfl
        · rw [if_neg hw]
          by_cases hw0 : wk.length < 1
          · rw [if_pos (by omega), h1, if_pos rfl]
          · rw [if_neg (by omega), h1, decide_eq_true (by omega), if_pos rfl]
      · rw [if_neg hn, if_neg hn]
  simp only [hj]
  by_cases h : 1 ≤ a0 ∧ a0 ≤ 8 ∧ 1 ≤ a1 ∧ a1 ≤ 1000 ∧ 1 ≤ a2 ∧ a2 ≤ 1000 ∧ 0 ≤ a3 ∧ a3 ≤ 65536 ∧ 1 ≤ a4 ∧ a4 ≤ 16
  · rw [if_pos h, if_neg (by omega), if_neg (by omega), if_neg (by omega), if_neg (by omega), if_neg (by omega), if_neg (by omega), if_neg (by omega), if_neg (by omega), if_neg (by omega), decide_eq_false (by omega), if_neg (by decide)]
    repeat' split
    all_goals rfl
  · rw [if_neg h]
    by_cases h9 : a4 > 16
    · rw [decide_eq_true h9]
      simp only [if_true, ite_self]
    · rw [decide_eq_false h9]
      simp only [if_true]
      by_cases g0 : a0 < 1
      · rw [if_pos g0]
      · rw [if_neg g0]
        by_cases g1 : a0 > 8
        · rw [if_pos g1]
        · rw [if_neg g1]
          by_cases g2 : a1 < 1
          · rw [if_pos g2]
          · rw [if_neg g2]
            by_cases g3 : a1 > 1000
            · rw [if_pos g3]
            · rw [if_neg g3]
              by_cases g4 : a2 < 1
              · rw [if_pos g4]
              · rw [if_neg g4]
                by_cases g5 : a2 > 1000
                · rw [if_pos g5]
                · rw [if_neg g5]
                  by_cases g6 : a3 < 0
                  · rw [if_pos g6]
                  · rw [if_neg g6]
                    by_cases g7 : a3 > 65536
                    · rw [if_pos g7]
                    · rw [if_neg g7, if_pos (by omega)]
end Go.Proofs.YtmppkcdphgelcaaDoor.PConf
set_option linter.unusedVariables false
set_option linter.unusedSimpArgs false
namespace Own
open Go.Lib
theorem decFrom_snoc (l : List UInt8) (b : UInt8) : ∀ acc, decFrom acc (l ++ [b]) = (decFrom acc l).bind fun m => (digitVal b).map fun d => m * 10 + d := by
  induction l with
  | nil => intro acc; simp only [List.nil_append, decFrom]; cases digitVal b <;> rfl
  | cons c l ih =>
    intro acc
    simp only [List.cons_append, decFrom]
    cases digitVal c with
    | none => rfl
    | some d => exact ih _
theorem digit_of (u : Nat) (h : u < 10) : digitVal (UInt8.ofNat (48 + u)) = some u := by
  have e : (UInt8.ofNat (48 + u)).toNat = 48 + u := by simp [UInt8.toNat_ofNat']; omega
  unfold digitVal
  rw [e, if_pos (by omega)]
  simp
theorem dec_round (u : Nat) : decFrom 0 (decDigits u) = some u := by
  induction u using Nat.strongRecOn with
  | _ u ih =>
    rw [decDigits]
    split
    · rename_i h
      simp only [decFrom, digit_of u h]; simp
    · rename_i h
      rw [decFrom_snoc, ih (u / 10) (by omega)]
      simp only [Option.bind_some, digit_of (u % 10) (by omega), Option.map_some, Option.some.injEq]
      omega
theorem byte_of {b : UInt8} {d : Nat} (h : digitVal b = some d) : UInt8.ofNat (48 + d) = b := by
  obtain ⟨h1, h2, h3⟩ := digitVal_eq h
  subst h3
  rw [show 48 + (b.toNat - 48) = b.toNat by omega]
  simp
theorem decFrom_pos (l : List UInt8) (acc n : Nat) (h : decFrom acc l = some n) : acc ≤ n := by
  induction l generalizing acc with
  | nil => simp only [decFrom, Option.some.injEq] at h; omega
  | cons c l ih =>
    simp only [decFrom] at h
    split at h
    · have := ih _ h; omega
    · cases h
theorem canon_n (k : Nat) : ∀ (l : List UInt8) (n : Nat), l.length = k → l ≠ [] → ¬ (l.head? = some 48 ∧ 1 < l.length) → decFrom 0 l = some n → decDigits n = l := by
  induction k with
  | zero => intro l n hk h0; cases l with
    | nil => exact absurd rfl h0
    | cons => simp at hk
  | succ k ih =>
    intro l n hk h0 hz h
    obtain ⟨l', b, rfl⟩ : ∃ l' b, l = l' ++ [b] := ⟨l.dropLast, l.getLast h0, (List.dropLast_concat_getLast h0).symm⟩
    rw [decFrom_snoc] at h
    obtain ⟨m, hm, h1⟩ := Option.bind_eq_some_iff.mp h
    obtain ⟨d, hd, h2⟩ := Option.map_eq_some_iff.mp h1
    clear h h1
    have hb := byte_of hd
    have hd10 : d < 10 := by have := digitVal_eq hd; omega
    cases l' with
    | nil =>
      simp only [decFrom, Option.some.injEq] at hm
      subst hm
      rw [decDigits, dif_pos (by omega), ← h2]
      simp [hb]
    | cons c l' =>
      have hc : ¬ c = 48 := fun e => hz ⟨by simp [e], by simp⟩
      have hm0 : 0 < m := by
        simp only [decFrom] at hm
        split at hm
        · rename_i d' hd'
          have h1 := decFrom_pos _ _ _ hm
          have h2 := digitVal_eq hd'
          have : d' ≠ 0 := fun e => hc (UInt8.toNat_inj.mp (by simp; omega))
          omega
        · cases hm
      have := ih (c :: l') m (by simp at hk ⊢; omega) (by simp) (fun h => hc (by simpa using h.1)) hm
      rw [decDigits, dif_neg (by omega), ← h2, show (m * 10 + d) / 10 = m by omega, show (m * 10 + d) % 10 = d by omega, this, hb]
theorem canon (l : List UInt8) (n : Nat) (h0 : l ≠ []) (hz : ¬ (l.head? = some 48 ∧ 1 < l.length)) (h : decFrom 0 l = some n) : decDigits n = l := canon_n _ l n rfl h0 hz h
theorem dec_ne (u : Nat) : decDigits u ≠ [] := by rw [decDigits]; split <;> simp
theorem dec_head (u : Nat) (hu : 0 < u) : (decDigits u).head? ≠ some 48 := by
  induction u using Nat.strongRecOn with
  | _ u ih =>
    rw [decDigits]
    split
    · rename_i h
      simp only [List.head?_cons, ne_eq, Option.some.injEq]
      intro e
      have := congrArg UInt8.toNat e
      simp [UInt8.toNat_ofNat'] at this
      omega
    · rename_i h
      have := ih (u / 10) (by omega) (by omega)
      cases hx : decDigits (u / 10) with
      | nil => exact absurd hx (dec_ne _)
      | cons c l => rw [hx] at this; simpa using this
theorem dec_zero : decDigits 0 = [48] := by rw [decDigits]; rfl
theorem dec_canon (u : Nat) : ¬ ((decDigits u).head? = some 48 ∧ 1 < (decDigits u).length) := by
  rintro ⟨h1, h2⟩
  cases u with
  | zero => rw [dec_zero] at h2; simp at h2
  | succ u => exact dec_head _ (by omega) h1
theorem dec_len (k : Nat) : ∀ u, u < 10 ^ (k + 1) → (decDigits u).length ≤ k + 1 := by
  induction k with
  | zero => intro u h; rw [decDigits, dif_pos (by simpa using h)]; simp
  | succ k ih =>
    intro u h
    rw [decDigits]
    split
    · simp
    · have := ih (u / 10) (by rw [Nat.pow_succ] at h; omega)
      simp; omega
end Own
namespace Go.Proofs.YtmppkcdphgelcaaDoor.PConf
open Go.RowKit Go.Proofs.YtmppkcdphgelcaaDoorW.PrintWords Go.Lib
theorem works_true : siskinlaw14_works.f 100 = some true := by kernel_rfl
theorem works_le (k : Nat) : siskinlaw14_works.f (k + 100) = some true := by
  induction k with
  | zero => rw [Nat.zero_add]; exact works_true
  | succ k ih => rw [Nat.add_right_comm k 1 100]; exact siskinlaw14_works.mono _ _ ih
def digitsEnd (o : Option Nat) : Int × Bool := match o with
  | none => (0, false)
  | some n => if (n : Int) > 72057594037927935 then (0, false) else ((n : Int), true)
theorem val_end (l : List UInt8) (h1 : 1 ≤ l.length) (h17 : l.length ≤ 17) (hz : ¬ (l.head? = some 48 ∧ 1 < l.length)) : conf_Digits.val l = digitsEnd (decFrom 0 l) := by
  unfold conf_Digits.val
  rw [atoiAll_short l (by omega)]
  cases l with
  | nil => simp at h1
  | cons b r =>
    cases hd : decFrom 0 (b :: r) with
    | some n =>
      have hb : ∃ d, digitVal b = some d := by
        simp only [decFrom] at hd
        split at hd
        · rename_i d hd'; exact ⟨d, hd'⟩
        · cases hd
      obtain ⟨d, hb⟩ := hb
      have hb2 := digitVal_eq hb
      have n45 : (b == 45) = false := beq_eq_false_iff_ne.mpr (fun e => by subst e; simp at hb2)
      have n43 : (b == 43) = false := beq_eq_false_iff_ne.mpr (fun e => by subst e; simp at hb2)
      have hc := Own.canon (b :: r) n (by simp) hz hd
      simp only [atoi, n45, n43, decNat, hd, NumEnd.ofOption, digitsEnd, Bool.false_eq_true, if_false, List.isEmpty_cons, Option.map_some, itoa_nonneg, hc]
      by_cases hm : (n : Int) ≤ 72057594037927935
      · rw [if_pos (by refine ⟨by omega, hm, ?_⟩; trivial), if_neg (by omega)]
      · rw [if_neg (fun h => hm h.2.1), if_pos (by omega)]
    | none =>
      simp only [digitsEnd]
      split
      · rename_i n hn
        split
        · rename_i hh
          have := Own.dec_round n.toNat
          rw [← itoa_nonneg, Int.toNat_of_nonneg hh.1, hh.2.2, hd] at this
          cases this
        · rfl
      · rfl
end Go.Proofs.YtmppkcdphgelcaaDoor.PConf
set_option linter.unusedVariables false
set_option linter.unusedSimpArgs false
namespace Go.Proofs.YtmppkcdphgelcaaDoor.Own
open Go Go.Lib
def spl (c : UInt8) : List UInt8 → List (List UInt8)
  | [] => [[]]
  | b :: l => if b = c then [] :: spl c l else ((b :: (spl c l).headD []) :: (spl c l).tail)
theorem spl_none {c : UInt8} {l : List UInt8} (h : c ∉ l) : spl c l = [l] := by
  induction l with
  | nil => rfl
  | cons b l ih =>
    have hb : ¬ b = c := fun e => h (by simp [e])
    have hl : c ∉ l := fun e => h (List.mem_cons_of_mem _ e)
    rw [spl, if_neg hb, ih hl]; rfl
theorem spl_hit {c : UInt8} {a l : List UInt8} (h : c ∉ a) : spl c (a ++ c :: l) = a :: spl c l := by
  induction a with
  | nil => simp [spl]
  | cons b a ih =>
    have hb : ¬ b = c := fun e => h (by simp [e])
    have hl : c ∉ a := fun e => h (List.mem_cons_of_mem _ e)
    rw [List.cons_append, spl, if_neg hb, ih hl]; rfl
def jn (c : UInt8) : List (List UInt8) → List UInt8
  | [] => []
  | w :: ws => w ++ (ws.map (c :: ·)).flatten
theorem join_jn (c : UInt8) (ws : List (List UInt8)) : Lib.join ws [c] = jn c ws := by
  cases ws with
  | nil => rfl
  | cons w ws => rw [Lib.join_cons]; rfl
theorem jn_two (c : UInt8) (w v : List UInt8) (ws : List (List UInt8)) : jn c (w :: v :: ws) = w ++ c :: jn c (v :: ws) := by simp [jn]
theorem spl_jn {c : UInt8} : ∀ {ws : List (List UInt8)}, ws ≠ [] → (∀ w ∈ ws, c ∉ w) → spl c (jn c ws) = ws
  | [], h, _ => absurd rfl h
  | [w], _, h => by
    have : jn c [w] = w := by simp [jn]
    rw [this, spl_none (h w (by simp))]
  | w :: v :: ws, _, h => by
    rw [jn_two, spl_hit (h w (by simp)), spl_jn (by simp) (fun x hx => h x (List.mem_cons_of_mem _ hx))]
theorem index_split {l : List UInt8} {c : UInt8} {i : Nat} (h : index l [c] = i) : l = l.take i ++ c :: l.drop (i + 1) ∧ c ∉ l.take i := by
  rw [index_one] at h
  obtain ⟨h1, h2⟩ := indexByte_some h
  obtain ⟨hi, he⟩ := List.getElem?_eq_some_iff.1 h1
  refine ⟨?_, fun hm => ?_⟩
  · rw [← he, ← List.drop_eq_getElem_cons hi, List.take_append_drop]
  · obtain ⟨j, hj⟩ := List.getElem?_of_mem hm
    have hji : j < i := by
      have := (List.getElem?_eq_some_iff.1 hj).1
      rw [List.length_take] at this; omega
    rw [List.getElem?_take_of_lt hji] at hj
    exact h2 j hji hj
theorem index_miss {l : List UInt8} {c : UInt8} (h : index l [c] = -1) : c ∉ l := fun hm => by
  rw [index_one] at h
  obtain ⟨j, hj⟩ := List.getElem?_of_mem hm
  exact indexByte_none h j hj
theorem index_of_mem {l : List UInt8} {c : UInt8} (h : c ∈ l) : ∃ i : Nat, index l [c] = i := by
  have := index_ge l [c]
  by_cases hl : index l [c] < 0
  · exact absurd h (index_miss (by omega))
  · exact ⟨(index l [c]).toNat, by omega⟩
theorem count_hit {l : List UInt8} {c : UInt8} {i : Nat} (h : index l [c] = i) : count l [c] = 1 + count (l.drop (i + 1)) [c] := by
  obtain ⟨h1, h2⟩ := index_split h
  rw [count_one, count_one]
  conv => lhs; rw [h1]
  rw [List.count_append, List.count_cons_self, List.count_eq_zero_of_not_mem h2]
  omega
theorem splitK_spl (c : UInt8) : ∀ (k : Nat) (l : List UInt8), count l [c] = k → splitK [c] 0 k l = spl c l := by
  intro k
  induction k with
  | zero =>
    intro l h
    rw [count_one] at h
    rw [splitK, spl_none (fun hm => by have := List.count_pos_iff.2 hm; omega)]
  | succ k ih =>
    intro l h
    have hm : c ∈ l := by rw [count_one] at h; exact List.count_pos_iff.1 (by omega)
    obtain ⟨i, hi⟩ := index_of_mem hm
    obtain ⟨h1, h2⟩ := index_split hi
    have hc := count_hit hi
    rw [splitK, hi, if_neg (by simp)]
    simp only [Int.toNat_natCast, Nat.add_zero, List.length_singleton]
    rw [ih _ (by omega)]
    conv => rhs; rw [h1]
    rw [spl_hit h2]
theorem cut_hit {c : UInt8} {a l : List UInt8} (h : c ∉ a) : Lib.cut (a ++ c :: l) [c] = (a, l, true) := by
  obtain ⟨i, hi⟩ := index_of_mem (show c ∈ a ++ c :: l by simp)
  obtain ⟨h1, h2⟩ := index_split hi
  have h3 := congrArg (spl c) h1
  rw [spl_hit h, spl_hit h2] at h3
  have ha : a = (a ++ c :: l).take i := (List.cons.inj h3).1
  have hl : a.length = i := by
    have h4 := congrArg List.length ha
    have h5 := congrArg List.length h1
    simp only [List.length_append, List.length_cons, List.length_take, List.length_drop] at h4 h5
    omega
  unfold Lib.cut
  rw [hi, if_pos (by omega)]
  subst hl
  simp
theorem cut_miss {c : UInt8} {l : List UInt8} (h : c ∉ l) : Lib.cut l [c] = (l, [], false) := by
  unfold Lib.cut
  rw [if_neg]
  intro hi
  obtain ⟨h1, _⟩ := index_split (i := (index l [c]).toNat) (by omega : index l [c] = _)
  exact h (by rw [h1]; simp)
end Go.Proofs.YtmppkcdphgelcaaDoor.Own
set_option linter.unusedVariables false
set_option linter.unusedSimpArgs false
namespace Go.Proofs.YtmppkcdphgelcaaDoor.PConf
open Go.RowKit Go.Proofs.YtmppkcdphgelcaaDoor Go.Proofs.YtmppkcdphgelcaaDoorW.PrintWords Go.Proofs.YtmppkcdphgelcaaDoorW.PrintMore Go.Lib Go.Proofs.YtmppkcdphgelcaaDoor.Own
def toL (s : ByteArray) : List UInt8 := s.data.toList
def ofL (l : List UInt8) : ByteArray := ⟨l.toArray⟩
theorem toL_ofL (l : List UInt8) : toL (ofL l) = l := by simp [toL, ofL]
theorem ofL_toL (s : ByteArray) : ofL (toL s) = s := by cases s; simp [toL, ofL]
theorem toL_inj {a b : ByteArray} (h : toL a = toL b) : a = b := by rw [← ofL_toL a, ← ofL_toL b, h]
theorem toL_append (a b : ByteArray) : toL (a ++ b) = toL a ++ toL b := by simp [toL]
theorem ofL_append (a b : List UInt8) : ofL (a ++ b) = ofL a ++ ofL b := toL_inj (by rw [toL_append, toL_ofL, toL_ofL, toL_ofL])
theorem size_toL (s : ByteArray) : s.size = (toL s).length := by
  show s.data.size = s.data.toList.length
  rw [Array.length_toList]
theorem size_ofL (l : List UInt8) : (ofL l).size = l.length := by simp [ofL, ByteArray.size]
theorem toList_toL (s : ByteArray) : s.toList = toL s := ByteArray.toList_eq s
def num (n : Int) : ByteArray := ofL (itoa n)
theorem num_eq (n : Int) (h : -9223372036854775808 ≤ n ∧ n ≤ 9223372036854775807) : conf_Number.f n = some (num n) := by unfold conf_Number.f; rw [if_pos h]; rfl
theorem map_ofL (ws : List ByteArray) : (ws.map toL).map ofL = ws := by
  rw [List.map_map]
  conv => rhs; rw [← List.map_id ws]
  exact List.map_congr_left fun a _ => ofL_toL a
def lineL (ws : List ByteArray) : List UInt8 := jn 32 (ws.map toL)
theorem line_eq (ws : List ByteArray) (h1 : ws.length ≤ 1000000) (h2 : (lineL ws).length ≤ 1000000000) : conf_line.f ws = some (ofL (lineL ws ++ [10])) := by
  unfold conf_line.f strings_Join.f
  have e : Lib.join (ws.map (·.data.toList)) (⟨#[32]⟩ : ByteArray).data.toList = lineL ws := join_jn 32 _
  rw [e, if_pos ⟨by omega, by omega⟩]
  simp only [Option.bind_some]
  have hs : (⟨(lineL ws).toArray⟩ : ByteArray).size = (lineL ws).length := size_ofL _
  rw [if_pos (by omega), ofL_append]; rfl
theorem words_eq (s : ByteArray) : (confWords s).map toL = spl 32 (toL s) := by
  unfold confWords
  have h := splitB_data (⟨#[32]⟩ : ByteArray) 0 (Lib.countB s ⟨#[32]⟩) s
  refine Eq.trans h ?_
  exact splitK_spl 32 _ _ rfl
theorem words_line (ws : List ByteArray) (h : ws ≠ []) (hb : ∀ w ∈ ws, (32 : UInt8) ∉ toL w) : confWords (ofL (lineL ws)) = ws := by
  have h1 : (confWords (ofL (lineL ws))).map toL = spl 32 (lineL ws) := by rw [words_eq, toL_ofL]
  have h2 : spl 32 (lineL ws) = ws.map toL := spl_jn (by simpa using h) (by simpa using hb)
  rw [← map_ofL (confWords _), h1, h2, map_ofL]
theorem jn_len (ws : List (List UInt8)) (B : Nat) (h : ∀ w ∈ ws, w.length ≤ B) : (jn 32 ws).length ≤ ws.length * (B + 1) := by
  induction ws with
  | nil => simp [jn]
  | cons w ws ih =>
    have hw := h w (by simp)
    have ih := ih (fun x hx => h x (List.mem_cons_of_mem _ hx))
    cases ws with
    | nil => simp [jn]; omega
    | cons v ws =>
      rw [jn_two, List.length_append, List.length_cons, List.length_cons]
      rw [Nat.add_mul] at *
      omega
theorem jn_mem (ws : List (List UInt8)) (x : UInt8) (hx : x ∈ jn 32 ws) : x = 32 ∨ ∃ w ∈ ws, x ∈ w := by
  induction ws with
  | nil => simp [jn] at hx
  | cons w ws ih =>
    cases ws with
    | nil => simp [jn] at hx; exact .inr ⟨w, by simp, hx⟩
    | cons v ws =>
      rw [jn_two] at hx
      rcases List.mem_append.1 hx with h | h
      · exact .inr ⟨w, by simp, h⟩
      · rcases List.mem_cons.1 h with h | h
        · exact .inl h
        · rcases ih h with h | ⟨u, hu, h⟩
          · exact .inl h
          · exact .inr ⟨u, List.mem_cons_of_mem _ hu, h⟩
theorem dec_digits (u : Nat) : ∀ b ∈ decDigits u, 48 ≤ b.toNat ∧ b.toNat ≤ 57 := by
  induction u using Nat.strongRecOn with
  | _ u ih =>
    intro b hb
    rw [decDigits] at hb
    split at hb
    · rename_i h
      rw [List.mem_singleton] at hb
      subst hb
      simp [UInt8.toNat_ofNat']; omega
    · rename_i h
      rcases List.mem_append.1 hb with hb | hb
      · exact ih (u / 10) (by omega) b hb
      · rw [List.mem_singleton] at hb
        subst hb
        simp [UInt8.toNat_ofNat']; omega
theorem num_ok (n : Int) (h0 : 0 ≤ n) (h : n ≤ 72057594037927935) : conf_Digits.f (num n) = some (n, true) ∧ (toL (num n)).length ≤ 17 ∧ ∀ b ∈ toL (num n), 48 ≤ b.toNat ∧ b.toNat ≤ 57 := by
  obtain ⟨u, rfl⟩ := Int.eq_ofNat_of_zero_le h0
  have e : itoa (u : Int) = decDigits u := itoa_nonneg u
  have hl := Own.dec_len 16 u (by omega)
  unfold num
  rw [toL_ofL, e]
  refine ⟨?_, hl, dec_digits u⟩
  unfold conf_Digits.f
  have hsz : (ofL (decDigits u)).size ≤ 281474976710656 := by rw [size_ofL]; omega
  rw [if_pos hsz]
  have hne := Own.dec_ne u
  have hlp : 1 ≤ (decDigits u).length := List.length_pos_iff.mpr hne
  have hd : (ofL (decDigits u)).data.toList = decDigits u := toL_ofL _
  rw [hd, val_end _ hlp hl (Own.dec_canon u), Own.dec_round u]
  show some (if ((u : Nat) : Int) > 72057594037927935 then ((0 : Int), false) else ((u : Int), true)) = _
  rw [if_neg (by omega)]
theorem tell_bit (u i : Nat) (hu : u < 18446744073709551616) : names_Tell.bit (u : Int) i = u.testBit i := by
  unfold names_Tell.bit
  have hq : (u : Int) / 2 ^ i = ((u / 2 ^ i : Nat) : Int) := by
    rw [show ((2 : Int) ^ i) = ((2 ^ i : Nat) : Int) by simp]; rfl
  have hd : u / 2 ^ i ≤ u := Nat.div_le_self _ _
  rw [hq, Nat.testBit_eq_decide_div_mod_eq]
  generalize u / 2 ^ i = q at *
  have := (bits_nat .u64 64 (by decide) wrap_u64' q 1 (by omega) (by decide)).1
  rw [show (((1 : Nat) : Int)) = 1 from rfl] at this
  rw [this, Nat.and_one_is_mod]
  by_cases hx : q % 2 = 1
  · rw [decide_eq_true hx, hx]; rfl
  · rw [decide_eq_false hx, show q % 2 = 0 by omega]; rfl
theorem or_bit (a i : Nat) (ha : a < 18446744073709551616) (hi : i < 64) : Go.bits .or .u64 (a : Int) (shl .u64 1 (i : Int)) = ((a ||| 2 ^ i : Nat) : Int) ∧ a ||| 2 ^ i < 18446744073709551616 := by
  have hp := two_pow_le i (by omega)
  have hs : shl .u64 1 (i : Int) = ((2 ^ i : Nat) : Int) := by
    unfold shl
    rw [show min ((i : Int)).toNat (IntKind.bits .u64) = i by show min i 64 = i; omega, Int.one_mul, show (2 : Int) ^ i = ((2 ^ i : Nat) : Int) by simp]
    exact wrap_u64 _ (Int.natCast_nonneg _) (by omega)
  rw [hs]
  exact ⟨(bits_nat .u64 64 (by decide) wrap_u64' a (2 ^ i) (by omega) (by omega)).2, Nat.or_lt_two_pow (n := 64) (by omega) (by omega)⟩
def placeN (l : List ByteArray) (s : ByteArray) : Int := firstN (fun i => (l.getD i ByteArray.empty).toList == s.toList) l.length 0
theorem place_eq (l : List ByteArray) (s : ByteArray) (h : l.length ≤ 9223372036854775807) : names_Place.f l s = some (placeN l s) := by unfold names_Place.f; rw [if_pos h]; rfl
theorem firstN_at (p : Nat → Bool) : ∀ (k i m : Nat), i ≤ m → m < i + k → p m = true → (∀ j, i ≤ j → j < m → p j = false) → firstN p k i = m := by
  intro k
  induction k with
  | zero => intro i m h1 h2; omega
  | succ k ih =>
    intro i m h1 h2 h3 h4
    unfold firstN
    by_cases hm : i = m
    · subst hm; rw [if_pos h3]
    · rw [if_neg (by rw [h4 i (Nat.le_refl _) (by omega)]; decide)]
      exact ih (i + 1) m (by omega) (by omega) h3 (fun j hj => h4 j (by omega))
theorem firstN_none (p : Nat → Bool) : ∀ (k i : Nat), firstN p k i < 0 → ∀ j, i ≤ j → j < i + k → p j = false := by
  intro k
  induction k with
  | zero => intro i _ j h1 h2; omega
  | succ k ih =>
    intro i h j h1 h2
    unfold firstN at h
    by_cases hp : p i = true
    · rw [if_pos hp] at h; omega
    · rw [if_neg hp] at h
      by_cases hj : j = i
      · rw [hj]; exact eq_false_of_ne_true hp
      · exact ih (i + 1) h j (by omega) (by omega)
theorem less_irrefl : ∀ a : List UInt8, Op.bytesLess a a = false
  | [] => rfl
  | b :: a => by
    have : ¬ b < b := fun h => by have := UInt8.lt_iff_toNat_lt.mp h; omega
    simp [Op.bytesLess, this, less_irrefl a]
theorem less_cons (x y : UInt8) (a b : List UInt8) : Op.bytesLess (x :: a) (y :: b) = if x.toNat < y.toNat then true else if y.toNat < x.toNat then false else Op.bytesLess a b := by
  simp only [Op.bytesLess]
  have t : ∀ u v : UInt8, u < v ↔ u.toNat < v.toNat := fun u v => UInt8.lt_iff_toNat_lt
  rcases Nat.lt_trichotomy x.toNat y.toNat with h | h | h
  · have h1 := (t x y).mpr h
    simp [h1, h]
  · have h1 : x = y := UInt8.toNat_inj.mp h
    subst h1
    have h2 : ¬ x < x := fun h => by have := (t x x).mp h; omega
    simp [h2]
  · have h1 := (t y x).mpr h
    have h2 : ¬ x < y := fun h' => by have := (t x y).mp h'; omega
    have h3 : ¬ x = y := fun h => by subst h; omega
    simp [h2, h3, h, show ¬ x.toNat < y.toNat by omega]
theorem less_trans : ∀ a b c : List UInt8, Op.bytesLess a b = true → Op.bytesLess b c = true → Op.bytesLess a c = true := by
  intro a
  induction a with
  | nil =>
    intro b c h1 h2
    cases b with
    | nil => simp [Op.bytesLess] at h1
    | cons y b => cases c with
      | nil => simp [Op.bytesLess] at h2
      | cons z c => simp [Op.bytesLess]
  | cons x a ih =>
    intro b c h1 h2
    cases b with
    | nil => simp [Op.bytesLess] at h1
    | cons y b => cases c with
      | nil => simp [Op.bytesLess] at h2
      | cons z c =>
        rw [less_cons] at h1 h2 ⊢
        by_cases e1 : x.toNat < y.toNat
        · by_cases e3 : z.toNat < y.toNat
          · rw [if_neg (by omega), if_pos e3] at h2; cases h2
          · rw [if_pos (by omega)]
        · rw [if_neg e1] at h1
          by_cases e2 : y.toNat < x.toNat
          · rw [if_pos e2] at h1; cases h1
          · rw [if_neg e2] at h1
            by_cases e3 : y.toNat < z.toNat
            · rw [if_pos (by omega)]
            · rw [if_neg e3] at h2
              by_cases e4 : z.toNat < y.toNat
              · rw [if_pos e4] at h2; cases h2
              · rw [if_neg e4] at h2
                rw [if_neg (by omega), if_neg (by omega)]
                exact ih b c h1 h2
end Go.Proofs.YtmppkcdphgelcaaDoor.PConf
set_option linter.unusedVariables false
set_option linter.unusedSimpArgs false
namespace Go.Proofs.YtmppkcdphgelcaaDoor.PConf
open Go.RowKit Go.Proofs.YtmppkcdphgelcaaDoor Go.Proofs.YtmppkcdphgelcaaDoorW.PrintWords Go.Proofs.YtmppkcdphgelcaaDoorW.PrintMore Go.Lib Go.Proofs.YtmppkcdphgelcaaDoor.Own
theorem letter_ge (c : Int) (h : glyph_Name.letter c = true) : 48 ≤ c := by
  have h2 := glyph_Name.letter_some c
  rw [h] at h2
  unfold glyph_Letter.f at h2
  by_cases hc : 48 ≤ c
  · exact hc
  · exfalso
    rw [if_neg (by omega), if_neg (by omega), if_neg (by omega)] at h2
    cases h2
theorem name_bytes (s : ByteArray) : ∀ (f pos n : Nat), s.size ≤ pos + f → glyph_Name.from s f pos n = true → ∀ i, pos ≤ i → i < s.size → gb s i ≠ 32 ∧ gb s i ≠ 10 := by
  intro f
  induction f with
  | zero => intro pos n h _ i h1 h2; omega
  | succ f ih =>
    intro pos n h hn i h1 h2
    unfold glyph_Name.from at hn
    have hp : pos < s.size := by omega
    rw [if_pos hp] at hn
    split at hn
    · rename_i hl
      have hd : Utf8.decode s pos = decodeN (s.size - pos) (gb s pos) (gb s (pos + 1)) (gb s (pos + 2)) (gb s (pos + 3)) := decode_at s pos
      have hge := letter_ge _ hl.1
      rcases size_dec (s.size - pos) (gb s pos) (gb s (pos + 1)) (gb s (pos + 2)) (gb s (pos + 3)) (by omega) (gb_lt _ _) (gb_lt _ _) (gb_lt _ _) (gb_lt _ _) with ⟨_, e⟩ | ⟨_, g0, e⟩ | ⟨_, _, g0, g1, e⟩ | ⟨_, _, g0, g1, g2, e⟩ | ⟨_, _, g0, g1, g2, g3, e⟩
      · rw [hd, e] at hl
        exact absurd hl.1 (by rw [show (((65533 : Nat)) : Int) = 65533 from rfl, letter_bad]; decide)
      all_goals
        rw [hd, e] at hn hge
        simp only at hn hge
      · by_cases hi : i = pos
        · subst hi; omega
        · exact ih (pos + 1) (n + 1) (by omega) hn i (by omega) h2
      · by_cases hi : i < pos + 2
        · obtain rfl | rfl : i = pos ∨ i = pos + 1 := by omega
          all_goals omega
        · exact ih (pos + 2) (n + 1) (by omega) hn i (by omega) h2
      · by_cases hi : i < pos + 3
        · obtain rfl | rfl | rfl : i = pos ∨ i = pos + 1 ∨ i = pos + 2 := by omega
          all_goals omega
        · exact ih (pos + 3) (n + 1) (by omega) hn i (by omega) h2
      · by_cases hi : i < pos + 4
        · obtain rfl | rfl | rfl | rfl : i = pos ∨ i = pos + 1 ∨ i = pos + 2 ∨ i = pos + 3 := by omega
          all_goals omega
        · exact ih (pos + 4) (n + 1) (by omega) hn i (by omega) h2
    · cases hn
theorem mem_gb (s : ByteArray) (b : UInt8) (h : b ∈ toL s) : ∃ i, i < s.size ∧ gb s i = b.toNat := by
  obtain ⟨i, hi⟩ := List.getElem?_of_mem h
  obtain ⟨hlt, he⟩ := List.getElem?_eq_some_iff.1 hi
  rw [← size_toL] at hlt
  refine ⟨i, hlt, ?_⟩
  unfold gb
  have : s.get! i = b := by
    cases s with
    | mk d =>
      show d[i]! = b
      have hlt' : i < d.size := hlt
      rw [getElem!_pos d i hlt', ← he]; simp [toL]
  rw [this]
theorem name_clean (s : ByteArray) (h : glyph_Name.from s s.size 0 0 = true) : (32 : UInt8) ∉ toL s ∧ (10 : UInt8) ∉ toL s := by
  have hb := name_bytes s s.size 0 0 (by omega) h
  constructor
  · intro hm
    obtain ⟨i, hi, e⟩ := mem_gb s 32 hm
    exact (hb i (by omega) hi).1 e
  · intro hm
    obtain ⟨i, hi, e⟩ := mem_gb s 10 hm
    exact (hb i (by omega) hi).2 e
structure Table (nm : List ByteArray) : Prop where
  len : nm.length ≤ 16
  clean : ∀ s ∈ nm, (32 : UInt8) ∉ toL s ∧ (10 : UInt8) ∉ toL s
  less : ∀ i, i + 1 < nm.length → Op.bytesLess (nm.getD i ByteArray.empty).toList (nm.getD (i + 1) ByteArray.empty).toList = true
theorem table_of {nm : List ByteArray} (h : namesN nm = 0) : Table nm := by
  have hl := names_small h
  unfold namesN at h
  rw [if_neg (by omega)] at h
  by_cases h1 : names_Check.named nm = false
  · rw [if_pos h1] at h; cases h
  · rw [if_neg h1] at h
    have h1' : names_Check.named nm = true := by simpa using h1
    by_cases h2 : 0 ≤ firstN (names_Check.geq nm) (nm.length - 1) 0
    · rw [if_pos h2] at h; cases h
    · refine ⟨hl, fun s hs => ?_, fun i hi => ?_⟩
      · unfold names_Check.named at h1'
        exact name_clean s (List.all_eq_true.1 h1' s hs)
      · have := firstN_none (names_Check.geq nm) (nm.length - 1) 0 (by omega) i (by omega) (by omega)
        unfold names_Check.geq at this
        simpa using this
theorem Table.lt {nm : List ByteArray} (h : Table nm) : ∀ (d i : Nat), i + (d + 1) < nm.length → Op.bytesLess (nm.getD i ByteArray.empty).toList (nm.getD (i + (d + 1)) ByteArray.empty).toList = true := by
  intro d
  induction d with
  | zero => intro i hi; exact h.less i hi
  | succ d ih =>
    intro i hi
    have h1 := ih i (by omega)
    have h2 := h.less (i + (d + 1)) (by omega)
    exact less_trans _ _ _ h1 h2
theorem Table.ne {nm : List ByteArray} (h : Table nm) (i j : Nat) (hij : i < j) (hj : j < nm.length) : ¬ nm.getD i ByteArray.empty = nm.getD j ByteArray.empty := by
  intro e
  obtain ⟨d, rfl⟩ : ∃ d, j = i + (d + 1) := ⟨j - i - 1, by omega⟩
  have := h.lt d i hj
  rw [← e, less_irrefl] at this
  cases this
theorem Table.place {nm : List ByteArray} (h : Table nm) (i : Nat) (hi : i < nm.length) : placeN nm (nm.getD i ByteArray.empty) = i := by
  unfold placeN
  refine firstN_at _ nm.length 0 i (by omega) (by omega) (by simp) (fun j _ hj => ?_)
  have := h.ne j i hj hi
  rw [beq_eq_false_iff_ne, ne_eq, toList_toL, toList_toL]
  exact fun e => this (toL_inj e)
def setF (nm : List ByteArray) (acc : Nat) (s : ByteArray) : Nat := acc ||| 2 ^ (placeN nm s).toNat
theorem mn_small (n : Nat) (h : n ≤ 16) : mn (n : Int) 64 = n := by unfold mn; omega
theorem set_loop (nm : List ByteArray) (hl : nm.length ≤ 16) (xs : List ByteArray) (hx : ∀ s ∈ xs, ∃ i : Nat, i < nm.length ∧ placeN nm s = i) (hxl : xs.length ≤ 1000000000) : ∀ (j i k acc : Nat), i + j = xs.length → j < k → acc < 18446744073709551616 →
    names_Set.l0 k nm (acc : Int) xs (xs.length : Int) i = some ((((xs.drop i).foldl (setF nm) acc : Nat) : Int), -1, 0) := by
  intro j
  induction j with
  | zero =>
    intro i k acc h hk ha
    obtain ⟨k, rfl⟩ : ∃ m, k = m + 1 := ⟨k - 1, by omega⟩
    rw [names_Set.l0, if_neg (by omega), List.drop_eq_nil_of_le (by omega)]; rfl
  | succ j ih =>
    intro i k acc h hk ha
    obtain ⟨k, rfl⟩ : ∃ m, k = m + 1 := ⟨k - 1, by omega⟩
    have hlt : i < xs.length := by omega
    obtain ⟨p, hp, he⟩ := hx xs[i] (List.getElem_mem hlt)
    obtain ⟨ho, hlt2⟩ := or_bit acc p ha (by omega)
    rw [names_Set.l0, if_pos (by omega), if_pos (by omega), if_pos (by omega), mn_small _ hl, if_pos (by omega), if_pos (by omega), Int.toNat_natCast, List.take_length, rdOf_at xs i hlt, place_eq nm _ (by omega), he]
    simp only [Option.bind_some]
    rw [if_neg (by omega), if_pos (by omega), ho, show wrap64 ((i : Int) + 1) = ((i + 1 : Nat) : Int) from wrap_nat (i + 1) (by omega), ih (i + 1) k _ (by omega) (by omega) hlt2, List.drop_eq_getElem_cons hlt, List.foldl_cons]
    unfold setF
    rw [he, Int.toNat_natCast]
theorem tell_mem (nm : List ByteArray) (u : Int) : ∀ (m : Nat), ∀ s ∈ names_Tell.upto nm u m, ∃ i, i < m ∧ s = nm.getD i ByteArray.empty := by
  intro m
  induction m with
  | zero => intro s hs; simp [names_Tell.upto] at hs
  | succ m ih =>
    intro s hs
    unfold names_Tell.upto at hs
    rcases List.mem_append.1 hs with hs | hs
    · obtain ⟨i, h1, h2⟩ := ih s hs; exact ⟨i, by omega, h2⟩
    · split at hs
      · rw [List.mem_singleton] at hs; exact ⟨m, by omega, hs⟩
      · cases hs
theorem mod_bit (u m : Nat) : u % 2 ^ (m + 1) = if u.testBit m then u % 2 ^ m ||| 2 ^ m else u % 2 ^ m := by
  apply Nat.eq_of_testBit_eq
  intro i
  by_cases hb : u.testBit m = true
  · rw [if_pos hb]
    simp only [Nat.testBit_or, Nat.testBit_mod_two_pow, Nat.testBit_two_pow]
    by_cases h1 : i < m
    · simp [h1, show i < m + 1 by omega, show ¬ m = i by omega]
    · by_cases h2 : i = m
      · subst h2; simp [hb]
      · simp [h1, show ¬ i < m + 1 by omega, show ¬ m = i by omega]
  · rw [if_neg hb]
    simp only [Nat.testBit_mod_two_pow]
    by_cases h1 : i < m
    · simp [h1, show i < m + 1 by omega]
    · by_cases h2 : i = m
      · subst h2; simp [eq_false_of_ne_true hb]
      · simp [h1, show ¬ i < m + 1 by omega]
theorem tell_fold {nm : List ByteArray} (h : Table nm) (u : Nat) (hu : u < 18446744073709551616) : ∀ m, m ≤ nm.length → (names_Tell.upto nm u m).foldl (setF nm) 0 = u % 2 ^ m := by
  intro m
  induction m with
  | zero => intro _; simp [names_Tell.upto, Nat.mod_one]
  | succ m ih =>
    intro hm
    rw [names_Tell.upto, List.foldl_append, ih (by omega), tell_bit u m hu, mod_bit]
    split
    · rw [List.foldl_cons, List.foldl_nil]
      unfold setF
      rw [h.place m (by omega), Int.toNat_natCast]
    · rfl
def tellL (nm : List ByteArray) (u : Int) : List ByteArray := names_Tell.upto nm u (min nm.length 64)
theorem tell_eq (nm : List ByteArray) (u : Int) : names_Tell.f nm u = some (tellL nm u) := rfl
theorem tellL_mem {nm : List ByteArray} (u : Int) : ∀ s ∈ tellL nm u, s ∈ nm := by
  intro s hs
  obtain ⟨i, hi, rfl⟩ := tell_mem nm u _ s hs
  have : i < nm.length := by omega
  rw [List.getD_eq_getElem?_getD, List.getElem?_eq_getElem this]
  exact List.getElem_mem this
theorem tellL_len (nm : List ByteArray) (u : Int) : (tellL nm u).length ≤ nm.length := Nat.le_trans (names_Tell.len nm u _) (by omega)
theorem set_tell {nm : List ByteArray} (h : Table nm) (u : Nat) (hu : u < 2 ^ nm.length) (k : Nat) (hk : 20 ≤ k) : names_Set.f k nm (tellL nm u) = some ((u : Int), -1, 0) := by
  have hl := h.len
  have hu64 : u < 18446744073709551616 := by
    have : 2 ^ nm.length ≤ 2 ^ 16 := Nat.pow_le_pow_right (by decide) hl
    omega
  have hlen := tellL_len nm u
  unfold names_Set.f
  rw [show (0 : Int) = ((0 : Nat) : Int) from rfl, set_loop nm hl (tellL nm u) (fun s hs => by
    obtain ⟨i, hi, rfl⟩ := tell_mem nm u _ s hs
    exact ⟨i, by omega, h.place i (by omega)⟩) (by omega) (tellL nm u).length 0 k 0 (by omega) (by omega) (by decide), List.drop_zero]
  unfold tellL
  rw [show min nm.length 64 = nm.length by omega, tell_fold h u hu64 nm.length (Nat.le_refl _), Nat.mod_eq_of_lt hu]
  rfl
end Go.Proofs.YtmppkcdphgelcaaDoor.PConf
set_option linter.unusedVariables false
set_option linter.unusedSimpArgs false
namespace Go.Proofs.YtmppkcdphgelcaaDoor.PConf
open Go.RowKit Go.Proofs.YtmppkcdphgelcaaDoor Go.Proofs.YtmppkcdphgelcaaDoorW.PrintWords Go.Proofs.YtmppkcdphgelcaaDoorW.PrintMore Go.Lib Go.Proofs.YtmppkcdphgelcaaDoor.Own
def bCluster : ByteArray := ⟨#[99, 108, 117, 115, 116, 101, 114]⟩
def bNames : ByteArray := ⟨#[110, 97, 109, 101, 115]⟩
def bWorker : ByteArray := ⟨#[119, 111, 114, 107, 101, 114]⟩
def headW (a0 a1 a2 a3 a4 : Int) : List ByteArray := [bCluster, num a0, num a1, num a2, num a3, num a4]
def namesW (nm : List ByteArray) : List ByteArray := bNames :: nm
def workW (nm : List ByteArray) (w : S79) : List ByteArray := [bWorker, num w.f0, num w.f1] ++ tellL nm w.f2
def worksL (nm : List ByteArray) (wk : List S79) : List UInt8 := (wk.map fun w => lineL (workW nm w) ++ [10]).flatten
def textL (c : CF) : List UInt8 := lineL (headW c.a0 c.a1 c.a2 c.a3 c.a4) ++ 10 :: (lineL (namesW c.nm) ++ 10 :: worksL c.nm c.wk)
structure Fine (c : CF) : Prop where
  check : checkN c.a0 c.a1 c.a2 c.a3 c.a4 c.nm c.wk = 0
  small : ∀ s ∈ c.nm, s.size ≤ 4000
  bits : ∀ w ∈ c.wk, 0 ≤ w.f2 ∧ w.f2 < 18446744073709551616
structure Ranges (a0 a1 a2 a3 a4 : Int) : Prop where
  all : 1 ≤ a0 ∧ a0 ≤ 8 ∧ 1 ≤ a1 ∧ a1 ≤ 1000 ∧ 1 ≤ a2 ∧ a2 ≤ 1000 ∧ 0 ≤ a3 ∧ a3 ≤ 65536 ∧ 1 ≤ a4 ∧ a4 ≤ 16
theorem check_parts {a0 a1 a2 a3 a4 : Int} {nm : List ByteArray} {wk : List S79} (h : checkN a0 a1 a2 a3 a4 nm wk = 0) : Ranges a0 a1 a2 a3 a4 ∧ namesN nm = 0 ∧ (1 ≤ wk.length ∧ wk.length ≤ 64) ∧ wk.all (okW nm.length) = true := by
  unfold checkN at h
  by_cases h1 : 1 ≤ a0 ∧ a0 ≤ 8 ∧ 1 ≤ a1 ∧ a1 ≤ 1000 ∧ 1 ≤ a2 ∧ a2 ≤ 1000 ∧ 0 ≤ a3 ∧ a3 ≤ 65536 ∧ 1 ≤ a4 ∧ a4 ≤ 16
  · rw [if_pos h1] at h
    by_cases h2 : namesN nm = 0
    · rw [if_pos h2] at h
      by_cases h3 : 1 ≤ wk.length ∧ wk.length ≤ 64
      · rw [if_pos h3] at h
        by_cases h4 : wk.all (okW nm.length) = true
        · exact ⟨⟨h1⟩, h2, h3, h4⟩
        · rw [if_neg h4] at h; cases h
      · rw [if_neg h3] at h; cases h
    · rw [if_neg h2] at h; exact absurd h h2
  · rw [if_neg h1] at h; cases h
theorem check_mk {a0 a1 a2 a3 a4 : Int} {nm : List ByteArray} {wk : List S79} (h1 : Ranges a0 a1 a2 a3 a4) (h2 : namesN nm = 0) (h3 : 1 ≤ wk.length ∧ wk.length ≤ 64) (h4 : wk.all (okW nm.length) = true) : checkN a0 a1 a2 a3 a4 nm wk = 0 := by
  unfold checkN
  rw [if_pos h1.all, if_pos h2, if_pos h3, if_pos h4]
theorem okW_parts {n : Nat} {w : S79} (h : okW n w = true) : 1 ≤ w.f0 ∧ w.f0 ≤ 255 ∧ 1 ≤ w.f1 ∧ w.f1 ≤ 64 ∧ w.f2 < ((2 ^ n : Nat) : Int) := of_decide_eq_true h
theorem num_clean (n : Int) (h0 : 0 ≤ n) (h : n ≤ 72057594037927935) : (32 : UInt8) ∉ toL (num n) ∧ (10 : UInt8) ∉ toL (num n) := by
  obtain ⟨_, _, hb⟩ := num_ok n h0 h
  constructor
  · intro hm; have := (hb 32 hm).1; exact absurd this (by decide)
  · intro hm; have := (hb 10 hm).1; exact absurd this (by decide)
structure Words (ws : List ByteArray) : Prop where
  clean : ∀ w ∈ ws, (32 : UInt8) ∉ toL w ∧ (10 : UInt8) ∉ toL w
  len : ∀ w ∈ ws, (toL w).length ≤ 4000
  few : ws.length ≤ 40
theorem Words.line_len {ws : List ByteArray} (h : Words ws) : (lineL ws).length ≤ 160040 := by
  have := jn_len (ws.map toL) 4000 (fun w hw => by obtain ⟨x, hx, rfl⟩ := List.mem_map.1 hw; exact h.len x hx)
  rw [List.length_map] at this
  have h2 := h.few
  unfold lineL
  omega
theorem Words.line {ws : List ByteArray} (h : Words ws) : conf_line.f ws = some (ofL (lineL ws ++ [10])) := line_eq ws (by have := h.few; omega) (by have := h.line_len; omega)
theorem Words.no10 {ws : List ByteArray} (h : Words ws) : (10 : UInt8) ∉ lineL ws := by
  intro hm
  rcases jn_mem _ _ hm with e | ⟨w, hw, hx⟩
  · exact absurd e (by decide)
  · obtain ⟨x, hx', rfl⟩ := List.mem_map.1 hw
    exact (h.clean x hx').2 hx
theorem Words.back {ws : List ByteArray} (h : Words ws) (h0 : ws ≠ []) : confWords (ofL (lineL ws)) = ws := words_line ws h0 (fun w hw => (h.clean w hw).1)
theorem head_words {a0 a1 a2 a3 a4 : Int} (h : Ranges a0 a1 a2 a3 a4) : Words (headW a0 a1 a2 a3 a4) := by
  have r := h.all
  have hn : ∀ n : Int, 0 ≤ n → n ≤ 65536 → ((32 : UInt8) ∉ toL (num n) ∧ (10 : UInt8) ∉ toL (num n)) ∧ (toL (num n)).length ≤ 4000 := fun n h0 h1 =>
    ⟨num_clean n h0 (by omega), by have := (num_ok n h0 (by omega)).2.1; omega⟩
  have hc : ((32 : UInt8) ∉ toL bCluster ∧ (10 : UInt8) ∉ toL bCluster) ∧ (toL bCluster).length ≤ 4000 := by unfold bCluster toL; decide
  have hall : ∀ w ∈ headW a0 a1 a2 a3 a4, ((32 : UInt8) ∉ toL w ∧ (10 : UInt8) ∉ toL w) ∧ (toL w).length ≤ 4000 := by
    intro w hw
    unfold headW at hw
    simp only [List.mem_cons, List.not_mem_nil, or_false] at hw
    rcases hw with rfl | rfl | rfl | rfl | rfl | rfl
    · exact hc
    all_goals exact hn _ (by omega) (by omega)
  exact ⟨fun w hw => (hall w hw).1, fun w hw => (hall w hw).2, by simp [headW]⟩
theorem names_words {nm : List ByteArray} (h : Table nm) (hs : ∀ s ∈ nm, s.size ≤ 4000) : Words (namesW nm) := by
  have hc : ((32 : UInt8) ∉ toL bNames ∧ (10 : UInt8) ∉ toL bNames) ∧ (toL bNames).length ≤ 4000 := by unfold bNames toL; decide
  refine ⟨fun w hw => ?_, fun w hw => ?_, by have := h.len; simp [namesW]; omega⟩
  · rcases List.mem_cons.1 hw with rfl | hw
    · exact hc.1
    · exact h.clean w hw
  · rcases List.mem_cons.1 hw with rfl | hw
    · exact hc.2
    · rw [← size_toL]; exact hs w hw
theorem work_words {nm : List ByteArray} (h : Table nm) (hs : ∀ s ∈ nm, s.size ≤ 4000) {w : S79} (hw0 : 0 ≤ w.f0 ∧ w.f0 ≤ 72057594037927935) (hw1 : 0 ≤ w.f1 ∧ w.f1 ≤ 72057594037927935) : Words (workW nm w) := by
  have hc : ((32 : UInt8) ∉ toL bWorker ∧ (10 : UInt8) ∉ toL bWorker) ∧ (toL bWorker).length ≤ 4000 := by unfold bWorker toL; decide
  have hn : ∀ n : Int, 0 ≤ n → n ≤ 72057594037927935 → ((32 : UInt8) ∉ toL (num n) ∧ (10 : UInt8) ∉ toL (num n)) ∧ (toL (num n)).length ≤ 4000 := fun n h0 h1 =>
    ⟨num_clean n h0 h1, by have := (num_ok n h0 h1).2.1; omega⟩
  have hall : ∀ x ∈ workW nm w, ((32 : UInt8) ∉ toL x ∧ (10 : UInt8) ∉ toL x) ∧ (toL x).length ≤ 4000 := by
    intro x hx
    rcases List.mem_append.1 hx with hx | hx
    · simp only [List.mem_cons, List.not_mem_nil, or_false] at hx
      rcases hx with rfl | rfl | rfl
      · exact hc
      · exact hn _ hw0.1 hw0.2
      · exact hn _ hw1.1 hw1.2
    · have := tellL_mem _ x hx
      exact ⟨h.clean x this, by rw [← size_toL]; exact hs x this⟩
  refine ⟨fun x hx => (hall x hx).1, fun x hx => (hall x hx).2, ?_⟩
  have h1 := tellL_len nm w.f2
  have h2 := h.len
  unfold workW
  rw [List.length_append]
  simp only [List.length_cons, List.length_nil]
  omega
theorem workerLine_eq {nm : List ByteArray} (h : Table nm) (hs : ∀ s ∈ nm, s.size ≤ 4000) (a0 a1 a2 a3 a4 : Int) (wk : List S79) {w : S79} (hw0 : 0 ≤ w.f0 ∧ w.f0 ≤ 72057594037927935) (hw1 : 0 ≤ w.f1 ∧ w.f1 ≤ 72057594037927935) : conf_workerLine.f a0 a1 a2 a3 a4 nm wk w.f0 w.f1 w.f2 = some (ofL (lineL (workW nm w) ++ [10])) := by
  have hl := (work_words h hs hw0 hw1).line
  have h1 := tellL_len nm w.f2
  have h2 := h.len
  unfold conf_workerLine.f
  rw [num_eq _ (by omega), num_eq _ (by omega), tell_eq]
  simp only [Option.bind_some, List.length_cons, List.length_nil]
  rw [if_pos (by omega)]
  have e : conf_line.f ([(⟨#[119, 111, 114, 107, 101, 114]⟩ : ByteArray), num w.f0, num w.f1] ++ tellL nm w.f2) = some (ofL (lineL (workW nm w) ++ [10])) := hl
  rw [e]; rfl
theorem text_loop {nm : List ByteArray} (h : Table nm) (hs : ∀ s ∈ nm, s.size ≤ 4000) (a0 a1 a2 a3 a4 : Int) (wk x6 : List S79) (hwl : wk.length ≤ 64) (hok : ∀ w ∈ wk, okW nm.length w = true) : ∀ (j i k : Nat) (acc : ByteArray), i + j = wk.length → j < k → acc.size + j * 200000 ≤ 100000000 →
    conf_Text.l0 k acc wk (wk.length : Int) i a0 a1 a2 a3 a4 nm x6 = some (acc ++ ofL (worksL nm (wk.drop i))) := by
  intro j
  induction j with
  | zero =>
    intro i k acc h1 hk ha
    obtain ⟨k, rfl⟩ : ∃ m, k = m + 1 := ⟨k - 1, by omega⟩
    rw [conf_Text.l0, if_neg (by omega), List.drop_eq_nil_of_le (by omega)]
    congr 1
    exact toL_inj (by rw [toL_append, toL_ofL]; simp [worksL])
  | succ j ih =>
    intro i k acc h1 hk ha
    obtain ⟨k, rfl⟩ : ∃ m, k = m + 1 := ⟨k - 1, by omega⟩
    have hlt : i < wk.length := by omega
    have hw := okW_parts (hok wk[i] (List.getElem_mem hlt))
    have hwd := work_words h hs (w := wk[i]) (by omega) (by omega)
    have hll := hwd.line_len
    have hsz : (ofL (lineL (workW nm wk[i]) ++ [10])).size ≤ 160041 := by rw [size_ofL, List.length_append]; simp only [List.length_singleton]; omega
    rw [conf_Text.l0, if_pos (by omega), if_pos (by omega), if_pos (by omega), rd_wk wk i hlt, workerLine_eq h hs a0 a1 a2 a3 a4 x6 (by omega) (by omega)]
    simp only [Option.bind_some]
    rw [if_pos (by omega), show wrap64 ((i : Int) + 1) = ((i + 1 : Nat) : Int) from wrap_nat (i + 1) (by omega), ih (i + 1) k _ (by omega) (by omega) (by rw [ByteArray.size_append]; omega), List.drop_eq_getElem_cons hlt]
    congr 1
    exact toL_inj (by simp only [toL_append, toL_ofL, worksL, List.map_cons, List.flatten_cons, List.append_assoc])
theorem fine_ok {c : CF} (h : Fine c) : ∀ w ∈ c.wk, okW c.nm.length w = true := fun w hw => List.all_eq_true.1 (check_parts h.check).2.2.2 w hw
theorem text_eq {c : CF} (h : Fine c) (k : Nat) (hk : 100 ≤ k) : conf_Text.f k c.a0 c.a1 c.a2 c.a3 c.a4 c.nm c.wk = some (ofL (textL c)) := by
  obtain ⟨hr, hn, hw, ha⟩ := check_parts h.check
  have ht := table_of hn
  have r := hr.all
  have hl0 := (head_words hr).line
  have hl1 := (names_words ht h.small).line
  have h0l := (head_words hr).line_len
  have h1l := (names_words ht h.small).line_len
  have hnl := ht.len
  unfold conf_Text.f
  rw [conf_check c.a0 c.a1 c.a2 c.a3 c.a4 c.nm c.wk (fun s hs => by have := h.small s hs; omega) (by omega) h.bits k (by omega), h.check]
  simp only [Option.bind_some, if_true]
  rw [num_eq _ (by omega), num_eq _ (by omega), num_eq _ (by omega), num_eq _ (by omega), num_eq _ (by omega)]
  simp only [Option.bind_some]
  have e0 : conf_line.f [(⟨#[99, 108, 117, 115, 116, 101, 114]⟩ : ByteArray), num c.a0, num c.a1, num c.a2, num c.a3, num c.a4] = some (ofL (lineL (headW c.a0 c.a1 c.a2 c.a3 c.a4) ++ [10])) := hl0
  have e1 : conf_line.f ([(⟨#[110, 97, 109, 101, 115]⟩ : ByteArray)] ++ c.nm) = some (ofL (lineL (namesW c.nm) ++ [10])) := hl1
  rw [e0]
  simp only [Option.bind_some, List.length_singleton]
  rw [if_pos (by omega), e1]
  simp only [Option.bind_some, size_ofL, List.length_append, List.length_singleton]
  rw [if_pos (by omega), show (0 : Int) = ((0 : Nat) : Int) from rfl, text_loop ht h.small c.a0 c.a1 c.a2 c.a3 c.a4 c.wk c.wk hw.2 (fine_ok h) c.wk.length 0 k _ (by omega) (by omega) (by rw [ByteArray.size_append, size_ofL, size_ofL, List.length_append, List.length_append]; simp only [List.length_singleton]; omega), List.drop_zero]
  congr 1
  refine toL_inj ?_
  rw [toL_append, toL_append, toL_ofL, toL_ofL, toL_ofL, toL_ofL]
  simp [textL]
end Go.Proofs.YtmppkcdphgelcaaDoor.PConf
set_option linter.unusedVariables false
set_option linter.unusedSimpArgs false
namespace Go.Proofs.YtmppkcdphgelcaaDoor.PConf
open Go.RowKit Go.Proofs.YtmppkcdphgelcaaDoor Go.Proofs.YtmppkcdphgelcaaDoorW.PrintWords Go.Proofs.YtmppkcdphgelcaaDoorW.PrintMore Go.Lib Go.Proofs.YtmppkcdphgelcaaDoor.Own
theorem numbers_loop (ns : List Int) (hn : ∀ n ∈ ns, 0 ≤ n ∧ n ≤ 72057594037927935) (hl : ns.length ≤ 1000) (c : Int) : ∀ (j i k : Nat) (acc : List Int), i + j = ns.length → j < k → acc.length ≤ i →
    conf_numbers.l0 k c acc (ns.map num) (((ns.map num).length : Nat) : Int) i = some (acc ++ ns.drop i, ((acc ++ ns.drop i).length : Int) == c) := by
  intro j
  induction j with
  | zero =>
    intro i k acc h hk ha
    obtain ⟨k, rfl⟩ : ∃ m, k = m + 1 := ⟨k - 1, by omega⟩
    rw [conf_numbers.l0, if_neg (by rw [List.length_map]; omega), List.drop_eq_nil_of_le (by omega), List.append_nil]
  | succ j ih =>
    intro i k acc h hk ha
    obtain ⟨k, rfl⟩ : ∃ m, k = m + 1 := ⟨k - 1, by omega⟩
    have hlt : i < ns.length := by omega
    have hb := hn ns[i] (List.getElem_mem hlt)
    have hrd : rdOf ByteArray.empty (ns.map num) (i : Int) = num ns[i] := by rw [rdOf_at _ i (by rw [List.length_map]; exact hlt), List.getElem_map]
    rw [conf_numbers.l0, if_pos (by rw [List.length_map]; omega), if_pos (by omega), if_pos (by rw [List.length_map]; omega), hrd, (num_ok _ hb.1 hb.2).1]
    simp only [Option.bind_some, if_true]
    rw [if_pos (by omega), show wrap64 ((i : Int) + 1) = ((i + 1 : Nat) : Int) from wrap_nat (i + 1) (by omega), ih (i + 1) k _ (by omega) (by omega) (by simp; omega), List.drop_eq_getElem_cons hlt, List.append_assoc, List.singleton_append]
theorem numbers_eq (ns : List Int) (hn : ∀ n ∈ ns, 0 ≤ n ∧ n ≤ 72057594037927935) (hl : ns.length ≤ 1000) (k : Nat) (hk : ns.length < k) : conf_numbers.f k (ns.map num) (ns.length : Int) = some (ns, true) := by
  unfold conf_numbers.f
  have := numbers_loop ns hn hl (ns.length : Int) ns.length 0 k [] (by omega) (by omega) (by simp)
  rw [List.drop_zero, List.nil_append] at this
  rw [show (0 : Int) = ((0 : Nat) : Int) from rfl, this]
  simp
theorem one_ok (n : Nat) : okW n ⟨1, 1, 0⟩ = true := by
  unfold okW
  exact decide_eq_true ⟨by decide, by decide, by decide, by decide, by have := Nat.two_pow_pos n; show (0 : Int) < _; omega⟩
theorem one_bits : ∀ w ∈ ([⟨1, 1, 0⟩] : List S79), 0 ≤ w.f2 ∧ w.f2 < 18446744073709551616 := by
  intro w hw
  rw [List.mem_singleton] at hw
  subst hw
  exact ⟨by decide, by decide⟩
theorem taken0 {a0 a1 a2 a3 a4 : Int} (h : Ranges a0 a1 a2 a3 a4) (c : CF) (k : Nat) (hk : 100 ≤ k) : conf_taken.f k c 0 (ofL (lineL (headW a0 a1 a2 a3 a4))) = some (true, ⟨a0, a1, a2, a3, a4, c.nm, c.wk⟩) := by
  have r := h.all
  have hw := (head_words h).back (by simp [headW])
  unfold conf_taken.f
  simp only [hw]
  have hn := numbers_eq [a0, a1, a2, a3, a4] (by
    intro n hn
    simp only [List.mem_cons, List.not_mem_nil, or_false] at hn
    rcases hn with rfl | rfl | rfl | rfl | rfl <;> omega) (by simp) k (by simp; omega)
  have e : (headW a0 a1 a2 a3 a4).drop 1 = [a0, a1, a2, a3, a4].map num := rfl
  have el : ((([a0, a1, a2, a3, a4] : List Int).length : Nat) : Int) = 5 := rfl
  rw [el] at hn
  rw [e, hn]
  simp only [Option.bind_some]
  have hc : ((((headW a0 a1 a2 a3 a4).getD 0 ByteArray.empty).toList == [99, 108, 117, 115, 116, 101, 114]) = true) := by
    show (bCluster.toList == _) = true
    rw [toList_toL]; decide
  rw [if_pos hc, conf_check a0 a1 a2 a3 a4 [] [⟨1, 1, 0⟩] (by simp) (by simp) one_bits k (by omega), check_mk h (by rfl) (by simp) (by simp [one_ok])]
  rfl
theorem taken1 {c : CF} {nm : List ByteArray} (h : Ranges c.a0 c.a1 c.a2 c.a3 c.a4) (hn : namesN nm = 0) (hs : ∀ s ∈ nm, s.size ≤ 4000) (k : Nat) (hk : 100 ≤ k) : conf_taken.f k c 1 (ofL (lineL (namesW nm))) = some (true, { c with nm := nm }) := by
  have ht := table_of hn
  have hw := (names_words ht hs).back (by simp [namesW])
  unfold conf_taken.f
  simp only [hw]
  have hc : ((((namesW nm).getD 0 ByteArray.empty).toList == [110, 97, 109, 101, 115]) = true) := by
    show (bNames.toList == _) = true
    rw [toList_toL]; decide
  have e : (namesW nm).drop 1 = nm := rfl
  have hl := ht.len
  rw [if_pos hc, e, conf_check c.a0 c.a1 c.a2 c.a3 c.a4 nm [⟨1, 1, 0⟩] (fun s h => by have := hs s h; omega) (by omega) one_bits k (by omega), check_mk h hn (by simp) (by simp [one_ok])]
  rfl
theorem takenW {c : CF} {w : S79} (h : Fine { c with wk := c.wk ++ [w] }) (m k : Nat) (hk : 100 ≤ k) : conf_taken.f k c (m + 2) (ofL (lineL (workW c.nm w))) = some (true, { c with wk := c.wk ++ [w] }) := by
  obtain ⟨hr, hn, hwk, ha⟩ := check_parts h.check
  have hs : ∀ s ∈ c.nm, s.size ≤ 4000 := h.small
  have ht : Table c.nm := table_of hn
  have hl := ht.len
  have hok : okW c.nm.length w = true := List.all_eq_true.1 ha w (by simp)
  have ho := okW_parts hok
  obtain ⟨b0, b1⟩ := h.bits w (by simp)
  obtain ⟨u, hu⟩ := Int.eq_ofNat_of_zero_le b0
  have hwd := work_words ht hs (w := w) (by omega) (by omega)
  have hw := hwd.back (by simp [workW])
  unfold conf_taken.f
  simp only [hw]
  have e1 : ((workW c.nm w).drop 1).take 2 = [w.f0, w.f1].map num := rfl
  have e2 : (workW c.nm w).drop 3 = tellL c.nm (u : Int) := by rw [← hu]; rfl
  have hnm := numbers_eq [w.f0, w.f1] (by
    intro n hn
    simp only [List.mem_cons, List.not_mem_nil, or_false] at hn
    rcases hn with rfl | rfl <;> omega) (by simp) k (by simp; omega)
  have el : ((([w.f0, w.f1] : List Int).length : Nat) : Int) = 2 := rfl
  rw [el] at hnm
  have hc : (((workW c.nm w).getD 0 ByteArray.empty).toList == [119, 111, 114, 107, 101, 114]) = true ∧ 3 ≤ (workW c.nm w).length := by
    refine ⟨?_, by simp [workW]⟩
    show (bWorker.toList == _) = true
    rw [toList_toL]; decide
  have hset := set_tell ht u (by have := ho.2.2.2.2; rw [hu] at this; omega) k (by omega)
  have hwl := workerLine_eq ht hs c.a0 c.a1 c.a2 c.a3 c.a4 (c.wk ++ [w]) (w := w) (by omega) (by omega)
  have hln := hwd.line
  have hck := conf_check c.a0 c.a1 c.a2 c.a3 c.a4 c.nm (c.wk ++ [w]) (fun s h => by have := hs s h; omega) (by omega) h.bits k (by omega)
  have hwe : (⟨w.f0, w.f1, (u : Int)⟩ : S79) = w := by rw [← hu]
  unfold conf_worker.f
  rw [if_pos hc, e1, e2, hnm, hset]
  simp only [Option.bind_some, and_self, if_true, List.getD_cons_zero, List.getD_cons_succ]
  rw [hwe, ← hu, hwl, hln]
  simp only [Option.bind_some, beq_self_eq_true, if_true]
  rw [hck, h.check]
  rfl
theorem cut_line (l r : List UInt8) (h : (10 : UInt8) ∉ l) (hs : l.length + r.length ≤ 4000000000) : strings_Cut.f (ofL (l ++ 10 :: r)) ⟨#[10]⟩ = some (ofL l, ofL r, true) := by
  unfold strings_Cut.f
  have e : (ofL (l ++ 10 :: r)).data.toList = l ++ 10 :: r := toL_ofL _
  have e10 : (⟨#[10]⟩ : ByteArray).data.toList = [10] := rfl
  rw [if_pos (by rw [size_ofL, List.length_append, List.length_cons]; omega), e, e10, cut_hit h]
  rfl
theorem cut_end : strings_Cut.f (ofL []) ⟨#[10]⟩ = some (ofL [], ofL [], false) := by
  unfold strings_Cut.f
  have e : (ofL []).data.toList = [] := toL_ofL _
  have e10 : (⟨#[10]⟩ : ByteArray).data.toList = [10] := rfl
  rw [if_pos (by rw [size_ofL]; decide), e, e10, cut_miss (by simp)]
  rfl
theorem worksL_len {nm : List ByteArray} (h : Table nm) (hs : ∀ s ∈ nm, s.size ≤ 4000) : ∀ (wk : List S79), (∀ w ∈ wk, okW nm.length w = true) → wk.length ≤ (worksL nm wk).length ∧ (worksL nm wk).length ≤ wk.length * 200000 := by
  intro wk
  induction wk with
  | nil => intro _; simp [worksL]
  | cons w wk ih =>
    intro hok
    have ih := ih (fun x hx => hok x (List.mem_cons_of_mem _ hx))
    have ho := okW_parts (hok w (by simp))
    have hl := (work_words h hs (w := w) (by omega) (by omega)).line_len
    have e : worksL nm (w :: wk) = (lineL (workW nm w) ++ [10]) ++ worksL nm wk := by simp [worksL]
    rw [e, List.length_append, List.length_append]
    simp only [List.length_cons, List.length_nil]
    omega
theorem read_works (K : Nat) (hK : 100 ≤ K) : ∀ (rest : List S79) (n m : Nat) (c : CF), rest.length < n → 3 ≤ m + 2 + rest.length → (rest = [] ∨ Fine { c with wk := c.wk ++ rest }) → Table c.nm → (∀ s ∈ c.nm, s.size ≤ 4000) →
    conf_Read.l K n (m + 2) c (ofL (worksL c.nm rest)) = some ({ c with wk := c.wk ++ rest }, 0, 0) := by
  intro rest
  induction rest with
  | nil =>
    intro n m c hn hm _ _ _
    obtain ⟨n, rfl⟩ : ∃ k, n = k + 1 := ⟨n - 1, by omega⟩
    have e : worksL c.nm [] = [] := rfl
    rw [e, conf_Read.l, cut_end]
    simp only [Option.bind_some, Bool.false_eq_true, if_false]
    simp only [List.length_nil] at hm
    rw [if_pos ⟨by rw [toList_toL, toL_ofL], by omega⟩, List.append_nil]
  | cons w rest ih =>
    intro n m c hn hm hf ht hs
    obtain ⟨n, rfl⟩ : ∃ k, n = k + 1 := ⟨n - 1, by omega⟩
    have hf : Fine { c with wk := c.wk ++ (w :: rest) } := hf.resolve_left (by simp)
    obtain ⟨hr, hnn, hwk, ha⟩ := check_parts hf.check
    have hall : ∀ x ∈ c.wk ++ w :: rest, okW c.nm.length x = true := fun x hx => List.all_eq_true.1 ha x hx
    have hlen : (c.wk ++ w :: rest).length ≤ 64 := hwk.2
    rw [List.length_append, List.length_cons] at hlen
    have hf1 : Fine { c with wk := c.wk ++ [w] } := by
      refine ⟨check_mk hr hnn ?_ ?_, hf.small, fun x hx => hf.bits x ?_⟩
      · simp only [List.length_append, List.length_singleton]; omega
      · refine List.all_eq_true.2 fun x hx => hall x ?_
        rcases List.mem_append.1 hx with hx | hx
        · exact List.mem_append_left _ hx
        · exact List.mem_append_right _ (by rw [List.mem_singleton] at hx; simp [hx])
      · rcases List.mem_append.1 hx with hx | hx
        · exact List.mem_append_left _ hx
        · exact List.mem_append_right _ (by rw [List.mem_singleton] at hx; simp [hx])
    have ho := okW_parts (hall w (by simp))
    have hwd := work_words ht hs (w := w) (by omega) (by omega)
    have hll := hwd.line_len
    have hrl := (worksL_len ht hs rest (fun x hx => hall x (by simp [hx]))).2
    have e : worksL c.nm (w :: rest) = lineL (workW c.nm w) ++ 10 :: worksL c.nm rest := by simp [worksL]
    rw [e, conf_Read.l, cut_line _ _ hwd.no10 (by omega)]
    simp only [Option.bind_some, if_true]
    rw [takenW hf1 m K hK]
    simp only [Option.bind_some, if_true]
    simp only [List.length_cons] at hn hm
    have := ih n (m + 1) { c with wk := c.wk ++ [w] } (by omega) (by omega) (by
      by_cases h0 : rest = []
      · exact .inl h0
      · refine .inr ?_
        show Fine { c with wk := (c.wk ++ [w]) ++ rest }
        rw [List.append_assoc, List.singleton_append]; exact hf) ht hs
    rw [show m + 2 + 1 = m + 1 + 2 by omega, this]
    show some (({ c with wk := (c.wk ++ [w]) ++ rest } : CF), _, _) = _
    rw [List.append_assoc, List.singleton_append]
theorem read_text {c : CF} (h : Fine c) : conf_Read.f (ofL (textL c)) = some (c.a0, c.a1, c.a2, c.a3, c.a4, c.nm, c.wk, 0, 0) := by
  obtain ⟨hr, hn, hwk, ha⟩ := check_parts h.check
  have ht := table_of hn
  have h0 := head_words hr
  have h1 := names_words ht h.small
  have h0l := h0.line_len
  have h1l := h1.line_len
  have hwl := worksL_len ht h.small c.wk (fine_ok h)
  have hsz : (ofL (textL c)).size = (lineL (headW c.a0 c.a1 c.a2 c.a3 c.a4)).length + 1 + ((lineL (namesW c.nm)).length + 1 + (worksL c.nm c.wk).length) := by
    rw [size_ofL]; simp only [textL, List.length_append, List.length_cons]; omega
  unfold conf_Read.f
  rw [hsz]
  obtain ⟨n, hnn⟩ : ∃ n, (lineL (headW c.a0 c.a1 c.a2 c.a3 c.a4)).length + 1 + ((lineL (namesW c.nm)).length + 1 + (worksL c.nm c.wk).length) + 1 = n + 1 + 1 := ⟨(lineL (headW c.a0 c.a1 c.a2 c.a3 c.a4)).length + ((lineL (namesW c.nm)).length + 1 + (worksL c.nm c.wk).length), by omega⟩
  obtain ⟨K, hK⟩ : ∃ K, (lineL (headW c.a0 c.a1 c.a2 c.a3 c.a4)).length + 1 + ((lineL (namesW c.nm)).length + 1 + (worksL c.nm c.wk).length) + 100 = K := ⟨_, rfl⟩
  rw [hnn, hK]
  unfold textL
  rw [conf_Read.l, cut_line _ _ h0.no10 (by simp only [List.length_append, List.length_cons]; omega)]
  simp only [Option.bind_some, if_true]
  rw [taken0 hr CF.zero K (by omega)]
  simp only [Option.bind_some, if_true]
  rw [conf_Read.l, cut_line _ _ h1.no10 (by omega)]
  simp only [Option.bind_some, if_true]
  rw [show 0 + 1 = 1 from rfl, taken1 (c := ⟨c.a0, c.a1, c.a2, c.a3, c.a4, CF.zero.nm, CF.zero.wk⟩) hr hn h.small K (by omega)]
  simp only [Option.bind_some, if_true]
  have := read_works K (by omega) c.wk n 0 ⟨c.a0, c.a1, c.a2, c.a3, c.a4, c.nm, []⟩ (by omega) (by omega) (.inr (by
    show Fine ⟨c.a0, c.a1, c.a2, c.a3, c.a4, c.nm, [] ++ c.wk⟩
    rw [List.nil_append]; exact h)) ht h.small
  rw [Nat.zero_add] at this
  rw [show 1 + 1 = 2 from rfl]
  refine (congrArg (Option.map _) this).trans ?_
  simp
theorem text_inj {c d : CF} (hc : Fine c) (hd : Fine d) (h : textL c = textL d) : c = d := by
  have h1 := read_text hc
  rw [h, read_text hd] at h1
  simp only [Option.some.injEq, Prod.mk.injEq, and_true] at h1
  cases c; cases d
  simp only at h1
  obtain ⟨rfl, rfl, rfl, rfl, rfl, rfl, rfl⟩ := h1
  rfl
end Go.Proofs.YtmppkcdphgelcaaDoor.PConf
set_option linter.unusedVariables false
set_option linter.unusedSimpArgs false
namespace Go.Proofs.YtmppkcdphgelcaaDoor.PConf
open Go.RowKit Go.Proofs.YtmppkcdphgelcaaDoor Go.Proofs.YtmppkcdphgelcaaDoorW.PrintWords Go.Proofs.YtmppkcdphgelcaaDoorW.PrintMore Go.Lib Go.Proofs.YtmppkcdphgelcaaDoor.Own
def longB (l : List ByteArray) : Bool := l.any (fun s => decide (100 < s.size)) || decide (40 < l.length)
theorem long_loop (l : List ByteArray) (hl : l.length ≤ 9223372036854775807) : ∀ (j i k : Nat), i + j = l.length → j < k → siskinref03_Long.l0 k l 40 100 i = some ((l.drop i).any (fun s => decide (100 < s.size)) || decide (40 < l.length)) := by
  intro j
  induction j with
  | zero =>
    intro i k h hk
    obtain ⟨k, rfl⟩ : ∃ m, k = m + 1 := ⟨k - 1, by omega⟩
    rw [siskinref03_Long.l0, if_neg (by omega), List.drop_eq_nil_of_le (by omega)]
    congr 1
    simp only [List.any_nil, Bool.false_or]
    exact decide_eq_decide.mpr (by omega)
  | succ j ih =>
    intro i k h hk
    obtain ⟨k, rfl⟩ : ∃ m, k = m + 1 := ⟨k - 1, by omega⟩
    have hlt : i < l.length := by omega
    rw [siskinref03_Long.l0, if_pos (by omega), if_pos (by omega), rdOf_at l i hlt, List.drop_eq_getElem_cons hlt, List.any_cons]
    by_cases hz : 100 < l[i].size
    · rw [if_pos (by omega), decide_eq_true hz]; rfl
    · rw [if_neg (by omega), decide_eq_false hz, show wrap64 ((i : Int) + 1) = ((i + 1 : Nat) : Int) from wrap_nat (i + 1) (by omega), ih (i + 1) k (by omega) (by omega), Bool.false_or]
theorem long_eq (a0 a1 a2 a3 a4 : Int) (nm : List ByteArray) (wk : List S79) (hl : nm.length ≤ 9223372036854775807) (k : Nat) (hk : nm.length < k) : siskinref14_Long.f k a0 a1 a2 a3 a4 nm wk = some (longB nm || decide (80 < wk.length)) := by
  unfold siskinref14_Long.f siskinref03_Long.f
  rw [show (0 : Int) = ((0 : Nat) : Int) from rfl, long_loop nm hl nm.length 0 k (by omega) hk, List.drop_zero]
  simp only [Option.bind_some]
  show (if longB nm = true then _ else _) = _
  by_cases h : longB nm = true
  · rw [if_pos h, h, Bool.true_or]
  · rw [if_neg h, eq_false_of_ne_true h, Bool.false_or]
    congr 1
    exact decide_eq_decide.mpr (by omega)
theorem same_loop (l m : List ByteArray) (hlm : l.length = m.length) (hl : l.length ≤ 9223372036854775807) : ∀ (j i k : Nat), i + j = l.length → j < k → siskinref03_Same.l0 k l m i = some (decide (l.drop i = m.drop i)) := by
  intro j
  induction j with
  | zero =>
    intro i k h hk
    obtain ⟨k, rfl⟩ : ∃ m, k = m + 1 := ⟨k - 1, by omega⟩
    rw [siskinref03_Same.l0, if_neg (by omega), List.drop_eq_nil_of_le (by omega), List.drop_eq_nil_of_le (by omega)]
    simp
  | succ j ih =>
    intro i k h hk
    obtain ⟨k, rfl⟩ : ∃ m, k = m + 1 := ⟨k - 1, by omega⟩
    have h1 : i < l.length := by omega
    have h2 : i < m.length := by omega
    rw [siskinref03_Same.l0, if_pos (by omega), if_pos (by omega), if_pos (by omega), rdOf_at l i h1, rdOf_at m i h2, List.drop_eq_getElem_cons h1, List.drop_eq_getElem_cons h2]
    by_cases he : l[i] = m[i]
    · rw [if_pos (by rw [he]), show wrap64 ((i : Int) + 1) = ((i + 1 : Nat) : Int) from wrap_nat (i + 1) (by omega), ih (i + 1) k (by omega) (by omega)]
      congr 1
      exact decide_eq_decide.mpr ⟨fun h => by rw [he, h], fun h => (List.cons.inj h).2⟩
    · rw [if_neg (fun h => he (toL_inj (by rw [← toList_toL, ← toList_toL]; exact h)))]
      congr 1
      exact (decide_eq_false (fun h => he (List.cons.inj h).1)).symm
theorem same_names (l m : List ByteArray) (hl : l.length ≤ 9223372036854775807) (k : Nat) (hk : l.length < k) : siskinref03_Same.f k l m = some (decide (l = m)) := by
  unfold siskinref03_Same.f
  by_cases h : l.length = m.length
  · rw [if_pos (by omega), show (0 : Int) = ((0 : Nat) : Int) from rfl, same_loop l m h hl l.length 0 k (by omega) hk]
    rfl
  · rw [if_neg (by omega)]
    congr 1
    exact (decide_eq_false (fun e => h (by rw [e]))).symm
theorem wk_ext (x y : S79) : x = y ↔ x.f0 = y.f0 ∧ x.f1 = y.f1 ∧ x.f2 = y.f2 := by
  cases x; cases y; simp
theorem same_works (v w : List S79) (hvw : v.length = w.length) (hl : v.length ≤ 9223372036854775807) (a0 a1 a2 a3 a4 b0 b1 b2 b3 b4 : Int) (nm nm' : List ByteArray) : ∀ (j i k : Nat), i + j = v.length → j < k →
    ∃ b, siskinref14_Same.l0 k i a0 a1 a2 a3 a4 nm v b0 b1 b2 b3 b4 nm' w = some b ∧ (b = true ↔ v.drop i = w.drop i) := by
  intro j
  induction j with
  | zero =>
    intro i k h hk
    obtain ⟨k, rfl⟩ : ∃ m, k = m + 1 := ⟨k - 1, by omega⟩
    refine ⟨true, ?_, ?_⟩
    · rw [siskinref14_Same.l0, if_neg (by omega)]
    · rw [List.drop_eq_nil_of_le (by omega), List.drop_eq_nil_of_le (by omega)]; simp
  | succ j ih =>
    intro i k h hk
    obtain ⟨k, rfl⟩ : ∃ m, k = m + 1 := ⟨k - 1, by omega⟩
    have h1 : i < v.length := by omega
    have h2 : i < w.length := by omega
    rw [siskinref14_Same.l0, if_pos (by omega), if_pos (by omega), if_pos (by omega), rd_wk v i h1, rd_wk w i h2, List.drop_eq_getElem_cons h1, List.drop_eq_getElem_cons h2]
    by_cases he : v[i] = w[i]
    · obtain ⟨b, hb, hb2⟩ := ih (i + 1) k (by omega) (by omega)
      refine ⟨b, ?_, ?_⟩
      · rw [if_neg (by rw [he]; simp), show wrap64 ((i : Int) + 1) = ((i + 1 : Nat) : Int) from wrap_nat (i + 1) (by omega)]
        exact hb
      · rw [hb2, he]
        exact ⟨fun h => by rw [h], fun h => (List.cons.inj h).2⟩
    · refine ⟨false, ?_, ?_⟩
      · rw [if_pos]
        rw [wk_ext] at he
        simp only [Bool.or_eq_true, Bool.not_eq_true', beq_eq_false_iff_ne]
        by_cases e0 : v[i].f0 = w[i].f0
        · by_cases e1 : v[i].f1 = w[i].f1
          · exact .inr (.inr (fun e2 => he ⟨e0, e1, e2⟩))
          · exact .inr (.inl e1)
        · exact .inl e0
      · exact ⟨fun h => (by cases h), fun h => absurd (List.cons.inj h).1 he⟩
theorem same_eq (c d : CF) (hn : c.nm.length ≤ 9223372036854775807) (hw : c.wk.length ≤ 9223372036854775807) (k : Nat) (hk : c.nm.length + c.wk.length + 2 < k) : ∃ b, siskinref14_Same.f k c.a0 c.a1 c.a2 c.a3 c.a4 c.nm c.wk d.a0 d.a1 d.a2 d.a3 d.a4 d.nm d.wk = some b ∧ (b = true ↔ c = d) := by
  obtain ⟨k, rfl⟩ : ∃ m, k = m + 1 := ⟨k - 1, by omega⟩
  have hext : c = d ↔ c.a0 = d.a0 ∧ c.a1 = d.a1 ∧ c.a2 = d.a2 ∧ c.a3 = d.a3 ∧ c.a4 = d.a4 ∧ c.nm = d.nm ∧ c.wk = d.wk := by cases c; cases d; simp
  have hj : siskinref14_Same.j0 (k + 1) true c.a0 c.a1 c.a2 c.a3 c.a4 c.nm c.wk d.a0 d.a1 d.a2 d.a3 d.a4 d.nm d.wk = some false := by rw [siskinref14_Same.j0, if_pos rfl]
  have neg : ¬ c = d → ∃ b, (some false : Option Bool) = some b ∧ (b = true ↔ c = d) := fun h => ⟨false, rfl, ⟨fun h => (by cases h), fun e => absurd e h⟩⟩
  unfold siskinref14_Same.f
  by_cases e0 : c.a0 = d.a0
  · rw [if_pos e0]
    by_cases e1 : c.a1 = d.a1
    · rw [if_pos e1]
      by_cases e2 : c.a2 = d.a2
      · rw [if_pos e2]
        by_cases e3 : c.a3 = d.a3
        · rw [if_pos e3]
          by_cases e4 : c.a4 = d.a4
          · rw [if_pos e4, same_names c.nm d.nm hn (k + 1) (by omega)]
            simp only [Option.bind_some, decide_eq_true_eq]
            by_cases e5 : c.nm = d.nm
            · rw [if_pos e5]
              by_cases e6 : c.wk.length = d.wk.length
              · obtain ⟨b, hb, hb2⟩ := same_works c.wk d.wk e6 hw c.a0 c.a1 c.a2 c.a3 c.a4 d.a0 d.a1 d.a2 d.a3 d.a4 c.nm d.nm c.wk.length 0 k (by omega) (by omega)
                refine ⟨b, ?_, ?_⟩
                · rw [siskinref14_Same.j0, if_neg (by rw [e6]; simp)]
                  exact hb
                · rw [hb2, List.drop_zero, List.drop_zero, hext]
                  exact ⟨fun h => ⟨e0, e1, e2, e3, e4, e5, h⟩, fun h => h.2.2.2.2.2.2⟩
              · have : (((c.wk.length : Nat) : Int) != ((d.wk.length : Nat) : Int)) = true := by simp; omega
                rw [this, hj]
                exact neg (fun h => e6 (by rw [h]))
            · rw [if_neg e5, hj]; exact neg (fun h => e5 (by rw [h]))
          · rw [if_neg e4, hj]; exact neg (fun h => e4 (by rw [h]))
        · rw [if_neg e3, hj]; exact neg (fun h => e3 (by rw [h]))
      · rw [if_neg e2, hj]; exact neg (fun h => e2 (by rw [h]))
    · rw [if_neg e1, hj]; exact neg (fun h => e1 (by rw [h]))
  · rw [if_neg e0, hj]; exact neg (fun h => e0 (by rw [h]))
theorem short_of {l : List ByteArray} (h : longB l = false) : (∀ s ∈ l, s.size ≤ 100) ∧ l.length ≤ 40 := by
  unfold longB at h
  rw [Bool.or_eq_false_iff] at h
  refine ⟨fun s hs => ?_, by have := of_decide_eq_false h.2; omega⟩
  have := List.any_eq_false.1 h.1 s hs
  simp at this
  omega
theorem back_true (c d : CF) (hcn : c.nm.length ≤ 9223372036854775807) (hcw : c.wk.length ≤ 9223372036854775807) (hdn : d.nm.length ≤ 9223372036854775807) (hcb : ∀ w ∈ c.wk, 0 ≤ w.f2 ∧ w.f2 < 18446744073709551616) (hdb : ∀ w ∈ d.wk, 0 ≤ w.f2 ∧ w.f2 < 18446744073709551616) :
    ∃ k, siskinlaw14_ConfBack.f k c.a0 c.a1 c.a2 c.a3 c.a4 c.nm c.wk d.a0 d.a1 d.a2 d.a3 d.a4 d.nm d.wk = some true := by
  obtain ⟨K, hK⟩ : ∃ K, K = c.nm.length + c.wk.length + d.nm.length + 10000 + 100 := ⟨_, rfl⟩
  have hw : siskinlaw14_works.f K = some true := by rw [hK]; exact works_le _
  have hj : siskinlaw14_ConfBack.j0 (K + 1) true c.a0 c.a1 c.a2 c.a3 c.a4 c.nm c.wk d.a0 d.a1 d.a2 d.a3 d.a4 d.nm d.wk = some true := by rw [siskinlaw14_ConfBack.j0, if_pos rfl, hw]; rfl
  refine ⟨K + 1, ?_⟩
  unfold siskinlaw14_ConfBack.f
  rw [long_eq c.a0 c.a1 c.a2 c.a3 c.a4 c.nm c.wk hcn (K + 1) (by omega), long_eq d.a0 d.a1 d.a2 d.a3 d.a4 d.nm d.wk hdn (K + 1) (by omega)]
  simp only [Option.bind_some]
  by_cases h1 : (longB c.nm || decide (80 < c.wk.length)) = true
  · rw [if_pos h1]; exact hj
  · rw [if_neg h1]
    by_cases h2 : (longB d.nm || decide (80 < d.wk.length)) = true
    · rw [if_pos h2]; exact hj
    · rw [if_neg h2]
      have h1' := eq_false_of_ne_true h1
      have h2' := eq_false_of_ne_true h2
      rw [Bool.or_eq_false_iff] at h1' h2'
      have sc := short_of h1'.1
      have sd := short_of h2'.1
      rw [ref_check c.a0 c.a1 c.a2 c.a3 c.a4 c.nm c.wk 100 (by omega) sc.1 hcb (K + 1) (by omega), ref_check d.a0 d.a1 d.a2 d.a3 d.a4 d.nm d.wk 100 (by omega) sd.1 hdb (K + 1) (by omega)]
      simp only [Option.bind_some]
      by_cases h3 : checkN c.a0 c.a1 c.a2 c.a3 c.a4 c.nm c.wk = 0
      · rw [if_pos h3]
        by_cases h4 : checkN d.a0 d.a1 d.a2 d.a3 d.a4 d.nm d.wk = 0
        · have fc : Fine c := ⟨h3, fun s hs => by have := sc.1 s hs; omega, hcb⟩
          have fd : Fine d := ⟨h4, fun s hs => by have := sd.1 s hs; omega, hdb⟩
          have hz : (checkN d.a0 d.a1 d.a2 d.a3 d.a4 d.nm d.wk != 0) = false := by rw [h4]; rfl
          obtain ⟨b1, s1, t1⟩ := same_eq c c hcn hcw K (by omega)
          obtain ⟨b2, s2, t2⟩ := same_eq c d hcn hcw K (by omega)
          obtain rfl : b1 = true := t1.mpr rfl
          rw [hz, siskinlaw14_ConfBack.j0, if_neg (by decide), text_eq fc K (by omega)]
          simp only [Option.bind_some]
          rw [read_text fc]
          simp only [Option.bind_some, if_true]
          rw [s1]
          simp only [Option.bind_some, if_true]
          rw [text_eq fd K (by omega), s2]
          simp only [Option.bind_some]
          rw [if_pos, hw]
          · rfl
          · rw [toList_toL, toList_toL, toL_ofL, toL_ofL]
            by_cases hcd : c = d
            · rw [t2.mpr hcd, hcd]; simp
            · have hb : b2 = false := eq_false_of_ne_true (fun h => hcd (t2.mp h))
              rw [hb]
              have : (textL c == textL d) = false := beq_eq_false_iff_ne.mpr (fun h => hcd (text_inj fc fd h))
              rw [this]; rfl
        · have hz : (checkN d.a0 d.a1 d.a2 d.a3 d.a4 d.nm d.wk != 0) = true := by simpa using h4
          rw [hz]; exact hj
      · rw [if_neg h3]; exact hj
end Go.Proofs.YtmppkcdphgelcaaDoor.PConf
set_option linter.unusedVariables false
set_option linter.unusedSimpArgs false
namespace Go.Proofs.YtmppkcdphgelcaaDoor
open Go.RowKit Go.Proofs.YtmppkcdphgelcaaDoorW.PrintWords
section
variable {P : Program} {W : World} {H : Type} {enc : TypeId × Value → H} {base : Nat} {sp : Nat → Bool} {held : Bool}
def Opens {α : Type} (P : Program) (W : World) {H : Type} (enc : TypeId × Value → H) (base : Nat) (sp : Nat → Bool) (held : Bool) (t : TypeId) (d : Kd α) (ok : α → Prop) : Prop :=
  ∀ fuel cs x, DataW.trod enc P W base sp held fuel t cs = some x → ∃ a, d.K W a cs ∧ ok a
def okI (k : IntKind) (n : Int) : Prop := (Lit.int k n).wf = true
def okP {α β : Type} (p : α → Prop) (q : β → Prop) (x : α × β) : Prop := p x.1 ∧ q x.2
def okS (s : ByteArray) : Prop := s.size ≤ maxLen
def okL {α : Type} (p : α → Prop) (l : List α) : Prop := ∀ a ∈ l, p a
def okT (_ : Bool) : Prop := True
theorem Opens.int {t : TypeId} {k : IntKind} (ht : P.underlying t = some (.int k)) : Opens P W enc base sp held t (Kd.int k) (okI k) := by
  intro fuel cs x h
  obtain ⟨n, rfl, _, hw⟩ := DataW.trod_int ht h
  exact ⟨n, rfl, hw⟩
theorem Opens.bool {t : TypeId} (ht : P.underlying t = some .bool) : Opens P W enc base sp held t Kd.bool okT := by
  intro fuel cs x h
  obtain ⟨n, rfl, _⟩ := DataW.trod_bool ht h
  exact ⟨n, rfl, trivial⟩
theorem Opens.string {t : TypeId} (ht : P.underlying t = some .string) : Opens P W enc base sp held t Kd.string okS := by
  intro fuel cs x h
  obtain ⟨n, rfl, _, hw⟩ := DataW.trod_string ht h
  exact ⟨n, rfl, hw⟩
theorem choose_list {α : Type} {Q : Nat → α → Prop} : ∀ n : Nat, (∀ i, i < n → ∃ a, Q i a) → ∃ l : List α, l.length = n ∧ ∀ i a, l[i]? = some a → Q i a := by
  intro n
  induction n with
  | zero => exact fun _ => ⟨[], rfl, fun i a h => by simp at h⟩
  | succ n ih =>
    intro h
    obtain ⟨l, hl, hq⟩ := ih (fun i hi => h i (by omega))
    obtain ⟨a, ha⟩ := h n (by omega)
    refine ⟨l ++ [a], by simp [hl], fun i b hb => ?_⟩
    rcases Nat.lt_or_ge i n with hi | hi
    · rw [List.getElem?_append_left (by omega)] at hb; exact hq i b hb
    · rw [List.getElem?_append_right (by omega)] at hb
      have : i = n := by
        rcases Nat.lt_or_ge n i with hlt | hge
        · rw [List.getElem?_eq_none (by simp; omega)] at hb; cases hb
        · omega
      subst this
      rw [hl, Nat.sub_self] at hb
      simp only [List.getElem?_cons_zero, Option.some.injEq] at hb
      subst hb
      exact ha
theorem cells_each {w : World} {a : Addr} {n : Nat} {cs : List Value} (h : w.cells? base a n = some cs) : cs.length = n ∧ ∀ j u, cs[j]? = some u → w.cell? (a.add j) = some u := by
  unfold World.cells? at h
  split at h
  · have hl := mapM_some_length h
    refine ⟨by simpa using hl, fun j u hu => ?_⟩
    have hj : j < n := by
      have := (List.getElem?_eq_some_iff.1 hu).1
      rw [hl] at this; simpa using this
    have := mapM_some_get h j j (by simp [hj])
    rw [this]; exact hu
  · cases h
theorem Opens.slice {α : Type} {d : Kd α} {ok : α → Prop} {t e : TypeId} (ht : P.underlying t = some (.slice e)) (hc : P.cellsOf e = d.sz) (h : Opens P W enc base sp held e d ok) : Opens P W enc base sp held t (Kd.slice e d) (okL ok) := by
  intro fuel cs x hx
  rcases DataW.trod_slice ht hx with ⟨rfl, _⟩ | ⟨a, len, cap, elems, rest, n, _, rfl, _, _, hl, hm, he, hel, _⟩
  · refine ⟨[], ⟨none, 0, rfl, Nat.le_refl _, rfl, by simp, fun h => absurd h (by simp)⟩, fun a h => by cases h⟩
  · obtain ⟨l, hll, hq⟩ := choose_list (Q := fun i (p : α) => ok p ∧ ∃ c, c.length = d.sz ∧ d.K W p c ∧ ∀ j u, c[j]? = some u → W.cell? (a.add (i * d.sz + j)) = some u) len (fun i hi => by
      have h1 := hel i hi
      rw [List.getElem?_eq_getElem (by omega), hc] at h1
      obtain ⟨c, hc1, hc2⟩ := Option.bind_eq_some_iff.1 h1
      obtain ⟨p, hp, hok⟩ := h _ _ _ hc2
      obtain ⟨h2, h3⟩ := cells_each hc1
      refine ⟨p, hok, c, h2, hp, fun j u hu => ?_⟩
      have := h3 j u hu
      rwa [Addr.add_add] at this)
    refine ⟨l, ⟨some a, cap, by rw [hll], by omega, ?_⟩, fun p hp => ?_⟩
    · refine ⟨rfl, by unfold maxLen at hm; omega, fun _ => ⟨a, rfl, fun j p hp => ?_⟩⟩
      exact (hq j p hp).2
    · obtain ⟨i, hi⟩ := List.getElem?_of_mem hp
      exact (hq i p hi).1
def OpensAt {α : Type} (P : Program) (W : World) {H : Type} (enc : TypeId × Value → H) (base : Nat) (sp : Nat → Bool) (held : Bool) (fs : List Field) (o : Nat) (d : Kd α) (ok : α → Prop) : Prop :=
  ∀ n cs, cs.length = d.sz → (∀ (i : Nat) (f : Field), fs[i]? = some f → o ≤ f.offset ∧ ∃ y, DataW.trod enc P W base sp held n f.type ((cs.drop (f.offset - o)).take (P.cellsOf f.type)) = some y) → ∃ a, d.K W a cs ∧ ok a
theorem OpensAt.one {α : Type} {d : Kd α} {ok : α → Prop} {f : Field} (hc : P.cellsOf f.type = d.sz) (h : Opens P W enc base sp held f.type d ok) : OpensAt P W enc base sp held [f] f.offset d ok := by
  intro n cs hl hf
  obtain ⟨_, y, hy⟩ := hf 0 f rfl
  rw [Nat.sub_self, List.drop_zero, hc, ← hl, List.take_length] at hy
  exact h _ _ _ hy
theorem OpensAt.cons {α β : Type} {d : Kd α} {d' : Kd β} {ok : α → Prop} {ok' : β → Prop} {f : Field} {fs : List Field} (hc : P.cellsOf f.type = d.sz) (ho : ∀ g ∈ fs, f.offset + d.sz ≤ g.offset) (h : Opens P W enc base sp held f.type d ok) (h' : OpensAt P W enc base sp held fs (f.offset + d.sz) d' ok') :
    OpensAt P W enc base sp held (f :: fs) f.offset (Kd.pair d d') (okP ok ok') := by
  intro n cs hl hf
  have hl' : cs.length = d.sz + d'.sz := hl
  obtain ⟨_, y, hy⟩ := hf 0 f rfl
  rw [Nat.sub_self, List.drop_zero, hc] at hy
  obtain ⟨a, ha, hok⟩ := h _ _ _ hy
  obtain ⟨b, hb, hok'⟩ := h' n (cs.drop d.sz) (by rw [List.length_drop]; omega) (fun i g hg => by
    obtain ⟨h1, z, hz⟩ := hf (i + 1) g hg
    have h2 := ho g (List.mem_of_getElem? hg)
    refine ⟨h2, z, ?_⟩
    rw [List.drop_drop, show d.sz + (g.offset - (f.offset + d.sz)) = g.offset - f.offset by omega]
    exact hz)
  exact ⟨(a, b), ⟨cs.take d.sz, cs.drop d.sz, (List.take_append_drop _ _).symm, ha, hb⟩, hok, hok'⟩
theorem Opens.struct {α β : Type} {d : Kd α} {ok : α → Prop} {t : TypeId} {fs : Array Field} (ht : P.underlying t = some (.struct fs)) (hc : P.cellsOf t = d.sz) (f : β → α) (g : α → β) (hfg : ∀ a, f (g a) = a) (h : OpensAt P W enc base sp held fs.toList 0 d ok) : Opens P W enc base sp held t (Kd.iso d f) (fun b => ok (f b)) := by
  intro fuel cs x hx
  obtain ⟨xs, n, _, _, hl, hxl, hf⟩ := DataW.trod_struct ht hx
  obtain ⟨a, ha, hok⟩ := h n cs (by omega) (fun i fd hfd => by
    have hfd' : fs[i]? = some fd := by simpa using hfd
    have hi : i < fs.size := (Array.getElem?_eq_some_iff.1 hfd').1
    refine ⟨Nat.zero_le _, xs[i]'(by omega), ?_⟩
    rw [Nat.sub_zero, hf i fd hfd', List.getElem?_eq_getElem (by omega)])
  refine ⟨g a, ?_, ?_⟩
  · show d.K W (f (g a)) cs
    rw [hfg]; exact ha
  · show ok (f (g a))
    rw [hfg]; exact hok
theorem Opens.mono {α : Type} {d : Kd α} {ok ok' : α → Prop} {t : TypeId} (h : Opens P W enc base sp held t d ok) (hm : ∀ a, ok a → ok' a) : Opens P W enc base sp held t d ok' := fun _ _ _ hx => by
  obtain ⟨a, h1, h2⟩ := h _ _ _ hx
  exact ⟨a, h1, hm a h2⟩
end
end Go.Proofs.YtmppkcdphgelcaaDoor
set_option linter.unusedVariables false
set_option linter.unusedSimpArgs false
namespace Go.Proofs.YtmppkcdphgelcaaDoor.PConf
open Go.RowKit Go.Proofs.YtmppkcdphgelcaaDoor Go.Proofs.YtmppkcdphgelcaaDoorW.PrintWords
open Go.WideShapes (okWide_struct)
section
variable {W : World} {H : Type} {enc : TypeId × Value → H} {base : Nat} {sp : Nat → Bool} {held : Bool}
def okWk : Int × Int × Int → Prop := okP (okI .i64) (okP (okI .i64) (okI .u64))
def okConf : Int × Int × Int × Int × Int × List ByteArray × List S79 → Prop := okP (okI .i64) (okP (okI .i64) (okP (okI .i64) (okP (okI .i64) (okP (okI .i64) (okP (okL okS) (okL fun x : S79 => okWk (x.f0, x.f1, x.f2)))))))
def kWk : Kd (Int × Int × Int) := Kd.pair (Kd.int .i64) (Kd.pair (Kd.int .i64) (Kd.int .u64))
def kConf : Kd (Int × Int × Int × Int × Int × List ByteArray × List S79) := Kd.pair (Kd.int .i64) (Kd.pair (Kd.int .i64) (Kd.pair (Kd.int .i64) (Kd.pair (Kd.int .i64) (Kd.pair (Kd.int .i64) (Kd.pair (Kd.slice 9 Kd.string) (Kd.slice 79 k79))))))
theorem opens_worker : Opens Tryd.prog W enc base sp held 79 k79 (fun x => okWk (x.f0, x.f1, x.f2)) := by
  refine Opens.struct (d := kWk) (ok := okWk) Tryd.underlying79 (by kernel_rfl) (fun x : S79 => (x.f0, x.f1, x.f2)) (fun p => ⟨p.1, p.2.1, p.2.2⟩) (fun _ => rfl) ?_
  unfold kWk okWk
  refine OpensAt.cons ?_ ?_ (Opens.int Tryd.underlying3) ?_
  · kernel_rfl
  · decide +kernel
  refine OpensAt.cons ?_ ?_ (Opens.int Tryd.underlying3) ?_
  · kernel_rfl
  · decide +kernel
  refine OpensAt.one ?_ (Opens.int Tryd.underlying26)
  kernel_rfl
theorem opens_conf : Opens Tryd.prog W enc base sp held 49 (Kd.iso kConf id) (fun x => okConf (id x)) := by
  refine Opens.struct (d := kConf) (ok := okConf) Tryd.underlying49 (by kernel_rfl) id id (fun _ => rfl) ?_
  unfold kConf okConf
  refine OpensAt.cons ?_ ?_ (Opens.int Tryd.underlying3) ?_
  · kernel_rfl
  · decide +kernel
  refine OpensAt.cons ?_ ?_ (Opens.int Tryd.underlying3) ?_
  · kernel_rfl
  · decide +kernel
  refine OpensAt.cons ?_ ?_ (Opens.int Tryd.underlying3) ?_
  · kernel_rfl
  · decide +kernel
  refine OpensAt.cons ?_ ?_ (Opens.int Tryd.underlying3) ?_
  · kernel_rfl
  · decide +kernel
  refine OpensAt.cons ?_ ?_ (Opens.int Tryd.underlying3) ?_
  · kernel_rfl
  · decide +kernel
  refine OpensAt.cons ?_ ?_ (Opens.slice Tryd.underlying27 (by kernel_rfl) (Opens.string Tryd.underlying9)) ?_
  · kernel_rfl
  · decide +kernel
  refine OpensAt.one ?_ (Opens.slice Tryd.underlying47 (by kernel_rfl) opens_worker)
  kernel_rfl
structure ConfIn (W : World) (v : Value) (c : CF) (A5 : Option Addr) (c5 : Nat) (A6 : Option Addr) (c6 : Nat) : Prop where
  val : v = .agg #[.int .i64 c.a0, .int .i64 c.a1, .int .i64 c.a2, .int .i64 c.a3, .int .i64 c.a4, .slice A5 c.nm.length c5, .slice A6 c.wk.length c6]
  names : Kd.C Kd.string W A5 c.nm.length c.nm
  namesCap : c.nm.length ≤ c5
  works : Kd.C k79 W A6 c.wk.length c.wk
  worksCap : c.wk.length ≤ c6
  bits : ∀ w ∈ c.wk, 0 ≤ w.f2 ∧ w.f2 < 18446744073709551616
  wide : (∀ w ∈ c.wk, (-9223372036854775808 ≤ w.f0 ∧ w.f0 ≤ 9223372036854775807) ∧ (-9223372036854775808 ≤ w.f1 ∧ w.f1 ≤ 9223372036854775807)) ∧ (∀ s ∈ c.nm, s.size ≤ maxLen) ∧ (-9223372036854775808 ≤ c.a0 ∧ c.a0 ≤ 9223372036854775807) ∧ (-9223372036854775808 ≤ c.a1 ∧ c.a1 ≤ 9223372036854775807) ∧ (-9223372036854775808 ≤ c.a2 ∧ c.a2 ≤ 9223372036854775807) ∧ (-9223372036854775808 ≤ c.a3 ∧ c.a3 ≤ 9223372036854775807) ∧ (-9223372036854775808 ≤ c.a4 ∧ c.a4 ≤ 9223372036854775807)
theorem ConfIn.nmLen {v : Value} {c : CF} {A5 : Option Addr} {c5 : Nat} {A6 : Option Addr} {c6 : Nat} (h : ConfIn W v c A5 c5 A6 c6) : c.nm.length ≤ 9223372036854775807 := h.names.2.1
theorem ConfIn.wkLen {v : Value} {c : CF} {A5 : Option Addr} {c5 : Nat} {A6 : Option Addr} {c6 : Nat} (h : ConfIn W v c A5 c5 A6 c6) : c.wk.length ≤ 9223372036854775807 := h.works.2.1
set_option maxRecDepth 100000 in
theorem conf_in {r : Reach} {b0 : Nat} {v : Value} {d : DataW H} {ps : List MemPlace} (hval : Value.okWide Tryd.prog W r b0 49 v) (h : DataW.Trod enc Tryd.prog W base sp held 49 v d ps) : ∃ c A5 c5 A6 c6, ConfIn W v c A5 c5 A6 c6 := by
  obtain ⟨fuel, hf⟩ := h
  obtain ⟨cs, rfl, _⟩ := okWide_struct Tryd.underlying49 hval
  obtain ⟨x, hx, w0, w1, w2, w3, w4, ws, ww⟩ := opens_conf fuel _ _ hf
  obtain ⟨x0, x1, x2, x3, x4, nm, wk⟩ := x
  obtain ⟨_, _, e0, rfl, _, _, rfl, rfl, _, _, rfl, rfl, _, _, rfl, rfl, _, _, rfl, rfl, _, _, rfl, ⟨A5, c5, rfl, l5, g5⟩, ⟨A6, c6, rfl, l6, g6⟩⟩ := hx
  refine ⟨⟨x0, x1, x2, x3, x4, nm, wk⟩, A5, c5, A6, c6, ?_, g5, l5, g6, l6, fun w hw => ?_, fun w hw => ⟨bounds_i64 (ww w hw).1, bounds_i64 (ww w hw).2.1⟩, ws, bounds_i64 w0, bounds_i64 w1, bounds_i64 w2, bounds_i64 w3, bounds_i64 w4⟩
  · have e1 : cs.toList = [.int .i64 x0, .int .i64 x1, .int .i64 x2, .int .i64 x3, .int .i64 x4, .slice A5 nm.length c5, .slice A6 wk.length c6] := e0
    congr 1
    cases cs
    simp only at e1
    rw [e1]
  · have h2 : 0 ≤ w.f2 ∧ w.f2 ≤ 18446744073709551615 := bounds_u64 (ww w hw).2.2
    omega
end
end Go.Proofs.YtmppkcdphgelcaaDoor.PConf
