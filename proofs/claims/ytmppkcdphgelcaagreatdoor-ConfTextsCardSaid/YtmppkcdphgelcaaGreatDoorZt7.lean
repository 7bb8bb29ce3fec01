/- A part of the proof: texts of this seat, joined. -/
import Derived.Lib.DecodeN
import Derived.Test.YtmppkcdphgelcaaGreatDoorZt1
import Derived.Test.YtmppkcdphgelcaaGreatDoorZt2
import Derived.Test.YtmppkcdphgelcaaGreatDoorZt3
import Derived.Test.YtmppkcdphgelcaaGreatDoorZt4
import Derived.Test.YtmppkcdphgelcaaGreatDoorZt5
import Derived.Test.YtmppkcdphgelcaaGreatDoorZt6
namespace Go.Proofs.YtmppkcdphgelcaaGreatDoor.PConf
open Go.RowKit Go.Proofs.YtmppkcdphgelcaaGreatDoor.W.PrintWords Go.Proofs.YtmppkcdphgelcaaGreatDoor.W.PrintLast Go.Proofs.YtmppkcdphgelcaaGreatDoor.W.PrintMore
attribute [local go_sem] max2_int min2_int max_two min_two max_three min_three max_four min_four   -- for this text's walks alone
set_option linter.unusedVariables false
set_option linter.unusedSimpArgs false
attribute [local go_sem high] eqA41
mutual
def conf_Same.j0 : Nat → Bool → Int → Int → Int → Int → Int → List ByteArray → List (S41) → Int → Int → Int → Int → Int → List ByteArray → List (S41) → Option (Bool)
 | 0, _, _, _, _, _, _, _, _, _, _, _, _, _, _, _ => none
 | k + 1, x55, x229000, x229001, x229002, x229003, x229004, x229005, x229006, x230000, x230001, x230002, x230003, x230004, x230005, x230006 => if x55 = true then (some false) else (conf_Same.l0 k (x229006.length : Int) 0 x229000 x229001 x229002 x229003 x229004 x229005 x229006 x230000 x230001 x230002 x230003 x230004 x230005 x230006)
def conf_Same.l0 : Nat → Int → Int → Int → Int → Int → Int → Int → List ByteArray → List (S41) → Int → Int → Int → Int → Int → List ByteArray → List (S41) → Option (Bool)
 | 0, _, _, _, _, _, _, _, _, _, _, _, _, _, _, _, _ => none
 | k + 1, x58, x59, x229000, x229001, x229002, x229003, x229004, x229005, x229006, x230000, x230001, x230002, x230003, x230004, x230005, x230006 => if x59 < x58 then (if 0 ≤ x59 then (if x59 < (x229006.length : Int) then (if x59 < (x230006.length : Int) then (if (!(((rd_T41 x229006 x59).f0) == ((rd_T41 x230006 x59).f0)) || (!(((rd_T41 x229006 x59).f1) == ((rd_T41 x230006 x59).f1)) || (!(((rd_T41 x229006 x59).f2) == ((rd_T41 x230006 x59).f2))))) = true then (some false) else (conf_Same.l0 k x58 (wrap64 (x59 + 1)) x229000 x229001 x229002 x229003 x229004 x229005 x229006 x230000 x230001 x230002 x230003 x230004 x230005 x230006)) else (none)) else (none)) else (none)) else (some true)
end
def conf_Same.f (k : Nat) (a0_0 : Int) (a0_1 : Int) (a0_2 : Int) (a0_3 : Int) (a0_4 : Int) (l0_5 : List ByteArray) (l0_6 : List (S41)) (a1_0 : Int) (a1_1 : Int) (a1_2 : Int) (a1_3 : Int) (a1_4 : Int) (l1_5 : List ByteArray) (l1_6 : List (S41)) : Option (Bool) := if a0_0 = a1_0 then (if a0_1 = a1_1 then (if a0_2 = a1_2 then (if a0_3 = a1_3 then (if a0_4 = a1_4 then ((names_Same.f l0_5 l1_5).bind fun t230 => (if t230 = true then (conf_Same.j0 k ((l0_6.length : Int) != (l1_6.length : Int)) a0_0 a0_1 a0_2 a0_3 a0_4 l0_5 l0_6 a1_0 a1_1 a1_2 a1_3 a1_4 l1_5 l1_6) else (conf_Same.j0 k true a0_0 a0_1 a0_2 a0_3 a0_4 l0_5 l0_6 a1_0 a1_1 a1_2 a1_3 a1_4 l1_5 l1_6))) else (conf_Same.j0 k true a0_0 a0_1 a0_2 a0_3 a0_4 l0_5 l0_6 a1_0 a1_1 a1_2 a1_3 a1_4 l1_5 l1_6)) else (conf_Same.j0 k true a0_0 a0_1 a0_2 a0_3 a0_4 l0_5 l0_6 a1_0 a1_1 a1_2 a1_3 a1_4 l1_5 l1_6)) else (conf_Same.j0 k true a0_0 a0_1 a0_2 a0_3 a0_4 l0_5 l0_6 a1_0 a1_1 a1_2 a1_3 a1_4 l1_5 l1_6)) else (conf_Same.j0 k true a0_0 a0_1 a0_2 a0_3 a0_4 l0_5 l0_6 a1_0 a1_1 a1_2 a1_3 a1_4 l1_5 l1_6)) else (conf_Same.j0 k true a0_0 a0_1 a0_2 a0_3 a0_4 l0_5 l0_6 a1_0 a1_1 a1_2 a1_3 a1_4 l1_5 l1_6)
set_option maxHeartbeats 8000000 in
set_option maxRecDepth 100000 in
theorem conf_Same.calls (k : Nat) (a0_0 : Int) (a0_1 : Int) (a0_2 : Int) (a0_3 : Int) (a0_4 : Int) (A0_5 : Option Addr) (c0_5 : Nat) (l0_5 : List ByteArray) (A0_6 : Option Addr) (c0_6 : Nat) (l0_6 : List (S41)) (a1_0 : Int) (a1_1 : Int) (a1_2 : Int) (a1_3 : Int) (a1_4 : Int) (A1_5 : Option Addr) (c1_5 : Nat) (l1_5 : List ByteArray) (A1_6 : Option Addr) (c1_6 : Nat) (l1_6 : List (S41)) (r : Bool) (w : World) (hr0_5 : Kd.C Kd.string w A0_5 l0_5.length l0_5) (hc0_5 : l0_5.length ≤ c0_5) (hr0_6 : Kd.C k41 w A0_6 l0_6.length l0_6) (hc0_6 : l0_6.length ≤ c0_6) (hr1_5 : Kd.C Kd.string w A1_5 l1_5.length l1_5) (hc1_5 : l1_5.length ≤ c1_5) (hr1_6 : Kd.C k41 w A1_6 l1_6.length l1_6) (hc1_6 : l1_6.length ≤ c1_6) (h : conf_Same.f k a0_0 a0_1 a0_2 a0_3 a0_4 l0_5 l0_6 a1_0 a1_1 a1_2 a1_3 a1_4 l1_5 l1_6 = some r) :
  Calls Tryz.prog 11 #[.agg #[.int .i64 a0_0, .int .i64 a0_1, .int .i64 a0_2, .int .i64 a0_3, .int .i64 a0_4, .slice A0_5 l0_5.length c0_5, .slice A0_6 l0_6.length c0_6], .agg #[.int .i64 a1_0, .int .i64 a1_1, .int .i64 a1_2, .int .i64 a1_3, .int .i64 a1_4, .slice A1_5 l1_5.length c1_5, .slice A1_6 l1_6.length c1_6]] w fun e w' => e = .returned (.bool r) ∧ Below w.heap.size w w' := by
 have hu25 := Tryz.underlying25
 have hu41 := Tryz.underlying41
 have HR0_5 := As0.mk hr0_5
 have HC0_5 := As0.mk hc0_5
 clear hr0_5 hc0_5
 have HR0_6 := As0.mk hr0_6
 have HC0_6 := As0.mk hc0_6
 clear hr0_6 hc0_6
 have HR1_5 := As0.mk hr1_5
 have HC1_5 := As0.mk hc1_5
 clear hr1_5 hc1_5
 have HR1_6 := As0.mk hr1_6
 have HC1_6 := As0.mk hc1_6
 clear hr1_6 hc1_6
 have HB := As0.mk (Below.refl w.heap.size w)
 have H : (if a0_0 = a1_0 then (if a0_1 = a1_1 then (if a0_2 = a1_2 then (if a0_3 = a1_3 then (if a0_4 = a1_4 then ((names_Same.f l0_5 l1_5).bind fun t230 => (if t230 = true then (conf_Same.j0 k ((l0_6.length : Int) != (l1_6.length : Int)) a0_0 a0_1 a0_2 a0_3 a0_4 l0_5 l0_6 a1_0 a1_1 a1_2 a1_3 a1_4 l1_5 l1_6) else (conf_Same.j0 k true a0_0 a0_1 a0_2 a0_3 a0_4 l0_5 l0_6 a1_0 a1_1 a1_2 a1_3 a1_4 l1_5 l1_6))) else (conf_Same.j0 k true a0_0 a0_1 a0_2 a0_3 a0_4 l0_5 l0_6 a1_0 a1_1 a1_2 a1_3 a1_4 l1_5 l1_6)) else (conf_Same.j0 k true a0_0 a0_1 a0_2 a0_3 a0_4 l0_5 l0_6 a1_0 a1_1 a1_2 a1_3 a1_4 l1_5 l1_6)) else (conf_Same.j0 k true a0_0 a0_1 a0_2 a0_3 a0_4 l0_5 l0_6 a1_0 a1_1 a1_2 a1_3 a1_4 l1_5 l1_6)) else (conf_Same.j0 k true a0_0 a0_1 a0_2 a0_3 a0_4 l0_5 l0_6 a1_0 a1_1 a1_2 a1_3 a1_4 l1_5 l1_6)) else (conf_Same.j0 k true a0_0 a0_1 a0_2 a0_3 a0_4 l0_5 l0_6 a1_0 a1_1 a1_2 a1_3 a1_4 l1_5 l1_6)) = some r := h
 clear h
 have HC3 := As0.mk H
 clear H
 go_enter Tryz.func11, Tryz.ntmps11
 go_upto_region 1 with (first | ((with_reducible refine gate_dst (N := 2) rfl ?_); (try (refine gate_guard (by rfl) ?_; dsimp only)); refine box_event ?hg (N := 2) ?hd (cs := #[.int .i64 a0_0, .int .i64 a0_1, .int .i64 a0_2, .int .i64 a0_3, .int .i64 a0_4, .slice A0_5 l0_5.length c0_5, .slice A0_6 l0_6.length c0_6]) (t := 25) ?hr ?_; (case hd => rfl); (case hg => rfl); (case hr => first | (go_simp; done) | (go_simp; rfl)); intro gb228 hg w4 hbox hb; have n0_ := As0.mk (below_step (by repeat (first | (with_reducible first | exact HB.out | apply bla | apply bln | apply bld) | exact HB.out)) hb); have n1_ := As0.mk (hbox); have n2_ := As0.mk ((by rw [hg]; exact (below_size (by repeat (first | (with_reducible first | exact HB.out | apply bla | apply bln | apply bld) | exact HB.out))) : w.heap.size ≤ gb228)); have n3_ := As0.mk ((by rw [hg]; exact (below_size (by repeat (first | (with_reducible first | exact HB.out | apply bla | apply bln | apply bld) | exact HB.out))) : w.heap.size ≤ gb228)); clear HB; have HB := n0_; have BK228 := n1_; have GW228 := n2_; have GE228 := n3_; clear n0_ n1_ n2_ n3_; clear hb hbox hg) | ((with_reducible refine gate_dst (N := 3) rfl ?_); (try (refine gate_guard (by rfl) ?_; dsimp only)); refine box_event ?hg (N := 3) ?hd (cs := #[.int .i64 a1_0, .int .i64 a1_1, .int .i64 a1_2, .int .i64 a1_3, .int .i64 a1_4, .slice A1_5 l1_5.length c1_5, .slice A1_6 l1_6.length c1_6]) (t := 25) ?hr ?_; (case hd => rfl); (case hg => rfl); (case hr => first | (go_simp; done) | (go_simp; rfl)); intro gb229 hg w5 hbox hb; have n0_ := As0.mk (blk_below (g := gb228) (o := .cells #[.int .i64 a0_0, .int .i64 a0_1, .int .i64 a0_2, .int .i64 a0_3, .int .i64 a0_4, .slice A0_5 l0_5.length c0_5, .slice A0_6 l0_6.length c0_6] 25 (0, 0)) (by (with_reducible repeat (first | refine bkn ?_ _ | refine bkd ?_ | refine bka ?_ _)); exact BK228.out) hb); have n1_ := As0.mk (below_step (by repeat (first | (with_reducible first | exact HB.out | apply bla | apply bln | apply bld | refine bls ?_ GE228.out) | exact HB.out)) hb); have n2_ := As0.mk (hbox); have n3_ := As0.mk ((by rw [hg]; exact (below_size (by repeat (first | (with_reducible first | exact HB.out | apply bla | apply bln | apply bld | refine bls ?_ GE228.out) | exact HB.out))) : w.heap.size ≤ gb229)); have n4_ := As0.mk ((by rw [hg]; exact (below_size (by repeat (first | (with_reducible first | exact HB.out | apply bla | apply bln | apply bld | refine bls ?_ GE228.out) | exact HB.out))) : w.heap.size ≤ gb229)); have n5_ := As0.mk ((by rw [hg]; exact Nat.ne_of_lt (blk_lt (g := gb228) (o := .cells #[.int .i64 a0_0, .int .i64 a0_1, .int .i64 a0_2, .int .i64 a0_3, .int .i64 a0_4, .slice A0_5 l0_5.length c0_5, .slice A0_6 l0_6.length c0_6] 25 (0, 0)) (by (with_reducible repeat (first | refine bkn ?_ _ | refine bkd ?_ | refine bka ?_ _)); exact BK228.out)) : gb228 ≠ gb229)); have n6_ := As0.mk ((by rw [hg]; exact Nat.ne_of_gt (blk_lt (g := gb228) (o := .cells #[.int .i64 a0_0, .int .i64 a0_1, .int .i64 a0_2, .int .i64 a0_3, .int .i64 a0_4, .slice A0_5 l0_5.length c0_5, .slice A0_6 l0_6.length c0_6] 25 (0, 0)) (by (with_reducible repeat (first | refine bkn ?_ _ | refine bkd ?_ | refine bka ?_ _)); exact BK228.out)) : gb229 ≠ gb228)); clear BK228; clear HB; have BK228 := n0_; have HB := n1_; have BK229 := n2_; have GW229 := n3_; have GE229 := n4_; have NB228_229 := n5_; have NB229_228 := n6_; clear n0_ n1_ n2_ n3_ n4_ n5_ n6_; clear hb hbox hg))
 repeat (go_quiet (first | ((with_reducible refine gate_dst (N := 2) rfl ?_); (try (refine gate_guard (by rfl) ?_; dsimp only)); refine box_event ?hg (N := 2) ?hd (cs := #[.int .i64 a0_0, .int .i64 a0_1, .int .i64 a0_2, .int .i64 a0_3, .int .i64 a0_4, .slice A0_5 l0_5.length c0_5, .slice A0_6 l0_6.length c0_6]) (t := 25) ?hr ?_; (case hd => rfl); (case hg => rfl); (case hr => first | (go_simp; done) | (go_simp; rfl)); intro gb228 hg w4 hbox hb; have n0_ := As0.mk (below_step (by repeat (first | (with_reducible first | exact HB.out | apply bla | apply bln | apply bld) | exact HB.out)) hb); have n1_ := As0.mk (hbox); have n2_ := As0.mk ((by rw [hg]; exact (below_size (by repeat (first | (with_reducible first | exact HB.out | apply bla | apply bln | apply bld) | exact HB.out))) : w.heap.size ≤ gb228)); have n3_ := As0.mk ((by rw [hg]; exact (below_size (by repeat (first | (with_reducible first | exact HB.out | apply bla | apply bln | apply bld) | exact HB.out))) : w.heap.size ≤ gb228)); clear HB; have HB := n0_; have BK228 := n1_; have GW228 := n2_; have GE228 := n3_; clear n0_ n1_ n2_ n3_; clear hb hbox hg) | ((with_reducible refine gate_dst (N := 3) rfl ?_); (try (refine gate_guard (by rfl) ?_; dsimp only)); refine box_event ?hg (N := 3) ?hd (cs := #[.int .i64 a1_0, .int .i64 a1_1, .int .i64 a1_2, .int .i64 a1_3, .int .i64 a1_4, .slice A1_5 l1_5.length c1_5, .slice A1_6 l1_6.length c1_6]) (t := 25) ?hr ?_; (case hd => rfl); (case hg => rfl); (case hr => first | (go_simp; done) | (go_simp; rfl)); intro gb229 hg w5 hbox hb; have n0_ := As0.mk (blk_below (g := gb228) (o := .cells #[.int .i64 a0_0, .int .i64 a0_1, .int .i64 a0_2, .int .i64 a0_3, .int .i64 a0_4, .slice A0_5 l0_5.length c0_5, .slice A0_6 l0_6.length c0_6] 25 (0, 0)) (by (with_reducible repeat (first | refine bkn ?_ _ | refine bkd ?_ | refine bka ?_ _)); exact BK228.out) hb); have n1_ := As0.mk (below_step (by repeat (first | (with_reducible first | exact HB.out | apply bla | apply bln | apply bld | refine bls ?_ GE228.out) | exact HB.out)) hb); have n2_ := As0.mk (hbox); have n3_ := As0.mk ((by rw [hg]; exact (below_size (by repeat (first | (with_reducible first | exact HB.out | apply bla | apply bln | apply bld | refine bls ?_ GE228.out) | exact HB.out))) : w.heap.size ≤ gb229)); have n4_ := As0.mk ((by rw [hg]; exact (below_size (by repeat (first | (with_reducible first | exact HB.out | apply bla | apply bln | apply bld | refine bls ?_ GE228.out) | exact HB.out))) : w.heap.size ≤ gb229)); have n5_ := As0.mk ((by rw [hg]; exact Nat.ne_of_lt (blk_lt (g := gb228) (o := .cells #[.int .i64 a0_0, .int .i64 a0_1, .int .i64 a0_2, .int .i64 a0_3, .int .i64 a0_4, .slice A0_5 l0_5.length c0_5, .slice A0_6 l0_6.length c0_6] 25 (0, 0)) (by (with_reducible repeat (first | refine bkn ?_ _ | refine bkd ?_ | refine bka ?_ _)); exact BK228.out)) : gb228 ≠ gb229)); have n6_ := As0.mk ((by rw [hg]; exact Nat.ne_of_gt (blk_lt (g := gb228) (o := .cells #[.int .i64 a0_0, .int .i64 a0_1, .int .i64 a0_2, .int .i64 a0_3, .int .i64 a0_4, .slice A0_5 l0_5.length c0_5, .slice A0_6 l0_6.length c0_6] 25 (0, 0)) (by (with_reducible repeat (first | refine bkn ?_ _ | refine bkd ?_ | refine bka ?_ _)); exact BK228.out)) : gb229 ≠ gb228)); clear BK228; clear HB; have BK228 := n0_; have HB := n1_; have BK229 := n2_; have GW229 := n3_; have GE229 := n4_; have NB228_229 := n5_; have NB229_228 := n6_; clear n0_ n1_ n2_ n3_ n4_ n5_ n6_; clear hb hbox hg)); go_upto_region 1 with (first | ((with_reducible refine gate_dst (N := 2) rfl ?_); (try (refine gate_guard (by rfl) ?_; dsimp only)); refine box_event ?hg (N := 2) ?hd (cs := #[.int .i64 a0_0, .int .i64 a0_1, .int .i64 a0_2, .int .i64 a0_3, .int .i64 a0_4, .slice A0_5 l0_5.length c0_5, .slice A0_6 l0_6.length c0_6]) (t := 25) ?hr ?_; (case hd => rfl); (case hg => rfl); (case hr => first | (go_simp; done) | (go_simp; rfl)); intro gb228 hg w4 hbox hb; have n0_ := As0.mk (below_step (by repeat (first | (with_reducible first | exact HB.out | apply bla | apply bln | apply bld) | exact HB.out)) hb); have n1_ := As0.mk (hbox); have n2_ := As0.mk ((by rw [hg]; exact (below_size (by repeat (first | (with_reducible first | exact HB.out | apply bla | apply bln | apply bld) | exact HB.out))) : w.heap.size ≤ gb228)); have n3_ := As0.mk ((by rw [hg]; exact (below_size (by repeat (first | (with_reducible first | exact HB.out | apply bla | apply bln | apply bld) | exact HB.out))) : w.heap.size ≤ gb228)); clear HB; have HB := n0_; have BK228 := n1_; have GW228 := n2_; have GE228 := n3_; clear n0_ n1_ n2_ n3_; clear hb hbox hg) | ((with_reducible refine gate_dst (N := 3) rfl ?_); (try (refine gate_guard (by rfl) ?_; dsimp only)); refine box_event ?hg (N := 3) ?hd (cs := #[.int .i64 a1_0, .int .i64 a1_1, .int .i64 a1_2, .int .i64 a1_3, .int .i64 a1_4, .slice A1_5 l1_5.length c1_5, .slice A1_6 l1_6.length c1_6]) (t := 25) ?hr ?_; (case hd => rfl); (case hg => rfl); (case hr => first | (go_simp; done) | (go_simp; rfl)); intro gb229 hg w5 hbox hb; have n0_ := As0.mk (blk_below (g := gb228) (o := .cells #[.int .i64 a0_0, .int .i64 a0_1, .int .i64 a0_2, .int .i64 a0_3, .int .i64 a0_4, .slice A0_5 l0_5.length c0_5, .slice A0_6 l0_6.length c0_6] 25 (0, 0)) (by (with_reducible repeat (first | refine bkn ?_ _ | refine bkd ?_ | refine bka ?_ _)); exact BK228.out) hb); have n1_ := As0.mk (below_step (by repeat (first | (with_reducible first | exact HB.out | apply bla | apply bln | apply bld | refine bls ?_ GE228.out) | exact HB.out)) hb); have n2_ := As0.mk (hbox); have n3_ := As0.mk ((by rw [hg]; exact (below_size (by repeat (first | (with_reducible first | exact HB.out | apply bla | apply bln | apply bld | refine bls ?_ GE228.out) | exact HB.out))) : w.heap.size ≤ gb229)); have n4_ := As0.mk ((by rw [hg]; exact (below_size (by repeat (first | (with_reducible first | exact HB.out | apply bla | apply bln | apply bld | refine bls ?_ GE228.out) | exact HB.out))) : w.heap.size ≤ gb229)); have n5_ := As0.mk ((by rw [hg]; exact Nat.ne_of_lt (blk_lt (g := gb228) (o := .cells #[.int .i64 a0_0, .int .i64 a0_1, .int .i64 a0_2, .int .i64 a0_3, .int .i64 a0_4, .slice A0_5 l0_5.length c0_5, .slice A0_6 l0_6.length c0_6] 25 (0, 0)) (by (with_reducible repeat (first | refine bkn ?_ _ | refine bkd ?_ | refine bka ?_ _)); exact BK228.out)) : gb228 ≠ gb229)); have n6_ := As0.mk ((by rw [hg]; exact Nat.ne_of_gt (blk_lt (g := gb228) (o := .cells #[.int .i64 a0_0, .int .i64 a0_1, .int .i64 a0_2, .int .i64 a0_3, .int .i64 a0_4, .slice A0_5 l0_5.length c0_5, .slice A0_6 l0_6.length c0_6] 25 (0, 0)) (by (with_reducible repeat (first | refine bkn ?_ _ | refine bkd ?_ | refine bka ?_ _)); exact BK228.out)) : gb229 ≠ gb228)); clear BK228; clear HB; have BK228 := n0_; have HB := n1_; have BK229 := n2_; have GW229 := n3_; have GE229 := n4_; have NB228_229 := n5_; have NB229_228 := n6_; clear n0_ n1_ n2_ n3_ n4_ n5_ n6_; clear hb hbox hg)))
 (try simp only [Act.put, List.setIfInBounds_toArray, List.set_cons_zero, List.set_cons_succ])
 go_cut [55] (fun v55 wc => ∃ (kq : Nat) (x55_2 : Bool), v55 = .bool x55_2 ∧ As0 (conf_Same.j0 kq x55_2 a0_0 a0_1 a0_2 a0_3 a0_4 l0_5 l0_6 a1_0 a1_1 a1_2 a1_3 a1_4 l1_5 l1_6 = some r) ∧ As0 (kq ≤ k) ∧ As0 (wc.heap[gb228]? = some (.cells #[.int .i64 a0_0, .int .i64 a0_1, .int .i64 a0_2, .int .i64 a0_3, .int .i64 a0_4, (.slice A0_5 l0_5.length c0_5), (.slice A0_6 l0_6.length c0_6)] 25 (0, 0))) ∧ As0 (wc.heap[gb229]? = some (.cells #[.int .i64 a1_0, .int .i64 a1_1, .int .i64 a1_2, .int .i64 a1_3, .int .i64 a1_4, (.slice A1_5 l1_5.length c1_5), (.slice A1_6 l1_6.length c1_6)] 25 (0, 0))) ∧ As0 (Below w.heap.size w wc))
 case first =>
  have H := HC3.out
  clear HC3
  by_cases c6 : a0_0 = a1_0
  ·
   rw [if_pos c6] at H
   have c6b0 : (a0_0 == a1_0) = true := beq_iff_eq.mpr c6
   have c6b1 : (a0_0 != a1_0) = false := bne_eq_false_iff_eq.mpr c6
   clear c6
   (first | rw [c6b0] | (simp only [i64_w, i32_w]; rw [c6b0]) | skip)
   by_cases c7 : a0_1 = a1_1
   ·
    rw [if_pos c7] at H
    have c7b0 : (a0_1 == a1_1) = true := beq_iff_eq.mpr c7
    have c7b1 : (a0_1 != a1_1) = false := bne_eq_false_iff_eq.mpr c7
    clear c7
    by_cases c8 : a0_2 = a1_2
    ·
     rw [if_pos c8] at H
     have c8b0 : (a0_2 == a1_2) = true := beq_iff_eq.mpr c8
     have c8b1 : (a0_2 != a1_2) = false := bne_eq_false_iff_eq.mpr c8
     clear c8
     by_cases c9 : a0_3 = a1_3
     ·
      rw [if_pos c9] at H
      have c9b0 : (a0_3 == a1_3) = true := beq_iff_eq.mpr c9
      have c9b1 : (a0_3 != a1_3) = false := bne_eq_false_iff_eq.mpr c9
      clear c9
      by_cases c10 : a0_4 = a1_4
      ·
       rw [if_pos c10] at H
       have c10b0 : (a0_4 == a1_4) = true := beq_iff_eq.mpr c10
       have c10b1 : (a0_4 != a1_4) = false := bne_eq_false_iff_eq.mpr c10
       clear c10
       replace H := Option.bind_eq_some_iff.mp H
       obtain ⟨t230, A110, H⟩ := H
       replace H : (if t230 = true then (conf_Same.j0 k ((l0_6.length : Int) != (l1_6.length : Int)) a0_0 a0_1 a0_2 a0_3 a0_4 l0_5 l0_6 a1_0 a1_1 a1_2 a1_3 a1_4 l1_5 l1_6) else (conf_Same.j0 k true a0_0 a0_1 a0_2 a0_3 a0_4 l0_5 l0_6 a1_0 a1_1 a1_2 a1_3 a1_4 l1_5 l1_6)) = some r := H
       have A11 := As0.mk A110
       clear A110
       by_cases c12 : t230 = true
       ·
        subst c12
        have H1 : (conf_Same.j0 k ((l0_6.length : Int) != (l1_6.length : Int)) a0_0 a0_1 a0_2 a0_3 a0_4 l0_5 l0_6 a1_0 a1_1 a1_2 a1_3 a1_4 l1_5 l1_6) = some r := by rw [if_pos rfl] at H; exact H
        clear H
        have H := H1
        clear H1
        have H' := As0.mk H
        clear H
        have hnb13 := NB228_229.out
        have hnc13 := NB229_228.out
        have hcz14_0 : w5.cell? ⟨gb228, 0, none⟩ = some (.int .i64 a0_0) := (bkc BK228.out 0).trans rfl
        have hcz14_1 : w5.cell? ⟨gb228, 1, none⟩ = some (.int .i64 a0_1) := (bkc BK228.out 1).trans rfl
        have hcz14_2 : w5.cell? ⟨gb228, 2, none⟩ = some (.int .i64 a0_2) := (bkc BK228.out 2).trans rfl
        have hcz14_3 : w5.cell? ⟨gb228, 3, none⟩ = some (.int .i64 a0_3) := (bkc BK228.out 3).trans rfl
        have hcz14_4 : w5.cell? ⟨gb228, 4, none⟩ = some (.int .i64 a0_4) := (bkc BK228.out 4).trans rfl
        have hcz14_5 : w5.cell? ⟨gb228, 5, none⟩ = some (.slice A0_5 l0_5.length c0_5) := (bkc BK228.out 5).trans rfl
        have hcz14_6 : w5.cell? ⟨gb228, 6, none⟩ = some (.slice A0_6 l0_6.length c0_6) := (bkc BK228.out 6).trans rfl
        have hfz14_0 := bkf BK228.out 0
        have hfz14_1 := bkf BK228.out 1
        have hfz14_2 := bkf BK228.out 2
        have hfz14_3 := bkf BK228.out 3
        have hfz14_4 := bkf BK228.out 4
        have hfz14_5 := bkf BK228.out 5
        have hfz14_6 := bkf BK228.out 6
        have hcz15_0 : w5.cell? ⟨gb229, 0, none⟩ = some (.int .i64 a1_0) := (bkc BK229.out 0).trans rfl
        have hcz15_1 : w5.cell? ⟨gb229, 1, none⟩ = some (.int .i64 a1_1) := (bkc BK229.out 1).trans rfl
        have hcz15_2 : w5.cell? ⟨gb229, 2, none⟩ = some (.int .i64 a1_2) := (bkc BK229.out 2).trans rfl
        have hcz15_3 : w5.cell? ⟨gb229, 3, none⟩ = some (.int .i64 a1_3) := (bkc BK229.out 3).trans rfl
        have hcz15_4 : w5.cell? ⟨gb229, 4, none⟩ = some (.int .i64 a1_4) := (bkc BK229.out 4).trans rfl
        have hcz15_5 : w5.cell? ⟨gb229, 5, none⟩ = some (.slice A1_5 l1_5.length c1_5) := (bkc BK229.out 5).trans rfl
        have hcz15_6 : w5.cell? ⟨gb229, 6, none⟩ = some (.slice A1_6 l1_6.length c1_6) := (bkc BK229.out 6).trans rfl
        have hfz15_0 := bkf BK229.out 0
        have hfz15_1 := bkf BK229.out 1
        have hfz15_2 := bkf BK229.out 2
        have hfz15_3 := bkf BK229.out 3
        have hfz15_4 := bkf BK229.out 4
        have hfz15_5 := bkf BK229.out 5
        have hfz15_6 := bkf BK229.out 6
        go_wp2_with (first | (go_at_call 27; (with_reducible refine (names_Same.calls _ _ l0_5 _ _ l1_5 true _ ?side1 ?side2 ?side3 ?side4 A11.out).mono ?_); (case side1 => repeat (first | exact (Kd.C_below HR0_5.out HB.out) | (with_reducible refine Kd.C_alloc ?_ _) | (with_reducible refine Kd.C_drewN ?_ _) | (with_reducible refine Kd.C_drew ?_))); (case side2 => exact HC0_5.out); (case side3 => repeat (first | exact (Kd.C_below HR1_5.out HB.out) | (with_reducible refine Kd.C_alloc ?_ _) | (with_reducible refine Kd.C_drewN ?_ _) | (with_reducible refine Kd.C_drew ?_))); (case side4 => exact HC1_5.out); rintro e w16 ⟨rfl, hb⟩; have n0_ := As0.mk (blk_below (g := gb228) (o := .cells #[.int .i64 a0_0, .int .i64 a0_1, .int .i64 a0_2, .int .i64 a0_3, .int .i64 a0_4, .slice A0_5 l0_5.length c0_5, .slice A0_6 l0_6.length c0_6] 25 (0, 0)) (by (with_reducible repeat (first | refine bkn ?_ _ | refine bkd ?_ | refine bka ?_ _)); exact BK228.out) hb); have n1_ := As0.mk (blk_below (g := gb229) (o := .cells #[.int .i64 a1_0, .int .i64 a1_1, .int .i64 a1_2, .int .i64 a1_3, .int .i64 a1_4, .slice A1_5 l1_5.length c1_5, .slice A1_6 l1_6.length c1_6] 25 (0, 0)) (by (with_reducible repeat (first | refine bkn ?_ _ | refine bkd ?_ | refine bka ?_ _)); exact BK229.out) hb); have n2_ := As0.mk (below_step (by repeat (first | (with_reducible first | exact HB.out | apply bla | apply bln | apply bld | refine bls ?_ GE228.out | refine bls ?_ GE229.out) | exact HB.out)) hb); clear BK228; clear BK229; clear HB; have BK228 := n0_; have BK229 := n1_; have HB := n2_; clear n0_ n1_ n2_; (try clear hb); (try clear hb2); (try clear hk); (try clear hi); have hcz17_0 : w16.cell? ⟨gb228, 0, none⟩ = some (.int .i64 a0_0) := (bkc BK228.out 0).trans rfl; have hcz17_1 : w16.cell? ⟨gb228, 1, none⟩ = some (.int .i64 a0_1) := (bkc BK228.out 1).trans rfl; have hcz17_2 : w16.cell? ⟨gb228, 2, none⟩ = some (.int .i64 a0_2) := (bkc BK228.out 2).trans rfl; have hcz17_3 : w16.cell? ⟨gb228, 3, none⟩ = some (.int .i64 a0_3) := (bkc BK228.out 3).trans rfl; have hcz17_4 : w16.cell? ⟨gb228, 4, none⟩ = some (.int .i64 a0_4) := (bkc BK228.out 4).trans rfl; have hcz17_5 : w16.cell? ⟨gb228, 5, none⟩ = some (.slice A0_5 l0_5.length c0_5) := (bkc BK228.out 5).trans rfl; have hcz17_6 : w16.cell? ⟨gb228, 6, none⟩ = some (.slice A0_6 l0_6.length c0_6) := (bkc BK228.out 6).trans rfl; have hfz17_0 := bkf BK228.out 0; have hfz17_1 := bkf BK228.out 1; have hfz17_2 := bkf BK228.out 2; have hfz17_3 := bkf BK228.out 3; have hfz17_4 := bkf BK228.out 4; have hfz17_5 := bkf BK228.out 5; have hfz17_6 := bkf BK228.out 6; have hcz18_0 : w16.cell? ⟨gb229, 0, none⟩ = some (.int .i64 a1_0) := (bkc BK229.out 0).trans rfl; have hcz18_1 : w16.cell? ⟨gb229, 1, none⟩ = some (.int .i64 a1_1) := (bkc BK229.out 1).trans rfl; have hcz18_2 : w16.cell? ⟨gb229, 2, none⟩ = some (.int .i64 a1_2) := (bkc BK229.out 2).trans rfl; have hcz18_3 : w16.cell? ⟨gb229, 3, none⟩ = some (.int .i64 a1_3) := (bkc BK229.out 3).trans rfl; have hcz18_4 : w16.cell? ⟨gb229, 4, none⟩ = some (.int .i64 a1_4) := (bkc BK229.out 4).trans rfl; have hcz18_5 : w16.cell? ⟨gb229, 5, none⟩ = some (.slice A1_5 l1_5.length c1_5) := (bkc BK229.out 5).trans rfl; have hcz18_6 : w16.cell? ⟨gb229, 6, none⟩ = some (.slice A1_6 l1_6.length c1_6) := (bkc BK229.out 6).trans rfl; have hfz18_0 := bkf BK229.out 0; have hfz18_1 := bkf BK229.out 1; have hfz18_2 := bkf BK229.out 2; have hfz18_3 := bkf BK229.out 3; have hfz18_4 := bkf BK229.out 4; have hfz18_5 := bkf BK229.out 5; have hfz18_6 := bkf BK229.out 6))
        repeat (go_quiet (first | (go_at_call 27; (with_reducible refine (names_Same.calls _ _ l0_5 _ _ l1_5 true _ ?side1 ?side2 ?side3 ?side4 A11.out).mono ?_); (case side1 => repeat (first | exact (Kd.C_below HR0_5.out HB.out) | (with_reducible refine Kd.C_alloc ?_ _) | (with_reducible refine Kd.C_drewN ?_ _) | (with_reducible refine Kd.C_drew ?_))); (case side2 => exact HC0_5.out); (case side3 => repeat (first | exact (Kd.C_below HR1_5.out HB.out) | (with_reducible refine Kd.C_alloc ?_ _) | (with_reducible refine Kd.C_drewN ?_ _) | (with_reducible refine Kd.C_drew ?_))); (case side4 => exact HC1_5.out); rintro e w16 ⟨rfl, hb⟩; have n0_ := As0.mk (blk_below (g := gb228) (o := .cells #[.int .i64 a0_0, .int .i64 a0_1, .int .i64 a0_2, .int .i64 a0_3, .int .i64 a0_4, .slice A0_5 l0_5.length c0_5, .slice A0_6 l0_6.length c0_6] 25 (0, 0)) (by (with_reducible repeat (first | refine bkn ?_ _ | refine bkd ?_ | refine bka ?_ _)); exact BK228.out) hb); have n1_ := As0.mk (blk_below (g := gb229) (o := .cells #[.int .i64 a1_0, .int .i64 a1_1, .int .i64 a1_2, .int .i64 a1_3, .int .i64 a1_4, .slice A1_5 l1_5.length c1_5, .slice A1_6 l1_6.length c1_6] 25 (0, 0)) (by (with_reducible repeat (first | refine bkn ?_ _ | refine bkd ?_ | refine bka ?_ _)); exact BK229.out) hb); have n2_ := As0.mk (below_step (by repeat (first | (with_reducible first | exact HB.out | apply bla | apply bln | apply bld | refine bls ?_ GE228.out | refine bls ?_ GE229.out) | exact HB.out)) hb); clear BK228; clear BK229; clear HB; have BK228 := n0_; have BK229 := n1_; have HB := n2_; clear n0_ n1_ n2_; (try clear hb); (try clear hb2); (try clear hk); (try clear hi); have hcz17_0 : w16.cell? ⟨gb228, 0, none⟩ = some (.int .i64 a0_0) := (bkc BK228.out 0).trans rfl; have hcz17_1 : w16.cell? ⟨gb228, 1, none⟩ = some (.int .i64 a0_1) := (bkc BK228.out 1).trans rfl; have hcz17_2 : w16.cell? ⟨gb228, 2, none⟩ = some (.int .i64 a0_2) := (bkc BK228.out 2).trans rfl; have hcz17_3 : w16.cell? ⟨gb228, 3, none⟩ = some (.int .i64 a0_3) := (bkc BK228.out 3).trans rfl; have hcz17_4 : w16.cell? ⟨gb228, 4, none⟩ = some (.int .i64 a0_4) := (bkc BK228.out 4).trans rfl; have hcz17_5 : w16.cell? ⟨gb228, 5, none⟩ = some (.slice A0_5 l0_5.length c0_5) := (bkc BK228.out 5).trans rfl; have hcz17_6 : w16.cell? ⟨gb228, 6, none⟩ = some (.slice A0_6 l0_6.length c0_6) := (bkc BK228.out 6).trans rfl; have hfz17_0 := bkf BK228.out 0; have hfz17_1 := bkf BK228.out 1; have hfz17_2 := bkf BK228.out 2; have hfz17_3 := bkf BK228.out 3; have hfz17_4 := bkf BK228.out 4; have hfz17_5 := bkf BK228.out 5; have hfz17_6 := bkf BK228.out 6; have hcz18_0 : w16.cell? ⟨gb229, 0, none⟩ = some (.int .i64 a1_0) := (bkc BK229.out 0).trans rfl; have hcz18_1 : w16.cell? ⟨gb229, 1, none⟩ = some (.int .i64 a1_1) := (bkc BK229.out 1).trans rfl; have hcz18_2 : w16.cell? ⟨gb229, 2, none⟩ = some (.int .i64 a1_2) := (bkc BK229.out 2).trans rfl; have hcz18_3 : w16.cell? ⟨gb229, 3, none⟩ = some (.int .i64 a1_3) := (bkc BK229.out 3).trans rfl; have hcz18_4 : w16.cell? ⟨gb229, 4, none⟩ = some (.int .i64 a1_4) := (bkc BK229.out 4).trans rfl; have hcz18_5 : w16.cell? ⟨gb229, 5, none⟩ = some (.slice A1_5 l1_5.length c1_5) := (bkc BK229.out 5).trans rfl; have hcz18_6 : w16.cell? ⟨gb229, 6, none⟩ = some (.slice A1_6 l1_6.length c1_6) := (bkc BK229.out 6).trans rfl; have hfz18_0 := bkf BK229.out 0; have hfz18_1 := bkf BK229.out 1; have hfz18_2 := bkf BK229.out 2; have hfz18_3 := bkf BK229.out 3; have hfz18_4 := bkf BK229.out 4; have hfz18_5 := bkf BK229.out 5; have hfz18_6 := bkf BK229.out 6)); try go_wp2_with (first | (go_at_call 27; (with_reducible refine (names_Same.calls _ _ l0_5 _ _ l1_5 true _ ?side1 ?side2 ?side3 ?side4 A11.out).mono ?_); (case side1 => repeat (first | exact (Kd.C_below HR0_5.out HB.out) | (with_reducible refine Kd.C_alloc ?_ _) | (with_reducible refine Kd.C_drewN ?_ _) | (with_reducible refine Kd.C_drew ?_))); (case side2 => exact HC0_5.out); (case side3 => repeat (first | exact (Kd.C_below HR1_5.out HB.out) | (with_reducible refine Kd.C_alloc ?_ _) | (with_reducible refine Kd.C_drewN ?_ _) | (with_reducible refine Kd.C_drew ?_))); (case side4 => exact HC1_5.out); rintro e w16 ⟨rfl, hb⟩; have n0_ := As0.mk (blk_below (g := gb228) (o := .cells #[.int .i64 a0_0, .int .i64 a0_1, .int .i64 a0_2, .int .i64 a0_3, .int .i64 a0_4, .slice A0_5 l0_5.length c0_5, .slice A0_6 l0_6.length c0_6] 25 (0, 0)) (by (with_reducible repeat (first | refine bkn ?_ _ | refine bkd ?_ | refine bka ?_ _)); exact BK228.out) hb); have n1_ := As0.mk (blk_below (g := gb229) (o := .cells #[.int .i64 a1_0, .int .i64 a1_1, .int .i64 a1_2, .int .i64 a1_3, .int .i64 a1_4, .slice A1_5 l1_5.length c1_5, .slice A1_6 l1_6.length c1_6] 25 (0, 0)) (by (with_reducible repeat (first | refine bkn ?_ _ | refine bkd ?_ | refine bka ?_ _)); exact BK229.out) hb); have n2_ := As0.mk (below_step (by repeat (first | (with_reducible first | exact HB.out | apply bla | apply bln | apply bld | refine bls ?_ GE228.out | refine bls ?_ GE229.out) | exact HB.out)) hb); clear BK228; clear BK229; clear HB; have BK228 := n0_; have BK229 := n1_; have HB := n2_; clear n0_ n1_ n2_; (try clear hb); (try clear hb2); (try clear hk); (try clear hi); have hcz17_0 : w16.cell? ⟨gb228, 0, none⟩ = some (.int .i64 a0_0) := (bkc BK228.out 0).trans rfl; have hcz17_1 : w16.cell? ⟨gb228, 1, none⟩ = some (.int .i64 a0_1) := (bkc BK228.out 1).trans rfl; have hcz17_2 : w16.cell? ⟨gb228, 2, none⟩ = some (.int .i64 a0_2) := (bkc BK228.out 2).trans rfl; have hcz17_3 : w16.cell? ⟨gb228, 3, none⟩ = some (.int .i64 a0_3) := (bkc BK228.out 3).trans rfl; have hcz17_4 : w16.cell? ⟨gb228, 4, none⟩ = some (.int .i64 a0_4) := (bkc BK228.out 4).trans rfl; have hcz17_5 : w16.cell? ⟨gb228, 5, none⟩ = some (.slice A0_5 l0_5.length c0_5) := (bkc BK228.out 5).trans rfl; have hcz17_6 : w16.cell? ⟨gb228, 6, none⟩ = some (.slice A0_6 l0_6.length c0_6) := (bkc BK228.out 6).trans rfl; have hfz17_0 := bkf BK228.out 0; have hfz17_1 := bkf BK228.out 1; have hfz17_2 := bkf BK228.out 2; have hfz17_3 := bkf BK228.out 3; have hfz17_4 := bkf BK228.out 4; have hfz17_5 := bkf BK228.out 5; have hfz17_6 := bkf BK228.out 6; have hcz18_0 : w16.cell? ⟨gb229, 0, none⟩ = some (.int .i64 a1_0) := (bkc BK229.out 0).trans rfl; have hcz18_1 : w16.cell? ⟨gb229, 1, none⟩ = some (.int .i64 a1_1) := (bkc BK229.out 1).trans rfl; have hcz18_2 : w16.cell? ⟨gb229, 2, none⟩ = some (.int .i64 a1_2) := (bkc BK229.out 2).trans rfl; have hcz18_3 : w16.cell? ⟨gb229, 3, none⟩ = some (.int .i64 a1_3) := (bkc BK229.out 3).trans rfl; have hcz18_4 : w16.cell? ⟨gb229, 4, none⟩ = some (.int .i64 a1_4) := (bkc BK229.out 4).trans rfl; have hcz18_5 : w16.cell? ⟨gb229, 5, none⟩ = some (.slice A1_5 l1_5.length c1_5) := (bkc BK229.out 5).trans rfl; have hcz18_6 : w16.cell? ⟨gb229, 6, none⟩ = some (.slice A1_6 l1_6.length c1_6) := (bkc BK229.out 6).trans rfl; have hfz18_0 := bkf BK229.out 0; have hfz18_1 := bkf BK229.out 1; have hfz18_2 := bkf BK229.out 2; have hfz18_3 := bkf BK229.out 3; have hfz18_4 := bkf BK229.out 4; have hfz18_5 := bkf BK229.out 5; have hfz18_6 := bkf BK229.out 6)))
        go_meet
        case rel => exact ⟨_, (((l0_6.length : Int) != (l1_6.length : Int))), (by first | rfl | (simp; done) | (simp [*]; done)), H', ⟨by first | omega | exact Nat.le_refl _⟩, ⟨by (with_reducible repeat (first | refine bkn ?_ _ | refine bkd ?_ | refine bka ?_ _)); exact BK228.out⟩, ⟨by (with_reducible repeat (first | refine bkn ?_ _ | refine bkd ?_ | refine bka ?_ _)); exact BK229.out⟩, ⟨by repeat (first | (with_reducible first | exact HB.out | apply bla | apply bln | apply bld | refine bls ?_ GE228.out | refine bls ?_ GE229.out) | exact HB.out)⟩⟩
       ·
        replace c12 := Bool.eq_false_iff.mpr c12
        subst c12
        have H1 : (conf_Same.j0 k true a0_0 a0_1 a0_2 a0_3 a0_4 l0_5 l0_6 a1_0 a1_1 a1_2 a1_3 a1_4 l1_5 l1_6) = some r := by rw [if_neg (show ¬ (false = true) by decide)] at H; exact H
        clear H
        have H := H1
        clear H1
        have H' := As0.mk H
        clear H
        have hnb19 := NB228_229.out
        have hnc19 := NB229_228.out
        have hcz20_0 : w5.cell? ⟨gb228, 0, none⟩ = some (.int .i64 a0_0) := (bkc BK228.out 0).trans rfl
        have hcz20_1 : w5.cell? ⟨gb228, 1, none⟩ = some (.int .i64 a0_1) := (bkc BK228.out 1).trans rfl
        have hcz20_2 : w5.cell? ⟨gb228, 2, none⟩ = some (.int .i64 a0_2) := (bkc BK228.out 2).trans rfl
        have hcz20_3 : w5.cell? ⟨gb228, 3, none⟩ = some (.int .i64 a0_3) := (bkc BK228.out 3).trans rfl
        have hcz20_4 : w5.cell? ⟨gb228, 4, none⟩ = some (.int .i64 a0_4) := (bkc BK228.out 4).trans rfl
        have hcz20_5 : w5.cell? ⟨gb228, 5, none⟩ = some (.slice A0_5 l0_5.length c0_5) := (bkc BK228.out 5).trans rfl
        have hcz20_6 : w5.cell? ⟨gb228, 6, none⟩ = some (.slice A0_6 l0_6.length c0_6) := (bkc BK228.out 6).trans rfl
        have hfz20_0 := bkf BK228.out 0
        have hfz20_1 := bkf BK228.out 1
        have hfz20_2 := bkf BK228.out 2
        have hfz20_3 := bkf BK228.out 3
        have hfz20_4 := bkf BK228.out 4
        have hfz20_5 := bkf BK228.out 5
        have hfz20_6 := bkf BK228.out 6
        have hcz21_0 : w5.cell? ⟨gb229, 0, none⟩ = some (.int .i64 a1_0) := (bkc BK229.out 0).trans rfl
        have hcz21_1 : w5.cell? ⟨gb229, 1, none⟩ = some (.int .i64 a1_1) := (bkc BK229.out 1).trans rfl
        have hcz21_2 : w5.cell? ⟨gb229, 2, none⟩ = some (.int .i64 a1_2) := (bkc BK229.out 2).trans rfl
        have hcz21_3 : w5.cell? ⟨gb229, 3, none⟩ = some (.int .i64 a1_3) := (bkc BK229.out 3).trans rfl
        have hcz21_4 : w5.cell? ⟨gb229, 4, none⟩ = some (.int .i64 a1_4) := (bkc BK229.out 4).trans rfl
        have hcz21_5 : w5.cell? ⟨gb229, 5, none⟩ = some (.slice A1_5 l1_5.length c1_5) := (bkc BK229.out 5).trans rfl
        have hcz21_6 : w5.cell? ⟨gb229, 6, none⟩ = some (.slice A1_6 l1_6.length c1_6) := (bkc BK229.out 6).trans rfl
        have hfz21_0 := bkf BK229.out 0
        have hfz21_1 := bkf BK229.out 1
        have hfz21_2 := bkf BK229.out 2
        have hfz21_3 := bkf BK229.out 3
        have hfz21_4 := bkf BK229.out 4
        have hfz21_5 := bkf BK229.out 5
        have hfz21_6 := bkf BK229.out 6
        go_wp2_with (first | (go_at_call 27; (with_reducible refine (names_Same.calls _ _ l0_5 _ _ l1_5 false _ ?side1 ?side2 ?side3 ?side4 A11.out).mono ?_); (case side1 => repeat (first | exact (Kd.C_below HR0_5.out HB.out) | (with_reducible refine Kd.C_alloc ?_ _) | (with_reducible refine Kd.C_drewN ?_ _) | (with_reducible refine Kd.C_drew ?_))); (case side2 => exact HC0_5.out); (case side3 => repeat (first | exact (Kd.C_below HR1_5.out HB.out) | (with_reducible refine Kd.C_alloc ?_ _) | (with_reducible refine Kd.C_drewN ?_ _) | (with_reducible refine Kd.C_drew ?_))); (case side4 => exact HC1_5.out); rintro e w22 ⟨rfl, hb⟩; have n0_ := As0.mk (blk_below (g := gb228) (o := .cells #[.int .i64 a0_0, .int .i64 a0_1, .int .i64 a0_2, .int .i64 a0_3, .int .i64 a0_4, .slice A0_5 l0_5.length c0_5, .slice A0_6 l0_6.length c0_6] 25 (0, 0)) (by (with_reducible repeat (first | refine bkn ?_ _ | refine bkd ?_ | refine bka ?_ _)); exact BK228.out) hb); have n1_ := As0.mk (blk_below (g := gb229) (o := .cells #[.int .i64 a1_0, .int .i64 a1_1, .int .i64 a1_2, .int .i64 a1_3, .int .i64 a1_4, .slice A1_5 l1_5.length c1_5, .slice A1_6 l1_6.length c1_6] 25 (0, 0)) (by (with_reducible repeat (first | refine bkn ?_ _ | refine bkd ?_ | refine bka ?_ _)); exact BK229.out) hb); have n2_ := As0.mk (below_step (by repeat (first | (with_reducible first | exact HB.out | apply bla | apply bln | apply bld | refine bls ?_ GE228.out | refine bls ?_ GE229.out) | exact HB.out)) hb); clear BK228; clear BK229; clear HB; have BK228 := n0_; have BK229 := n1_; have HB := n2_; clear n0_ n1_ n2_; (try clear hb); (try clear hb2); (try clear hk); (try clear hi)))
        repeat (go_quiet (first | (go_at_call 27; (with_reducible refine (names_Same.calls _ _ l0_5 _ _ l1_5 false _ ?side1 ?side2 ?side3 ?side4 A11.out).mono ?_); (case side1 => repeat (first | exact (Kd.C_below HR0_5.out HB.out) | (with_reducible refine Kd.C_alloc ?_ _) | (with_reducible refine Kd.C_drewN ?_ _) | (with_reducible refine Kd.C_drew ?_))); (case side2 => exact HC0_5.out); (case side3 => repeat (first | exact (Kd.C_below HR1_5.out HB.out) | (with_reducible refine Kd.C_alloc ?_ _) | (with_reducible refine Kd.C_drewN ?_ _) | (with_reducible refine Kd.C_drew ?_))); (case side4 => exact HC1_5.out); rintro e w22 ⟨rfl, hb⟩; have n0_ := As0.mk (blk_below (g := gb228) (o := .cells #[.int .i64 a0_0, .int .i64 a0_1, .int .i64 a0_2, .int .i64 a0_3, .int .i64 a0_4, .slice A0_5 l0_5.length c0_5, .slice A0_6 l0_6.length c0_6] 25 (0, 0)) (by (with_reducible repeat (first | refine bkn ?_ _ | refine bkd ?_ | refine bka ?_ _)); exact BK228.out) hb); have n1_ := As0.mk (blk_below (g := gb229) (o := .cells #[.int .i64 a1_0, .int .i64 a1_1, .int .i64 a1_2, .int .i64 a1_3, .int .i64 a1_4, .slice A1_5 l1_5.length c1_5, .slice A1_6 l1_6.length c1_6] 25 (0, 0)) (by (with_reducible repeat (first | refine bkn ?_ _ | refine bkd ?_ | refine bka ?_ _)); exact BK229.out) hb); have n2_ := As0.mk (below_step (by repeat (first | (with_reducible first | exact HB.out | apply bla | apply bln | apply bld | refine bls ?_ GE228.out | refine bls ?_ GE229.out) | exact HB.out)) hb); clear BK228; clear BK229; clear HB; have BK228 := n0_; have BK229 := n1_; have HB := n2_; clear n0_ n1_ n2_; (try clear hb); (try clear hb2); (try clear hk); (try clear hi))); try go_wp2_with (first | (go_at_call 27; (with_reducible refine (names_Same.calls _ _ l0_5 _ _ l1_5 false _ ?side1 ?side2 ?side3 ?side4 A11.out).mono ?_); (case side1 => repeat (first | exact (Kd.C_below HR0_5.out HB.out) | (with_reducible refine Kd.C_alloc ?_ _) | (with_reducible refine Kd.C_drewN ?_ _) | (with_reducible refine Kd.C_drew ?_))); (case side2 => exact HC0_5.out); (case side3 => repeat (first | exact (Kd.C_below HR1_5.out HB.out) | (with_reducible refine Kd.C_alloc ?_ _) | (with_reducible refine Kd.C_drewN ?_ _) | (with_reducible refine Kd.C_drew ?_))); (case side4 => exact HC1_5.out); rintro e w22 ⟨rfl, hb⟩; have n0_ := As0.mk (blk_below (g := gb228) (o := .cells #[.int .i64 a0_0, .int .i64 a0_1, .int .i64 a0_2, .int .i64 a0_3, .int .i64 a0_4, .slice A0_5 l0_5.length c0_5, .slice A0_6 l0_6.length c0_6] 25 (0, 0)) (by (with_reducible repeat (first | refine bkn ?_ _ | refine bkd ?_ | refine bka ?_ _)); exact BK228.out) hb); have n1_ := As0.mk (blk_below (g := gb229) (o := .cells #[.int .i64 a1_0, .int .i64 a1_1, .int .i64 a1_2, .int .i64 a1_3, .int .i64 a1_4, .slice A1_5 l1_5.length c1_5, .slice A1_6 l1_6.length c1_6] 25 (0, 0)) (by (with_reducible repeat (first | refine bkn ?_ _ | refine bkd ?_ | refine bka ?_ _)); exact BK229.out) hb); have n2_ := As0.mk (below_step (by repeat (first | (with_reducible first | exact HB.out | apply bla | apply bln | apply bld | refine bls ?_ GE228.out | refine bls ?_ GE229.out) | exact HB.out)) hb); clear BK228; clear BK229; clear HB; have BK228 := n0_; have BK229 := n1_; have HB := n2_; clear n0_ n1_ n2_; (try clear hb); (try clear hb2); (try clear hk); (try clear hi))))
        go_meet
        case rel => exact ⟨_, (true), (by first | rfl | (simp; done) | (simp [*]; done)), H', ⟨by first | omega | exact Nat.le_refl _⟩, ⟨by (with_reducible repeat (first | refine bkn ?_ _ | refine bkd ?_ | refine bka ?_ _)); exact BK228.out⟩, ⟨by (with_reducible repeat (first | refine bkn ?_ _ | refine bkd ?_ | refine bka ?_ _)); exact BK229.out⟩, ⟨by repeat (first | (with_reducible first | exact HB.out | apply bla | apply bln | apply bld | refine bls ?_ GE228.out | refine bls ?_ GE229.out) | exact HB.out)⟩⟩
      ·
       rw [if_neg c10] at H
       have c10b0 : (a0_4 == a1_4) = false := beq_eq_false_iff_ne.mpr c10
       have c10b1 : (a0_4 != a1_4) = true := bne_iff_ne.mpr c10
       have H' := As0.mk H
       clear H
       have hnb23 := NB228_229.out
       have hnc23 := NB229_228.out
       have hcz24_0 : w5.cell? ⟨gb228, 0, none⟩ = some (.int .i64 a0_0) := (bkc BK228.out 0).trans rfl
       have hcz24_1 : w5.cell? ⟨gb228, 1, none⟩ = some (.int .i64 a0_1) := (bkc BK228.out 1).trans rfl
       have hcz24_2 : w5.cell? ⟨gb228, 2, none⟩ = some (.int .i64 a0_2) := (bkc BK228.out 2).trans rfl
       have hcz24_3 : w5.cell? ⟨gb228, 3, none⟩ = some (.int .i64 a0_3) := (bkc BK228.out 3).trans rfl
       have hcz24_4 : w5.cell? ⟨gb228, 4, none⟩ = some (.int .i64 a0_4) := (bkc BK228.out 4).trans rfl
       have hcz24_5 : w5.cell? ⟨gb228, 5, none⟩ = some (.slice A0_5 l0_5.length c0_5) := (bkc BK228.out 5).trans rfl
       have hcz24_6 : w5.cell? ⟨gb228, 6, none⟩ = some (.slice A0_6 l0_6.length c0_6) := (bkc BK228.out 6).trans rfl
       have hfz24_0 := bkf BK228.out 0
       have hfz24_1 := bkf BK228.out 1
       have hfz24_2 := bkf BK228.out 2
       have hfz24_3 := bkf BK228.out 3
       have hfz24_4 := bkf BK228.out 4
       have hfz24_5 := bkf BK228.out 5
       have hfz24_6 := bkf BK228.out 6
       have hcz25_0 : w5.cell? ⟨gb229, 0, none⟩ = some (.int .i64 a1_0) := (bkc BK229.out 0).trans rfl
       have hcz25_1 : w5.cell? ⟨gb229, 1, none⟩ = some (.int .i64 a1_1) := (bkc BK229.out 1).trans rfl
       have hcz25_2 : w5.cell? ⟨gb229, 2, none⟩ = some (.int .i64 a1_2) := (bkc BK229.out 2).trans rfl
       have hcz25_3 : w5.cell? ⟨gb229, 3, none⟩ = some (.int .i64 a1_3) := (bkc BK229.out 3).trans rfl
       have hcz25_4 : w5.cell? ⟨gb229, 4, none⟩ = some (.int .i64 a1_4) := (bkc BK229.out 4).trans rfl
       have hcz25_5 : w5.cell? ⟨gb229, 5, none⟩ = some (.slice A1_5 l1_5.length c1_5) := (bkc BK229.out 5).trans rfl
       have hcz25_6 : w5.cell? ⟨gb229, 6, none⟩ = some (.slice A1_6 l1_6.length c1_6) := (bkc BK229.out 6).trans rfl
       have hfz25_0 := bkf BK229.out 0
       have hfz25_1 := bkf BK229.out 1
       have hfz25_2 := bkf BK229.out 2
       have hfz25_3 := bkf BK229.out 3
       have hfz25_4 := bkf BK229.out 4
       have hfz25_5 := bkf BK229.out 5
       have hfz25_6 := bkf BK229.out 6
       go_wp2
       repeat (go_quiet (fail); try go_wp2)
       go_meet
       case rel => exact ⟨_, (true), (by first | rfl | (simp; done) | (simp [*]; done)), H', ⟨by first | omega | exact Nat.le_refl _⟩, ⟨by (with_reducible repeat (first | refine bkn ?_ _ | refine bkd ?_ | refine bka ?_ _)); exact BK228.out⟩, ⟨by (with_reducible repeat (first | refine bkn ?_ _ | refine bkd ?_ | refine bka ?_ _)); exact BK229.out⟩, ⟨by repeat (first | (with_reducible first | exact HB.out | apply bla | apply bln | apply bld | refine bls ?_ GE228.out | refine bls ?_ GE229.out) | exact HB.out)⟩⟩
     ·
      rw [if_neg c9] at H
      have c9b0 : (a0_3 == a1_3) = false := beq_eq_false_iff_ne.mpr c9
      have c9b1 : (a0_3 != a1_3) = true := bne_iff_ne.mpr c9
      have H' := As0.mk H
      clear H
      have hnb26 := NB228_229.out
      have hnc26 := NB229_228.out
      have hcz27_0 : w5.cell? ⟨gb228, 0, none⟩ = some (.int .i64 a0_0) := (bkc BK228.out 0).trans rfl
      have hcz27_1 : w5.cell? ⟨gb228, 1, none⟩ = some (.int .i64 a0_1) := (bkc BK228.out 1).trans rfl
      have hcz27_2 : w5.cell? ⟨gb228, 2, none⟩ = some (.int .i64 a0_2) := (bkc BK228.out 2).trans rfl
      have hcz27_3 : w5.cell? ⟨gb228, 3, none⟩ = some (.int .i64 a0_3) := (bkc BK228.out 3).trans rfl
      have hcz27_4 : w5.cell? ⟨gb228, 4, none⟩ = some (.int .i64 a0_4) := (bkc BK228.out 4).trans rfl
      have hcz27_5 : w5.cell? ⟨gb228, 5, none⟩ = some (.slice A0_5 l0_5.length c0_5) := (bkc BK228.out 5).trans rfl
      have hcz27_6 : w5.cell? ⟨gb228, 6, none⟩ = some (.slice A0_6 l0_6.length c0_6) := (bkc BK228.out 6).trans rfl
      have hfz27_0 := bkf BK228.out 0
      have hfz27_1 := bkf BK228.out 1
      have hfz27_2 := bkf BK228.out 2
      have hfz27_3 := bkf BK228.out 3
      have hfz27_4 := bkf BK228.out 4
      have hfz27_5 := bkf BK228.out 5
      have hfz27_6 := bkf BK228.out 6
      have hcz28_0 : w5.cell? ⟨gb229, 0, none⟩ = some (.int .i64 a1_0) := (bkc BK229.out 0).trans rfl
      have hcz28_1 : w5.cell? ⟨gb229, 1, none⟩ = some (.int .i64 a1_1) := (bkc BK229.out 1).trans rfl
      have hcz28_2 : w5.cell? ⟨gb229, 2, none⟩ = some (.int .i64 a1_2) := (bkc BK229.out 2).trans rfl
      have hcz28_3 : w5.cell? ⟨gb229, 3, none⟩ = some (.int .i64 a1_3) := (bkc BK229.out 3).trans rfl
      have hcz28_4 : w5.cell? ⟨gb229, 4, none⟩ = some (.int .i64 a1_4) := (bkc BK229.out 4).trans rfl
      have hcz28_5 : w5.cell? ⟨gb229, 5, none⟩ = some (.slice A1_5 l1_5.length c1_5) := (bkc BK229.out 5).trans rfl
      have hcz28_6 : w5.cell? ⟨gb229, 6, none⟩ = some (.slice A1_6 l1_6.length c1_6) := (bkc BK229.out 6).trans rfl
      have hfz28_0 := bkf BK229.out 0
      have hfz28_1 := bkf BK229.out 1
      have hfz28_2 := bkf BK229.out 2
      have hfz28_3 := bkf BK229.out 3
      have hfz28_4 := bkf BK229.out 4
      have hfz28_5 := bkf BK229.out 5
      have hfz28_6 := bkf BK229.out 6
      go_wp2
      repeat (go_quiet (fail); try go_wp2)
      go_meet
      case rel => exact ⟨_, (true), (by first | rfl | (simp; done) | (simp [*]; done)), H', ⟨by first | omega | exact Nat.le_refl _⟩, ⟨by (with_reducible repeat (first | refine bkn ?_ _ | refine bkd ?_ | refine bka ?_ _)); exact BK228.out⟩, ⟨by (with_reducible repeat (first | refine bkn ?_ _ | refine bkd ?_ | refine bka ?_ _)); exact BK229.out⟩, ⟨by repeat (first | (with_reducible first | exact HB.out | apply bla | apply bln | apply bld | refine bls ?_ GE228.out | refine bls ?_ GE229.out) | exact HB.out)⟩⟩
    ·
     rw [if_neg c8] at H
     have c8b0 : (a0_2 == a1_2) = false := beq_eq_false_iff_ne.mpr c8
     have c8b1 : (a0_2 != a1_2) = true := bne_iff_ne.mpr c8
     have H' := As0.mk H
     clear H
     have hnb29 := NB228_229.out
     have hnc29 := NB229_228.out
     have hcz30_0 : w5.cell? ⟨gb228, 0, none⟩ = some (.int .i64 a0_0) := (bkc BK228.out 0).trans rfl
     have hcz30_1 : w5.cell? ⟨gb228, 1, none⟩ = some (.int .i64 a0_1) := (bkc BK228.out 1).trans rfl
     have hcz30_2 : w5.cell? ⟨gb228, 2, none⟩ = some (.int .i64 a0_2) := (bkc BK228.out 2).trans rfl
     have hcz30_3 : w5.cell? ⟨gb228, 3, none⟩ = some (.int .i64 a0_3) := (bkc BK228.out 3).trans rfl
     have hcz30_4 : w5.cell? ⟨gb228, 4, none⟩ = some (.int .i64 a0_4) := (bkc BK228.out 4).trans rfl
     have hcz30_5 : w5.cell? ⟨gb228, 5, none⟩ = some (.slice A0_5 l0_5.length c0_5) := (bkc BK228.out 5).trans rfl
     have hcz30_6 : w5.cell? ⟨gb228, 6, none⟩ = some (.slice A0_6 l0_6.length c0_6) := (bkc BK228.out 6).trans rfl
     have hfz30_0 := bkf BK228.out 0
     have hfz30_1 := bkf BK228.out 1
     have hfz30_2 := bkf BK228.out 2
     have hfz30_3 := bkf BK228.out 3
     have hfz30_4 := bkf BK228.out 4
     have hfz30_5 := bkf BK228.out 5
     have hfz30_6 := bkf BK228.out 6
     have hcz31_0 : w5.cell? ⟨gb229, 0, none⟩ = some (.int .i64 a1_0) := (bkc BK229.out 0).trans rfl
     have hcz31_1 : w5.cell? ⟨gb229, 1, none⟩ = some (.int .i64 a1_1) := (bkc BK229.out 1).trans rfl
     have hcz31_2 : w5.cell? ⟨gb229, 2, none⟩ = some (.int .i64 a1_2) := (bkc BK229.out 2).trans rfl
     have hcz31_3 : w5.cell? ⟨gb229, 3, none⟩ = some (.int .i64 a1_3) := (bkc BK229.out 3).trans rfl
     have hcz31_4 : w5.cell? ⟨gb229, 4, none⟩ = some (.int .i64 a1_4) := (bkc BK229.out 4).trans rfl
     have hcz31_5 : w5.cell? ⟨gb229, 5, none⟩ = some (.slice A1_5 l1_5.length c1_5) := (bkc BK229.out 5).trans rfl
     have hcz31_6 : w5.cell? ⟨gb229, 6, none⟩ = some (.slice A1_6 l1_6.length c1_6) := (bkc BK229.out 6).trans rfl
     have hfz31_0 := bkf BK229.out 0
     have hfz31_1 := bkf BK229.out 1
     have hfz31_2 := bkf BK229.out 2
     have hfz31_3 := bkf BK229.out 3
     have hfz31_4 := bkf BK229.out 4
     have hfz31_5 := bkf BK229.out 5
     have hfz31_6 := bkf BK229.out 6
     go_wp2
     repeat (go_quiet (fail); try go_wp2)
     go_meet
     case rel => exact ⟨_, (true), (by first | rfl | (simp; done) | (simp [*]; done)), H', ⟨by first | omega | exact Nat.le_refl _⟩, ⟨by (with_reducible repeat (first | refine bkn ?_ _ | refine bkd ?_ | refine bka ?_ _)); exact BK228.out⟩, ⟨by (with_reducible repeat (first | refine bkn ?_ _ | refine bkd ?_ | refine bka ?_ _)); exact BK229.out⟩, ⟨by repeat (first | (with_reducible first | exact HB.out | apply bla | apply bln | apply bld | refine bls ?_ GE228.out | refine bls ?_ GE229.out) | exact HB.out)⟩⟩
   ·
    rw [if_neg c7] at H
    have c7b0 : (a0_1 == a1_1) = false := beq_eq_false_iff_ne.mpr c7
    have c7b1 : (a0_1 != a1_1) = true := bne_iff_ne.mpr c7
    have H' := As0.mk H
    clear H
    have hnb32 := NB228_229.out
    have hnc32 := NB229_228.out
    have hcz33_0 : w5.cell? ⟨gb228, 0, none⟩ = some (.int .i64 a0_0) := (bkc BK228.out 0).trans rfl
    have hcz33_1 : w5.cell? ⟨gb228, 1, none⟩ = some (.int .i64 a0_1) := (bkc BK228.out 1).trans rfl
    have hcz33_2 : w5.cell? ⟨gb228, 2, none⟩ = some (.int .i64 a0_2) := (bkc BK228.out 2).trans rfl
    have hcz33_3 : w5.cell? ⟨gb228, 3, none⟩ = some (.int .i64 a0_3) := (bkc BK228.out 3).trans rfl
    have hcz33_4 : w5.cell? ⟨gb228, 4, none⟩ = some (.int .i64 a0_4) := (bkc BK228.out 4).trans rfl
    have hcz33_5 : w5.cell? ⟨gb228, 5, none⟩ = some (.slice A0_5 l0_5.length c0_5) := (bkc BK228.out 5).trans rfl
    have hcz33_6 : w5.cell? ⟨gb228, 6, none⟩ = some (.slice A0_6 l0_6.length c0_6) := (bkc BK228.out 6).trans rfl
    have hfz33_0 := bkf BK228.out 0
    have hfz33_1 := bkf BK228.out 1
    have hfz33_2 := bkf BK228.out 2
    have hfz33_3 := bkf BK228.out 3
    have hfz33_4 := bkf BK228.out 4
    have hfz33_5 := bkf BK228.out 5
    have hfz33_6 := bkf BK228.out 6
    have hcz34_0 : w5.cell? ⟨gb229, 0, none⟩ = some (.int .i64 a1_0) := (bkc BK229.out 0).trans rfl
    have hcz34_1 : w5.cell? ⟨gb229, 1, none⟩ = some (.int .i64 a1_1) := (bkc BK229.out 1).trans rfl
    have hcz34_2 : w5.cell? ⟨gb229, 2, none⟩ = some (.int .i64 a1_2) := (bkc BK229.out 2).trans rfl
    have hcz34_3 : w5.cell? ⟨gb229, 3, none⟩ = some (.int .i64 a1_3) := (bkc BK229.out 3).trans rfl
    have hcz34_4 : w5.cell? ⟨gb229, 4, none⟩ = some (.int .i64 a1_4) := (bkc BK229.out 4).trans rfl
    have hcz34_5 : w5.cell? ⟨gb229, 5, none⟩ = some (.slice A1_5 l1_5.length c1_5) := (bkc BK229.out 5).trans rfl
    have hcz34_6 : w5.cell? ⟨gb229, 6, none⟩ = some (.slice A1_6 l1_6.length c1_6) := (bkc BK229.out 6).trans rfl
    have hfz34_0 := bkf BK229.out 0
    have hfz34_1 := bkf BK229.out 1
    have hfz34_2 := bkf BK229.out 2
    have hfz34_3 := bkf BK229.out 3
    have hfz34_4 := bkf BK229.out 4
    have hfz34_5 := bkf BK229.out 5
    have hfz34_6 := bkf BK229.out 6
    go_wp2
    repeat (go_quiet (fail); try go_wp2)
    go_meet
    case rel => exact ⟨_, (true), (by first | rfl | (simp; done) | (simp [*]; done)), H', ⟨by first | omega | exact Nat.le_refl _⟩, ⟨by (with_reducible repeat (first | refine bkn ?_ _ | refine bkd ?_ | refine bka ?_ _)); exact BK228.out⟩, ⟨by (with_reducible repeat (first | refine bkn ?_ _ | refine bkd ?_ | refine bka ?_ _)); exact BK229.out⟩, ⟨by repeat (first | (with_reducible first | exact HB.out | apply bla | apply bln | apply bld | refine bls ?_ GE228.out | refine bls ?_ GE229.out) | exact HB.out)⟩⟩
  ·
   rw [if_neg c6] at H
   have c6b0 : (a0_0 == a1_0) = false := beq_eq_false_iff_ne.mpr c6
   have c6b1 : (a0_0 != a1_0) = true := bne_iff_ne.mpr c6
   (first | rw [c6b0] | (simp only [i64_w, i32_w]; rw [c6b0]) | skip)
   have H' := As0.mk H
   clear H
   have hnb35 := NB228_229.out
   have hnc35 := NB229_228.out
   have hcz36_0 : w5.cell? ⟨gb228, 0, none⟩ = some (.int .i64 a0_0) := (bkc BK228.out 0).trans rfl
   have hcz36_1 : w5.cell? ⟨gb228, 1, none⟩ = some (.int .i64 a0_1) := (bkc BK228.out 1).trans rfl
   have hcz36_2 : w5.cell? ⟨gb228, 2, none⟩ = some (.int .i64 a0_2) := (bkc BK228.out 2).trans rfl
   have hcz36_3 : w5.cell? ⟨gb228, 3, none⟩ = some (.int .i64 a0_3) := (bkc BK228.out 3).trans rfl
   have hcz36_4 : w5.cell? ⟨gb228, 4, none⟩ = some (.int .i64 a0_4) := (bkc BK228.out 4).trans rfl
   have hcz36_5 : w5.cell? ⟨gb228, 5, none⟩ = some (.slice A0_5 l0_5.length c0_5) := (bkc BK228.out 5).trans rfl
   have hcz36_6 : w5.cell? ⟨gb228, 6, none⟩ = some (.slice A0_6 l0_6.length c0_6) := (bkc BK228.out 6).trans rfl
   have hfz36_0 := bkf BK228.out 0
   have hfz36_1 := bkf BK228.out 1
   have hfz36_2 := bkf BK228.out 2
   have hfz36_3 := bkf BK228.out 3
   have hfz36_4 := bkf BK228.out 4
   have hfz36_5 := bkf BK228.out 5
   have hfz36_6 := bkf BK228.out 6
   have hcz37_0 : w5.cell? ⟨gb229, 0, none⟩ = some (.int .i64 a1_0) := (bkc BK229.out 0).trans rfl
   have hcz37_1 : w5.cell? ⟨gb229, 1, none⟩ = some (.int .i64 a1_1) := (bkc BK229.out 1).trans rfl
   have hcz37_2 : w5.cell? ⟨gb229, 2, none⟩ = some (.int .i64 a1_2) := (bkc BK229.out 2).trans rfl
   have hcz37_3 : w5.cell? ⟨gb229, 3, none⟩ = some (.int .i64 a1_3) := (bkc BK229.out 3).trans rfl
   have hcz37_4 : w5.cell? ⟨gb229, 4, none⟩ = some (.int .i64 a1_4) := (bkc BK229.out 4).trans rfl
   have hcz37_5 : w5.cell? ⟨gb229, 5, none⟩ = some (.slice A1_5 l1_5.length c1_5) := (bkc BK229.out 5).trans rfl
   have hcz37_6 : w5.cell? ⟨gb229, 6, none⟩ = some (.slice A1_6 l1_6.length c1_6) := (bkc BK229.out 6).trans rfl
   have hfz37_0 := bkf BK229.out 0
   have hfz37_1 := bkf BK229.out 1
   have hfz37_2 := bkf BK229.out 2
   have hfz37_3 := bkf BK229.out 3
   have hfz37_4 := bkf BK229.out 4
   have hfz37_5 := bkf BK229.out 5
   have hfz37_6 := bkf BK229.out 6
   go_wp2
   repeat (go_quiet (fail); try go_wp2)
   go_meet
   case rel => exact ⟨_, (true), (by first | rfl | (simp; done) | (simp [*]; done)), H', ⟨by first | omega | exact Nat.le_refl _⟩, ⟨by (with_reducible repeat (first | refine bkn ?_ _ | refine bkd ?_ | refine bka ?_ _)); exact BK228.out⟩, ⟨by (with_reducible repeat (first | refine bkn ?_ _ | refine bkd ?_ | refine bka ?_ _)); exact BK229.out⟩, ⟨by repeat (first | (with_reducible first | exact HB.out | apply bla | apply bln | apply bld | refine bls ?_ GE228.out | refine bls ?_ GE229.out) | exact HB.out)⟩⟩
 case rest =>
  clear HC3
  try clear c1
  try clear c2
  try clear p2
  try clear c3
  try clear c6
  try clear c6b0
  try clear c6b1
  try clear c7
  try clear c7b0
  try clear c7b1
  try clear c8
  try clear c8b0
  try clear c8b1
  try clear c9
  try clear c9b0
  try clear c9b1
  try clear c10
  try clear c10b0
  try clear c10b1
  try clear c11
  try clear c12
  try clear c13
  try clear c19
  try clear c23
  try clear c26
  try clear c29
  try clear c32
  try clear c35
  try clear hcz14_0
  try clear hcz14_1
  try clear hcz14_2
  try clear hcz14_3
  try clear hcz14_4
  try clear hcz14_5
  try clear hcz14_6
  try clear hcz15_0
  try clear hcz15_1
  try clear hcz15_2
  try clear hcz15_3
  try clear hcz15_4
  try clear hcz15_5
  try clear hcz15_6
  try clear hcz17_0
  try clear hcz17_1
  try clear hcz17_2
  try clear hcz17_3
  try clear hcz17_4
  try clear hcz17_5
  try clear hcz17_6
  try clear hcz18_0
  try clear hcz18_1
  try clear hcz18_2
  try clear hcz18_3
  try clear hcz18_4
  try clear hcz18_5
  try clear hcz18_6
  try clear hcz20_0
  try clear hcz20_1
  try clear hcz20_2
  try clear hcz20_3
  try clear hcz20_4
  try clear hcz20_5
  try clear hcz20_6
  try clear hcz21_0
  try clear hcz21_1
  try clear hcz21_2
  try clear hcz21_3
  try clear hcz21_4
  try clear hcz21_5
  try clear hcz21_6
  try clear hcz24_0
  try clear hcz24_1
  try clear hcz24_2
  try clear hcz24_3
  try clear hcz24_4
  try clear hcz24_5
  try clear hcz24_6
  try clear hcz25_0
  try clear hcz25_1
  try clear hcz25_2
  try clear hcz25_3
  try clear hcz25_4
  try clear hcz25_5
  try clear hcz25_6
  try clear hcz27_0
  try clear hcz27_1
  try clear hcz27_2
  try clear hcz27_3
  try clear hcz27_4
  try clear hcz27_5
  try clear hcz27_6
  try clear hcz28_0
  try clear hcz28_1
  try clear hcz28_2
  try clear hcz28_3
  try clear hcz28_4
  try clear hcz28_5
  try clear hcz28_6
  try clear hcz30_0
  try clear hcz30_1
  try clear hcz30_2
  try clear hcz30_3
  try clear hcz30_4
  try clear hcz30_5
  try clear hcz30_6
  try clear hcz31_0
  try clear hcz31_1
  try clear hcz31_2
  try clear hcz31_3
  try clear hcz31_4
  try clear hcz31_5
  try clear hcz31_6
  try clear hcz33_0
  try clear hcz33_1
  try clear hcz33_2
  try clear hcz33_3
  try clear hcz33_4
  try clear hcz33_5
  try clear hcz33_6
  try clear hcz34_0
  try clear hcz34_1
  try clear hcz34_2
  try clear hcz34_3
  try clear hcz34_4
  try clear hcz34_5
  try clear hcz34_6
  try clear hcz36_0
  try clear hcz36_1
  try clear hcz36_2
  try clear hcz36_3
  try clear hcz36_4
  try clear hcz36_5
  try clear hcz36_6
  try clear hcz37_0
  try clear hcz37_1
  try clear hcz37_2
  try clear hcz37_3
  try clear hcz37_4
  try clear hcz37_5
  try clear hcz37_6
  try clear hfz14_0
  try clear hfz14_1
  try clear hfz14_2
  try clear hfz14_3
  try clear hfz14_4
  try clear hfz14_5
  try clear hfz14_6
  try clear hfz15_0
  try clear hfz15_1
  try clear hfz15_2
  try clear hfz15_3
  try clear hfz15_4
  try clear hfz15_5
  try clear hfz15_6
  try clear hfz17_0
  try clear hfz17_1
  try clear hfz17_2
  try clear hfz17_3
  try clear hfz17_4
  try clear hfz17_5
  try clear hfz17_6
  try clear hfz18_0
  try clear hfz18_1
  try clear hfz18_2
  try clear hfz18_3
  try clear hfz18_4
  try clear hfz18_5
  try clear hfz18_6
  try clear hfz20_0
  try clear hfz20_1
  try clear hfz20_2
  try clear hfz20_3
  try clear hfz20_4
  try clear hfz20_5
  try clear hfz20_6
  try clear hfz21_0
  try clear hfz21_1
  try clear hfz21_2
  try clear hfz21_3
  try clear hfz21_4
  try clear hfz21_5
  try clear hfz21_6
  try clear hfz24_0
  try clear hfz24_1
  try clear hfz24_2
  try clear hfz24_3
  try clear hfz24_4
  try clear hfz24_5
  try clear hfz24_6
  try clear hfz25_0
  try clear hfz25_1
  try clear hfz25_2
  try clear hfz25_3
  try clear hfz25_4
  try clear hfz25_5
  try clear hfz25_6
  try clear hfz27_0
  try clear hfz27_1
  try clear hfz27_2
  try clear hfz27_3
  try clear hfz27_4
  try clear hfz27_5
  try clear hfz27_6
  try clear hfz28_0
  try clear hfz28_1
  try clear hfz28_2
  try clear hfz28_3
  try clear hfz28_4
  try clear hfz28_5
  try clear hfz28_6
  try clear hfz30_0
  try clear hfz30_1
  try clear hfz30_2
  try clear hfz30_3
  try clear hfz30_4
  try clear hfz30_5
  try clear hfz30_6
  try clear hfz31_0
  try clear hfz31_1
  try clear hfz31_2
  try clear hfz31_3
  try clear hfz31_4
  try clear hfz31_5
  try clear hfz31_6
  try clear hfz33_0
  try clear hfz33_1
  try clear hfz33_2
  try clear hfz33_3
  try clear hfz33_4
  try clear hfz33_5
  try clear hfz33_6
  try clear hfz34_0
  try clear hfz34_1
  try clear hfz34_2
  try clear hfz34_3
  try clear hfz34_4
  try clear hfz34_5
  try clear hfz34_6
  try clear hfz36_0
  try clear hfz36_1
  try clear hfz36_2
  try clear hfz36_3
  try clear hfz36_4
  try clear hfz36_5
  try clear hfz36_6
  try clear hfz37_0
  try clear hfz37_1
  try clear hfz37_2
  try clear hfz37_3
  try clear hfz37_4
  try clear hfz37_5
  try clear hfz37_6
  obtain ⟨kq, x55_2, rfl, HA, HJ2, BK228, BK229, HB⟩ := hcut
  cases kq with
  | zero => exact absurd HA.out (by simp [conf_Same.j0])
  | succ kj2 =>
   have H := HA.out
   clear HA
   simp only [conf_Same.j0] at H
   by_cases c38 : x55_2 = true
   ·
    subst c38
    have H1 : (some false) = some r := by rw [if_pos rfl] at H; exact H
    clear H
    have H := H1
    clear H1
    obtain rfl := Option.some.inj H
    go_wp2
    repeat (go_quiet (fail); try go_wp2)
    go_ret
    exact ⟨by first | rfl | (simp [errW_none, errW_some] <;> rfl) | (simp [*, errW_none, errW_some] <;> rfl), by repeat (first | (with_reducible first | exact HB.out | apply bla | apply bln | apply bld | refine bls ?_ GE228.out | refine bls ?_ GE229.out) | exact HB.out)⟩
   ·
    replace c38 := Bool.eq_false_iff.mpr c38
    subst c38
    have H1 : (conf_Same.l0 kj2 (l0_6.length : Int) 0 a0_0 a0_1 a0_2 a0_3 a0_4 l0_5 l0_6 a1_0 a1_1 a1_2 a1_3 a1_4 l1_5 l1_6) = some r := by rw [if_neg (show ¬ (false = true) by decide)] at H; exact H
    clear H
    have H := H1
    clear H1
    have H' := As0.mk H
    clear H
    have hnb39 := NB228_229.out
    have hnc39 := NB229_228.out
    have hcz40_0 : wc.cell? ⟨gb228, 0, none⟩ = some (.int .i64 a0_0) := (bkc BK228.out 0).trans rfl
    have hcz40_1 : wc.cell? ⟨gb228, 1, none⟩ = some (.int .i64 a0_1) := (bkc BK228.out 1).trans rfl
    have hcz40_2 : wc.cell? ⟨gb228, 2, none⟩ = some (.int .i64 a0_2) := (bkc BK228.out 2).trans rfl
    have hcz40_3 : wc.cell? ⟨gb228, 3, none⟩ = some (.int .i64 a0_3) := (bkc BK228.out 3).trans rfl
    have hcz40_4 : wc.cell? ⟨gb228, 4, none⟩ = some (.int .i64 a0_4) := (bkc BK228.out 4).trans rfl
    have hcz40_5 : wc.cell? ⟨gb228, 5, none⟩ = some (.slice A0_5 l0_5.length c0_5) := (bkc BK228.out 5).trans rfl
    have hcz40_6 : wc.cell? ⟨gb228, 6, none⟩ = some (.slice A0_6 l0_6.length c0_6) := (bkc BK228.out 6).trans rfl
    have hfz40_0 := bkf BK228.out 0
    have hfz40_1 := bkf BK228.out 1
    have hfz40_2 := bkf BK228.out 2
    have hfz40_3 := bkf BK228.out 3
    have hfz40_4 := bkf BK228.out 4
    have hfz40_5 := bkf BK228.out 5
    have hfz40_6 := bkf BK228.out 6
    go_wp2
    repeat (go_quiet (fail); try go_wp2)
    go_loopg [59] kj2 (fun kq v59 w' => ∃ (x59_2 : Int), v59 = .int .i64 x59_2 ∧ As0 (conf_Same.l0 kq (l0_6.length : Int) x59_2 a0_0 a0_1 a0_2 a0_3 a0_4 l0_5 l0_6 a1_0 a1_1 a1_2 a1_3 a1_4 l1_5 l1_6 = some r) ∧ As0 (kq ≤ kj2) ∧ As0 (w'.heap[gb228]? = some (.cells #[.int .i64 a0_0, .int .i64 a0_1, .int .i64 a0_2, .int .i64 a0_3, .int .i64 a0_4, (.slice A0_5 l0_5.length c0_5), (.slice A0_6 l0_6.length c0_6)] 25 (0, 0))) ∧ As0 (w'.heap[gb229]? = some (.cells #[.int .i64 a1_0, .int .i64 a1_1, .int .i64 a1_2, .int .i64 a1_3, .int .i64 a1_4, (.slice A1_5 l1_5.length c1_5), (.slice A1_6 l1_6.length c1_6)] 25 (0, 0))) ∧ As0 (Below w.heap.size w w'))
    case atStart => exact ⟨(0), (by first | rfl | (simp; done) | (simp [*]; done)), H', ⟨Nat.le_refl _⟩, ⟨by (with_reducible repeat (first | refine bkn ?_ _ | refine bkd ?_ | refine bka ?_ _)); exact BK228.out⟩, ⟨by (with_reducible repeat (first | refine bkn ?_ _ | refine bkd ?_ | refine bka ?_ _)); exact BK229.out⟩, ⟨by repeat (first | (with_reducible first | exact HB.out | apply bla | apply bln | apply bld | refine bls ?_ GE228.out | refine bls ?_ GE229.out) | exact HB.out)⟩⟩
    case round =>
     clear H'
     try clear c1
     try clear c2
     try clear p2
     try clear c3
     try clear c6
     try clear c6b0
     try clear c6b1
     try clear c7
     try clear c7b0
     try clear c7b1
     try clear c8
     try clear c8b0
     try clear c8b1
     try clear c9
     try clear c9b0
     try clear c9b1
     try clear c10
     try clear c10b0
     try clear c10b1
     try clear c11
     try clear c12
     try clear c13
     try clear c19
     try clear c23
     try clear c26
     try clear c29
     try clear c32
     try clear c35
     try clear c38
     try clear c39
     try clear hcz14_0
     try clear hcz14_1
     try clear hcz14_2
     try clear hcz14_3
     try clear hcz14_4
     try clear hcz14_5
     try clear hcz14_6
     try clear hcz15_0
     try clear hcz15_1
     try clear hcz15_2
     try clear hcz15_3
     try clear hcz15_4
     try clear hcz15_5
     try clear hcz15_6
     try clear hcz17_0
     try clear hcz17_1
     try clear hcz17_2
     try clear hcz17_3
     try clear hcz17_4
     try clear hcz17_5
     try clear hcz17_6
     try clear hcz18_0
     try clear hcz18_1
     try clear hcz18_2
     try clear hcz18_3
     try clear hcz18_4
     try clear hcz18_5
     try clear hcz18_6
     try clear hcz20_0
     try clear hcz20_1
     try clear hcz20_2
     try clear hcz20_3
     try clear hcz20_4
     try clear hcz20_5
     try clear hcz20_6
     try clear hcz21_0
     try clear hcz21_1
     try clear hcz21_2
     try clear hcz21_3
     try clear hcz21_4
     try clear hcz21_5
     try clear hcz21_6
     try clear hcz24_0
     try clear hcz24_1
     try clear hcz24_2
     try clear hcz24_3
     try clear hcz24_4
     try clear hcz24_5
     try clear hcz24_6
     try clear hcz25_0
     try clear hcz25_1
     try clear hcz25_2
     try clear hcz25_3
     try clear hcz25_4
     try clear hcz25_5
     try clear hcz25_6
     try clear hcz27_0
     try clear hcz27_1
     try clear hcz27_2
     try clear hcz27_3
     try clear hcz27_4
     try clear hcz27_5
     try clear hcz27_6
     try clear hcz28_0
     try clear hcz28_1
     try clear hcz28_2
     try clear hcz28_3
     try clear hcz28_4
     try clear hcz28_5
     try clear hcz28_6
     try clear hcz30_0
     try clear hcz30_1
     try clear hcz30_2
     try clear hcz30_3
     try clear hcz30_4
     try clear hcz30_5
     try clear hcz30_6
     try clear hcz31_0
     try clear hcz31_1
     try clear hcz31_2
     try clear hcz31_3
     try clear hcz31_4
     try clear hcz31_5
     try clear hcz31_6
     try clear hcz33_0
     try clear hcz33_1
     try clear hcz33_2
     try clear hcz33_3
     try clear hcz33_4
     try clear hcz33_5
     try clear hcz33_6
     try clear hcz34_0
     try clear hcz34_1
     try clear hcz34_2
     try clear hcz34_3
     try clear hcz34_4
     try clear hcz34_5
     try clear hcz34_6
     try clear hcz36_0
     try clear hcz36_1
     try clear hcz36_2
     try clear hcz36_3
     try clear hcz36_4
     try clear hcz36_5
     try clear hcz36_6
     try clear hcz37_0
     try clear hcz37_1
     try clear hcz37_2
     try clear hcz37_3
     try clear hcz37_4
     try clear hcz37_5
     try clear hcz37_6
     try clear hcz40_0
     try clear hcz40_1
     try clear hcz40_2
     try clear hcz40_3
     try clear hcz40_4
     try clear hcz40_5
     try clear hcz40_6
     try clear hfz14_0
     try clear hfz14_1
     try clear hfz14_2
     try clear hfz14_3
     try clear hfz14_4
     try clear hfz14_5
     try clear hfz14_6
     try clear hfz15_0
     try clear hfz15_1
     try clear hfz15_2
     try clear hfz15_3
     try clear hfz15_4
     try clear hfz15_5
     try clear hfz15_6
     try clear hfz17_0
     try clear hfz17_1
     try clear hfz17_2
     try clear hfz17_3
     try clear hfz17_4
     try clear hfz17_5
     try clear hfz17_6
     try clear hfz18_0
     try clear hfz18_1
     try clear hfz18_2
     try clear hfz18_3
     try clear hfz18_4
     try clear hfz18_5
     try clear hfz18_6
     try clear hfz20_0
     try clear hfz20_1
     try clear hfz20_2
     try clear hfz20_3
     try clear hfz20_4
     try clear hfz20_5
     try clear hfz20_6
     try clear hfz21_0
     try clear hfz21_1
     try clear hfz21_2
     try clear hfz21_3
     try clear hfz21_4
     try clear hfz21_5
     try clear hfz21_6
     try clear hfz24_0
     try clear hfz24_1
     try clear hfz24_2
     try clear hfz24_3
     try clear hfz24_4
     try clear hfz24_5
     try clear hfz24_6
     try clear hfz25_0
     try clear hfz25_1
     try clear hfz25_2
     try clear hfz25_3
     try clear hfz25_4
     try clear hfz25_5
     try clear hfz25_6
     try clear hfz27_0
     try clear hfz27_1
     try clear hfz27_2
     try clear hfz27_3
     try clear hfz27_4
     try clear hfz27_5
     try clear hfz27_6
     try clear hfz28_0
     try clear hfz28_1
     try clear hfz28_2
     try clear hfz28_3
     try clear hfz28_4
     try clear hfz28_5
     try clear hfz28_6
     try clear hfz30_0
     try clear hfz30_1
     try clear hfz30_2
     try clear hfz30_3
     try clear hfz30_4
     try clear hfz30_5
     try clear hfz30_6
     try clear hfz31_0
     try clear hfz31_1
     try clear hfz31_2
     try clear hfz31_3
     try clear hfz31_4
     try clear hfz31_5
     try clear hfz31_6
     try clear hfz33_0
     try clear hfz33_1
     try clear hfz33_2
     try clear hfz33_3
     try clear hfz33_4
     try clear hfz33_5
     try clear hfz33_6
     try clear hfz34_0
     try clear hfz34_1
     try clear hfz34_2
     try clear hfz34_3
     try clear hfz34_4
     try clear hfz34_5
     try clear hfz34_6
     try clear hfz36_0
     try clear hfz36_1
     try clear hfz36_2
     try clear hfz36_3
     try clear hfz36_4
     try clear hfz36_5
     try clear hfz36_6
     try clear hfz37_0
     try clear hfz37_1
     try clear hfz37_2
     try clear hfz37_3
     try clear hfz37_4
     try clear hfz37_5
     try clear hfz37_6
     try clear hfz40_0
     try clear hfz40_1
     try clear hfz40_2
     try clear hfz40_3
     try clear hfz40_4
     try clear hfz40_5
     try clear hfz40_6
     try clear p2
     obtain ⟨x59_2, rfl, HA, HK2, BK228, BK229, HB⟩ := hrel
     cases gk with
     | zero => exact absurd HA.out (by simp [conf_Same.l0])
     | succ k2 =>
      have H := HA.out
      clear HA
      simp only [conf_Same.l0] at H
      by_cases c41 : x59_2 < (l0_6.length : Int)
      ·
       rw [if_pos c41] at H
       have c41b0 : decide (x59_2 < (l0_6.length : Int)) = true := decide_eq_true c41
       clear c41
       by_cases c42 : 0 ≤ x59_2
       ·
        rw [if_pos c42] at H
        have c42b0 : decide (0 ≤ x59_2) = true := decide_eq_true c42
        clear c42
        by_cases c43 : x59_2 < (l0_6.length : Int)
        ·
         rw [if_pos c43] at H
         have c43b0 : decide (x59_2 < (l0_6.length : Int)) = true := decide_eq_true c43
         clear c43
         by_cases c44 : x59_2 < (l1_6.length : Int)
         ·
          rw [if_pos c44] at H
          have c44b0 : decide (x59_2 < (l1_6.length : Int)) = true := decide_eq_true c44
          clear c44
          by_cases c45 : (!(((rd_T41 l0_6 x59_2).f0) == ((rd_T41 l1_6 x59_2).f0)) || (!(((rd_T41 l0_6 x59_2).f1) == ((rd_T41 l1_6 x59_2).f1)) || (!(((rd_T41 l0_6 x59_2).f2) == ((rd_T41 l1_6 x59_2).f2))))) = true
          ·
           rw [if_pos c45] at H
           have c45b0 : (!(((rd_T41 l0_6 x59_2).f0) == ((rd_T41 l1_6 x59_2).f0)) || (!(((rd_T41 l0_6 x59_2).f1) == ((rd_T41 l1_6 x59_2).f1)) || (!(((rd_T41 l0_6 x59_2).f2) == ((rd_T41 l1_6 x59_2).f2))))) = true := c45
           clear c45
           obtain rfl := Option.some.inj H
           have hnb46 := NB228_229.out
           have hnc46 := NB229_228.out
           have hcz47_0 : wr.cell? ⟨gb228, 0, none⟩ = some (.int .i64 a0_0) := (bkc BK228.out 0).trans rfl
           have hcz47_1 : wr.cell? ⟨gb228, 1, none⟩ = some (.int .i64 a0_1) := (bkc BK228.out 1).trans rfl
           have hcz47_2 : wr.cell? ⟨gb228, 2, none⟩ = some (.int .i64 a0_2) := (bkc BK228.out 2).trans rfl
           have hcz47_3 : wr.cell? ⟨gb228, 3, none⟩ = some (.int .i64 a0_3) := (bkc BK228.out 3).trans rfl
           have hcz47_4 : wr.cell? ⟨gb228, 4, none⟩ = some (.int .i64 a0_4) := (bkc BK228.out 4).trans rfl
           have hcz47_5 : wr.cell? ⟨gb228, 5, none⟩ = some (.slice A0_5 l0_5.length c0_5) := (bkc BK228.out 5).trans rfl
           have hcz47_6 : wr.cell? ⟨gb228, 6, none⟩ = some (.slice A0_6 l0_6.length c0_6) := (bkc BK228.out 6).trans rfl
           have hfz47_0 := bkf BK228.out 0
           have hfz47_1 := bkf BK228.out 1
           have hfz47_2 := bkf BK228.out 2
           have hfz47_3 := bkf BK228.out 3
           have hfz47_4 := bkf BK228.out 4
           have hfz47_5 := bkf BK228.out 5
           have hfz47_6 := bkf BK228.out 6
           have p231 : 0 ≤ (x59_2 : Int) := of_decide_eq_true (by first | (with_reducible assumption) | assumption)
           have q231 : x59_2 < (l0_6.length : Int) := of_decide_eq_true (by first | (with_reducible assumption) | assumption)
           obtain ⟨ad231, e231, hx231_0, hx231_1, hx231_2⟩ := at_T41 HR0_6.out x59_2 p231 q231
           cases e231
           replace hx231_0 := (HB.out.cell (World.block_lt_of_cell? w _ hx231_0)).trans hx231_0
           replace hx231_1 := (HB.out.cell (World.block_lt_of_cell? w _ hx231_1)).trans hx231_1
           replace hx231_2 := (HB.out.cell (World.block_lt_of_cell? w _ hx231_2)).trans hx231_2
           replace p231 := eq_true p231
           replace q231 := eq_true q231
           have hcz48_0 : wr.cell? ⟨gb229, 0, none⟩ = some (.int .i64 a1_0) := (bkc BK229.out 0).trans rfl
           have hcz48_1 : wr.cell? ⟨gb229, 1, none⟩ = some (.int .i64 a1_1) := (bkc BK229.out 1).trans rfl
           have hcz48_2 : wr.cell? ⟨gb229, 2, none⟩ = some (.int .i64 a1_2) := (bkc BK229.out 2).trans rfl
           have hcz48_3 : wr.cell? ⟨gb229, 3, none⟩ = some (.int .i64 a1_3) := (bkc BK229.out 3).trans rfl
           have hcz48_4 : wr.cell? ⟨gb229, 4, none⟩ = some (.int .i64 a1_4) := (bkc BK229.out 4).trans rfl
           have hcz48_5 : wr.cell? ⟨gb229, 5, none⟩ = some (.slice A1_5 l1_5.length c1_5) := (bkc BK229.out 5).trans rfl
           have hcz48_6 : wr.cell? ⟨gb229, 6, none⟩ = some (.slice A1_6 l1_6.length c1_6) := (bkc BK229.out 6).trans rfl
           have hfz48_0 := bkf BK229.out 0
           have hfz48_1 := bkf BK229.out 1
           have hfz48_2 := bkf BK229.out 2
           have hfz48_3 := bkf BK229.out 3
           have hfz48_4 := bkf BK229.out 4
           have hfz48_5 := bkf BK229.out 5
           have hfz48_6 := bkf BK229.out 6
           have p232 : 0 ≤ (x59_2 : Int) := of_decide_eq_true (by first | (with_reducible assumption) | assumption)
           have q232 : x59_2 < (l1_6.length : Int) := of_decide_eq_true (by first | (with_reducible assumption) | assumption)
           obtain ⟨ad232, e232, hx232_0, hx232_1, hx232_2⟩ := at_T41 HR1_6.out x59_2 p232 q232
           cases e232
           replace hx232_0 := (HB.out.cell (World.block_lt_of_cell? w _ hx232_0)).trans hx232_0
           replace hx232_1 := (HB.out.cell (World.block_lt_of_cell? w _ hx232_1)).trans hx232_1
           replace hx232_2 := (HB.out.cell (World.block_lt_of_cell? w _ hx232_2)).trans hx232_2
           replace p232 := eq_true p232
           replace q232 := eq_true q232
           go_wp2
           repeat (go_quiet (fail); try go_wp2)
           go_ret
           exact ⟨by first | rfl | (simp [errW_none, errW_some] <;> rfl) | (simp [*, errW_none, errW_some] <;> rfl), by repeat (first | (with_reducible first | exact HB.out | apply bla | apply bln | apply bld | refine bls ?_ GE228.out | refine bls ?_ GE229.out) | exact HB.out)⟩
          ·
           rw [if_neg c45] at H
           have c45b0 : (!(((rd_T41 l0_6 x59_2).f0) == ((rd_T41 l1_6 x59_2).f0)) || (!(((rd_T41 l0_6 x59_2).f1) == ((rd_T41 l1_6 x59_2).f1)) || (!(((rd_T41 l0_6 x59_2).f2) == ((rd_T41 l1_6 x59_2).f2))))) = false := by simpa using c45
           clear c45
           have H' := As0.mk H
           clear H
           have hnb49 := NB228_229.out
           have hnc49 := NB229_228.out
           have hcz50_0 : wr.cell? ⟨gb228, 0, none⟩ = some (.int .i64 a0_0) := (bkc BK228.out 0).trans rfl
           have hcz50_1 : wr.cell? ⟨gb228, 1, none⟩ = some (.int .i64 a0_1) := (bkc BK228.out 1).trans rfl
           have hcz50_2 : wr.cell? ⟨gb228, 2, none⟩ = some (.int .i64 a0_2) := (bkc BK228.out 2).trans rfl
           have hcz50_3 : wr.cell? ⟨gb228, 3, none⟩ = some (.int .i64 a0_3) := (bkc BK228.out 3).trans rfl
           have hcz50_4 : wr.cell? ⟨gb228, 4, none⟩ = some (.int .i64 a0_4) := (bkc BK228.out 4).trans rfl
           have hcz50_5 : wr.cell? ⟨gb228, 5, none⟩ = some (.slice A0_5 l0_5.length c0_5) := (bkc BK228.out 5).trans rfl
           have hcz50_6 : wr.cell? ⟨gb228, 6, none⟩ = some (.slice A0_6 l0_6.length c0_6) := (bkc BK228.out 6).trans rfl
           have hfz50_0 := bkf BK228.out 0
           have hfz50_1 := bkf BK228.out 1
           have hfz50_2 := bkf BK228.out 2
           have hfz50_3 := bkf BK228.out 3
           have hfz50_4 := bkf BK228.out 4
           have hfz50_5 := bkf BK228.out 5
           have hfz50_6 := bkf BK228.out 6
           have p231 : 0 ≤ (x59_2 : Int) := of_decide_eq_true (by first | (with_reducible assumption) | assumption)
           have q231 : x59_2 < (l0_6.length : Int) := of_decide_eq_true (by first | (with_reducible assumption) | assumption)
           obtain ⟨ad231, e231, hx231_0, hx231_1, hx231_2⟩ := at_T41 HR0_6.out x59_2 p231 q231
           cases e231
           replace hx231_0 := (HB.out.cell (World.block_lt_of_cell? w _ hx231_0)).trans hx231_0
           replace hx231_1 := (HB.out.cell (World.block_lt_of_cell? w _ hx231_1)).trans hx231_1
           replace hx231_2 := (HB.out.cell (World.block_lt_of_cell? w _ hx231_2)).trans hx231_2
           replace p231 := eq_true p231
           replace q231 := eq_true q231
           have hcz51_0 : wr.cell? ⟨gb229, 0, none⟩ = some (.int .i64 a1_0) := (bkc BK229.out 0).trans rfl
           have hcz51_1 : wr.cell? ⟨gb229, 1, none⟩ = some (.int .i64 a1_1) := (bkc BK229.out 1).trans rfl
           have hcz51_2 : wr.cell? ⟨gb229, 2, none⟩ = some (.int .i64 a1_2) := (bkc BK229.out 2).trans rfl
           have hcz51_3 : wr.cell? ⟨gb229, 3, none⟩ = some (.int .i64 a1_3) := (bkc BK229.out 3).trans rfl
           have hcz51_4 : wr.cell? ⟨gb229, 4, none⟩ = some (.int .i64 a1_4) := (bkc BK229.out 4).trans rfl
           have hcz51_5 : wr.cell? ⟨gb229, 5, none⟩ = some (.slice A1_5 l1_5.length c1_5) := (bkc BK229.out 5).trans rfl
           have hcz51_6 : wr.cell? ⟨gb229, 6, none⟩ = some (.slice A1_6 l1_6.length c1_6) := (bkc BK229.out 6).trans rfl
           have hfz51_0 := bkf BK229.out 0
           have hfz51_1 := bkf BK229.out 1
           have hfz51_2 := bkf BK229.out 2
           have hfz51_3 := bkf BK229.out 3
           have hfz51_4 := bkf BK229.out 4
           have hfz51_5 := bkf BK229.out 5
           have hfz51_6 := bkf BK229.out 6
           have p232 : 0 ≤ (x59_2 : Int) := of_decide_eq_true (by first | (with_reducible assumption) | assumption)
           have q232 : x59_2 < (l1_6.length : Int) := of_decide_eq_true (by first | (with_reducible assumption) | assumption)
           obtain ⟨ad232, e232, hx232_0, hx232_1, hx232_2⟩ := at_T41 HR1_6.out x59_2 p232 q232
           cases e232
           replace hx232_0 := (HB.out.cell (World.block_lt_of_cell? w _ hx232_0)).trans hx232_0
           replace hx232_1 := (HB.out.cell (World.block_lt_of_cell? w _ hx232_1)).trans hx232_1
           replace hx232_2 := (HB.out.cell (World.block_lt_of_cell? w _ hx232_2)).trans hx232_2
           replace p232 := eq_true p232
           replace q232 := eq_true q232
           go_wp2
           repeat (go_quiet (fail); try go_wp2)
           go_roundg k2
           case measure => have := HJ2.out; have := HK2.out; omega
           case rel => exact ⟨(wrap64 (x59_2 + 1)), (by first | rfl | (simp; done) | (simp [*]; done)), H', ⟨by have := HJ2.out; have := HK2.out; omega⟩, ⟨by (with_reducible repeat (first | refine bkn ?_ _ | refine bkd ?_ | refine bka ?_ _)); exact BK228.out⟩, ⟨by (with_reducible repeat (first | refine bkn ?_ _ | refine bkd ?_ | refine bka ?_ _)); exact BK229.out⟩, ⟨by repeat (first | (with_reducible first | exact HB.out | apply bla | apply bln | apply bld | refine bls ?_ GE228.out | refine bls ?_ GE229.out) | exact HB.out)⟩⟩
         ·
          rw [if_neg c44] at H
          exact absurd H (by simp)
        ·
         rw [if_neg c43] at H
         exact absurd H (by simp)
       ·
        rw [if_neg c42] at H
        exact absurd H (by simp)
      ·
       rw [if_neg c41] at H
       have c41b0 : decide (x59_2 < (l0_6.length : Int)) = false := decide_eq_false c41
       clear c41
       obtain rfl := Option.some.inj H
       go_wp2
       repeat (go_quiet (fail); try go_wp2)
       go_ret
       exact ⟨by first | rfl | (simp [errW_none, errW_some] <;> rfl) | (simp [*, errW_none, errW_some] <;> rfl), by repeat (first | (with_reducible first | exact HB.out | apply bla | apply bln | apply bld | refine bls ?_ GE228.out | refine bls ?_ GE229.out) | exact HB.out)⟩
end Go.Proofs.YtmppkcdphgelcaaGreatDoor.PConf
namespace Go.Proofs.YtmppkcdphgelcaaGreatDoor.PConf
open Go.RowKit Go.Proofs.YtmppkcdphgelcaaGreatDoor.W.PrintWords Go.Proofs.YtmppkcdphgelcaaGreatDoor.W.PrintLast Go.Proofs.YtmppkcdphgelcaaGreatDoor.W.PrintMore
attribute [local go_sem] max2_int min2_int max_two min_two max_three min_three max_four min_four   -- for this text's walks alone
set_option linter.unusedVariables false
set_option linter.unusedSimpArgs false
def sr03_Same.l0 : Nat → List ByteArray → List ByteArray → Int → Option (Bool)
 | 0, _, _, _ => none
 | k + 1, x0, x1, x5 => if x5 < (x0.length : Int) then (if 0 ≤ x5 then (if x5 < (x1.length : Int) then (if (rdOf ByteArray.empty x0 x5).toList = (rdOf ByteArray.empty x1 x5).toList then (sr03_Same.l0 k x0 x1 (wrap64 (x5 + 1))) else (some false)) else (none)) else (none)) else (some true)
def sr03_Same.f (k : Nat) (l0 : List ByteArray) (l1 : List ByteArray) : Option (Bool) := if (l0.length : Int) = (l1.length : Int) then (sr03_Same.l0 k l0 l1 0) else (some false)
set_option maxHeartbeats 8000000 in
set_option maxRecDepth 100000 in
theorem sr03_Same.calls (k : Nat) (A0 : Option Addr) (c0 : Nat) (l0 : List ByteArray) (A1 : Option Addr) (c1 : Nat) (l1 : List ByteArray) (r : Bool) (w : World) (hr0 : Kd.C Kd.string w A0 l0.length l0) (hc0 : l0.length ≤ c0) (hr1 : Kd.C Kd.string w A1 l1.length l1) (hc1 : l1.length ≤ c1) (h : sr03_Same.f k l0 l1 = some r) :
  Calls Tryz.prog 28 #[.slice A0 l0.length c0, .slice A1 l1.length c1] w fun e w' => e = .returned (.bool r) ∧ Drawn0 w w' := by
 have HR0 := As0.mk hr0
 have HC0 := As0.mk hc0
 clear hr0 hc0
 have HR1 := As0.mk hr1
 have HC1 := As0.mk hc1
 clear hr1 hc1
 have H : (if (l0.length : Int) = (l1.length : Int) then (sr03_Same.l0 k l0 l1 0) else (some false)) = some r := h
 clear h
 by_cases c3 : (l0.length : Int) = (l1.length : Int)
 ·
  rw [if_pos c3] at H
  have c3b0 : ((l0.length : Int) == (l1.length : Int)) = true := beq_iff_eq.mpr c3
  have c3b1 : ((l0.length : Int) != (l1.length : Int)) = false := bne_eq_false_iff_eq.mpr c3
  have c3b2 : (l0.length == l1.length) = true := by first | simpa using c3 | (simp at c3 ⊢; omega)
  clear c3
  have H' := As0.mk H
  clear H
  go_enter Tryz.func28, Tryz.ntmps28
  go_wp2
  repeat (go_quiet (fail); try go_wp2)
  go_loopg [5] k (fun kq v5 w' => ∃ (x5_1 : Int), v5 = .int .i64 x5_1 ∧ As0 (sr03_Same.l0 kq l0 l1 x5_1 = some r) ∧ As0 (kq ≤ k) ∧ Drawn0 w w')
  case atStart => exact ⟨(0), (by first | rfl | (simp; done) | (simp [*]; done)), H', ⟨Nat.le_refl _⟩, by repeat (first | exact Drawn0.refl _ | apply Drawn0.step)⟩
  case round =>
   clear H'
   try clear c1
   try clear c2
   try clear p2
   try clear c3
   try clear c3b0
   try clear c3b1
   try clear c3b2
   obtain ⟨x5_1, rfl, HA, HK1, ⟨m1, rfl⟩⟩ := hrel
   cases gk with
   | zero => exact absurd HA.out (by simp [sr03_Same.l0])
   | succ k1 =>
    have H := HA.out
    clear HA
    simp only [sr03_Same.l0] at H
    by_cases c4 : x5_1 < (l0.length : Int)
    ·
     rw [if_pos c4] at H
     have c4b0 : decide (x5_1 < (l0.length : Int)) = true := decide_eq_true c4
     clear c4
     by_cases c5 : 0 ≤ x5_1
     ·
      rw [if_pos c5] at H
      have c5b0 : decide (0 ≤ x5_1) = true := decide_eq_true c5
      clear c5
      by_cases c6 : x5_1 < (l1.length : Int)
      ·
       rw [if_pos c6] at H
       have c6b0 : decide (x5_1 < (l1.length : Int)) = true := decide_eq_true c6
       clear c6
       by_cases c7 : (rdOf ByteArray.empty l0 x5_1).toList = (rdOf ByteArray.empty l1 x5_1).toList
       ·
        rw [if_pos c7] at H
        have c7b0 : ((rdOf ByteArray.empty l0 x5_1).toList == (rdOf ByteArray.empty l1 x5_1).toList) = true := beq_iff_eq.mpr c7
        have c7b1 : ((rdOf ByteArray.empty l0 x5_1).toList != (rdOf ByteArray.empty l1 x5_1).toList) = false := bne_eq_false_iff_eq.mpr c7
        clear c7
        have H' := As0.mk H
        clear H
        have p233 : 0 ≤ (x5_1 : Int) := of_decide_eq_true (by first | (with_reducible assumption) | assumption)
        have q233 : x5_1 < (l0.length : Int) := of_decide_eq_true (by first | (with_reducible assumption) | assumption)
        obtain ⟨ad233, e233, hx233_0⟩ := Kd.at_string HR0.out x5_1 p233 q233
        cases e233
        replace p233 := eq_true p233
        replace q233 := eq_true q233
        have p234 : 0 ≤ (x5_1 : Int) := of_decide_eq_true (by first | (with_reducible assumption) | assumption)
        have q234 : x5_1 < (l1.length : Int) := of_decide_eq_true (by first | (with_reducible assumption) | assumption)
        obtain ⟨ad234, e234, hx234_0⟩ := Kd.at_string HR1.out x5_1 p234 q234
        cases e234
        replace p234 := eq_true p234
        replace q234 := eq_true q234
        go_wp2
        repeat (go_quiet (fail); try go_wp2)
        go_roundg k1
        case measure => have := HK1.out; omega
        case rel => exact ⟨(wrap64 (x5_1 + 1)), (by first | rfl | (simp; done) | (simp [*]; done)), H', ⟨by have := HK1.out; omega⟩, by repeat (first | exact Drawn0.refl _ | apply Drawn0.step)⟩
       ·
        rw [if_neg c7] at H
        have c7b0 : ((rdOf ByteArray.empty l0 x5_1).toList == (rdOf ByteArray.empty l1 x5_1).toList) = false := beq_eq_false_iff_ne.mpr c7
        have c7b1 : ((rdOf ByteArray.empty l0 x5_1).toList != (rdOf ByteArray.empty l1 x5_1).toList) = true := bne_iff_ne.mpr c7
        obtain rfl := Option.some.inj H
        have p233 : 0 ≤ (x5_1 : Int) := of_decide_eq_true (by first | (with_reducible assumption) | assumption)
        have q233 : x5_1 < (l0.length : Int) := of_decide_eq_true (by first | (with_reducible assumption) | assumption)
        obtain ⟨ad233, e233, hx233_0⟩ := Kd.at_string HR0.out x5_1 p233 q233
        cases e233
        replace p233 := eq_true p233
        replace q233 := eq_true q233
        have p234 : 0 ≤ (x5_1 : Int) := of_decide_eq_true (by first | (with_reducible assumption) | assumption)
        have q234 : x5_1 < (l1.length : Int) := of_decide_eq_true (by first | (with_reducible assumption) | assumption)
        obtain ⟨ad234, e234, hx234_0⟩ := Kd.at_string HR1.out x5_1 p234 q234
        cases e234
        replace p234 := eq_true p234
        replace q234 := eq_true q234
        go_wp2
        repeat (go_quiet (fail); try go_wp2)
        go_ret
        exact ⟨by first | rfl | (simp; done) | (simp [*]; done), by repeat (first | exact Drawn0.refl _ | apply Drawn0.step)⟩
      ·
       rw [if_neg c6] at H
       exact absurd H (by simp)
     ·
      rw [if_neg c5] at H
      exact absurd H (by simp)
    ·
     rw [if_neg c4] at H
     have c4b0 : decide (x5_1 < (l0.length : Int)) = false := decide_eq_false c4
     clear c4
     obtain rfl := Option.some.inj H
     go_wp2
     repeat (go_quiet (fail); try go_wp2)
     go_ret
     exact ⟨by first | rfl | (simp; done) | (simp [*]; done), by repeat (first | exact Drawn0.refl _ | apply Drawn0.step)⟩
 ·
  rw [if_neg c3] at H
  have c3b0 : ((l0.length : Int) == (l1.length : Int)) = false := beq_eq_false_iff_ne.mpr c3
  have c3b1 : ((l0.length : Int) != (l1.length : Int)) = true := bne_iff_ne.mpr c3
  have c3b2 : (l0.length == l1.length) = false := by first | simpa using c3 | (simp at c3 ⊢; omega)
  obtain rfl := Option.some.inj H
  go_enter Tryz.func28, Tryz.ntmps28
  go_wp2
  repeat (go_quiet (fail); try go_wp2)
  go_ret
  exact ⟨by first | rfl | (simp; done) | (simp [*]; done), by repeat (first | exact Drawn0.refl _ | apply Drawn0.step)⟩
end Go.Proofs.YtmppkcdphgelcaaGreatDoor.PConf
namespace Go.Proofs.YtmppkcdphgelcaaGreatDoor.PConf
open Go.RowKit Go.Proofs.YtmppkcdphgelcaaGreatDoor.W.PrintWords Go.Proofs.YtmppkcdphgelcaaGreatDoor.W.PrintLast Go.Proofs.YtmppkcdphgelcaaGreatDoor.W.PrintMore
attribute [local go_sem] max2_int min2_int max_two min_two max_three min_three max_four min_four   -- for this text's walks alone
set_option linter.unusedVariables false
set_option linter.unusedSimpArgs false
attribute [local go_sem high] eqA41
mutual
def sr14_Same.j0 : Nat → Bool → Int → Int → Int → Int → Int → List ByteArray → List (S41) → Int → Int → Int → Int → Int → List ByteArray → List (S41) → Option (Bool)
 | 0, _, _, _, _, _, _, _, _, _, _, _, _, _, _, _ => none
 | k + 1, x55, x236000, x236001, x236002, x236003, x236004, x236005, x236006, x237000, x237001, x237002, x237003, x237004, x237005, x237006 => if x55 = true then (some false) else (sr14_Same.l0 k 0 x236000 x236001 x236002 x236003 x236004 x236005 x236006 x237000 x237001 x237002 x237003 x237004 x237005 x237006)
def sr14_Same.l0 : Nat → Int → Int → Int → Int → Int → Int → List ByteArray → List (S41) → Int → Int → Int → Int → Int → List ByteArray → List (S41) → Option (Bool)
 | 0, _, _, _, _, _, _, _, _, _, _, _, _, _, _, _ => none
 | k + 1, x5, x236000, x236001, x236002, x236003, x236004, x236005, x236006, x237000, x237001, x237002, x237003, x237004, x237005, x237006 => if x5 < (x236006.length : Int) then (if 0 ≤ x5 then (if x5 < (x237006.length : Int) then (if (!(((rd_T41 x236006 x5).f0) == ((rd_T41 x237006 x5).f0)) || (!(((rd_T41 x236006 x5).f1) == ((rd_T41 x237006 x5).f1)) || (!(((rd_T41 x236006 x5).f2) == ((rd_T41 x237006 x5).f2))))) = true then (some false) else (sr14_Same.l0 k (wrap64 (x5 + 1)) x236000 x236001 x236002 x236003 x236004 x236005 x236006 x237000 x237001 x237002 x237003 x237004 x237005 x237006)) else (none)) else (none)) else (some true)
end
def sr14_Same.f (k : Nat) (a0_0 : Int) (a0_1 : Int) (a0_2 : Int) (a0_3 : Int) (a0_4 : Int) (l0_5 : List ByteArray) (l0_6 : List (S41)) (a1_0 : Int) (a1_1 : Int) (a1_2 : Int) (a1_3 : Int) (a1_4 : Int) (l1_5 : List ByteArray) (l1_6 : List (S41)) : Option (Bool) := if a0_0 = a1_0 then (if a0_1 = a1_1 then (if a0_2 = a1_2 then (if a0_3 = a1_3 then (if a0_4 = a1_4 then ((sr03_Same.f k l0_5 l1_5).bind fun t237 => (if t237 = true then (sr14_Same.j0 k ((l0_6.length : Int) != (l1_6.length : Int)) a0_0 a0_1 a0_2 a0_3 a0_4 l0_5 l0_6 a1_0 a1_1 a1_2 a1_3 a1_4 l1_5 l1_6) else (sr14_Same.j0 k true a0_0 a0_1 a0_2 a0_3 a0_4 l0_5 l0_6 a1_0 a1_1 a1_2 a1_3 a1_4 l1_5 l1_6))) else (sr14_Same.j0 k true a0_0 a0_1 a0_2 a0_3 a0_4 l0_5 l0_6 a1_0 a1_1 a1_2 a1_3 a1_4 l1_5 l1_6)) else (sr14_Same.j0 k true a0_0 a0_1 a0_2 a0_3 a0_4 l0_5 l0_6 a1_0 a1_1 a1_2 a1_3 a1_4 l1_5 l1_6)) else (sr14_Same.j0 k true a0_0 a0_1 a0_2 a0_3 a0_4 l0_5 l0_6 a1_0 a1_1 a1_2 a1_3 a1_4 l1_5 l1_6)) else (sr14_Same.j0 k true a0_0 a0_1 a0_2 a0_3 a0_4 l0_5 l0_6 a1_0 a1_1 a1_2 a1_3 a1_4 l1_5 l1_6)) else (sr14_Same.j0 k true a0_0 a0_1 a0_2 a0_3 a0_4 l0_5 l0_6 a1_0 a1_1 a1_2 a1_3 a1_4 l1_5 l1_6)
set_option maxHeartbeats 8000000 in
set_option maxRecDepth 100000 in
theorem sr14_Same.calls (k : Nat) (a0_0 : Int) (a0_1 : Int) (a0_2 : Int) (a0_3 : Int) (a0_4 : Int) (A0_5 : Option Addr) (c0_5 : Nat) (l0_5 : List ByteArray) (A0_6 : Option Addr) (c0_6 : Nat) (l0_6 : List (S41)) (a1_0 : Int) (a1_1 : Int) (a1_2 : Int) (a1_3 : Int) (a1_4 : Int) (A1_5 : Option Addr) (c1_5 : Nat) (l1_5 : List ByteArray) (A1_6 : Option Addr) (c1_6 : Nat) (l1_6 : List (S41)) (r : Bool) (w : World) (hr0_5 : Kd.C Kd.string w A0_5 l0_5.length l0_5) (hc0_5 : l0_5.length ≤ c0_5) (hr0_6 : Kd.C k41 w A0_6 l0_6.length l0_6) (hc0_6 : l0_6.length ≤ c0_6) (hr1_5 : Kd.C Kd.string w A1_5 l1_5.length l1_5) (hc1_5 : l1_5.length ≤ c1_5) (hr1_6 : Kd.C k41 w A1_6 l1_6.length l1_6) (hc1_6 : l1_6.length ≤ c1_6) (h : sr14_Same.f k a0_0 a0_1 a0_2 a0_3 a0_4 l0_5 l0_6 a1_0 a1_1 a1_2 a1_3 a1_4 l1_5 l1_6 = some r) :
  Calls Tryz.prog 12 #[.agg #[.int .i64 a0_0, .int .i64 a0_1, .int .i64 a0_2, .int .i64 a0_3, .int .i64 a0_4, .slice A0_5 l0_5.length c0_5, .slice A0_6 l0_6.length c0_6], .agg #[.int .i64 a1_0, .int .i64 a1_1, .int .i64 a1_2, .int .i64 a1_3, .int .i64 a1_4, .slice A1_5 l1_5.length c1_5, .slice A1_6 l1_6.length c1_6]] w fun e w' => e = .returned (.bool r) ∧ Below w.heap.size w w' := by
 have hu25 := Tryz.underlying25
 have hu41 := Tryz.underlying41
 have HR0_5 := As0.mk hr0_5
 have HC0_5 := As0.mk hc0_5
 clear hr0_5 hc0_5
 have HR0_6 := As0.mk hr0_6
 have HC0_6 := As0.mk hc0_6
 clear hr0_6 hc0_6
 have HR1_5 := As0.mk hr1_5
 have HC1_5 := As0.mk hc1_5
 clear hr1_5 hc1_5
 have HR1_6 := As0.mk hr1_6
 have HC1_6 := As0.mk hc1_6
 clear hr1_6 hc1_6
 have HB := As0.mk (Below.refl w.heap.size w)
 have H : (if a0_0 = a1_0 then (if a0_1 = a1_1 then (if a0_2 = a1_2 then (if a0_3 = a1_3 then (if a0_4 = a1_4 then ((sr03_Same.f k l0_5 l1_5).bind fun t237 => (if t237 = true then (sr14_Same.j0 k ((l0_6.length : Int) != (l1_6.length : Int)) a0_0 a0_1 a0_2 a0_3 a0_4 l0_5 l0_6 a1_0 a1_1 a1_2 a1_3 a1_4 l1_5 l1_6) else (sr14_Same.j0 k true a0_0 a0_1 a0_2 a0_3 a0_4 l0_5 l0_6 a1_0 a1_1 a1_2 a1_3 a1_4 l1_5 l1_6))) else (sr14_Same.j0 k true a0_0 a0_1 a0_2 a0_3 a0_4 l0_5 l0_6 a1_0 a1_1 a1_2 a1_3 a1_4 l1_5 l1_6)) else (sr14_Same.j0 k true a0_0 a0_1 a0_2 a0_3 a0_4 l0_5 l0_6 a1_0 a1_1 a1_2 a1_3 a1_4 l1_5 l1_6)) else (sr14_Same.j0 k true a0_0 a0_1 a0_2 a0_3 a0_4 l0_5 l0_6 a1_0 a1_1 a1_2 a1_3 a1_4 l1_5 l1_6)) else (sr14_Same.j0 k true a0_0 a0_1 a0_2 a0_3 a0_4 l0_5 l0_6 a1_0 a1_1 a1_2 a1_3 a1_4 l1_5 l1_6)) else (sr14_Same.j0 k true a0_0 a0_1 a0_2 a0_3 a0_4 l0_5 l0_6 a1_0 a1_1 a1_2 a1_3 a1_4 l1_5 l1_6)) = some r := h
 clear h
 have HC3 := As0.mk H
 clear H
 go_enter Tryz.func12, Tryz.ntmps12
 go_upto_region 1 with (first | ((with_reducible refine gate_dst (N := 2) rfl ?_); (try (refine gate_guard (by rfl) ?_; dsimp only)); refine box_event ?hg (N := 2) ?hd (cs := #[.int .i64 a0_0, .int .i64 a0_1, .int .i64 a0_2, .int .i64 a0_3, .int .i64 a0_4, .slice A0_5 l0_5.length c0_5, .slice A0_6 l0_6.length c0_6]) (t := 25) ?hr ?_; (case hd => rfl); (case hg => rfl); (case hr => first | (go_simp; done) | (go_simp; rfl)); intro gb235 hg w4 hbox hb; have n0_ := As0.mk (below_step (by repeat (first | (with_reducible first | exact HB.out | apply bla | apply bln | apply bld) | exact HB.out)) hb); have n1_ := As0.mk (hbox); have n2_ := As0.mk ((by rw [hg]; exact (below_size (by repeat (first | (with_reducible first | exact HB.out | apply bla | apply bln | apply bld) | exact HB.out))) : w.heap.size ≤ gb235)); have n3_ := As0.mk ((by rw [hg]; exact (below_size (by repeat (first | (with_reducible first | exact HB.out | apply bla | apply bln | apply bld) | exact HB.out))) : w.heap.size ≤ gb235)); clear HB; have HB := n0_; have BK235 := n1_; have GW235 := n2_; have GE235 := n3_; clear n0_ n1_ n2_ n3_; clear hb hbox hg) | ((with_reducible refine gate_dst (N := 3) rfl ?_); (try (refine gate_guard (by rfl) ?_; dsimp only)); refine box_event ?hg (N := 3) ?hd (cs := #[.int .i64 a1_0, .int .i64 a1_1, .int .i64 a1_2, .int .i64 a1_3, .int .i64 a1_4, .slice A1_5 l1_5.length c1_5, .slice A1_6 l1_6.length c1_6]) (t := 25) ?hr ?_; (case hd => rfl); (case hg => rfl); (case hr => first | (go_simp; done) | (go_simp; rfl)); intro gb236 hg w5 hbox hb; have n0_ := As0.mk (blk_below (g := gb235) (o := .cells #[.int .i64 a0_0, .int .i64 a0_1, .int .i64 a0_2, .int .i64 a0_3, .int .i64 a0_4, .slice A0_5 l0_5.length c0_5, .slice A0_6 l0_6.length c0_6] 25 (0, 0)) (by (with_reducible repeat (first | refine bkn ?_ _ | refine bkd ?_ | refine bka ?_ _)); exact BK235.out) hb); have n1_ := As0.mk (below_step (by repeat (first | (with_reducible first | exact HB.out | apply bla | apply bln | apply bld | refine bls ?_ GE235.out) | exact HB.out)) hb); have n2_ := As0.mk (hbox); have n3_ := As0.mk ((by rw [hg]; exact (below_size (by repeat (first | (with_reducible first | exact HB.out | apply bla | apply bln | apply bld | refine bls ?_ GE235.out) | exact HB.out))) : w.heap.size ≤ gb236)); have n4_ := As0.mk ((by rw [hg]; exact (below_size (by repeat (first | (with_reducible first | exact HB.out | apply bla | apply bln | apply bld | refine bls ?_ GE235.out) | exact HB.out))) : w.heap.size ≤ gb236)); have n5_ := As0.mk ((by rw [hg]; exact Nat.ne_of_lt (blk_lt (g := gb235) (o := .cells #[.int .i64 a0_0, .int .i64 a0_1, .int .i64 a0_2, .int .i64 a0_3, .int .i64 a0_4, .slice A0_5 l0_5.length c0_5, .slice A0_6 l0_6.length c0_6] 25 (0, 0)) (by (with_reducible repeat (first | refine bkn ?_ _ | refine bkd ?_ | refine bka ?_ _)); exact BK235.out)) : gb235 ≠ gb236)); have n6_ := As0.mk ((by rw [hg]; exact Nat.ne_of_gt (blk_lt (g := gb235) (o := .cells #[.int .i64 a0_0, .int .i64 a0_1, .int .i64 a0_2, .int .i64 a0_3, .int .i64 a0_4, .slice A0_5 l0_5.length c0_5, .slice A0_6 l0_6.length c0_6] 25 (0, 0)) (by (with_reducible repeat (first | refine bkn ?_ _ | refine bkd ?_ | refine bka ?_ _)); exact BK235.out)) : gb236 ≠ gb235)); clear BK235; clear HB; have BK235 := n0_; have HB := n1_; have BK236 := n2_; have GW236 := n3_; have GE236 := n4_; have NB235_236 := n5_; have NB236_235 := n6_; clear n0_ n1_ n2_ n3_ n4_ n5_ n6_; clear hb hbox hg))
 repeat (go_quiet (first | ((with_reducible refine gate_dst (N := 2) rfl ?_); (try (refine gate_guard (by rfl) ?_; dsimp only)); refine box_event ?hg (N := 2) ?hd (cs := #[.int .i64 a0_0, .int .i64 a0_1, .int .i64 a0_2, .int .i64 a0_3, .int .i64 a0_4, .slice A0_5 l0_5.length c0_5, .slice A0_6 l0_6.length c0_6]) (t := 25) ?hr ?_; (case hd => rfl); (case hg => rfl); (case hr => first | (go_simp; done) | (go_simp; rfl)); intro gb235 hg w4 hbox hb; have n0_ := As0.mk (below_step (by repeat (first | (with_reducible first | exact HB.out | apply bla | apply bln | apply bld) | exact HB.out)) hb); have n1_ := As0.mk (hbox); have n2_ := As0.mk ((by rw [hg]; exact (below_size (by repeat (first | (with_reducible first | exact HB.out | apply bla | apply bln | apply bld) | exact HB.out))) : w.heap.size ≤ gb235)); have n3_ := As0.mk ((by rw [hg]; exact (below_size (by repeat (first | (with_reducible first | exact HB.out | apply bla | apply bln | apply bld) | exact HB.out))) : w.heap.size ≤ gb235)); clear HB; have HB := n0_; have BK235 := n1_; have GW235 := n2_; have GE235 := n3_; clear n0_ n1_ n2_ n3_; clear hb hbox hg) | ((with_reducible refine gate_dst (N := 3) rfl ?_); (try (refine gate_guard (by rfl) ?_; dsimp only)); refine box_event ?hg (N := 3) ?hd (cs := #[.int .i64 a1_0, .int .i64 a1_1, .int .i64 a1_2, .int .i64 a1_3, .int .i64 a1_4, .slice A1_5 l1_5.length c1_5, .slice A1_6 l1_6.length c1_6]) (t := 25) ?hr ?_; (case hd => rfl); (case hg => rfl); (case hr => first | (go_simp; done) | (go_simp; rfl)); intro gb236 hg w5 hbox hb; have n0_ := As0.mk (blk_below (g := gb235) (o := .cells #[.int .i64 a0_0, .int .i64 a0_1, .int .i64 a0_2, .int .i64 a0_3, .int .i64 a0_4, .slice A0_5 l0_5.length c0_5, .slice A0_6 l0_6.length c0_6] 25 (0, 0)) (by (with_reducible repeat (first | refine bkn ?_ _ | refine bkd ?_ | refine bka ?_ _)); exact BK235.out) hb); have n1_ := As0.mk (below_step (by repeat (first | (with_reducible first | exact HB.out | apply bla | apply bln | apply bld | refine bls ?_ GE235.out) | exact HB.out)) hb); have n2_ := As0.mk (hbox); have n3_ := As0.mk ((by rw [hg]; exact (below_size (by repeat (first | (with_reducible first | exact HB.out | apply bla | apply bln | apply bld | refine bls ?_ GE235.out) | exact HB.out))) : w.heap.size ≤ gb236)); have n4_ := As0.mk ((by rw [hg]; exact (below_size (by repeat (first | (with_reducible first | exact HB.out | apply bla | apply bln | apply bld | refine bls ?_ GE235.out) | exact HB.out))) : w.heap.size ≤ gb236)); have n5_ := As0.mk ((by rw [hg]; exact Nat.ne_of_lt (blk_lt (g := gb235) (o := .cells #[.int .i64 a0_0, .int .i64 a0_1, .int .i64 a0_2, .int .i64 a0_3, .int .i64 a0_4, .slice A0_5 l0_5.length c0_5, .slice A0_6 l0_6.length c0_6] 25 (0, 0)) (by (with_reducible repeat (first | refine bkn ?_ _ | refine bkd ?_ | refine bka ?_ _)); exact BK235.out)) : gb235 ≠ gb236)); have n6_ := As0.mk ((by rw [hg]; exact Nat.ne_of_gt (blk_lt (g := gb235) (o := .cells #[.int .i64 a0_0, .int .i64 a0_1, .int .i64 a0_2, .int .i64 a0_3, .int .i64 a0_4, .slice A0_5 l0_5.length c0_5, .slice A0_6 l0_6.length c0_6] 25 (0, 0)) (by (with_reducible repeat (first | refine bkn ?_ _ | refine bkd ?_ | refine bka ?_ _)); exact BK235.out)) : gb236 ≠ gb235)); clear BK235; clear HB; have BK235 := n0_; have HB := n1_; have BK236 := n2_; have GW236 := n3_; have GE236 := n4_; have NB235_236 := n5_; have NB236_235 := n6_; clear n0_ n1_ n2_ n3_ n4_ n5_ n6_; clear hb hbox hg)); go_upto_region 1 with (first | ((with_reducible refine gate_dst (N := 2) rfl ?_); (try (refine gate_guard (by rfl) ?_; dsimp only)); refine box_event ?hg (N := 2) ?hd (cs := #[.int .i64 a0_0, .int .i64 a0_1, .int .i64 a0_2, .int .i64 a0_3, .int .i64 a0_4, .slice A0_5 l0_5.length c0_5, .slice A0_6 l0_6.length c0_6]) (t := 25) ?hr ?_; (case hd => rfl); (case hg => rfl); (case hr => first | (go_simp; done) | (go_simp; rfl)); intro gb235 hg w4 hbox hb; have n0_ := As0.mk (below_step (by repeat (first | (with_reducible first | exact HB.out | apply bla | apply bln | apply bld) | exact HB.out)) hb); have n1_ := As0.mk (hbox); have n2_ := As0.mk ((by rw [hg]; exact (below_size (by repeat (first | (with_reducible first | exact HB.out | apply bla | apply bln | apply bld) | exact HB.out))) : w.heap.size ≤ gb235)); have n3_ := As0.mk ((by rw [hg]; exact (below_size (by repeat (first | (with_reducible first | exact HB.out | apply bla | apply bln | apply bld) | exact HB.out))) : w.heap.size ≤ gb235)); clear HB; have HB := n0_; have BK235 := n1_; have GW235 := n2_; have GE235 := n3_; clear n0_ n1_ n2_ n3_; clear hb hbox hg) | ((with_reducible refine gate_dst (N := 3) rfl ?_); (try (refine gate_guard (by rfl) ?_; dsimp only)); refine box_event ?hg (N := 3) ?hd (cs := #[.int .i64 a1_0, .int .i64 a1_1, .int .i64 a1_2, .int .i64 a1_3, .int .i64 a1_4, .slice A1_5 l1_5.length c1_5, .slice A1_6 l1_6.length c1_6]) (t := 25) ?hr ?_; (case hd => rfl); (case hg => rfl); (case hr => first | (go_simp; done) | (go_simp; rfl)); intro gb236 hg w5 hbox hb; have n0_ := As0.mk (blk_below (g := gb235) (o := .cells #[.int .i64 a0_0, .int .i64 a0_1, .int .i64 a0_2, .int .i64 a0_3, .int .i64 a0_4, .slice A0_5 l0_5.length c0_5, .slice A0_6 l0_6.length c0_6] 25 (0, 0)) (by (with_reducible repeat (first | refine bkn ?_ _ | refine bkd ?_ | refine bka ?_ _)); exact BK235.out) hb); have n1_ := As0.mk (below_step (by repeat (first | (with_reducible first | exact HB.out | apply bla | apply bln | apply bld | refine bls ?_ GE235.out) | exact HB.out)) hb); have n2_ := As0.mk (hbox); have n3_ := As0.mk ((by rw [hg]; exact (below_size (by repeat (first | (with_reducible first | exact HB.out | apply bla | apply bln | apply bld | refine bls ?_ GE235.out) | exact HB.out))) : w.heap.size ≤ gb236)); have n4_ := As0.mk ((by rw [hg]; exact (below_size (by repeat (first | (with_reducible first | exact HB.out | apply bla | apply bln | apply bld | refine bls ?_ GE235.out) | exact HB.out))) : w.heap.size ≤ gb236)); have n5_ := As0.mk ((by rw [hg]; exact Nat.ne_of_lt (blk_lt (g := gb235) (o := .cells #[.int .i64 a0_0, .int .i64 a0_1, .int .i64 a0_2, .int .i64 a0_3, .int .i64 a0_4, .slice A0_5 l0_5.length c0_5, .slice A0_6 l0_6.length c0_6] 25 (0, 0)) (by (with_reducible repeat (first | refine bkn ?_ _ | refine bkd ?_ | refine bka ?_ _)); exact BK235.out)) : gb235 ≠ gb236)); have n6_ := As0.mk ((by rw [hg]; exact Nat.ne_of_gt (blk_lt (g := gb235) (o := .cells #[.int .i64 a0_0, .int .i64 a0_1, .int .i64 a0_2, .int .i64 a0_3, .int .i64 a0_4, .slice A0_5 l0_5.length c0_5, .slice A0_6 l0_6.length c0_6] 25 (0, 0)) (by (with_reducible repeat (first | refine bkn ?_ _ | refine bkd ?_ | refine bka ?_ _)); exact BK235.out)) : gb236 ≠ gb235)); clear BK235; clear HB; have BK235 := n0_; have HB := n1_; have BK236 := n2_; have GW236 := n3_; have GE236 := n4_; have NB235_236 := n5_; have NB236_235 := n6_; clear n0_ n1_ n2_ n3_ n4_ n5_ n6_; clear hb hbox hg)))
 (try simp only [Act.put, List.setIfInBounds_toArray, List.set_cons_zero, List.set_cons_succ])
 go_cut [55] (fun v55 wc => ∃ (kq : Nat) (x55_2 : Bool), v55 = .bool x55_2 ∧ As0 (sr14_Same.j0 kq x55_2 a0_0 a0_1 a0_2 a0_3 a0_4 l0_5 l0_6 a1_0 a1_1 a1_2 a1_3 a1_4 l1_5 l1_6 = some r) ∧ As0 (kq ≤ k) ∧ As0 (wc.heap[gb235]? = some (.cells #[.int .i64 a0_0, .int .i64 a0_1, .int .i64 a0_2, .int .i64 a0_3, .int .i64 a0_4, (.slice A0_5 l0_5.length c0_5), (.slice A0_6 l0_6.length c0_6)] 25 (0, 0))) ∧ As0 (wc.heap[gb236]? = some (.cells #[.int .i64 a1_0, .int .i64 a1_1, .int .i64 a1_2, .int .i64 a1_3, .int .i64 a1_4, (.slice A1_5 l1_5.length c1_5), (.slice A1_6 l1_6.length c1_6)] 25 (0, 0))) ∧ As0 (Below w.heap.size w wc))
 case first =>
  have H := HC3.out
  clear HC3
  by_cases c6 : a0_0 = a1_0
  ·
   rw [if_pos c6] at H
   have c6b0 : (a0_0 == a1_0) = true := beq_iff_eq.mpr c6
   have c6b1 : (a0_0 != a1_0) = false := bne_eq_false_iff_eq.mpr c6
   clear c6
   (first | rw [c6b0] | (simp only [i64_w, i32_w]; rw [c6b0]) | skip)
   by_cases c7 : a0_1 = a1_1
   ·
    rw [if_pos c7] at H
    have c7b0 : (a0_1 == a1_1) = true := beq_iff_eq.mpr c7
    have c7b1 : (a0_1 != a1_1) = false := bne_eq_false_iff_eq.mpr c7
    clear c7
    by_cases c8 : a0_2 = a1_2
    ·
     rw [if_pos c8] at H
     have c8b0 : (a0_2 == a1_2) = true := beq_iff_eq.mpr c8
     have c8b1 : (a0_2 != a1_2) = false := bne_eq_false_iff_eq.mpr c8
     clear c8
     by_cases c9 : a0_3 = a1_3
     ·
      rw [if_pos c9] at H
      have c9b0 : (a0_3 == a1_3) = true := beq_iff_eq.mpr c9
      have c9b1 : (a0_3 != a1_3) = false := bne_eq_false_iff_eq.mpr c9
      clear c9
      by_cases c10 : a0_4 = a1_4
      ·
       rw [if_pos c10] at H
       have c10b0 : (a0_4 == a1_4) = true := beq_iff_eq.mpr c10
       have c10b1 : (a0_4 != a1_4) = false := bne_eq_false_iff_eq.mpr c10
       clear c10
       replace H := Option.bind_eq_some_iff.mp H
       obtain ⟨t237, A110, H⟩ := H
       replace H : (if t237 = true then (sr14_Same.j0 k ((l0_6.length : Int) != (l1_6.length : Int)) a0_0 a0_1 a0_2 a0_3 a0_4 l0_5 l0_6 a1_0 a1_1 a1_2 a1_3 a1_4 l1_5 l1_6) else (sr14_Same.j0 k true a0_0 a0_1 a0_2 a0_3 a0_4 l0_5 l0_6 a1_0 a1_1 a1_2 a1_3 a1_4 l1_5 l1_6)) = some r := H
       have A11 := As0.mk A110
       clear A110
       by_cases c12 : t237 = true
       ·
        subst c12
        have H1 : (sr14_Same.j0 k ((l0_6.length : Int) != (l1_6.length : Int)) a0_0 a0_1 a0_2 a0_3 a0_4 l0_5 l0_6 a1_0 a1_1 a1_2 a1_3 a1_4 l1_5 l1_6) = some r := by rw [if_pos rfl] at H; exact H
        clear H
        have H := H1
        clear H1
        have H' := As0.mk H
        clear H
        have hnb13 := NB235_236.out
        have hnc13 := NB236_235.out
        have hcz14_0 : w5.cell? ⟨gb235, 0, none⟩ = some (.int .i64 a0_0) := (bkc BK235.out 0).trans rfl
        have hcz14_1 : w5.cell? ⟨gb235, 1, none⟩ = some (.int .i64 a0_1) := (bkc BK235.out 1).trans rfl
        have hcz14_2 : w5.cell? ⟨gb235, 2, none⟩ = some (.int .i64 a0_2) := (bkc BK235.out 2).trans rfl
        have hcz14_3 : w5.cell? ⟨gb235, 3, none⟩ = some (.int .i64 a0_3) := (bkc BK235.out 3).trans rfl
        have hcz14_4 : w5.cell? ⟨gb235, 4, none⟩ = some (.int .i64 a0_4) := (bkc BK235.out 4).trans rfl
        have hcz14_5 : w5.cell? ⟨gb235, 5, none⟩ = some (.slice A0_5 l0_5.length c0_5) := (bkc BK235.out 5).trans rfl
        have hcz14_6 : w5.cell? ⟨gb235, 6, none⟩ = some (.slice A0_6 l0_6.length c0_6) := (bkc BK235.out 6).trans rfl
        have hfz14_0 := bkf BK235.out 0
        have hfz14_1 := bkf BK235.out 1
        have hfz14_2 := bkf BK235.out 2
        have hfz14_3 := bkf BK235.out 3
        have hfz14_4 := bkf BK235.out 4
        have hfz14_5 := bkf BK235.out 5
        have hfz14_6 := bkf BK235.out 6
        have hcz15_0 : w5.cell? ⟨gb236, 0, none⟩ = some (.int .i64 a1_0) := (bkc BK236.out 0).trans rfl
        have hcz15_1 : w5.cell? ⟨gb236, 1, none⟩ = some (.int .i64 a1_1) := (bkc BK236.out 1).trans rfl
        have hcz15_2 : w5.cell? ⟨gb236, 2, none⟩ = some (.int .i64 a1_2) := (bkc BK236.out 2).trans rfl
        have hcz15_3 : w5.cell? ⟨gb236, 3, none⟩ = some (.int .i64 a1_3) := (bkc BK236.out 3).trans rfl
        have hcz15_4 : w5.cell? ⟨gb236, 4, none⟩ = some (.int .i64 a1_4) := (bkc BK236.out 4).trans rfl
        have hcz15_5 : w5.cell? ⟨gb236, 5, none⟩ = some (.slice A1_5 l1_5.length c1_5) := (bkc BK236.out 5).trans rfl
        have hcz15_6 : w5.cell? ⟨gb236, 6, none⟩ = some (.slice A1_6 l1_6.length c1_6) := (bkc BK236.out 6).trans rfl
        have hfz15_0 := bkf BK236.out 0
        have hfz15_1 := bkf BK236.out 1
        have hfz15_2 := bkf BK236.out 2
        have hfz15_3 := bkf BK236.out 3
        have hfz15_4 := bkf BK236.out 4
        have hfz15_5 := bkf BK236.out 5
        have hfz15_6 := bkf BK236.out 6
        go_wp2_with (first | (go_at_call 28; (with_reducible refine (sr03_Same.calls k _ _ l0_5 _ _ l1_5 true _ ?side1 ?side2 ?side3 ?side4 A11.out).mono ?_); (case side1 => repeat (first | exact (Kd.C_below HR0_5.out HB.out) | (with_reducible refine Kd.C_alloc ?_ _) | (with_reducible refine Kd.C_drewN ?_ _) | (with_reducible refine Kd.C_drew ?_))); (case side2 => exact HC0_5.out); (case side3 => repeat (first | exact (Kd.C_below HR1_5.out HB.out) | (with_reducible refine Kd.C_alloc ?_ _) | (with_reducible refine Kd.C_drewN ?_ _) | (with_reducible refine Kd.C_drew ?_))); (case side4 => exact HC1_5.out); rintro e w' ⟨rfl, ⟨nd, rfl⟩⟩; (try first | exact ⟨rfl, _, World.drewN_drewN _ _ _⟩ | exact ⟨rfl, _, Eq.trans (World.drewN_drewN _ _ _) (congrArg (World.drewN _) (Nat.add_assoc _ _ _))⟩)))
        repeat (go_quiet (first | (go_at_call 28; (with_reducible refine (sr03_Same.calls k _ _ l0_5 _ _ l1_5 true _ ?side1 ?side2 ?side3 ?side4 A11.out).mono ?_); (case side1 => repeat (first | exact (Kd.C_below HR0_5.out HB.out) | (with_reducible refine Kd.C_alloc ?_ _) | (with_reducible refine Kd.C_drewN ?_ _) | (with_reducible refine Kd.C_drew ?_))); (case side2 => exact HC0_5.out); (case side3 => repeat (first | exact (Kd.C_below HR1_5.out HB.out) | (with_reducible refine Kd.C_alloc ?_ _) | (with_reducible refine Kd.C_drewN ?_ _) | (with_reducible refine Kd.C_drew ?_))); (case side4 => exact HC1_5.out); rintro e w' ⟨rfl, ⟨nd, rfl⟩⟩; (try first | exact ⟨rfl, _, World.drewN_drewN _ _ _⟩ | exact ⟨rfl, _, Eq.trans (World.drewN_drewN _ _ _) (congrArg (World.drewN _) (Nat.add_assoc _ _ _))⟩))); try go_wp2_with (first | (go_at_call 28; (with_reducible refine (sr03_Same.calls k _ _ l0_5 _ _ l1_5 true _ ?side1 ?side2 ?side3 ?side4 A11.out).mono ?_); (case side1 => repeat (first | exact (Kd.C_below HR0_5.out HB.out) | (with_reducible refine Kd.C_alloc ?_ _) | (with_reducible refine Kd.C_drewN ?_ _) | (with_reducible refine Kd.C_drew ?_))); (case side2 => exact HC0_5.out); (case side3 => repeat (first | exact (Kd.C_below HR1_5.out HB.out) | (with_reducible refine Kd.C_alloc ?_ _) | (with_reducible refine Kd.C_drewN ?_ _) | (with_reducible refine Kd.C_drew ?_))); (case side4 => exact HC1_5.out); rintro e w' ⟨rfl, ⟨nd, rfl⟩⟩; (try first | exact ⟨rfl, _, World.drewN_drewN _ _ _⟩ | exact ⟨rfl, _, Eq.trans (World.drewN_drewN _ _ _) (congrArg (World.drewN _) (Nat.add_assoc _ _ _))⟩))))
        go_meet
        case rel => exact ⟨_, (((l0_6.length : Int) != (l1_6.length : Int))), (by first | rfl | (simp; done) | (simp [*]; done)), H', ⟨by first | omega | exact Nat.le_refl _⟩, ⟨by (with_reducible repeat (first | refine bkn ?_ _ | refine bkd ?_ | refine bka ?_ _)); exact BK235.out⟩, ⟨by (with_reducible repeat (first | refine bkn ?_ _ | refine bkd ?_ | refine bka ?_ _)); exact BK236.out⟩, ⟨by repeat (first | (with_reducible first | exact HB.out | apply bla | apply bln | apply bld | refine bls ?_ GE235.out | refine bls ?_ GE236.out) | exact HB.out)⟩⟩
       ·
        replace c12 := Bool.eq_false_iff.mpr c12
        subst c12
        have H1 : (sr14_Same.j0 k true a0_0 a0_1 a0_2 a0_3 a0_4 l0_5 l0_6 a1_0 a1_1 a1_2 a1_3 a1_4 l1_5 l1_6) = some r := by rw [if_neg (show ¬ (false = true) by decide)] at H; exact H
        clear H
        have H := H1
        clear H1
        have H' := As0.mk H
        clear H
        have hnb16 := NB235_236.out
        have hnc16 := NB236_235.out
        have hcz17_0 : w5.cell? ⟨gb235, 0, none⟩ = some (.int .i64 a0_0) := (bkc BK235.out 0).trans rfl
        have hcz17_1 : w5.cell? ⟨gb235, 1, none⟩ = some (.int .i64 a0_1) := (bkc BK235.out 1).trans rfl
        have hcz17_2 : w5.cell? ⟨gb235, 2, none⟩ = some (.int .i64 a0_2) := (bkc BK235.out 2).trans rfl
        have hcz17_3 : w5.cell? ⟨gb235, 3, none⟩ = some (.int .i64 a0_3) := (bkc BK235.out 3).trans rfl
        have hcz17_4 : w5.cell? ⟨gb235, 4, none⟩ = some (.int .i64 a0_4) := (bkc BK235.out 4).trans rfl
        have hcz17_5 : w5.cell? ⟨gb235, 5, none⟩ = some (.slice A0_5 l0_5.length c0_5) := (bkc BK235.out 5).trans rfl
        have hcz17_6 : w5.cell? ⟨gb235, 6, none⟩ = some (.slice A0_6 l0_6.length c0_6) := (bkc BK235.out 6).trans rfl
        have hfz17_0 := bkf BK235.out 0
        have hfz17_1 := bkf BK235.out 1
        have hfz17_2 := bkf BK235.out 2
        have hfz17_3 := bkf BK235.out 3
        have hfz17_4 := bkf BK235.out 4
        have hfz17_5 := bkf BK235.out 5
        have hfz17_6 := bkf BK235.out 6
        have hcz18_0 : w5.cell? ⟨gb236, 0, none⟩ = some (.int .i64 a1_0) := (bkc BK236.out 0).trans rfl
        have hcz18_1 : w5.cell? ⟨gb236, 1, none⟩ = some (.int .i64 a1_1) := (bkc BK236.out 1).trans rfl
        have hcz18_2 : w5.cell? ⟨gb236, 2, none⟩ = some (.int .i64 a1_2) := (bkc BK236.out 2).trans rfl
        have hcz18_3 : w5.cell? ⟨gb236, 3, none⟩ = some (.int .i64 a1_3) := (bkc BK236.out 3).trans rfl
        have hcz18_4 : w5.cell? ⟨gb236, 4, none⟩ = some (.int .i64 a1_4) := (bkc BK236.out 4).trans rfl
        have hcz18_5 : w5.cell? ⟨gb236, 5, none⟩ = some (.slice A1_5 l1_5.length c1_5) := (bkc BK236.out 5).trans rfl
        have hcz18_6 : w5.cell? ⟨gb236, 6, none⟩ = some (.slice A1_6 l1_6.length c1_6) := (bkc BK236.out 6).trans rfl
        have hfz18_0 := bkf BK236.out 0
        have hfz18_1 := bkf BK236.out 1
        have hfz18_2 := bkf BK236.out 2
        have hfz18_3 := bkf BK236.out 3
        have hfz18_4 := bkf BK236.out 4
        have hfz18_5 := bkf BK236.out 5
        have hfz18_6 := bkf BK236.out 6
        go_wp2_with (first | (go_at_call 28; (with_reducible refine (sr03_Same.calls k _ _ l0_5 _ _ l1_5 false _ ?side1 ?side2 ?side3 ?side4 A11.out).mono ?_); (case side1 => repeat (first | exact (Kd.C_below HR0_5.out HB.out) | (with_reducible refine Kd.C_alloc ?_ _) | (with_reducible refine Kd.C_drewN ?_ _) | (with_reducible refine Kd.C_drew ?_))); (case side2 => exact HC0_5.out); (case side3 => repeat (first | exact (Kd.C_below HR1_5.out HB.out) | (with_reducible refine Kd.C_alloc ?_ _) | (with_reducible refine Kd.C_drewN ?_ _) | (with_reducible refine Kd.C_drew ?_))); (case side4 => exact HC1_5.out); rintro e w' ⟨rfl, ⟨nd, rfl⟩⟩; (try first | exact ⟨rfl, _, World.drewN_drewN _ _ _⟩ | exact ⟨rfl, _, Eq.trans (World.drewN_drewN _ _ _) (congrArg (World.drewN _) (Nat.add_assoc _ _ _))⟩)))
        repeat (go_quiet (first | (go_at_call 28; (with_reducible refine (sr03_Same.calls k _ _ l0_5 _ _ l1_5 false _ ?side1 ?side2 ?side3 ?side4 A11.out).mono ?_); (case side1 => repeat (first | exact (Kd.C_below HR0_5.out HB.out) | (with_reducible refine Kd.C_alloc ?_ _) | (with_reducible refine Kd.C_drewN ?_ _) | (with_reducible refine Kd.C_drew ?_))); (case side2 => exact HC0_5.out); (case side3 => repeat (first | exact (Kd.C_below HR1_5.out HB.out) | (with_reducible refine Kd.C_alloc ?_ _) | (with_reducible refine Kd.C_drewN ?_ _) | (with_reducible refine Kd.C_drew ?_))); (case side4 => exact HC1_5.out); rintro e w' ⟨rfl, ⟨nd, rfl⟩⟩; (try first | exact ⟨rfl, _, World.drewN_drewN _ _ _⟩ | exact ⟨rfl, _, Eq.trans (World.drewN_drewN _ _ _) (congrArg (World.drewN _) (Nat.add_assoc _ _ _))⟩))); try go_wp2_with (first | (go_at_call 28; (with_reducible refine (sr03_Same.calls k _ _ l0_5 _ _ l1_5 false _ ?side1 ?side2 ?side3 ?side4 A11.out).mono ?_); (case side1 => repeat (first | exact (Kd.C_below HR0_5.out HB.out) | (with_reducible refine Kd.C_alloc ?_ _) | (with_reducible refine Kd.C_drewN ?_ _) | (with_reducible refine Kd.C_drew ?_))); (case side2 => exact HC0_5.out); (case side3 => repeat (first | exact (Kd.C_below HR1_5.out HB.out) | (with_reducible refine Kd.C_alloc ?_ _) | (with_reducible refine Kd.C_drewN ?_ _) | (with_reducible refine Kd.C_drew ?_))); (case side4 => exact HC1_5.out); rintro e w' ⟨rfl, ⟨nd, rfl⟩⟩; (try first | exact ⟨rfl, _, World.drewN_drewN _ _ _⟩ | exact ⟨rfl, _, Eq.trans (World.drewN_drewN _ _ _) (congrArg (World.drewN _) (Nat.add_assoc _ _ _))⟩))))
        go_meet
        case rel => exact ⟨_, (true), (by first | rfl | (simp; done) | (simp [*]; done)), H', ⟨by first | omega | exact Nat.le_refl _⟩, ⟨by (with_reducible repeat (first | refine bkn ?_ _ | refine bkd ?_ | refine bka ?_ _)); exact BK235.out⟩, ⟨by (with_reducible repeat (first | refine bkn ?_ _ | refine bkd ?_ | refine bka ?_ _)); exact BK236.out⟩, ⟨by repeat (first | (with_reducible first | exact HB.out | apply bla | apply bln | apply bld | refine bls ?_ GE235.out | refine bls ?_ GE236.out) | exact HB.out)⟩⟩
      ·
       rw [if_neg c10] at H
       have c10b0 : (a0_4 == a1_4) = false := beq_eq_false_iff_ne.mpr c10
       have c10b1 : (a0_4 != a1_4) = true := bne_iff_ne.mpr c10
       have H' := As0.mk H
       clear H
       have hnb19 := NB235_236.out
       have hnc19 := NB236_235.out
       have hcz20_0 : w5.cell? ⟨gb235, 0, none⟩ = some (.int .i64 a0_0) := (bkc BK235.out 0).trans rfl
       have hcz20_1 : w5.cell? ⟨gb235, 1, none⟩ = some (.int .i64 a0_1) := (bkc BK235.out 1).trans rfl
       have hcz20_2 : w5.cell? ⟨gb235, 2, none⟩ = some (.int .i64 a0_2) := (bkc BK235.out 2).trans rfl
       have hcz20_3 : w5.cell? ⟨gb235, 3, none⟩ = some (.int .i64 a0_3) := (bkc BK235.out 3).trans rfl
       have hcz20_4 : w5.cell? ⟨gb235, 4, none⟩ = some (.int .i64 a0_4) := (bkc BK235.out 4).trans rfl
       have hcz20_5 : w5.cell? ⟨gb235, 5, none⟩ = some (.slice A0_5 l0_5.length c0_5) := (bkc BK235.out 5).trans rfl
       have hcz20_6 : w5.cell? ⟨gb235, 6, none⟩ = some (.slice A0_6 l0_6.length c0_6) := (bkc BK235.out 6).trans rfl
       have hfz20_0 := bkf BK235.out 0
       have hfz20_1 := bkf BK235.out 1
       have hfz20_2 := bkf BK235.out 2
       have hfz20_3 := bkf BK235.out 3
       have hfz20_4 := bkf BK235.out 4
       have hfz20_5 := bkf BK235.out 5
       have hfz20_6 := bkf BK235.out 6
       have hcz21_0 : w5.cell? ⟨gb236, 0, none⟩ = some (.int .i64 a1_0) := (bkc BK236.out 0).trans rfl
       have hcz21_1 : w5.cell? ⟨gb236, 1, none⟩ = some (.int .i64 a1_1) := (bkc BK236.out 1).trans rfl
       have hcz21_2 : w5.cell? ⟨gb236, 2, none⟩ = some (.int .i64 a1_2) := (bkc BK236.out 2).trans rfl
       have hcz21_3 : w5.cell? ⟨gb236, 3, none⟩ = some (.int .i64 a1_3) := (bkc BK236.out 3).trans rfl
       have hcz21_4 : w5.cell? ⟨gb236, 4, none⟩ = some (.int .i64 a1_4) := (bkc BK236.out 4).trans rfl
       have hcz21_5 : w5.cell? ⟨gb236, 5, none⟩ = some (.slice A1_5 l1_5.length c1_5) := (bkc BK236.out 5).trans rfl
       have hcz21_6 : w5.cell? ⟨gb236, 6, none⟩ = some (.slice A1_6 l1_6.length c1_6) := (bkc BK236.out 6).trans rfl
       have hfz21_0 := bkf BK236.out 0
       have hfz21_1 := bkf BK236.out 1
       have hfz21_2 := bkf BK236.out 2
       have hfz21_3 := bkf BK236.out 3
       have hfz21_4 := bkf BK236.out 4
       have hfz21_5 := bkf BK236.out 5
       have hfz21_6 := bkf BK236.out 6
       go_wp2
       repeat (go_quiet (fail); try go_wp2)
       go_meet
       case rel => exact ⟨_, (true), (by first | rfl | (simp; done) | (simp [*]; done)), H', ⟨by first | omega | exact Nat.le_refl _⟩, ⟨by (with_reducible repeat (first | refine bkn ?_ _ | refine bkd ?_ | refine bka ?_ _)); exact BK235.out⟩, ⟨by (with_reducible repeat (first | refine bkn ?_ _ | refine bkd ?_ | refine bka ?_ _)); exact BK236.out⟩, ⟨by repeat (first | (with_reducible first | exact HB.out | apply bla | apply bln | apply bld | refine bls ?_ GE235.out | refine bls ?_ GE236.out) | exact HB.out)⟩⟩
     ·
      rw [if_neg c9] at H
      have c9b0 : (a0_3 == a1_3) = false := beq_eq_false_iff_ne.mpr c9
      have c9b1 : (a0_3 != a1_3) = true := bne_iff_ne.mpr c9
      have H' := As0.mk H
      clear H
      have hnb22 := NB235_236.out
      have hnc22 := NB236_235.out
      have hcz23_0 : w5.cell? ⟨gb235, 0, none⟩ = some (.int .i64 a0_0) := (bkc BK235.out 0).trans rfl
      have hcz23_1 : w5.cell? ⟨gb235, 1, none⟩ = some (.int .i64 a0_1) := (bkc BK235.out 1).trans rfl
      have hcz23_2 : w5.cell? ⟨gb235, 2, none⟩ = some (.int .i64 a0_2) := (bkc BK235.out 2).trans rfl
      have hcz23_3 : w5.cell? ⟨gb235, 3, none⟩ = some (.int .i64 a0_3) := (bkc BK235.out 3).trans rfl
      have hcz23_4 : w5.cell? ⟨gb235, 4, none⟩ = some (.int .i64 a0_4) := (bkc BK235.out 4).trans rfl
      have hcz23_5 : w5.cell? ⟨gb235, 5, none⟩ = some (.slice A0_5 l0_5.length c0_5) := (bkc BK235.out 5).trans rfl
      have hcz23_6 : w5.cell? ⟨gb235, 6, none⟩ = some (.slice A0_6 l0_6.length c0_6) := (bkc BK235.out 6).trans rfl
      have hfz23_0 := bkf BK235.out 0
      have hfz23_1 := bkf BK235.out 1
      have hfz23_2 := bkf BK235.out 2
      have hfz23_3 := bkf BK235.out 3
      have hfz23_4 := bkf BK235.out 4
      have hfz23_5 := bkf BK235.out 5
      have hfz23_6 := bkf BK235.out 6
      have hcz24_0 : w5.cell? ⟨gb236, 0, none⟩ = some (.int .i64 a1_0) := (bkc BK236.out 0).trans rfl
      have hcz24_1 : w5.cell? ⟨gb236, 1, none⟩ = some (.int .i64 a1_1) := (bkc BK236.out 1).trans rfl
      have hcz24_2 : w5.cell? ⟨gb236, 2, none⟩ = some (.int .i64 a1_2) := (bkc BK236.out 2).trans rfl
      have hcz24_3 : w5.cell? ⟨gb236, 3, none⟩ = some (.int .i64 a1_3) := (bkc BK236.out 3).trans rfl
      have hcz24_4 : w5.cell? ⟨gb236, 4, none⟩ = some (.int .i64 a1_4) := (bkc BK236.out 4).trans rfl
      have hcz24_5 : w5.cell? ⟨gb236, 5, none⟩ = some (.slice A1_5 l1_5.length c1_5) := (bkc BK236.out 5).trans rfl
      have hcz24_6 : w5.cell? ⟨gb236, 6, none⟩ = some (.slice A1_6 l1_6.length c1_6) := (bkc BK236.out 6).trans rfl
      have hfz24_0 := bkf BK236.out 0
      have hfz24_1 := bkf BK236.out 1
      have hfz24_2 := bkf BK236.out 2
      have hfz24_3 := bkf BK236.out 3
      have hfz24_4 := bkf BK236.out 4
      have hfz24_5 := bkf BK236.out 5
      have hfz24_6 := bkf BK236.out 6
      go_wp2
      repeat (go_quiet (fail); try go_wp2)
      go_meet
      case rel => exact ⟨_, (true), (by first | rfl | (simp; done) | (simp [*]; done)), H', ⟨by first | omega | exact Nat.le_refl _⟩, ⟨by (with_reducible repeat (first | refine bkn ?_ _ | refine bkd ?_ | refine bka ?_ _)); exact BK235.out⟩, ⟨by (with_reducible repeat (first | refine bkn ?_ _ | refine bkd ?_ | refine bka ?_ _)); exact BK236.out⟩, ⟨by repeat (first | (with_reducible first | exact HB.out | apply bla | apply bln | apply bld | refine bls ?_ GE235.out | refine bls ?_ GE236.out) | exact HB.out)⟩⟩
    ·
     rw [if_neg c8] at H
     have c8b0 : (a0_2 == a1_2) = false := beq_eq_false_iff_ne.mpr c8
     have c8b1 : (a0_2 != a1_2) = true := bne_iff_ne.mpr c8
     have H' := As0.mk H
     clear H
     have hnb25 := NB235_236.out
     have hnc25 := NB236_235.out
     have hcz26_0 : w5.cell? ⟨gb235, 0, none⟩ = some (.int .i64 a0_0) := (bkc BK235.out 0).trans rfl
     have hcz26_1 : w5.cell? ⟨gb235, 1, none⟩ = some (.int .i64 a0_1) := (bkc BK235.out 1).trans rfl
     have hcz26_2 : w5.cell? ⟨gb235, 2, none⟩ = some (.int .i64 a0_2) := (bkc BK235.out 2).trans rfl
     have hcz26_3 : w5.cell? ⟨gb235, 3, none⟩ = some (.int .i64 a0_3) := (bkc BK235.out 3).trans rfl
     have hcz26_4 : w5.cell? ⟨gb235, 4, none⟩ = some (.int .i64 a0_4) := (bkc BK235.out 4).trans rfl
     have hcz26_5 : w5.cell? ⟨gb235, 5, none⟩ = some (.slice A0_5 l0_5.length c0_5) := (bkc BK235.out 5).trans rfl
     have hcz26_6 : w5.cell? ⟨gb235, 6, none⟩ = some (.slice A0_6 l0_6.length c0_6) := (bkc BK235.out 6).trans rfl
     have hfz26_0 := bkf BK235.out 0
     have hfz26_1 := bkf BK235.out 1
     have hfz26_2 := bkf BK235.out 2
     have hfz26_3 := bkf BK235.out 3
     have hfz26_4 := bkf BK235.out 4
     have hfz26_5 := bkf BK235.out 5
     have hfz26_6 := bkf BK235.out 6
     have hcz27_0 : w5.cell? ⟨gb236, 0, none⟩ = some (.int .i64 a1_0) := (bkc BK236.out 0).trans rfl
     have hcz27_1 : w5.cell? ⟨gb236, 1, none⟩ = some (.int .i64 a1_1) := (bkc BK236.out 1).trans rfl
     have hcz27_2 : w5.cell? ⟨gb236, 2, none⟩ = some (.int .i64 a1_2) := (bkc BK236.out 2).trans rfl
     have hcz27_3 : w5.cell? ⟨gb236, 3, none⟩ = some (.int .i64 a1_3) := (bkc BK236.out 3).trans rfl
     have hcz27_4 : w5.cell? ⟨gb236, 4, none⟩ = some (.int .i64 a1_4) := (bkc BK236.out 4).trans rfl
     have hcz27_5 : w5.cell? ⟨gb236, 5, none⟩ = some (.slice A1_5 l1_5.length c1_5) := (bkc BK236.out 5).trans rfl
     have hcz27_6 : w5.cell? ⟨gb236, 6, none⟩ = some (.slice A1_6 l1_6.length c1_6) := (bkc BK236.out 6).trans rfl
     have hfz27_0 := bkf BK236.out 0
     have hfz27_1 := bkf BK236.out 1
     have hfz27_2 := bkf BK236.out 2
     have hfz27_3 := bkf BK236.out 3
     have hfz27_4 := bkf BK236.out 4
     have hfz27_5 := bkf BK236.out 5
     have hfz27_6 := bkf BK236.out 6
     go_wp2
     repeat (go_quiet (fail); try go_wp2)
     go_meet
     case rel => exact ⟨_, (true), (by first | rfl | (simp; done) | (simp [*]; done)), H', ⟨by first | omega | exact Nat.le_refl _⟩, ⟨by (with_reducible repeat (first | refine bkn ?_ _ | refine bkd ?_ | refine bka ?_ _)); exact BK235.out⟩, ⟨by (with_reducible repeat (first | refine bkn ?_ _ | refine bkd ?_ | refine bka ?_ _)); exact BK236.out⟩, ⟨by repeat (first | (with_reducible first | exact HB.out | apply bla | apply bln | apply bld | refine bls ?_ GE235.out | refine bls ?_ GE236.out) | exact HB.out)⟩⟩
   ·
    rw [if_neg c7] at H
    have c7b0 : (a0_1 == a1_1) = false := beq_eq_false_iff_ne.mpr c7
    have c7b1 : (a0_1 != a1_1) = true := bne_iff_ne.mpr c7
    have H' := As0.mk H
    clear H
    have hnb28 := NB235_236.out
    have hnc28 := NB236_235.out
    have hcz29_0 : w5.cell? ⟨gb235, 0, none⟩ = some (.int .i64 a0_0) := (bkc BK235.out 0).trans rfl
    have hcz29_1 : w5.cell? ⟨gb235, 1, none⟩ = some (.int .i64 a0_1) := (bkc BK235.out 1).trans rfl
    have hcz29_2 : w5.cell? ⟨gb235, 2, none⟩ = some (.int .i64 a0_2) := (bkc BK235.out 2).trans rfl
    have hcz29_3 : w5.cell? ⟨gb235, 3, none⟩ = some (.int .i64 a0_3) := (bkc BK235.out 3).trans rfl
    have hcz29_4 : w5.cell? ⟨gb235, 4, none⟩ = some (.int .i64 a0_4) := (bkc BK235.out 4).trans rfl
    have hcz29_5 : w5.cell? ⟨gb235, 5, none⟩ = some (.slice A0_5 l0_5.length c0_5) := (bkc BK235.out 5).trans rfl
    have hcz29_6 : w5.cell? ⟨gb235, 6, none⟩ = some (.slice A0_6 l0_6.length c0_6) := (bkc BK235.out 6).trans rfl
    have hfz29_0 := bkf BK235.out 0
    have hfz29_1 := bkf BK235.out 1
    have hfz29_2 := bkf BK235.out 2
    have hfz29_3 := bkf BK235.out 3
    have hfz29_4 := bkf BK235.out 4
    have hfz29_5 := bkf BK235.out 5
    have hfz29_6 := bkf BK235.out 6
    have hcz30_0 : w5.cell? ⟨gb236, 0, none⟩ = some (.int .i64 a1_0) := (bkc BK236.out 0).trans rfl
    have hcz30_1 : w5.cell? ⟨gb236, 1, none⟩ = some (.int .i64 a1_1) := (bkc BK236.out 1).trans rfl
    have hcz30_2 : w5.cell? ⟨gb236, 2, none⟩ = some (.int .i64 a1_2) := (bkc BK236.out 2).trans rfl
    have hcz30_3 : w5.cell? ⟨gb236, 3, none⟩ = some (.int .i64 a1_3) := (bkc BK236.out 3).trans rfl
    have hcz30_4 : w5.cell? ⟨gb236, 4, none⟩ = some (.int .i64 a1_4) := (bkc BK236.out 4).trans rfl
    have hcz30_5 : w5.cell? ⟨gb236, 5, none⟩ = some (.slice A1_5 l1_5.length c1_5) := (bkc BK236.out 5).trans rfl
    have hcz30_6 : w5.cell? ⟨gb236, 6, none⟩ = some (.slice A1_6 l1_6.length c1_6) := (bkc BK236.out 6).trans rfl
    have hfz30_0 := bkf BK236.out 0
    have hfz30_1 := bkf BK236.out 1
    have hfz30_2 := bkf BK236.out 2
    have hfz30_3 := bkf BK236.out 3
    have hfz30_4 := bkf BK236.out 4
    have hfz30_5 := bkf BK236.out 5
    have hfz30_6 := bkf BK236.out 6
    go_wp2
    repeat (go_quiet (fail); try go_wp2)
    go_meet
    case rel => exact ⟨_, (true), (by first | rfl | (simp; done) | (simp [*]; done)), H', ⟨by first | omega | exact Nat.le_refl _⟩, ⟨by (with_reducible repeat (first | refine bkn ?_ _ | refine bkd ?_ | refine bka ?_ _)); exact BK235.out⟩, ⟨by (with_reducible repeat (first | refine bkn ?_ _ | refine bkd ?_ | refine bka ?_ _)); exact BK236.out⟩, ⟨by repeat (first | (with_reducible first | exact HB.out | apply bla | apply bln | apply bld | refine bls ?_ GE235.out | refine bls ?_ GE236.out) | exact HB.out)⟩⟩
  ·
   rw [if_neg c6] at H
   have c6b0 : (a0_0 == a1_0) = false := beq_eq_false_iff_ne.mpr c6
   have c6b1 : (a0_0 != a1_0) = true := bne_iff_ne.mpr c6
   (first | rw [c6b0] | (simp only [i64_w, i32_w]; rw [c6b0]) | skip)
   have H' := As0.mk H
   clear H
   have hnb31 := NB235_236.out
   have hnc31 := NB236_235.out
   have hcz32_0 : w5.cell? ⟨gb235, 0, none⟩ = some (.int .i64 a0_0) := (bkc BK235.out 0).trans rfl
   have hcz32_1 : w5.cell? ⟨gb235, 1, none⟩ = some (.int .i64 a0_1) := (bkc BK235.out 1).trans rfl
   have hcz32_2 : w5.cell? ⟨gb235, 2, none⟩ = some (.int .i64 a0_2) := (bkc BK235.out 2).trans rfl
   have hcz32_3 : w5.cell? ⟨gb235, 3, none⟩ = some (.int .i64 a0_3) := (bkc BK235.out 3).trans rfl
   have hcz32_4 : w5.cell? ⟨gb235, 4, none⟩ = some (.int .i64 a0_4) := (bkc BK235.out 4).trans rfl
   have hcz32_5 : w5.cell? ⟨gb235, 5, none⟩ = some (.slice A0_5 l0_5.length c0_5) := (bkc BK235.out 5).trans rfl
   have hcz32_6 : w5.cell? ⟨gb235, 6, none⟩ = some (.slice A0_6 l0_6.length c0_6) := (bkc BK235.out 6).trans rfl
   have hfz32_0 := bkf BK235.out 0
   have hfz32_1 := bkf BK235.out 1
   have hfz32_2 := bkf BK235.out 2
   have hfz32_3 := bkf BK235.out 3
   have hfz32_4 := bkf BK235.out 4
   have hfz32_5 := bkf BK235.out 5
   have hfz32_6 := bkf BK235.out 6
   have hcz33_0 : w5.cell? ⟨gb236, 0, none⟩ = some (.int .i64 a1_0) := (bkc BK236.out 0).trans rfl
   have hcz33_1 : w5.cell? ⟨gb236, 1, none⟩ = some (.int .i64 a1_1) := (bkc BK236.out 1).trans rfl
   have hcz33_2 : w5.cell? ⟨gb236, 2, none⟩ = some (.int .i64 a1_2) := (bkc BK236.out 2).trans rfl
   have hcz33_3 : w5.cell? ⟨gb236, 3, none⟩ = some (.int .i64 a1_3) := (bkc BK236.out 3).trans rfl
   have hcz33_4 : w5.cell? ⟨gb236, 4, none⟩ = some (.int .i64 a1_4) := (bkc BK236.out 4).trans rfl
   have hcz33_5 : w5.cell? ⟨gb236, 5, none⟩ = some (.slice A1_5 l1_5.length c1_5) := (bkc BK236.out 5).trans rfl
   have hcz33_6 : w5.cell? ⟨gb236, 6, none⟩ = some (.slice A1_6 l1_6.length c1_6) := (bkc BK236.out 6).trans rfl
   have hfz33_0 := bkf BK236.out 0
   have hfz33_1 := bkf BK236.out 1
   have hfz33_2 := bkf BK236.out 2
   have hfz33_3 := bkf BK236.out 3
   have hfz33_4 := bkf BK236.out 4
   have hfz33_5 := bkf BK236.out 5
   have hfz33_6 := bkf BK236.out 6
   go_wp2
   repeat (go_quiet (fail); try go_wp2)
   go_meet
   case rel => exact ⟨_, (true), (by first | rfl | (simp; done) | (simp [*]; done)), H', ⟨by first | omega | exact Nat.le_refl _⟩, ⟨by (with_reducible repeat (first | refine bkn ?_ _ | refine bkd ?_ | refine bka ?_ _)); exact BK235.out⟩, ⟨by (with_reducible repeat (first | refine bkn ?_ _ | refine bkd ?_ | refine bka ?_ _)); exact BK236.out⟩, ⟨by repeat (first | (with_reducible first | exact HB.out | apply bla | apply bln | apply bld | refine bls ?_ GE235.out | refine bls ?_ GE236.out) | exact HB.out)⟩⟩
 case rest =>
  clear HC3
  try clear c1
  try clear c2
  try clear p2
  try clear c3
  try clear c6
  try clear c6b0
  try clear c6b1
  try clear c7
  try clear c7b0
  try clear c7b1
  try clear c8
  try clear c8b0
  try clear c8b1
  try clear c9
  try clear c9b0
  try clear c9b1
  try clear c10
  try clear c10b0
  try clear c10b1
  try clear c12
  try clear c13
  try clear c16
  try clear c19
  try clear c22
  try clear c25
  try clear c28
  try clear c31
  try clear hcz14_0
  try clear hcz14_1
  try clear hcz14_2
  try clear hcz14_3
  try clear hcz14_4
  try clear hcz14_5
  try clear hcz14_6
  try clear hcz15_0
  try clear hcz15_1
  try clear hcz15_2
  try clear hcz15_3
  try clear hcz15_4
  try clear hcz15_5
  try clear hcz15_6
  try clear hcz17_0
  try clear hcz17_1
  try clear hcz17_2
  try clear hcz17_3
  try clear hcz17_4
  try clear hcz17_5
  try clear hcz17_6
  try clear hcz18_0
  try clear hcz18_1
  try clear hcz18_2
  try clear hcz18_3
  try clear hcz18_4
  try clear hcz18_5
  try clear hcz18_6
  try clear hcz20_0
  try clear hcz20_1
  try clear hcz20_2
  try clear hcz20_3
  try clear hcz20_4
  try clear hcz20_5
  try clear hcz20_6
  try clear hcz21_0
  try clear hcz21_1
  try clear hcz21_2
  try clear hcz21_3
  try clear hcz21_4
  try clear hcz21_5
  try clear hcz21_6
  try clear hcz23_0
  try clear hcz23_1
  try clear hcz23_2
  try clear hcz23_3
  try clear hcz23_4
  try clear hcz23_5
  try clear hcz23_6
  try clear hcz24_0
  try clear hcz24_1
  try clear hcz24_2
  try clear hcz24_3
  try clear hcz24_4
  try clear hcz24_5
  try clear hcz24_6
  try clear hcz26_0
  try clear hcz26_1
  try clear hcz26_2
  try clear hcz26_3
  try clear hcz26_4
  try clear hcz26_5
  try clear hcz26_6
  try clear hcz27_0
  try clear hcz27_1
  try clear hcz27_2
  try clear hcz27_3
  try clear hcz27_4
  try clear hcz27_5
  try clear hcz27_6
  try clear hcz29_0
  try clear hcz29_1
  try clear hcz29_2
  try clear hcz29_3
  try clear hcz29_4
  try clear hcz29_5
  try clear hcz29_6
  try clear hcz30_0
  try clear hcz30_1
  try clear hcz30_2
  try clear hcz30_3
  try clear hcz30_4
  try clear hcz30_5
  try clear hcz30_6
  try clear hcz32_0
  try clear hcz32_1
  try clear hcz32_2
  try clear hcz32_3
  try clear hcz32_4
  try clear hcz32_5
  try clear hcz32_6
  try clear hcz33_0
  try clear hcz33_1
  try clear hcz33_2
  try clear hcz33_3
  try clear hcz33_4
  try clear hcz33_5
  try clear hcz33_6
  try clear hfz14_0
  try clear hfz14_1
  try clear hfz14_2
  try clear hfz14_3
  try clear hfz14_4
  try clear hfz14_5
  try clear hfz14_6
  try clear hfz15_0
  try clear hfz15_1
  try clear hfz15_2
  try clear hfz15_3
  try clear hfz15_4
  try clear hfz15_5
  try clear hfz15_6
  try clear hfz17_0
  try clear hfz17_1
  try clear hfz17_2
  try clear hfz17_3
  try clear hfz17_4
  try clear hfz17_5
  try clear hfz17_6
  try clear hfz18_0
  try clear hfz18_1
  try clear hfz18_2
  try clear hfz18_3
  try clear hfz18_4
  try clear hfz18_5
  try clear hfz18_6
  try clear hfz20_0
  try clear hfz20_1
  try clear hfz20_2
  try clear hfz20_3
  try clear hfz20_4
  try clear hfz20_5
  try clear hfz20_6
  try clear hfz21_0
  try clear hfz21_1
  try clear hfz21_2
  try clear hfz21_3
  try clear hfz21_4
  try clear hfz21_5
  try clear hfz21_6
  try clear hfz23_0
  try clear hfz23_1
  try clear hfz23_2
  try clear hfz23_3
  try clear hfz23_4
  try clear hfz23_5
  try clear hfz23_6
  try clear hfz24_0
  try clear hfz24_1
  try clear hfz24_2
  try clear hfz24_3
  try clear hfz24_4
  try clear hfz24_5
  try clear hfz24_6
  try clear hfz26_0
  try clear hfz26_1
  try clear hfz26_2
  try clear hfz26_3
  try clear hfz26_4
  try clear hfz26_5
  try clear hfz26_6
  try clear hfz27_0
  try clear hfz27_1
  try clear hfz27_2
  try clear hfz27_3
  try clear hfz27_4
  try clear hfz27_5
  try clear hfz27_6
  try clear hfz29_0
  try clear hfz29_1
  try clear hfz29_2
  try clear hfz29_3
  try clear hfz29_4
  try clear hfz29_5
  try clear hfz29_6
  try clear hfz30_0
  try clear hfz30_1
  try clear hfz30_2
  try clear hfz30_3
  try clear hfz30_4
  try clear hfz30_5
  try clear hfz30_6
  try clear hfz32_0
  try clear hfz32_1
  try clear hfz32_2
  try clear hfz32_3
  try clear hfz32_4
  try clear hfz32_5
  try clear hfz32_6
  try clear hfz33_0
  try clear hfz33_1
  try clear hfz33_2
  try clear hfz33_3
  try clear hfz33_4
  try clear hfz33_5
  try clear hfz33_6
  obtain ⟨kq, x55_2, rfl, HA, HJ2, BK235, BK236, HB⟩ := hcut
  cases kq with
  | zero => exact absurd HA.out (by simp [sr14_Same.j0])
  | succ kj2 =>
   have H := HA.out
   clear HA
   simp only [sr14_Same.j0] at H
   by_cases c34 : x55_2 = true
   ·
    subst c34
    have H1 : (some false) = some r := by rw [if_pos rfl] at H; exact H
    clear H
    have H := H1
    clear H1
    obtain rfl := Option.some.inj H
    go_wp2
    repeat (go_quiet (fail); try go_wp2)
    go_ret
    exact ⟨by first | rfl | (simp [errW_none, errW_some] <;> rfl) | (simp [*, errW_none, errW_some] <;> rfl), by repeat (first | (with_reducible first | exact HB.out | apply bla | apply bln | apply bld | refine bls ?_ GE235.out | refine bls ?_ GE236.out) | exact HB.out)⟩
   ·
    replace c34 := Bool.eq_false_iff.mpr c34
    subst c34
    have H1 : (sr14_Same.l0 kj2 0 a0_0 a0_1 a0_2 a0_3 a0_4 l0_5 l0_6 a1_0 a1_1 a1_2 a1_3 a1_4 l1_5 l1_6) = some r := by rw [if_neg (show ¬ (false = true) by decide)] at H; exact H
    clear H
    have H := H1
    clear H1
    have H' := As0.mk H
    clear H
    go_wp2
    repeat (go_quiet (fail); try go_wp2)
    go_loopg [5] kj2 (fun kq v5 w' => ∃ (x5_2 : Int), v5 = .int .i64 x5_2 ∧ As0 (sr14_Same.l0 kq x5_2 a0_0 a0_1 a0_2 a0_3 a0_4 l0_5 l0_6 a1_0 a1_1 a1_2 a1_3 a1_4 l1_5 l1_6 = some r) ∧ As0 (kq ≤ kj2) ∧ As0 (w'.heap[gb235]? = some (.cells #[.int .i64 a0_0, .int .i64 a0_1, .int .i64 a0_2, .int .i64 a0_3, .int .i64 a0_4, (.slice A0_5 l0_5.length c0_5), (.slice A0_6 l0_6.length c0_6)] 25 (0, 0))) ∧ As0 (w'.heap[gb236]? = some (.cells #[.int .i64 a1_0, .int .i64 a1_1, .int .i64 a1_2, .int .i64 a1_3, .int .i64 a1_4, (.slice A1_5 l1_5.length c1_5), (.slice A1_6 l1_6.length c1_6)] 25 (0, 0))) ∧ As0 (Below w.heap.size w w'))
    case atStart => exact ⟨(0), (by first | rfl | (simp; done) | (simp [*]; done)), H', ⟨Nat.le_refl _⟩, ⟨by (with_reducible repeat (first | refine bkn ?_ _ | refine bkd ?_ | refine bka ?_ _)); exact BK235.out⟩, ⟨by (with_reducible repeat (first | refine bkn ?_ _ | refine bkd ?_ | refine bka ?_ _)); exact BK236.out⟩, ⟨by repeat (first | (with_reducible first | exact HB.out | apply bla | apply bln | apply bld | refine bls ?_ GE235.out | refine bls ?_ GE236.out) | exact HB.out)⟩⟩
    case round =>
     clear H'
     try clear c1
     try clear c2
     try clear p2
     try clear c3
     try clear c6
     try clear c6b0
     try clear c6b1
     try clear c7
     try clear c7b0
     try clear c7b1
     try clear c8
     try clear c8b0
     try clear c8b1
     try clear c9
     try clear c9b0
     try clear c9b1
     try clear c10
     try clear c10b0
     try clear c10b1
     try clear c12
     try clear c13
     try clear c16
     try clear c19
     try clear c22
     try clear c25
     try clear c28
     try clear c31
     try clear c34
     try clear hcz14_0
     try clear hcz14_1
     try clear hcz14_2
     try clear hcz14_3
     try clear hcz14_4
     try clear hcz14_5
     try clear hcz14_6
     try clear hcz15_0
     try clear hcz15_1
     try clear hcz15_2
     try clear hcz15_3
     try clear hcz15_4
     try clear hcz15_5
     try clear hcz15_6
     try clear hcz17_0
     try clear hcz17_1
     try clear hcz17_2
     try clear hcz17_3
     try clear hcz17_4
     try clear hcz17_5
     try clear hcz17_6
     try clear hcz18_0
     try clear hcz18_1
     try clear hcz18_2
     try clear hcz18_3
     try clear hcz18_4
     try clear hcz18_5
     try clear hcz18_6
     try clear hcz20_0
     try clear hcz20_1
     try clear hcz20_2
     try clear hcz20_3
     try clear hcz20_4
     try clear hcz20_5
     try clear hcz20_6
     try clear hcz21_0
     try clear hcz21_1
     try clear hcz21_2
     try clear hcz21_3
     try clear hcz21_4
     try clear hcz21_5
     try clear hcz21_6
     try clear hcz23_0
     try clear hcz23_1
     try clear hcz23_2
     try clear hcz23_3
     try clear hcz23_4
     try clear hcz23_5
     try clear hcz23_6
     try clear hcz24_0
     try clear hcz24_1
     try clear hcz24_2
     try clear hcz24_3
     try clear hcz24_4
     try clear hcz24_5
     try clear hcz24_6
     try clear hcz26_0
     try clear hcz26_1
     try clear hcz26_2
     try clear hcz26_3
     try clear hcz26_4
     try clear hcz26_5
     try clear hcz26_6
     try clear hcz27_0
     try clear hcz27_1
     try clear hcz27_2
     try clear hcz27_3
     try clear hcz27_4
     try clear hcz27_5
     try clear hcz27_6
     try clear hcz29_0
     try clear hcz29_1
     try clear hcz29_2
     try clear hcz29_3
     try clear hcz29_4
     try clear hcz29_5
     try clear hcz29_6
     try clear hcz30_0
     try clear hcz30_1
     try clear hcz30_2
     try clear hcz30_3
     try clear hcz30_4
     try clear hcz30_5
     try clear hcz30_6
     try clear hcz32_0
     try clear hcz32_1
     try clear hcz32_2
     try clear hcz32_3
     try clear hcz32_4
     try clear hcz32_5
     try clear hcz32_6
     try clear hcz33_0
     try clear hcz33_1
     try clear hcz33_2
     try clear hcz33_3
     try clear hcz33_4
     try clear hcz33_5
     try clear hcz33_6
     try clear hfz14_0
     try clear hfz14_1
     try clear hfz14_2
     try clear hfz14_3
     try clear hfz14_4
     try clear hfz14_5
     try clear hfz14_6
     try clear hfz15_0
     try clear hfz15_1
     try clear hfz15_2
     try clear hfz15_3
     try clear hfz15_4
     try clear hfz15_5
     try clear hfz15_6
     try clear hfz17_0
     try clear hfz17_1
     try clear hfz17_2
     try clear hfz17_3
     try clear hfz17_4
     try clear hfz17_5
     try clear hfz17_6
     try clear hfz18_0
     try clear hfz18_1
     try clear hfz18_2
     try clear hfz18_3
     try clear hfz18_4
     try clear hfz18_5
     try clear hfz18_6
     try clear hfz20_0
     try clear hfz20_1
     try clear hfz20_2
     try clear hfz20_3
     try clear hfz20_4
     try clear hfz20_5
     try clear hfz20_6
     try clear hfz21_0
     try clear hfz21_1
     try clear hfz21_2
     try clear hfz21_3
     try clear hfz21_4
     try clear hfz21_5
     try clear hfz21_6
     try clear hfz23_0
     try clear hfz23_1
     try clear hfz23_2
     try clear hfz23_3
     try clear hfz23_4
     try clear hfz23_5
     try clear hfz23_6
     try clear hfz24_0
     try clear hfz24_1
     try clear hfz24_2
     try clear hfz24_3
     try clear hfz24_4
     try clear hfz24_5
     try clear hfz24_6
     try clear hfz26_0
     try clear hfz26_1
     try clear hfz26_2
     try clear hfz26_3
     try clear hfz26_4
     try clear hfz26_5
     try clear hfz26_6
     try clear hfz27_0
     try clear hfz27_1
     try clear hfz27_2
     try clear hfz27_3
     try clear hfz27_4
     try clear hfz27_5
     try clear hfz27_6
     try clear hfz29_0
     try clear hfz29_1
     try clear hfz29_2
     try clear hfz29_3
     try clear hfz29_4
     try clear hfz29_5
     try clear hfz29_6
     try clear hfz30_0
     try clear hfz30_1
     try clear hfz30_2
     try clear hfz30_3
     try clear hfz30_4
     try clear hfz30_5
     try clear hfz30_6
     try clear hfz32_0
     try clear hfz32_1
     try clear hfz32_2
     try clear hfz32_3
     try clear hfz32_4
     try clear hfz32_5
     try clear hfz32_6
     try clear hfz33_0
     try clear hfz33_1
     try clear hfz33_2
     try clear hfz33_3
     try clear hfz33_4
     try clear hfz33_5
     try clear hfz33_6
     try clear p2
     obtain ⟨x5_2, rfl, HA, HK2, BK235, BK236, HB⟩ := hrel
     cases gk with
     | zero => exact absurd HA.out (by simp [sr14_Same.l0])
     | succ k2 =>
      have H := HA.out
      clear HA
      simp only [sr14_Same.l0] at H
      by_cases c35 : x5_2 < (l0_6.length : Int)
      ·
       rw [if_pos c35] at H
       have c35b0 : decide (x5_2 < (l0_6.length : Int)) = true := decide_eq_true c35
       clear c35
       by_cases c36 : 0 ≤ x5_2
       ·
        rw [if_pos c36] at H
        have c36b0 : decide (0 ≤ x5_2) = true := decide_eq_true c36
        clear c36
        by_cases c37 : x5_2 < (l1_6.length : Int)
        ·
         rw [if_pos c37] at H
         have c37b0 : decide (x5_2 < (l1_6.length : Int)) = true := decide_eq_true c37
         clear c37
         by_cases c38 : (!(((rd_T41 l0_6 x5_2).f0) == ((rd_T41 l1_6 x5_2).f0)) || (!(((rd_T41 l0_6 x5_2).f1) == ((rd_T41 l1_6 x5_2).f1)) || (!(((rd_T41 l0_6 x5_2).f2) == ((rd_T41 l1_6 x5_2).f2))))) = true
         ·
          rw [if_pos c38] at H
          have c38b0 : (!(((rd_T41 l0_6 x5_2).f0) == ((rd_T41 l1_6 x5_2).f0)) || (!(((rd_T41 l0_6 x5_2).f1) == ((rd_T41 l1_6 x5_2).f1)) || (!(((rd_T41 l0_6 x5_2).f2) == ((rd_T41 l1_6 x5_2).f2))))) = true := c38
          clear c38
          obtain rfl := Option.some.inj H
          have hnb39 := NB235_236.out
          have hnc39 := NB236_235.out
          have hcz40_0 : wr.cell? ⟨gb235, 0, none⟩ = some (.int .i64 a0_0) := (bkc BK235.out 0).trans rfl
          have hcz40_1 : wr.cell? ⟨gb235, 1, none⟩ = some (.int .i64 a0_1) := (bkc BK235.out 1).trans rfl
          have hcz40_2 : wr.cell? ⟨gb235, 2, none⟩ = some (.int .i64 a0_2) := (bkc BK235.out 2).trans rfl
          have hcz40_3 : wr.cell? ⟨gb235, 3, none⟩ = some (.int .i64 a0_3) := (bkc BK235.out 3).trans rfl
          have hcz40_4 : wr.cell? ⟨gb235, 4, none⟩ = some (.int .i64 a0_4) := (bkc BK235.out 4).trans rfl
          have hcz40_5 : wr.cell? ⟨gb235, 5, none⟩ = some (.slice A0_5 l0_5.length c0_5) := (bkc BK235.out 5).trans rfl
          have hcz40_6 : wr.cell? ⟨gb235, 6, none⟩ = some (.slice A0_6 l0_6.length c0_6) := (bkc BK235.out 6).trans rfl
          have hfz40_0 := bkf BK235.out 0
          have hfz40_1 := bkf BK235.out 1
          have hfz40_2 := bkf BK235.out 2
          have hfz40_3 := bkf BK235.out 3
          have hfz40_4 := bkf BK235.out 4
          have hfz40_5 := bkf BK235.out 5
          have hfz40_6 := bkf BK235.out 6
          have p238 : 0 ≤ (x5_2 : Int) := of_decide_eq_true (by first | (with_reducible assumption) | assumption)
          have q238 : x5_2 < (l0_6.length : Int) := of_decide_eq_true (by first | (with_reducible assumption) | assumption)
          obtain ⟨ad238, e238, hx238_0, hx238_1, hx238_2⟩ := at_T41 HR0_6.out x5_2 p238 q238
          cases e238
          replace hx238_0 := (HB.out.cell (World.block_lt_of_cell? w _ hx238_0)).trans hx238_0
          replace hx238_1 := (HB.out.cell (World.block_lt_of_cell? w _ hx238_1)).trans hx238_1
          replace hx238_2 := (HB.out.cell (World.block_lt_of_cell? w _ hx238_2)).trans hx238_2
          replace p238 := eq_true p238
          replace q238 := eq_true q238
          have hcz41_0 : wr.cell? ⟨gb236, 0, none⟩ = some (.int .i64 a1_0) := (bkc BK236.out 0).trans rfl
          have hcz41_1 : wr.cell? ⟨gb236, 1, none⟩ = some (.int .i64 a1_1) := (bkc BK236.out 1).trans rfl
          have hcz41_2 : wr.cell? ⟨gb236, 2, none⟩ = some (.int .i64 a1_2) := (bkc BK236.out 2).trans rfl
          have hcz41_3 : wr.cell? ⟨gb236, 3, none⟩ = some (.int .i64 a1_3) := (bkc BK236.out 3).trans rfl
          have hcz41_4 : wr.cell? ⟨gb236, 4, none⟩ = some (.int .i64 a1_4) := (bkc BK236.out 4).trans rfl
          have hcz41_5 : wr.cell? ⟨gb236, 5, none⟩ = some (.slice A1_5 l1_5.length c1_5) := (bkc BK236.out 5).trans rfl
          have hcz41_6 : wr.cell? ⟨gb236, 6, none⟩ = some (.slice A1_6 l1_6.length c1_6) := (bkc BK236.out 6).trans rfl
          have hfz41_0 := bkf BK236.out 0
          have hfz41_1 := bkf BK236.out 1
          have hfz41_2 := bkf BK236.out 2
          have hfz41_3 := bkf BK236.out 3
          have hfz41_4 := bkf BK236.out 4
          have hfz41_5 := bkf BK236.out 5
          have hfz41_6 := bkf BK236.out 6
          have p239 : 0 ≤ (x5_2 : Int) := of_decide_eq_true (by first | (with_reducible assumption) | assumption)
          have q239 : x5_2 < (l1_6.length : Int) := of_decide_eq_true (by first | (with_reducible assumption) | assumption)
          obtain ⟨ad239, e239, hx239_0, hx239_1, hx239_2⟩ := at_T41 HR1_6.out x5_2 p239 q239
          cases e239
          replace hx239_0 := (HB.out.cell (World.block_lt_of_cell? w _ hx239_0)).trans hx239_0
          replace hx239_1 := (HB.out.cell (World.block_lt_of_cell? w _ hx239_1)).trans hx239_1
          replace hx239_2 := (HB.out.cell (World.block_lt_of_cell? w _ hx239_2)).trans hx239_2
          replace p239 := eq_true p239
          replace q239 := eq_true q239
          go_wp2
          repeat (go_quiet (fail); try go_wp2)
          go_ret
          exact ⟨by first | rfl | (simp [errW_none, errW_some] <;> rfl) | (simp [*, errW_none, errW_some] <;> rfl), by repeat (first | (with_reducible first | exact HB.out | apply bla | apply bln | apply bld | refine bls ?_ GE235.out | refine bls ?_ GE236.out) | exact HB.out)⟩
         ·
          rw [if_neg c38] at H
          have c38b0 : (!(((rd_T41 l0_6 x5_2).f0) == ((rd_T41 l1_6 x5_2).f0)) || (!(((rd_T41 l0_6 x5_2).f1) == ((rd_T41 l1_6 x5_2).f1)) || (!(((rd_T41 l0_6 x5_2).f2) == ((rd_T41 l1_6 x5_2).f2))))) = false := by simpa using c38
          clear c38
          have H' := As0.mk H
          clear H
          have hnb42 := NB235_236.out
          have hnc42 := NB236_235.out
          have hcz43_0 : wr.cell? ⟨gb235, 0, none⟩ = some (.int .i64 a0_0) := (bkc BK235.out 0).trans rfl
          have hcz43_1 : wr.cell? ⟨gb235, 1, none⟩ = some (.int .i64 a0_1) := (bkc BK235.out 1).trans rfl
          have hcz43_2 : wr.cell? ⟨gb235, 2, none⟩ = some (.int .i64 a0_2) := (bkc BK235.out 2).trans rfl
          have hcz43_3 : wr.cell? ⟨gb235, 3, none⟩ = some (.int .i64 a0_3) := (bkc BK235.out 3).trans rfl
          have hcz43_4 : wr.cell? ⟨gb235, 4, none⟩ = some (.int .i64 a0_4) := (bkc BK235.out 4).trans rfl
          have hcz43_5 : wr.cell? ⟨gb235, 5, none⟩ = some (.slice A0_5 l0_5.length c0_5) := (bkc BK235.out 5).trans rfl
          have hcz43_6 : wr.cell? ⟨gb235, 6, none⟩ = some (.slice A0_6 l0_6.length c0_6) := (bkc BK235.out 6).trans rfl
          have hfz43_0 := bkf BK235.out 0
          have hfz43_1 := bkf BK235.out 1
          have hfz43_2 := bkf BK235.out 2
          have hfz43_3 := bkf BK235.out 3
          have hfz43_4 := bkf BK235.out 4
          have hfz43_5 := bkf BK235.out 5
          have hfz43_6 := bkf BK235.out 6
          have p238 : 0 ≤ (x5_2 : Int) := of_decide_eq_true (by first | (with_reducible assumption) | assumption)
          have q238 : x5_2 < (l0_6.length : Int) := of_decide_eq_true (by first | (with_reducible assumption) | assumption)
          obtain ⟨ad238, e238, hx238_0, hx238_1, hx238_2⟩ := at_T41 HR0_6.out x5_2 p238 q238
          cases e238
          replace hx238_0 := (HB.out.cell (World.block_lt_of_cell? w _ hx238_0)).trans hx238_0
          replace hx238_1 := (HB.out.cell (World.block_lt_of_cell? w _ hx238_1)).trans hx238_1
          replace hx238_2 := (HB.out.cell (World.block_lt_of_cell? w _ hx238_2)).trans hx238_2
          replace p238 := eq_true p238
          replace q238 := eq_true q238
          have hcz44_0 : wr.cell? ⟨gb236, 0, none⟩ = some (.int .i64 a1_0) := (bkc BK236.out 0).trans rfl
          have hcz44_1 : wr.cell? ⟨gb236, 1, none⟩ = some (.int .i64 a1_1) := (bkc BK236.out 1).trans rfl
          have hcz44_2 : wr.cell? ⟨gb236, 2, none⟩ = some (.int .i64 a1_2) := (bkc BK236.out 2).trans rfl
          have hcz44_3 : wr.cell? ⟨gb236, 3, none⟩ = some (.int .i64 a1_3) := (bkc BK236.out 3).trans rfl
          have hcz44_4 : wr.cell? ⟨gb236, 4, none⟩ = some (.int .i64 a1_4) := (bkc BK236.out 4).trans rfl
          have hcz44_5 : wr.cell? ⟨gb236, 5, none⟩ = some (.slice A1_5 l1_5.length c1_5) := (bkc BK236.out 5).trans rfl
          have hcz44_6 : wr.cell? ⟨gb236, 6, none⟩ = some (.slice A1_6 l1_6.length c1_6) := (bkc BK236.out 6).trans rfl
          have hfz44_0 := bkf BK236.out 0
          have hfz44_1 := bkf BK236.out 1
          have hfz44_2 := bkf BK236.out 2
          have hfz44_3 := bkf BK236.out 3
          have hfz44_4 := bkf BK236.out 4
          have hfz44_5 := bkf BK236.out 5
          have hfz44_6 := bkf BK236.out 6
          have p239 : 0 ≤ (x5_2 : Int) := of_decide_eq_true (by first | (with_reducible assumption) | assumption)
          have q239 : x5_2 < (l1_6.length : Int) := of_decide_eq_true (by first | (with_reducible assumption) | assumption)
          obtain ⟨ad239, e239, hx239_0, hx239_1, hx239_2⟩ := at_T41 HR1_6.out x5_2 p239 q239
          cases e239
          replace hx239_0 := (HB.out.cell (World.block_lt_of_cell? w _ hx239_0)).trans hx239_0
          replace hx239_1 := (HB.out.cell (World.block_lt_of_cell? w _ hx239_1)).trans hx239_1
          replace hx239_2 := (HB.out.cell (World.block_lt_of_cell? w _ hx239_2)).trans hx239_2
          replace p239 := eq_true p239
          replace q239 := eq_true q239
          go_wp2
          repeat (go_quiet (fail); try go_wp2)
          go_roundg k2
          case measure => have := HJ2.out; have := HK2.out; omega
          case rel => exact ⟨(wrap64 (x5_2 + 1)), (by first | rfl | (simp; done) | (simp [*]; done)), H', ⟨by have := HJ2.out; have := HK2.out; omega⟩, ⟨by (with_reducible repeat (first | refine bkn ?_ _ | refine bkd ?_ | refine bka ?_ _)); exact BK235.out⟩, ⟨by (with_reducible repeat (first | refine bkn ?_ _ | refine bkd ?_ | refine bka ?_ _)); exact BK236.out⟩, ⟨by repeat (first | (with_reducible first | exact HB.out | apply bla | apply bln | apply bld | refine bls ?_ GE235.out | refine bls ?_ GE236.out) | exact HB.out)⟩⟩
        ·
         rw [if_neg c37] at H
         exact absurd H (by simp)
       ·
        rw [if_neg c36] at H
        exact absurd H (by simp)
      ·
       rw [if_neg c35] at H
       have c35b0 : decide (x5_2 < (l0_6.length : Int)) = false := decide_eq_false c35
       clear c35
       obtain rfl := Option.some.inj H
       have hnb45 := NB235_236.out
       have hnc45 := NB236_235.out
       have hcz46_0 : wr.cell? ⟨gb235, 0, none⟩ = some (.int .i64 a0_0) := (bkc BK235.out 0).trans rfl
       have hcz46_1 : wr.cell? ⟨gb235, 1, none⟩ = some (.int .i64 a0_1) := (bkc BK235.out 1).trans rfl
       have hcz46_2 : wr.cell? ⟨gb235, 2, none⟩ = some (.int .i64 a0_2) := (bkc BK235.out 2).trans rfl
       have hcz46_3 : wr.cell? ⟨gb235, 3, none⟩ = some (.int .i64 a0_3) := (bkc BK235.out 3).trans rfl
       have hcz46_4 : wr.cell? ⟨gb235, 4, none⟩ = some (.int .i64 a0_4) := (bkc BK235.out 4).trans rfl
       have hcz46_5 : wr.cell? ⟨gb235, 5, none⟩ = some (.slice A0_5 l0_5.length c0_5) := (bkc BK235.out 5).trans rfl
       have hcz46_6 : wr.cell? ⟨gb235, 6, none⟩ = some (.slice A0_6 l0_6.length c0_6) := (bkc BK235.out 6).trans rfl
       have hfz46_0 := bkf BK235.out 0
       have hfz46_1 := bkf BK235.out 1
       have hfz46_2 := bkf BK235.out 2
       have hfz46_3 := bkf BK235.out 3
       have hfz46_4 := bkf BK235.out 4
       have hfz46_5 := bkf BK235.out 5
       have hfz46_6 := bkf BK235.out 6
       go_wp2
       repeat (go_quiet (fail); try go_wp2)
       go_ret
       exact ⟨by first | rfl | (simp [errW_none, errW_some] <;> rfl) | (simp [*, errW_none, errW_some] <;> rfl), by repeat (first | (with_reducible first | exact HB.out | apply bla | apply bln | apply bld | refine bls ?_ GE235.out | refine bls ?_ GE236.out) | exact HB.out)⟩
end Go.Proofs.YtmppkcdphgelcaaGreatDoor.PConf
namespace Go.Proofs.YtmppkcdphgelcaaGreatDoor.PConf
open Go.RowKit Go.Proofs.YtmppkcdphgelcaaGreatDoor.W.PrintWords Go.Proofs.YtmppkcdphgelcaaGreatDoor.W.PrintLast Go.Proofs.YtmppkcdphgelcaaGreatDoor.W.PrintMore
attribute [local go_sem] max2_int min2_int max_two min_two max_three min_three max_four min_four   -- for this text's walks alone
set_option linter.unusedVariables false
set_option linter.unusedSimpArgs false
def sl14_ConfTexts.j0 : Nat → Bool → Int → Int → Int → Int → Int → List ByteArray → List (S41) → Int → Int → Int → Int → Int → List ByteArray → List (S41) → Option (Bool)
 | 0, _, _, _, _, _, _, _, _, _, _, _, _, _, _, _ => none
 | k + 1, x10, x241000, x241001, x241002, x241003, x241004, x241005, x241006, x242000, x242001, x242002, x242003, x242004, x242005, x242006 => if x10 = true then ((sl14_works.f k).bind fun t244 => (some t244)) else ((conf_Check.f k x241000 x241001 x241002 x241003 x241004 x241005 x241006).bind fun t245 => ((sr14_Check.f k x241000 x241001 x241002 x241003 x241004 x241005 x241006).bind fun t246 => (if t245 = t246 then ((conf_Text.f k x241000 x241001 x241002 x241003 x241004 x241005 x241006).bind fun t247 => ((sr14_Text.f k x241000 x241001 x241002 x241003 x241004 x241005 x241006).bind fun t248 => (if t247.toList = t248.toList then ((conf_Same.f k x241000 x241001 x241002 x241003 x241004 x241005 x241006 x242000 x242001 x242002 x242003 x242004 x242005 x242006).bind fun t249 => ((sr14_Same.f k x241000 x241001 x241002 x241003 x241004 x241005 x241006 x242000 x242001 x242002 x242003 x242004 x242005 x242006).bind fun t250 => (if (t249 == t250) = true then ((conf_Same.f k x241000 x241001 x241002 x241003 x241004 x241005 x241006 x241000 x241001 x241002 x241003 x241004 x241005 x241006).bind fun t251 => (if t251 = true then ((sl14_works.f k).bind fun t252 => (some t252)) else (some false))) else (some false)))) else (some false)))) else (some false))))
def sl14_ConfTexts.f (k : Nat) (a0_0 : Int) (a0_1 : Int) (a0_2 : Int) (a0_3 : Int) (a0_4 : Int) (l0_5 : List ByteArray) (l0_6 : List (S41)) (a1_0 : Int) (a1_1 : Int) (a1_2 : Int) (a1_3 : Int) (a1_4 : Int) (l1_5 : List ByteArray) (l1_6 : List (S41)) : Option (Bool) := (sr14_Long.f k a0_0 a0_1 a0_2 a0_3 a0_4 l0_5 l0_6).bind fun t242 => (if t242 = true then (sl14_ConfTexts.j0 k true a0_0 a0_1 a0_2 a0_3 a0_4 l0_5 l0_6 a1_0 a1_1 a1_2 a1_3 a1_4 l1_5 l1_6) else ((sr14_Long.f k a1_0 a1_1 a1_2 a1_3 a1_4 l1_5 l1_6).bind fun t243 => (sl14_ConfTexts.j0 k t243 a0_0 a0_1 a0_2 a0_3 a0_4 l0_5 l0_6 a1_0 a1_1 a1_2 a1_3 a1_4 l1_5 l1_6)))
def sl14_ConfTexts.T3 : Bool × List (List Nat × List Nat) := (true, [([], []), ([0], [0]), ([], []), ([2, 1], [2]), ([1, 3], [1, 3]), ([4, 3], [4]), ([5], [5]), ([6, 5, 5], [5, 6]), ([5], [5]), ([8, 7, 5], [5, 8]), ([7, 9, 5], [5, 7, 9]), ([5, 10], [5, 10]), ([11, 9], [11]), ([12], [12]), ([12], [12]), ([13, 14, 12, 12], [12, 13, 14]), ([12], [12]), ([12], [12]), ([16, 17, 15, 12], [12, 16, 17]), ([15, 18, 12], [12, 15, 18]), ([12, 19], [12, 19]), ([20, 18], [20]), ([21], [21]), ([21], [21]), ([22, 23, 21, 21], [21, 22, 23]), ([21, 24], [21, 24]), ([25, 24], [25]), ([26, 26], [26]), ([26, 27], [26, 27]), ([28, 27, 0, 1, 2, 3, 4, 5, 6, 7, 8, 9, 10, 11, 12, 13, 14, 15, 16, 17, 18, 19, 20, 21, 22, 23, 24, 25, 26, 27, 28], [28])])
def sl14_ConfTexts.B3 : List Nat := [0, 1, 0, 7, 15, 31, 63, 127, 63, 511, 1023, 2047, 4095, 8191, 8191, 32767, 8191, 8191, 262143, 524287, 1048575, 2097151, 4194303, 4194303, 16777215, 33554431, 67108863, 134217727, 268435455, 536870911]
theorem sl14_ConfTexts.tab3 : rtab .any (opsOf Tryz.f3 3) = sl14_ConfTexts.T3 := by kernel_rfl
theorem sl14_ConfTexts.bits3 : waitsOk sl14_ConfTexts.T3.2 sl14_ConfTexts.B3 = true := by kernel_rfl
set_option maxHeartbeats 8000000 in
set_option maxRecDepth 100000 in
theorem sl14_ConfTexts.calls (k : Nat) (a0_0 : Int) (a0_1 : Int) (a0_2 : Int) (a0_3 : Int) (a0_4 : Int) (A0_5 : Option Addr) (c0_5 : Nat) (l0_5 : List ByteArray) (A0_6 : Option Addr) (c0_6 : Nat) (l0_6 : List (S41)) (a1_0 : Int) (a1_1 : Int) (a1_2 : Int) (a1_3 : Int) (a1_4 : Int) (A1_5 : Option Addr) (c1_5 : Nat) (l1_5 : List ByteArray) (A1_6 : Option Addr) (c1_6 : Nat) (l1_6 : List (S41)) (r : Bool) (w : World) (hr0_5 : Kd.C Kd.string w A0_5 l0_5.length l0_5) (hc0_5 : l0_5.length ≤ c0_5) (hr0_6 : Kd.C k41 w A0_6 l0_6.length l0_6) (hc0_6 : l0_6.length ≤ c0_6) (hr1_5 : Kd.C Kd.string w A1_5 l1_5.length l1_5) (hc1_5 : l1_5.length ≤ c1_5) (hr1_6 : Kd.C k41 w A1_6 l1_6.length l1_6) (hc1_6 : l1_6.length ≤ c1_6) (hL_ : Laid w) (hrt : As0 (r = true)) (h : sl14_ConfTexts.f k a0_0 a0_1 a0_2 a0_3 a0_4 l0_5 l0_6 a1_0 a1_1 a1_2 a1_3 a1_4 l1_5 l1_6 = some r) :
  Calls Tryz.prog 3 #[.agg #[.int .i64 a0_0, .int .i64 a0_1, .int .i64 a0_2, .int .i64 a0_3, .int .i64 a0_4, .slice A0_5 l0_5.length c0_5, .slice A0_6 l0_6.length c0_6], .agg #[.int .i64 a1_0, .int .i64 a1_1, .int .i64 a1_2, .int .i64 a1_3, .int .i64 a1_4, .slice A1_5 l1_5.length c1_5, .slice A1_6 l1_6.length c1_6]] w fun e w' => e = .returned (.bool r) ∧ Below w.heap.size w w' := by
 have hu25 := Tryz.underlying25
 have HLD := As0.mk hL_
 clear hL_
 have HR0_5 := As0.mk hr0_5
 have HC0_5 := As0.mk hc0_5
 clear hr0_5 hc0_5
 have HR0_6 := As0.mk hr0_6
 have HC0_6 := As0.mk hc0_6
 clear hr0_6 hc0_6
 have HR1_5 := As0.mk hr1_5
 have HC1_5 := As0.mk hc1_5
 clear hr1_5 hc1_5
 have HR1_6 := As0.mk hr1_6
 have HC1_6 := As0.mk hc1_6
 clear hr1_6 hc1_6
 have HB := As0.mk (Below.refl w.heap.size w)
 have H : ((sr14_Long.f k a0_0 a0_1 a0_2 a0_3 a0_4 l0_5 l0_6).bind fun t242 => (if t242 = true then (sl14_ConfTexts.j0 k true a0_0 a0_1 a0_2 a0_3 a0_4 l0_5 l0_6 a1_0 a1_1 a1_2 a1_3 a1_4 l1_5 l1_6) else ((sr14_Long.f k a1_0 a1_1 a1_2 a1_3 a1_4 l1_5 l1_6).bind fun t243 => (sl14_ConfTexts.j0 k t243 a0_0 a0_1 a0_2 a0_3 a0_4 l0_5 l0_6 a1_0 a1_1 a1_2 a1_3 a1_4 l1_5 l1_6)))) = some r := h
 clear h
 have HC3 := As0.mk H
 clear H
 go_enter Tryz.func3, Tryz.ntmps3
 go_upto_region 1 with (first | ((with_reducible refine gate_dst (N := 2) rfl ?_); refine box_event ?hg (N := 2) ?hd (cs := #[.int .i64 a0_0, .int .i64 a0_1, .int .i64 a0_2, .int .i64 a0_3, .int .i64 a0_4, .slice A0_5 l0_5.length c0_5, .slice A0_6 l0_6.length c0_6]) (t := 25) ?hr ?_; (case hd => rfl); (case hg => rfl); (case hr => first | (go_simp; done) | (go_simp; rfl)); intro gb240 hg w4 hbox hb; have n0_ := As0.mk (below_step (by repeat (first | (with_reducible first | exact HB.out | apply bla | apply bln | apply bld) | exact HB.out)) hb); have n1_ := As0.mk (hbox); have n2_ := As0.mk ((by rw [hg]; exact (below_size (by repeat (first | (with_reducible first | exact HB.out | apply bla | apply bln | apply bld) | exact HB.out))) : w.heap.size ≤ gb240)); have n3_ := As0.mk ((by rw [hg]; exact (below_size (by repeat (first | (with_reducible first | exact HB.out | apply bla | apply bln | apply bld) | exact HB.out))) : w.heap.size ≤ gb240)); clear HB; have HB := n0_; have BK240 := n1_; have GW240 := n2_; have GE240 := n3_; clear n0_ n1_ n2_ n3_; clear hb hbox hg) | ((with_reducible refine gate_dst (N := 3) rfl ?_); refine box_event ?hg (N := 3) ?hd (cs := #[.int .i64 a1_0, .int .i64 a1_1, .int .i64 a1_2, .int .i64 a1_3, .int .i64 a1_4, .slice A1_5 l1_5.length c1_5, .slice A1_6 l1_6.length c1_6]) (t := 25) ?hr ?_; (case hd => rfl); (case hg => rfl); (case hr => first | (go_simp; done) | (go_simp; rfl)); intro gb241 hg w5 hbox hb; have n0_ := As0.mk (blk_below (g := gb240) (o := .cells #[.int .i64 a0_0, .int .i64 a0_1, .int .i64 a0_2, .int .i64 a0_3, .int .i64 a0_4, .slice A0_5 l0_5.length c0_5, .slice A0_6 l0_6.length c0_6] 25 (0, 0)) (by (with_reducible repeat (first | refine bkn ?_ _ | refine bkd ?_ | refine bka ?_ _)); exact BK240.out) hb); have n1_ := As0.mk (below_step (by repeat (first | (with_reducible first | exact HB.out | apply bla | apply bln | apply bld | refine bls ?_ GE240.out) | exact HB.out)) hb); have n2_ := As0.mk (hbox); have n3_ := As0.mk ((by rw [hg]; exact (below_size (by repeat (first | (with_reducible first | exact HB.out | apply bla | apply bln | apply bld | refine bls ?_ GE240.out) | exact HB.out))) : w.heap.size ≤ gb241)); have n4_ := As0.mk ((by rw [hg]; exact (below_size (by repeat (first | (with_reducible first | exact HB.out | apply bla | apply bln | apply bld | refine bls ?_ GE240.out) | exact HB.out))) : w.heap.size ≤ gb241)); have n5_ := As0.mk ((by rw [hg]; exact Nat.ne_of_lt (blk_lt (g := gb240) (o := .cells #[.int .i64 a0_0, .int .i64 a0_1, .int .i64 a0_2, .int .i64 a0_3, .int .i64 a0_4, .slice A0_5 l0_5.length c0_5, .slice A0_6 l0_6.length c0_6] 25 (0, 0)) (by (with_reducible repeat (first | refine bkn ?_ _ | refine bkd ?_ | refine bka ?_ _)); exact BK240.out)) : gb240 ≠ gb241)); have n6_ := As0.mk ((by rw [hg]; exact Nat.ne_of_gt (blk_lt (g := gb240) (o := .cells #[.int .i64 a0_0, .int .i64 a0_1, .int .i64 a0_2, .int .i64 a0_3, .int .i64 a0_4, .slice A0_5 l0_5.length c0_5, .slice A0_6 l0_6.length c0_6] 25 (0, 0)) (by (with_reducible repeat (first | refine bkn ?_ _ | refine bkd ?_ | refine bka ?_ _)); exact BK240.out)) : gb241 ≠ gb240)); clear BK240; clear HB; have BK240 := n0_; have HB := n1_; have BK241 := n2_; have GW241 := n3_; have GE241 := n4_; have NB240_241 := n5_; have NB241_240 := n6_; clear n0_ n1_ n2_ n3_ n4_ n5_ n6_; clear hb hbox hg))
 (try simp only [Act.put, List.setIfInBounds_toArray, List.set_cons_zero, List.set_cons_succ])
 go_cut [10] (fun v10 wc => ∃ (kq : Nat) (x10_2 : Bool), v10 = .bool x10_2 ∧ As0 (sl14_ConfTexts.j0 kq x10_2 a0_0 a0_1 a0_2 a0_3 a0_4 l0_5 l0_6 a1_0 a1_1 a1_2 a1_3 a1_4 l1_5 l1_6 = some r) ∧ As0 (kq ≤ k) ∧ As0 (wc.heap[gb240]? = some (.cells #[.int .i64 a0_0, .int .i64 a0_1, .int .i64 a0_2, .int .i64 a0_3, .int .i64 a0_4, (.slice A0_5 l0_5.length c0_5), (.slice A0_6 l0_6.length c0_6)] 25 (0, 0))) ∧ As0 (wc.heap[gb241]? = some (.cells #[.int .i64 a1_0, .int .i64 a1_1, .int .i64 a1_2, .int .i64 a1_3, .int .i64 a1_4, (.slice A1_5 l1_5.length c1_5), (.slice A1_6 l1_6.length c1_6)] 25 (0, 0))) ∧ As0 (Below w.heap.size w wc))
 case first =>
  have H := HC3.out
  clear HC3
  replace H := Option.bind_eq_some_iff.mp H
  obtain ⟨t242, A60, H⟩ := H
  replace H : (if t242 = true then (sl14_ConfTexts.j0 k true a0_0 a0_1 a0_2 a0_3 a0_4 l0_5 l0_6 a1_0 a1_1 a1_2 a1_3 a1_4 l1_5 l1_6) else ((sr14_Long.f k a1_0 a1_1 a1_2 a1_3 a1_4 l1_5 l1_6).bind fun t243 => (sl14_ConfTexts.j0 k t243 a0_0 a0_1 a0_2 a0_3 a0_4 l0_5 l0_6 a1_0 a1_1 a1_2 a1_3 a1_4 l1_5 l1_6))) = some r := H
  have A6 := As0.mk A60
  clear A60
  by_cases c7 : t242 = true
  ·
   subst c7
   have H1 : (sl14_ConfTexts.j0 k true a0_0 a0_1 a0_2 a0_3 a0_4 l0_5 l0_6 a1_0 a1_1 a1_2 a1_3 a1_4 l1_5 l1_6) = some r := by rw [if_pos rfl] at H; exact H
   clear H
   have H := H1
   clear H1
   have H' := As0.mk H
   clear H
   have hnb8 := NB240_241.out
   have hnc8 := NB241_240.out
   have hcz9_0 : w5.cell? ⟨gb240, 0, none⟩ = some (.int .i64 a0_0) := (bkc BK240.out 0).trans rfl
   have hcz9_1 : w5.cell? ⟨gb240, 1, none⟩ = some (.int .i64 a0_1) := (bkc BK240.out 1).trans rfl
   have hcz9_2 : w5.cell? ⟨gb240, 2, none⟩ = some (.int .i64 a0_2) := (bkc BK240.out 2).trans rfl
   have hcz9_3 : w5.cell? ⟨gb240, 3, none⟩ = some (.int .i64 a0_3) := (bkc BK240.out 3).trans rfl
   have hcz9_4 : w5.cell? ⟨gb240, 4, none⟩ = some (.int .i64 a0_4) := (bkc BK240.out 4).trans rfl
   have hcz9_5 : w5.cell? ⟨gb240, 5, none⟩ = some (.slice A0_5 l0_5.length c0_5) := (bkc BK240.out 5).trans rfl
   have hcz9_6 : w5.cell? ⟨gb240, 6, none⟩ = some (.slice A0_6 l0_6.length c0_6) := (bkc BK240.out 6).trans rfl
   have hfz9_0 := bkf BK240.out 0
   have hfz9_1 := bkf BK240.out 1
   have hfz9_2 := bkf BK240.out 2
   have hfz9_3 := bkf BK240.out 3
   have hfz9_4 := bkf BK240.out 4
   have hfz9_5 := bkf BK240.out 5
   have hfz9_6 := bkf BK240.out 6
   go_wp2_with (first | ((with_reducible refine gate_callee (f := 5) rfl ?_); refine goesL_ (some 6) rfl rfl Tryz.func5 (by kernel_rfl) rfl #[.agg #[.int .i64 a0_0, .int .i64 a0_1, .int .i64 a0_2, .int .i64 a0_3, .int .i64 a0_4, .slice A0_5 l0_5.length c0_5, .slice A0_6 l0_6.length c0_6]] rfl (by (try simp only [List.map_toArray, List.map_cons, List.map_nil]); first | done | rfl | (simp only [List.length_drop, List.length_take]; rfl)) ?_; (with_reducible refine (sr14_Long.calls k a0_0 a0_1 a0_2 a0_3 a0_4 _ _ l0_5 _ _ l0_6 true _ ?side1 ?side2 ?side3 ?side4 A6.out).mono ?_); (case side1 => repeat (first | exact (Kd.C_below HR0_5.out HB.out) | (with_reducible refine Kd.C_alloc ?_ _) | (with_reducible refine Kd.C_drewN ?_ _) | (with_reducible refine Kd.C_drew ?_))); (case side2 => exact HC0_5.out); (case side3 => repeat (first | exact (Kd.C_below HR0_6.out HB.out) | (with_reducible refine Kd.C_alloc ?_ _) | (with_reducible refine Kd.C_drewN ?_ _) | (with_reducible refine Kd.C_drew ?_))); (case side4 => exact HC0_6.out); rintro e w10 ⟨rfl, hb⟩; refine ⟨_, rfl, ?_⟩; have n0_ := As0.mk (blk_below (g := gb240) (o := .cells #[.int .i64 a0_0, .int .i64 a0_1, .int .i64 a0_2, .int .i64 a0_3, .int .i64 a0_4, .slice A0_5 l0_5.length c0_5, .slice A0_6 l0_6.length c0_6] 25 (0, 0)) (by (with_reducible repeat (first | refine bkn ?_ _ | refine bkd ?_ | refine bka ?_ _)); exact BK240.out) hb); have n1_ := As0.mk (blk_below (g := gb241) (o := .cells #[.int .i64 a1_0, .int .i64 a1_1, .int .i64 a1_2, .int .i64 a1_3, .int .i64 a1_4, .slice A1_5 l1_5.length c1_5, .slice A1_6 l1_6.length c1_6] 25 (0, 0)) (by (with_reducible repeat (first | refine bkn ?_ _ | refine bkd ?_ | refine bka ?_ _)); exact BK241.out) hb); have n2_ := As0.mk (below_step (by repeat (first | (with_reducible first | exact HB.out | apply bla | apply bln | apply bld | refine bls ?_ GE240.out | refine bls ?_ GE241.out) | exact HB.out)) hb); clear BK240; clear BK241; clear HB; have BK240 := n0_; have BK241 := n1_; have HB := n2_; clear n0_ n1_ n2_; (try clear hb); (try clear hb2); (try clear hk); (try clear hi)))
   go_meet
   case rel => exact ⟨_, (true), (by first | rfl | (simp; done) | (simp [*]; done)), H', ⟨by first | omega | exact Nat.le_refl _⟩, ⟨by (with_reducible repeat (first | refine bkn ?_ _ | refine bkd ?_ | refine bka ?_ _)); exact BK240.out⟩, ⟨by (with_reducible repeat (first | refine bkn ?_ _ | refine bkd ?_ | refine bka ?_ _)); exact BK241.out⟩, ⟨by repeat (first | (with_reducible first | exact HB.out | apply bla | apply bln | apply bld | refine bls ?_ GE240.out | refine bls ?_ GE241.out) | exact HB.out)⟩⟩
  ·
   replace c7 := Bool.eq_false_iff.mpr c7
   subst c7
   have H1 : ((sr14_Long.f k a1_0 a1_1 a1_2 a1_3 a1_4 l1_5 l1_6).bind fun t243 => (sl14_ConfTexts.j0 k t243 a0_0 a0_1 a0_2 a0_3 a0_4 l0_5 l0_6 a1_0 a1_1 a1_2 a1_3 a1_4 l1_5 l1_6)) = some r := by rw [if_neg (show ¬ (false = true) by decide)] at H; exact H
   clear H
   have H := H1
   clear H1
   replace H := Option.bind_eq_some_iff.mp H
   obtain ⟨t243, A110, H⟩ := H
   replace H : (sl14_ConfTexts.j0 k t243 a0_0 a0_1 a0_2 a0_3 a0_4 l0_5 l0_6 a1_0 a1_1 a1_2 a1_3 a1_4 l1_5 l1_6) = some r := H
   have A11 := As0.mk A110
   clear A110
   have H' := As0.mk H
   clear H
   have hnb12 := NB240_241.out
   have hnc12 := NB241_240.out
   have hcz13_0 : w5.cell? ⟨gb240, 0, none⟩ = some (.int .i64 a0_0) := (bkc BK240.out 0).trans rfl
   have hcz13_1 : w5.cell? ⟨gb240, 1, none⟩ = some (.int .i64 a0_1) := (bkc BK240.out 1).trans rfl
   have hcz13_2 : w5.cell? ⟨gb240, 2, none⟩ = some (.int .i64 a0_2) := (bkc BK240.out 2).trans rfl
   have hcz13_3 : w5.cell? ⟨gb240, 3, none⟩ = some (.int .i64 a0_3) := (bkc BK240.out 3).trans rfl
   have hcz13_4 : w5.cell? ⟨gb240, 4, none⟩ = some (.int .i64 a0_4) := (bkc BK240.out 4).trans rfl
   have hcz13_5 : w5.cell? ⟨gb240, 5, none⟩ = some (.slice A0_5 l0_5.length c0_5) := (bkc BK240.out 5).trans rfl
   have hcz13_6 : w5.cell? ⟨gb240, 6, none⟩ = some (.slice A0_6 l0_6.length c0_6) := (bkc BK240.out 6).trans rfl
   have hfz13_0 := bkf BK240.out 0
   have hfz13_1 := bkf BK240.out 1
   have hfz13_2 := bkf BK240.out 2
   have hfz13_3 := bkf BK240.out 3
   have hfz13_4 := bkf BK240.out 4
   have hfz13_5 := bkf BK240.out 5
   have hfz13_6 := bkf BK240.out 6
   go_wp2_with (first | ((with_reducible refine gate_callee (f := 5) rfl ?_); refine goesL_ (some 6) rfl rfl Tryz.func5 (by kernel_rfl) rfl #[.agg #[.int .i64 a0_0, .int .i64 a0_1, .int .i64 a0_2, .int .i64 a0_3, .int .i64 a0_4, .slice A0_5 l0_5.length c0_5, .slice A0_6 l0_6.length c0_6]] rfl (by (try simp only [List.map_toArray, List.map_cons, List.map_nil]); first | done | rfl | (simp only [List.length_drop, List.length_take]; rfl)) ?_; (with_reducible refine (sr14_Long.calls k a0_0 a0_1 a0_2 a0_3 a0_4 _ _ l0_5 _ _ l0_6 false _ ?side1 ?side2 ?side3 ?side4 A6.out).mono ?_); (case side1 => repeat (first | exact (Kd.C_below HR0_5.out HB.out) | (with_reducible refine Kd.C_alloc ?_ _) | (with_reducible refine Kd.C_drewN ?_ _) | (with_reducible refine Kd.C_drew ?_))); (case side2 => exact HC0_5.out); (case side3 => repeat (first | exact (Kd.C_below HR0_6.out HB.out) | (with_reducible refine Kd.C_alloc ?_ _) | (with_reducible refine Kd.C_drewN ?_ _) | (with_reducible refine Kd.C_drew ?_))); (case side4 => exact HC0_6.out); rintro e w14 ⟨rfl, hb⟩; refine ⟨_, rfl, ?_⟩; have n0_ := As0.mk (blk_below (g := gb240) (o := .cells #[.int .i64 a0_0, .int .i64 a0_1, .int .i64 a0_2, .int .i64 a0_3, .int .i64 a0_4, .slice A0_5 l0_5.length c0_5, .slice A0_6 l0_6.length c0_6] 25 (0, 0)) (by (with_reducible repeat (first | refine bkn ?_ _ | refine bkd ?_ | refine bka ?_ _)); exact BK240.out) hb); have n1_ := As0.mk (blk_below (g := gb241) (o := .cells #[.int .i64 a1_0, .int .i64 a1_1, .int .i64 a1_2, .int .i64 a1_3, .int .i64 a1_4, .slice A1_5 l1_5.length c1_5, .slice A1_6 l1_6.length c1_6] 25 (0, 0)) (by (with_reducible repeat (first | refine bkn ?_ _ | refine bkd ?_ | refine bka ?_ _)); exact BK241.out) hb); have n2_ := As0.mk (below_step (by repeat (first | (with_reducible first | exact HB.out | apply bla | apply bln | apply bld | refine bls ?_ GE240.out | refine bls ?_ GE241.out) | exact HB.out)) hb); clear BK240; clear BK241; clear HB; have BK240 := n0_; have BK241 := n1_; have HB := n2_; clear n0_ n1_ n2_; (try clear hb); (try clear hb2); (try clear hk); (try clear hi); have hcz15_0 : w14.cell? ⟨gb241, 0, none⟩ = some (.int .i64 a1_0) := (bkc BK241.out 0).trans rfl; have hcz15_1 : w14.cell? ⟨gb241, 1, none⟩ = some (.int .i64 a1_1) := (bkc BK241.out 1).trans rfl; have hcz15_2 : w14.cell? ⟨gb241, 2, none⟩ = some (.int .i64 a1_2) := (bkc BK241.out 2).trans rfl; have hcz15_3 : w14.cell? ⟨gb241, 3, none⟩ = some (.int .i64 a1_3) := (bkc BK241.out 3).trans rfl; have hcz15_4 : w14.cell? ⟨gb241, 4, none⟩ = some (.int .i64 a1_4) := (bkc BK241.out 4).trans rfl; have hcz15_5 : w14.cell? ⟨gb241, 5, none⟩ = some (.slice A1_5 l1_5.length c1_5) := (bkc BK241.out 5).trans rfl; have hcz15_6 : w14.cell? ⟨gb241, 6, none⟩ = some (.slice A1_6 l1_6.length c1_6) := (bkc BK241.out 6).trans rfl; have hfz15_0 := bkf BK241.out 0; have hfz15_1 := bkf BK241.out 1; have hfz15_2 := bkf BK241.out 2; have hfz15_3 := bkf BK241.out 3; have hfz15_4 := bkf BK241.out 4; have hfz15_5 := bkf BK241.out 5; have hfz15_6 := bkf BK241.out 6) | (go_at_call 5; (with_reducible refine (sr14_Long.calls k a1_0 a1_1 a1_2 a1_3 a1_4 _ _ l1_5 _ _ l1_6 t243 _ ?side1 ?side2 ?side3 ?side4 A11.out).mono ?_); (case side1 => repeat (first | exact (Kd.C_below HR1_5.out HB.out) | (with_reducible refine Kd.C_alloc ?_ _) | (with_reducible refine Kd.C_drewN ?_ _) | (with_reducible refine Kd.C_drew ?_))); (case side2 => exact HC1_5.out); (case side3 => repeat (first | exact (Kd.C_below HR1_6.out HB.out) | (with_reducible refine Kd.C_alloc ?_ _) | (with_reducible refine Kd.C_drewN ?_ _) | (with_reducible refine Kd.C_drew ?_))); (case side4 => exact HC1_6.out); rintro e w16 ⟨rfl, hb⟩; have n0_ := As0.mk (blk_below (g := gb240) (o := .cells #[.int .i64 a0_0, .int .i64 a0_1, .int .i64 a0_2, .int .i64 a0_3, .int .i64 a0_4, .slice A0_5 l0_5.length c0_5, .slice A0_6 l0_6.length c0_6] 25 (0, 0)) (by (with_reducible repeat (first | refine bkn ?_ _ | refine bkd ?_ | refine bka ?_ _)); exact BK240.out) hb); have n1_ := As0.mk (blk_below (g := gb241) (o := .cells #[.int .i64 a1_0, .int .i64 a1_1, .int .i64 a1_2, .int .i64 a1_3, .int .i64 a1_4, .slice A1_5 l1_5.length c1_5, .slice A1_6 l1_6.length c1_6] 25 (0, 0)) (by (with_reducible repeat (first | refine bkn ?_ _ | refine bkd ?_ | refine bka ?_ _)); exact BK241.out) hb); have n2_ := As0.mk (below_step (by repeat (first | (with_reducible first | exact HB.out | apply bla | apply bln | apply bld | refine bls ?_ GE240.out | refine bls ?_ GE241.out) | exact HB.out)) hb); clear BK240; clear BK241; clear HB; have BK240 := n0_; have BK241 := n1_; have HB := n2_; clear n0_ n1_ n2_; (try clear hb); (try clear hb2); (try clear hk); (try clear hi)))
   go_meet
   case rel => exact ⟨_, (t243), (by first | rfl | (simp; done) | (simp [*]; done)), H', ⟨by first | omega | exact Nat.le_refl _⟩, ⟨by (with_reducible repeat (first | refine bkn ?_ _ | refine bkd ?_ | refine bka ?_ _)); exact BK240.out⟩, ⟨by (with_reducible repeat (first | refine bkn ?_ _ | refine bkd ?_ | refine bka ?_ _)); exact BK241.out⟩, ⟨by repeat (first | (with_reducible first | exact HB.out | apply bla | apply bln | apply bld | refine bls ?_ GE240.out | refine bls ?_ GE241.out) | exact HB.out)⟩⟩
 case rest =>
  clear HC3
  try clear c1
  try clear p2
  try clear c3
  try clear c5
  try clear c7
  try clear c8
  try clear c12
  try clear hcz13_0
  try clear hcz13_1
  try clear hcz13_2
  try clear hcz13_3
  try clear hcz13_4
  try clear hcz13_5
  try clear hcz13_6
  try clear hcz15_0
  try clear hcz15_1
  try clear hcz15_2
  try clear hcz15_3
  try clear hcz15_4
  try clear hcz15_5
  try clear hcz15_6
  try clear hcz9_0
  try clear hcz9_1
  try clear hcz9_2
  try clear hcz9_3
  try clear hcz9_4
  try clear hcz9_5
  try clear hcz9_6
  try clear hfz13_0
  try clear hfz13_1
  try clear hfz13_2
  try clear hfz13_3
  try clear hfz13_4
  try clear hfz13_5
  try clear hfz13_6
  try clear hfz15_0
  try clear hfz15_1
  try clear hfz15_2
  try clear hfz15_3
  try clear hfz15_4
  try clear hfz15_5
  try clear hfz15_6
  try clear hfz9_0
  try clear hfz9_1
  try clear hfz9_2
  try clear hfz9_3
  try clear hfz9_4
  try clear hfz9_5
  try clear hfz9_6
  obtain ⟨kq, x10_2, rfl, HA, HJ2, BK240, BK241, HB⟩ := hcut
  cases kq with
  | zero => exact absurd HA.out (by simp [sl14_ConfTexts.j0])
  | succ kj2 =>
   have H := HA.out
   clear HA
   simp only [sl14_ConfTexts.j0] at H
   by_cases c17 : x10_2 = true
   ·
    subst c17
    have H1 : ((sl14_works.f kj2).bind fun t244 => (some t244)) = some r := by rw [if_pos rfl] at H; exact H
    clear H
    have H := H1
    clear H1
    replace H := Option.bind_eq_some_iff.mp H
    obtain ⟨t244, A180, H⟩ := H
    replace H : (some t244) = some r := H
    have A18 := As0.mk A180
    clear A180
    obtain rfl := Option.some.inj H
    go_wp2_with (first | ((with_reducible refine gate_callee (f := 6) rfl ?_); refine goesL_ (some 11) rfl rfl Tryz.func6 (by kernel_rfl) rfl #[] rfl (by (try simp only [List.map_toArray, List.map_cons, List.map_nil]); first | done | rfl | (simp only [List.length_drop, List.length_take]; rfl)) ?_; (with_reducible refine (sl14_works.calls kj2  t244 _ ?side1 A18.out).mono ?_); (case side1 => exact Laid.below HLD.out (by repeat (first | (with_reducible first | exact HB.out | apply bla | apply bln | apply bld | refine bls ?_ GE240.out | refine bls ?_ GE241.out) | exact HB.out))); rintro e w19 ⟨rfl, hb⟩; refine ⟨_, rfl, ?_⟩; have n0_ := As0.mk (blk_below (g := gb240) (o := .cells #[.int .i64 a0_0, .int .i64 a0_1, .int .i64 a0_2, .int .i64 a0_3, .int .i64 a0_4, .slice A0_5 l0_5.length c0_5, .slice A0_6 l0_6.length c0_6] 25 (0, 0)) (by (with_reducible repeat (first | refine bkn ?_ _ | refine bkd ?_ | refine bka ?_ _)); exact BK240.out) hb); have n1_ := As0.mk (blk_below (g := gb241) (o := .cells #[.int .i64 a1_0, .int .i64 a1_1, .int .i64 a1_2, .int .i64 a1_3, .int .i64 a1_4, .slice A1_5 l1_5.length c1_5, .slice A1_6 l1_6.length c1_6] 25 (0, 0)) (by (with_reducible repeat (first | refine bkn ?_ _ | refine bkd ?_ | refine bka ?_ _)); exact BK241.out) hb); have n2_ := As0.mk (below_step (by repeat (first | (with_reducible first | exact HB.out | apply bla | apply bln | apply bld | refine bls ?_ GE240.out | refine bls ?_ GE241.out) | exact HB.out)) hb); clear BK240; clear BK241; clear HB; have BK240 := n0_; have BK241 := n1_; have HB := n2_; clear n0_ n1_ n2_; (try clear hb); (try clear hb2); (try clear hk); (try clear hi)))
    go_ret
    exact ⟨by first | rfl | (simp [errW_none, errW_some] <;> rfl) | (simp [*, errW_none, errW_some] <;> rfl), by repeat (first | (with_reducible first | exact HB.out | apply bla | apply bln | apply bld | refine bls ?_ GE240.out | refine bls ?_ GE241.out) | exact HB.out)⟩
   ·
    replace c17 := Bool.eq_false_iff.mpr c17
    subst c17
    have H1 : ((conf_Check.f kj2 a0_0 a0_1 a0_2 a0_3 a0_4 l0_5 l0_6).bind fun t245 => ((sr14_Check.f kj2 a0_0 a0_1 a0_2 a0_3 a0_4 l0_5 l0_6).bind fun t246 => (if t245 = t246 then ((conf_Text.f kj2 a0_0 a0_1 a0_2 a0_3 a0_4 l0_5 l0_6).bind fun t247 => ((sr14_Text.f kj2 a0_0 a0_1 a0_2 a0_3 a0_4 l0_5 l0_6).bind fun t248 => (if t247.toList = t248.toList then ((conf_Same.f kj2 a0_0 a0_1 a0_2 a0_3 a0_4 l0_5 l0_6 a1_0 a1_1 a1_2 a1_3 a1_4 l1_5 l1_6).bind fun t249 => ((sr14_Same.f kj2 a0_0 a0_1 a0_2 a0_3 a0_4 l0_5 l0_6 a1_0 a1_1 a1_2 a1_3 a1_4 l1_5 l1_6).bind fun t250 => (if (t249 == t250) = true then ((conf_Same.f kj2 a0_0 a0_1 a0_2 a0_3 a0_4 l0_5 l0_6 a0_0 a0_1 a0_2 a0_3 a0_4 l0_5 l0_6).bind fun t251 => (if t251 = true then ((sl14_works.f kj2).bind fun t252 => (some t252)) else (some false))) else (some false)))) else (some false)))) else (some false)))) = some r := by rw [if_neg (show ¬ (false = true) by decide)] at H; exact H
    clear H
    have H := H1
    clear H1
    replace H := Option.bind_eq_some_iff.mp H
    obtain ⟨t245, A200, H⟩ := H
    replace H : ((sr14_Check.f kj2 a0_0 a0_1 a0_2 a0_3 a0_4 l0_5 l0_6).bind fun t246 => (if t245 = t246 then ((conf_Text.f kj2 a0_0 a0_1 a0_2 a0_3 a0_4 l0_5 l0_6).bind fun t247 => ((sr14_Text.f kj2 a0_0 a0_1 a0_2 a0_3 a0_4 l0_5 l0_6).bind fun t248 => (if t247.toList = t248.toList then ((conf_Same.f kj2 a0_0 a0_1 a0_2 a0_3 a0_4 l0_5 l0_6 a1_0 a1_1 a1_2 a1_3 a1_4 l1_5 l1_6).bind fun t249 => ((sr14_Same.f kj2 a0_0 a0_1 a0_2 a0_3 a0_4 l0_5 l0_6 a1_0 a1_1 a1_2 a1_3 a1_4 l1_5 l1_6).bind fun t250 => (if (t249 == t250) = true then ((conf_Same.f kj2 a0_0 a0_1 a0_2 a0_3 a0_4 l0_5 l0_6 a0_0 a0_1 a0_2 a0_3 a0_4 l0_5 l0_6).bind fun t251 => (if t251 = true then ((sl14_works.f kj2).bind fun t252 => (some t252)) else (some false))) else (some false)))) else (some false)))) else (some false))) = some r := H
    have A20 := As0.mk A200
    clear A200
    replace H := Option.bind_eq_some_iff.mp H
    obtain ⟨t246, A210, H⟩ := H
    replace H : (if t245 = t246 then ((conf_Text.f kj2 a0_0 a0_1 a0_2 a0_3 a0_4 l0_5 l0_6).bind fun t247 => ((sr14_Text.f kj2 a0_0 a0_1 a0_2 a0_3 a0_4 l0_5 l0_6).bind fun t248 => (if t247.toList = t248.toList then ((conf_Same.f kj2 a0_0 a0_1 a0_2 a0_3 a0_4 l0_5 l0_6 a1_0 a1_1 a1_2 a1_3 a1_4 l1_5 l1_6).bind fun t249 => ((sr14_Same.f kj2 a0_0 a0_1 a0_2 a0_3 a0_4 l0_5 l0_6 a1_0 a1_1 a1_2 a1_3 a1_4 l1_5 l1_6).bind fun t250 => (if (t249 == t250) = true then ((conf_Same.f kj2 a0_0 a0_1 a0_2 a0_3 a0_4 l0_5 l0_6 a0_0 a0_1 a0_2 a0_3 a0_4 l0_5 l0_6).bind fun t251 => (if t251 = true then ((sl14_works.f kj2).bind fun t252 => (some t252)) else (some false))) else (some false)))) else (some false)))) else (some false)) = some r := H
    have A21 := As0.mk A210
    clear A210
    by_cases c22 : t245 = t246
    ·
     rw [if_pos c22] at H
     have c22b0 : (t245 == t246) = true := beq_iff_eq.mpr c22
     have c22b1 : (t245 != t246) = false := bne_eq_false_iff_eq.mpr c22
     clear c22
     replace H := Option.bind_eq_some_iff.mp H
     obtain ⟨t247, A230, H⟩ := H
     replace H : ((sr14_Text.f kj2 a0_0 a0_1 a0_2 a0_3 a0_4 l0_5 l0_6).bind fun t248 => (if t247.toList = t248.toList then ((conf_Same.f kj2 a0_0 a0_1 a0_2 a0_3 a0_4 l0_5 l0_6 a1_0 a1_1 a1_2 a1_3 a1_4 l1_5 l1_6).bind fun t249 => ((sr14_Same.f kj2 a0_0 a0_1 a0_2 a0_3 a0_4 l0_5 l0_6 a1_0 a1_1 a1_2 a1_3 a1_4 l1_5 l1_6).bind fun t250 => (if (t249 == t250) = true then ((conf_Same.f kj2 a0_0 a0_1 a0_2 a0_3 a0_4 l0_5 l0_6 a0_0 a0_1 a0_2 a0_3 a0_4 l0_5 l0_6).bind fun t251 => (if t251 = true then ((sl14_works.f kj2).bind fun t252 => (some t252)) else (some false))) else (some false)))) else (some false))) = some r := H
     have A23 := As0.mk A230
     clear A230
     replace H := Option.bind_eq_some_iff.mp H
     obtain ⟨t248, A240, H⟩ := H
     replace H : (if t247.toList = t248.toList then ((conf_Same.f kj2 a0_0 a0_1 a0_2 a0_3 a0_4 l0_5 l0_6 a1_0 a1_1 a1_2 a1_3 a1_4 l1_5 l1_6).bind fun t249 => ((sr14_Same.f kj2 a0_0 a0_1 a0_2 a0_3 a0_4 l0_5 l0_6 a1_0 a1_1 a1_2 a1_3 a1_4 l1_5 l1_6).bind fun t250 => (if (t249 == t250) = true then ((conf_Same.f kj2 a0_0 a0_1 a0_2 a0_3 a0_4 l0_5 l0_6 a0_0 a0_1 a0_2 a0_3 a0_4 l0_5 l0_6).bind fun t251 => (if t251 = true then ((sl14_works.f kj2).bind fun t252 => (some t252)) else (some false))) else (some false)))) else (some false)) = some r := H
     have A24 := As0.mk A240
     clear A240
     by_cases c25 : t247.toList = t248.toList
     ·
      rw [if_pos c25] at H
      have c25b0 : (t247.toList == t248.toList) = true := beq_iff_eq.mpr c25
      have c25b1 : (t247.toList != t248.toList) = false := bne_eq_false_iff_eq.mpr c25
      clear c25
      replace H := Option.bind_eq_some_iff.mp H
      obtain ⟨t249, A260, H⟩ := H
      replace H : ((sr14_Same.f kj2 a0_0 a0_1 a0_2 a0_3 a0_4 l0_5 l0_6 a1_0 a1_1 a1_2 a1_3 a1_4 l1_5 l1_6).bind fun t250 => (if (t249 == t250) = true then ((conf_Same.f kj2 a0_0 a0_1 a0_2 a0_3 a0_4 l0_5 l0_6 a0_0 a0_1 a0_2 a0_3 a0_4 l0_5 l0_6).bind fun t251 => (if t251 = true then ((sl14_works.f kj2).bind fun t252 => (some t252)) else (some false))) else (some false))) = some r := H
      have A26 := As0.mk A260
      clear A260
      replace H := Option.bind_eq_some_iff.mp H
      obtain ⟨t250, A270, H⟩ := H
      replace H : (if (t249 == t250) = true then ((conf_Same.f kj2 a0_0 a0_1 a0_2 a0_3 a0_4 l0_5 l0_6 a0_0 a0_1 a0_2 a0_3 a0_4 l0_5 l0_6).bind fun t251 => (if t251 = true then ((sl14_works.f kj2).bind fun t252 => (some t252)) else (some false))) else (some false)) = some r := H
      have A27 := As0.mk A270
      clear A270
      by_cases c28 : (t249 == t250) = true
      ·
       rw [if_pos c28] at H
       have c28b0 : (t249 == t250) = true := c28
       (try (have c28b1 : decide (t249 = t250) = true := by simpa using c28))
       (try (have c28b2 : (t249 == t250) = true := by simpa using c28))
       clear c28
       replace H := Option.bind_eq_some_iff.mp H
       obtain ⟨t251, A290, H⟩ := H
       replace H : (if t251 = true then ((sl14_works.f kj2).bind fun t252 => (some t252)) else (some false)) = some r := H
       have A29 := As0.mk A290
       clear A290
       by_cases c30 : t251 = true
       ·
        subst c30
        have H1 : ((sl14_works.f kj2).bind fun t252 => (some t252)) = some r := by rw [if_pos rfl] at H; exact H
        clear H
        have H := H1
        clear H1
        replace H := Option.bind_eq_some_iff.mp H
        obtain ⟨t252, A310, H⟩ := H
        replace H : (some t252) = some r := H
        have A31 := As0.mk A310
        clear A310
        obtain rfl := Option.some.inj H
        try go_wp2
        have n0_ := As0.mk (bkd BK240.out)
        have n1_ := As0.mk (bkd BK241.out)
        have n2_ := As0.mk (bld HB.out)
        clear BK240
        clear BK241
        clear HB
        have BK240 := n0_
        have BK241 := n1_
        have HB := n2_
        clear n0_ n1_ n2_
        refine start_ (n := 30) (S := fun w' => w'.cell? ⟨gb240, 0, none⟩ = some (.int .i64 a0_0) ∧ w'.cell? ⟨gb240, 1, none⟩ = some (.int .i64 a0_1) ∧ w'.cell? ⟨gb240, 2, none⟩ = some (.int .i64 a0_2) ∧ w'.cell? ⟨gb240, 3, none⟩ = some (.int .i64 a0_3) ∧ w'.cell? ⟨gb240, 4, none⟩ = some (.int .i64 a0_4) ∧ w'.cell? ⟨gb240, 5, none⟩ = some (.slice A0_5 l0_5.length c0_5) ∧ w'.cell? ⟨gb240, 6, none⟩ = some (.slice A0_6 l0_6.length c0_6) ∧ w'.cell? ⟨gb241, 0, none⟩ = some (.int .i64 a1_0) ∧ w'.cell? ⟨gb241, 1, none⟩ = some (.int .i64 a1_1) ∧ w'.cell? ⟨gb241, 2, none⟩ = some (.int .i64 a1_2) ∧ w'.cell? ⟨gb241, 3, none⟩ = some (.int .i64 a1_3) ∧ w'.cell? ⟨gb241, 4, none⟩ = some (.int .i64 a1_4) ∧ w'.cell? ⟨gb241, 5, none⟩ = some (.slice A1_5 l1_5.length c1_5) ∧ w'.cell? ⟨gb241, 6, none⟩ = some (.slice A1_6 l1_6.length c1_6)) (ds := []) #[false, false, false, false, false, false, false, false, false, false, false, false, false, false, false, false, false, false, false, false, false, false, false, false, false, false, false, false, false, false] (by kernel_rfl) rfl rfl ⟨(bkc BK240.out 0).trans rfl, (bkc BK240.out 1).trans rfl, (bkc BK240.out 2).trans rfl, (bkc BK240.out 3).trans rfl, (bkc BK240.out 4).trans rfl, (bkc BK240.out 5).trans rfl, (bkc BK240.out 6).trans rfl, (bkc BK241.out 0).trans rfl, (bkc BK241.out 1).trans rfl, (bkc BK241.out 2).trans rfl, (bkc BK241.out 3).trans rfl, (bkc BK241.out 4).trans rfl, (bkc BK241.out 5).trans rfl, (bkc BK241.out 6).trans rfl⟩ (fun hHeld => ?_); refine with_tabW sl14_ConfTexts.tab3 sl14_ConfTexts.bits3 (fun HT_ HW_ => ?_)
        generalize wc.drew = w32 at BK240 BK241 HB hHeld ⊢
        refine take_ (i := 0) (N := some 12) (v := ?_) (a' := ?_) #[true, false, false, false, false, false, false, false, false, false, false, false, false, false, false, false, false, false, false, false, false, false, false, false, false, false, false, false, false, false] rfl rfl (take_ofW HT_.out HW_.out (by kernel_rfl)) (fun _ _ _ h => h) (Or.inl ⟨by rfl, ?_⟩) hHeld ?_ ?_
        rotate_left
        ·
         rintro w' ⟨s0, s1, s2, s3, s4, s5, s6, s7, s8, s9, s10, s11, s12, s13⟩
         go_simp
         with_reducible rfl
        rotate_left
        ·
         simp only [Act.put, List.setIfInBounds_toArray, List.set_cons_zero, List.set_cons_succ, i64_w, i32_w]
         rfl
        refine take_ (i := 2) (N := some 14) (v := ?_) (a' := ?_) #[true, false, true, false, false, false, false, false, false, false, false, false, false, false, false, false, false, false, false, false, false, false, false, false, false, false, false, false, false, false] rfl rfl (take_ofW HT_.out HW_.out (by kernel_rfl)) (fun _ _ _ h => h) (Or.inl ⟨by rfl, ?_⟩) hHeld ?_ ?_
        rotate_left
        ·
         rintro w' ⟨s0, s1, s2, s3, s4, s5, s6, s7, s8, s9, s10, s11, s12, s13⟩
         go_simp
         with_reducible rfl
        rotate_left
        ·
         simp only [Act.put, List.setIfInBounds_toArray, List.set_cons_zero, List.set_cons_succ, i64_w, i32_w]
         rfl
        refine one_ (i := 1) (N := some 13) #[true, true, true, false, false, false, false, false, false, false, false, false, false, false, false, false, false, false, false, false, false, false, false, false, false, false, false, false, false, false] rfl rfl (one_of HT_.out (by kernel_rfl)) (by decide) (fun K hK => ?_)
        refine goes_ Tryz.func7 (by kernel_rfl) rfl #[.agg #[.int .i64 a0_0, .int .i64 a0_1, .int .i64 a0_2, .int .i64 a0_3, .int .i64 a0_4, .slice A0_5 l0_5.length c0_5, .slice A0_6 l0_6.length c0_6]] (by rfl) rfl rfl (by (try simp only [List.map_toArray, List.map_cons, List.map_nil]); first | done | rfl | (simp only [List.length_drop, List.length_take]; rfl)) ?_
        with_reducible refine (conf_Check.calls kj2 a0_0 a0_1 a0_2 a0_3 a0_4 _ _ l0_5 _ _ l0_6 t245 _ ?side1 ?side2 ?side3 ?side4 A20.out).mono ?_
        (case side1 => repeat (first | exact (Kd.C_below HR0_5.out HB.out) | (with_reducible refine Kd.C_alloc ?_ _) | (with_reducible refine Kd.C_drewN ?_ _) | (with_reducible refine Kd.C_drew ?_)))
        (case side2 => exact HC0_5.out)
        (case side3 => repeat (first | exact (Kd.C_below HR0_6.out HB.out) | (with_reducible refine Kd.C_alloc ?_ _) | (with_reducible refine Kd.C_drewN ?_ _) | (with_reducible refine Kd.C_drew ?_)))
        (case side4 => exact HC0_6.out)
        rintro e w33 ⟨rfl, hb⟩
        refine ⟨_, rfl, ?_⟩
        have n0_ := As0.mk (blk_below (g := gb240) (o := .cells #[.int .i64 a0_0, .int .i64 a0_1, .int .i64 a0_2, .int .i64 a0_3, .int .i64 a0_4, .slice A0_5 l0_5.length c0_5, .slice A0_6 l0_6.length c0_6] 25 (0, 0)) (by (with_reducible repeat (first | refine bkn ?_ _ | refine bkd ?_ | refine bka ?_ _)); exact BK240.out) hb)
        have n1_ := As0.mk (blk_below (g := gb241) (o := .cells #[.int .i64 a1_0, .int .i64 a1_1, .int .i64 a1_2, .int .i64 a1_3, .int .i64 a1_4, .slice A1_5 l1_5.length c1_5, .slice A1_6 l1_6.length c1_6] 25 (0, 0)) (by (with_reducible repeat (first | refine bkn ?_ _ | refine bkd ?_ | refine bka ?_ _)); exact BK241.out) hb)
        have n2_ := As0.mk (below_step (by repeat (first | (with_reducible first | exact HB.out | apply bla | apply bln | apply bld | refine bls ?_ GE240.out | refine bls ?_ GE241.out) | exact HB.out)) hb)
        clear BK240
        clear BK241
        clear HB
        have BK240 := n0_
        have BK241 := n1_
        have HB := n2_
        clear n0_ n1_ n2_
        (try clear hb)
        (try clear hb2)
        (try clear hk)
        (try clear hi)
        refine hK.out _ _ ⟨(bkc BK240.out 0).trans rfl, (bkc BK240.out 1).trans rfl, (bkc BK240.out 2).trans rfl, (bkc BK240.out 3).trans rfl, (bkc BK240.out 4).trans rfl, (bkc BK240.out 5).trans rfl, (bkc BK240.out 6).trans rfl, (bkc BK241.out 0).trans rfl, (bkc BK241.out 1).trans rfl, (bkc BK241.out 2).trans rfl, (bkc BK241.out 3).trans rfl, (bkc BK241.out 4).trans rfl, (bkc BK241.out 5).trans rfl, (bkc BK241.out 6).trans rfl⟩ (fun hHeld => ?_)
        clear hK K
        refine norm_ (a' := ?_) ?_ ?_
        rotate_left
        ·
         show Act.put _ (some 13) _ = _
         simp only [Act.put, List.setIfInBounds_toArray, List.set_cons_zero, List.set_cons_succ, i64_w, i32_w]
         rfl
        refine one_ (i := 3) (N := some 15) #[true, true, true, true, false, false, false, false, false, false, false, false, false, false, false, false, false, false, false, false, false, false, false, false, false, false, false, false, false, false] rfl rfl (one_of HT_.out (by kernel_rfl)) (by decide) (fun K hK => ?_)
        refine goes_ Tryz.func8 (by kernel_rfl) rfl #[.agg #[.int .i64 a0_0, .int .i64 a0_1, .int .i64 a0_2, .int .i64 a0_3, .int .i64 a0_4, .slice A0_5 l0_5.length c0_5, .slice A0_6 l0_6.length c0_6]] (by rfl) rfl rfl (by (try simp only [List.map_toArray, List.map_cons, List.map_nil]); first | done | rfl | (simp only [List.length_drop, List.length_take]; rfl)) ?_
        with_reducible refine (sr14_Check.calls kj2 a0_0 a0_1 a0_2 a0_3 a0_4 _ _ l0_5 _ _ l0_6 t246 _ ?side1 ?side2 ?side3 ?side4 A21.out).mono ?_
        (case side1 => repeat (first | exact (Kd.C_below HR0_5.out HB.out) | (with_reducible refine Kd.C_alloc ?_ _) | (with_reducible refine Kd.C_drewN ?_ _) | (with_reducible refine Kd.C_drew ?_)))
        (case side2 => exact HC0_5.out)
        (case side3 => repeat (first | exact (Kd.C_below HR0_6.out HB.out) | (with_reducible refine Kd.C_alloc ?_ _) | (with_reducible refine Kd.C_drewN ?_ _) | (with_reducible refine Kd.C_drew ?_)))
        (case side4 => exact HC0_6.out)
        rintro e w34 ⟨rfl, hb⟩
        refine ⟨_, rfl, ?_⟩
        have n0_ := As0.mk (blk_below (g := gb240) (o := .cells #[.int .i64 a0_0, .int .i64 a0_1, .int .i64 a0_2, .int .i64 a0_3, .int .i64 a0_4, .slice A0_5 l0_5.length c0_5, .slice A0_6 l0_6.length c0_6] 25 (0, 0)) (by (with_reducible repeat (first | refine bkn ?_ _ | refine bkd ?_ | refine bka ?_ _)); exact BK240.out) hb)
        have n1_ := As0.mk (blk_below (g := gb241) (o := .cells #[.int .i64 a1_0, .int .i64 a1_1, .int .i64 a1_2, .int .i64 a1_3, .int .i64 a1_4, .slice A1_5 l1_5.length c1_5, .slice A1_6 l1_6.length c1_6] 25 (0, 0)) (by (with_reducible repeat (first | refine bkn ?_ _ | refine bkd ?_ | refine bka ?_ _)); exact BK241.out) hb)
        have n2_ := As0.mk (below_step (by repeat (first | (with_reducible first | exact HB.out | apply bla | apply bln | apply bld | refine bls ?_ GE240.out | refine bls ?_ GE241.out) | exact HB.out)) hb)
        clear BK240
        clear BK241
        clear HB
        have BK240 := n0_
        have BK241 := n1_
        have HB := n2_
        clear n0_ n1_ n2_
        (try clear hb)
        (try clear hb2)
        (try clear hk)
        (try clear hi)
        refine hK.out _ _ ⟨(bkc BK240.out 0).trans rfl, (bkc BK240.out 1).trans rfl, (bkc BK240.out 2).trans rfl, (bkc BK240.out 3).trans rfl, (bkc BK240.out 4).trans rfl, (bkc BK240.out 5).trans rfl, (bkc BK240.out 6).trans rfl, (bkc BK241.out 0).trans rfl, (bkc BK241.out 1).trans rfl, (bkc BK241.out 2).trans rfl, (bkc BK241.out 3).trans rfl, (bkc BK241.out 4).trans rfl, (bkc BK241.out 5).trans rfl, (bkc BK241.out 6).trans rfl⟩ (fun hHeld => ?_)
        clear hK K
        refine norm_ (a' := ?_) ?_ ?_
        rotate_left
        ·
         show Act.put _ (some 15) _ = _
         simp only [Act.put, List.setIfInBounds_toArray, List.set_cons_zero, List.set_cons_succ, i64_w, i32_w]
         rfl
        refine pure_ (i := 4) (N := some 16) (v := ?_) (a' := ?_) #[true, true, true, true, true, false, false, false, false, false, false, false, false, false, false, false, false, false, false, false, false, false, false, false, false, false, false, false, false, false] rfl rfl (any_of HT_.out (by kernel_rfl)) (fun _ _ _ h => h) (Or.inl ⟨by rfl, ?_⟩) ?_ ?_
        rotate_left
        ·
         intro w'
         go_simp
         with_reducible rfl
        rotate_left
        ·
         simp only [Act.put, List.setIfInBounds_toArray, List.set_cons_zero, List.set_cons_succ, i64_w, i32_w]
         rfl
        refine pure_ (i := 5) (N := some 17) (v := ?_) (a' := ?_) #[true, true, true, true, true, true, false, false, false, false, false, false, false, false, false, false, false, false, false, false, false, false, false, false, false, false, false, false, false, false] rfl rfl (any_of HT_.out (by kernel_rfl)) (fun _ _ _ h => h) (Or.inl ⟨by rfl, ?_⟩) ?_ ?_
        rotate_left
        ·
         intro w'
         go_simp
         with_reducible rfl
        rotate_left
        ·
         simp only [Act.put, List.setIfInBounds_toArray, List.set_cons_zero, List.set_cons_succ, i64_w, i32_w]
         rfl
        refine take_ (i := 6) (N := some 18) (v := ?_) (a' := ?_) #[true, true, true, true, true, true, true, false, false, false, false, false, false, false, false, false, false, false, false, false, false, false, false, false, false, false, false, false, false, false] rfl rfl (take_ofW HT_.out HW_.out (by kernel_rfl)) (fun _ _ _ h => h) (Or.inl ⟨by rfl, ?_⟩) hHeld ?_ ?_
        rotate_left
        ·
         rintro w' ⟨s0, s1, s2, s3, s4, s5, s6, s7, s8, s9, s10, s11, s12, s13⟩
         go_simp
         with_reducible rfl
        rotate_left
        ·
         simp only [Act.put, List.setIfInBounds_toArray, List.set_cons_zero, List.set_cons_succ, i64_w, i32_w]
         rfl
        refine take_ (i := 8) (N := some 20) (v := ?_) (a' := ?_) #[true, true, true, true, true, true, true, false, true, false, false, false, false, false, false, false, false, false, false, false, false, false, false, false, false, false, false, false, false, false] rfl rfl (take_ofW HT_.out HW_.out (by kernel_rfl)) (fun _ _ _ h => h) (Or.inl ⟨by rfl, ?_⟩) hHeld ?_ ?_
        rotate_left
        ·
         rintro w' ⟨s0, s1, s2, s3, s4, s5, s6, s7, s8, s9, s10, s11, s12, s13⟩
         go_simp
         with_reducible rfl
        rotate_left
        ·
         simp only [Act.put, List.setIfInBounds_toArray, List.set_cons_zero, List.set_cons_succ, i64_w, i32_w]
         rfl
        refine one_ (i := 7) (N := some 19) #[true, true, true, true, true, true, true, true, true, false, false, false, false, false, false, false, false, false, false, false, false, false, false, false, false, false, false, false, false, false] rfl rfl (one_of HT_.out (by kernel_rfl)) (by decide) (fun K hK => ?_)
        refine goes_ Tryz.func9 (by kernel_rfl) rfl #[.agg #[.int .i64 a0_0, .int .i64 a0_1, .int .i64 a0_2, .int .i64 a0_3, .int .i64 a0_4, .slice A0_5 l0_5.length c0_5, .slice A0_6 l0_6.length c0_6]] (by rfl) rfl rfl (by (try simp only [List.map_toArray, List.map_cons, List.map_nil]); first | done | rfl | (simp only [List.length_drop, List.length_take]; rfl)) ?_
        with_reducible refine (conf_Text.calls kj2 a0_0 a0_1 a0_2 a0_3 a0_4 _ _ l0_5 _ _ l0_6 t247 _ ?side1 ?side2 ?side3 ?side4 ?side5 A23.out).mono ?_
        (case side1 => repeat (first | exact (Kd.C_below HR0_5.out HB.out) | (with_reducible refine Kd.C_alloc ?_ _) | (with_reducible refine Kd.C_drewN ?_ _) | (with_reducible refine Kd.C_drew ?_)))
        (case side2 => exact HC0_5.out)
        (case side3 => repeat (first | exact (Kd.C_below HR0_6.out HB.out) | (with_reducible refine Kd.C_alloc ?_ _) | (with_reducible refine Kd.C_drewN ?_ _) | (with_reducible refine Kd.C_drew ?_)))
        (case side4 => exact HC0_6.out)
        (case side5 => exact Laid.below HLD.out (by repeat (first | (with_reducible first | exact HB.out | apply bla | apply bln | apply bld | refine bls ?_ GE240.out | refine bls ?_ GE241.out) | exact HB.out)))
        rintro e w35 ⟨rfl, hb⟩
        refine ⟨_, rfl, ?_⟩
        have n0_ := As0.mk (blk_below (g := gb240) (o := .cells #[.int .i64 a0_0, .int .i64 a0_1, .int .i64 a0_2, .int .i64 a0_3, .int .i64 a0_4, .slice A0_5 l0_5.length c0_5, .slice A0_6 l0_6.length c0_6] 25 (0, 0)) (by (with_reducible repeat (first | refine bkn ?_ _ | refine bkd ?_ | refine bka ?_ _)); exact BK240.out) hb)
        have n1_ := As0.mk (blk_below (g := gb241) (o := .cells #[.int .i64 a1_0, .int .i64 a1_1, .int .i64 a1_2, .int .i64 a1_3, .int .i64 a1_4, .slice A1_5 l1_5.length c1_5, .slice A1_6 l1_6.length c1_6] 25 (0, 0)) (by (with_reducible repeat (first | refine bkn ?_ _ | refine bkd ?_ | refine bka ?_ _)); exact BK241.out) hb)
        have n2_ := As0.mk (below_step (by repeat (first | (with_reducible first | exact HB.out | apply bla | apply bln | apply bld | refine bls ?_ GE240.out | refine bls ?_ GE241.out) | exact HB.out)) hb)
        clear BK240
        clear BK241
        clear HB
        have BK240 := n0_
        have BK241 := n1_
        have HB := n2_
        clear n0_ n1_ n2_
        (try clear hb)
        (try clear hb2)
        (try clear hk)
        (try clear hi)
        refine hK.out _ _ ⟨(bkc BK240.out 0).trans rfl, (bkc BK240.out 1).trans rfl, (bkc BK240.out 2).trans rfl, (bkc BK240.out 3).trans rfl, (bkc BK240.out 4).trans rfl, (bkc BK240.out 5).trans rfl, (bkc BK240.out 6).trans rfl, (bkc BK241.out 0).trans rfl, (bkc BK241.out 1).trans rfl, (bkc BK241.out 2).trans rfl, (bkc BK241.out 3).trans rfl, (bkc BK241.out 4).trans rfl, (bkc BK241.out 5).trans rfl, (bkc BK241.out 6).trans rfl⟩ (fun hHeld => ?_)
        clear hK K
        refine norm_ (a' := ?_) ?_ ?_
        rotate_left
        ·
         show Act.put _ (some 19) _ = _
         simp only [Act.put, List.setIfInBounds_toArray, List.set_cons_zero, List.set_cons_succ, i64_w, i32_w]
         rfl
        refine one_ (i := 9) (N := some 21) #[true, true, true, true, true, true, true, true, true, true, false, false, false, false, false, false, false, false, false, false, false, false, false, false, false, false, false, false, false, false] rfl rfl (one_of HT_.out (by kernel_rfl)) (by decide) (fun K hK => ?_)
        refine goes_ Tryz.func10 (by kernel_rfl) rfl #[.agg #[.int .i64 a0_0, .int .i64 a0_1, .int .i64 a0_2, .int .i64 a0_3, .int .i64 a0_4, .slice A0_5 l0_5.length c0_5, .slice A0_6 l0_6.length c0_6]] (by rfl) rfl rfl (by (try simp only [List.map_toArray, List.map_cons, List.map_nil]); first | done | rfl | (simp only [List.length_drop, List.length_take]; rfl)) ?_
        with_reducible refine (sr14_Text.calls kj2 a0_0 a0_1 a0_2 a0_3 a0_4 _ _ l0_5 _ _ l0_6 t248 _ ?side1 ?side2 ?side3 ?side4 A24.out).mono ?_
        (case side1 => repeat (first | exact (Kd.C_below HR0_5.out HB.out) | (with_reducible refine Kd.C_alloc ?_ _) | (with_reducible refine Kd.C_drewN ?_ _) | (with_reducible refine Kd.C_drew ?_)))
        (case side2 => exact HC0_5.out)
        (case side3 => repeat (first | exact (Kd.C_below HR0_6.out HB.out) | (with_reducible refine Kd.C_alloc ?_ _) | (with_reducible refine Kd.C_drewN ?_ _) | (with_reducible refine Kd.C_drew ?_)))
        (case side4 => exact HC0_6.out)
        rintro e w36 ⟨rfl, hb⟩
        refine ⟨_, rfl, ?_⟩
        have n0_ := As0.mk (blk_below (g := gb240) (o := .cells #[.int .i64 a0_0, .int .i64 a0_1, .int .i64 a0_2, .int .i64 a0_3, .int .i64 a0_4, .slice A0_5 l0_5.length c0_5, .slice A0_6 l0_6.length c0_6] 25 (0, 0)) (by (with_reducible repeat (first | refine bkn ?_ _ | refine bkd ?_ | refine bka ?_ _)); exact BK240.out) hb)
        have n1_ := As0.mk (blk_below (g := gb241) (o := .cells #[.int .i64 a1_0, .int .i64 a1_1, .int .i64 a1_2, .int .i64 a1_3, .int .i64 a1_4, .slice A1_5 l1_5.length c1_5, .slice A1_6 l1_6.length c1_6] 25 (0, 0)) (by (with_reducible repeat (first | refine bkn ?_ _ | refine bkd ?_ | refine bka ?_ _)); exact BK241.out) hb)
        have n2_ := As0.mk (below_step (by repeat (first | (with_reducible first | exact HB.out | apply bla | apply bln | apply bld | refine bls ?_ GE240.out | refine bls ?_ GE241.out) | exact HB.out)) hb)
        clear BK240
        clear BK241
        clear HB
        have BK240 := n0_
        have BK241 := n1_
        have HB := n2_
        clear n0_ n1_ n2_
        (try clear hb)
        (try clear hb2)
        (try clear hk)
        (try clear hi)
        refine hK.out _ _ ⟨(bkc BK240.out 0).trans rfl, (bkc BK240.out 1).trans rfl, (bkc BK240.out 2).trans rfl, (bkc BK240.out 3).trans rfl, (bkc BK240.out 4).trans rfl, (bkc BK240.out 5).trans rfl, (bkc BK240.out 6).trans rfl, (bkc BK241.out 0).trans rfl, (bkc BK241.out 1).trans rfl, (bkc BK241.out 2).trans rfl, (bkc BK241.out 3).trans rfl, (bkc BK241.out 4).trans rfl, (bkc BK241.out 5).trans rfl, (bkc BK241.out 6).trans rfl⟩ (fun hHeld => ?_)
        clear hK K
        refine norm_ (a' := ?_) ?_ ?_
        rotate_left
        ·
         show Act.put _ (some 21) _ = _
         simp only [Act.put, List.setIfInBounds_toArray, List.set_cons_zero, List.set_cons_succ, i64_w, i32_w]
         rfl
        refine pure_ (i := 10) (N := some 22) (v := ?_) (a' := ?_) #[true, true, true, true, true, true, true, true, true, true, true, false, false, false, false, false, false, false, false, false, false, false, false, false, false, false, false, false, false, false] rfl rfl (any_of HT_.out (by kernel_rfl)) (fun _ _ _ h => h) (Or.inl ⟨by rfl, ?_⟩) ?_ ?_
        rotate_left
        ·
         intro w'
         go_simp
         with_reducible rfl
        rotate_left
        ·
         simp only [Act.put, List.setIfInBounds_toArray, List.set_cons_zero, List.set_cons_succ, i64_w, i32_w]
         rfl
        refine pure_ (i := 11) (N := some 23) (v := ?_) (a' := ?_) #[true, true, true, true, true, true, true, true, true, true, true, true, false, false, false, false, false, false, false, false, false, false, false, false, false, false, false, false, false, false] rfl rfl (any_of HT_.out (by kernel_rfl)) (fun _ _ _ h => h) (Or.inl ⟨by rfl, ?_⟩) ?_ ?_
        rotate_left
        ·
         intro w'
         go_simp
         with_reducible rfl
        rotate_left
        ·
         simp only [Act.put, List.setIfInBounds_toArray, List.set_cons_zero, List.set_cons_succ, i64_w, i32_w]
         rfl
        refine pure_ (i := 12) (N := some 24) (v := ?_) (a' := ?_) #[true, true, true, true, true, true, true, true, true, true, true, true, true, false, false, false, false, false, false, false, false, false, false, false, false, false, false, false, false, false] rfl rfl (any_of HT_.out (by kernel_rfl)) (fun _ _ _ h => h) (Or.inl ⟨by rfl, ?_⟩) ?_ ?_
        rotate_left
        ·
         intro w'
         go_simp
         with_reducible rfl
        rotate_left
        ·
         simp only [Act.put, List.setIfInBounds_toArray, List.set_cons_zero, List.set_cons_succ, i64_w, i32_w]
         rfl
        refine take_ (i := 13) (N := some 25) (v := ?_) (a' := ?_) #[true, true, true, true, true, true, true, true, true, true, true, true, true, true, false, false, false, false, false, false, false, false, false, false, false, false, false, false, false, false] rfl rfl (take_ofW HT_.out HW_.out (by kernel_rfl)) (fun _ _ _ h => h) (Or.inl ⟨by rfl, ?_⟩) hHeld ?_ ?_
        rotate_left
        ·
         rintro w' ⟨s0, s1, s2, s3, s4, s5, s6, s7, s8, s9, s10, s11, s12, s13⟩
         go_simp
         with_reducible rfl
        rotate_left
        ·
         simp only [Act.put, List.setIfInBounds_toArray, List.set_cons_zero, List.set_cons_succ, i64_w, i32_w]
         rfl
        refine take_ (i := 14) (N := some 26) (v := ?_) (a' := ?_) #[true, true, true, true, true, true, true, true, true, true, true, true, true, true, true, false, false, false, false, false, false, false, false, false, false, false, false, false, false, false] rfl rfl (take_ofW HT_.out HW_.out (by kernel_rfl)) (fun _ _ _ h => h) (Or.inl ⟨by rfl, ?_⟩) hHeld ?_ ?_
        rotate_left
        ·
         rintro w' ⟨s0, s1, s2, s3, s4, s5, s6, s7, s8, s9, s10, s11, s12, s13⟩
         go_simp
         with_reducible rfl
        rotate_left
        ·
         simp only [Act.put, List.setIfInBounds_toArray, List.set_cons_zero, List.set_cons_succ, i64_w, i32_w]
         rfl
        refine take_ (i := 16) (N := some 28) (v := ?_) (a' := ?_) #[true, true, true, true, true, true, true, true, true, true, true, true, true, true, true, false, true, false, false, false, false, false, false, false, false, false, false, false, false, false] rfl rfl (take_ofW HT_.out HW_.out (by kernel_rfl)) (fun _ _ _ h => h) (Or.inl ⟨by rfl, ?_⟩) hHeld ?_ ?_
        rotate_left
        ·
         rintro w' ⟨s0, s1, s2, s3, s4, s5, s6, s7, s8, s9, s10, s11, s12, s13⟩
         go_simp
         with_reducible rfl
        rotate_left
        ·
         simp only [Act.put, List.setIfInBounds_toArray, List.set_cons_zero, List.set_cons_succ, i64_w, i32_w]
         rfl
        refine take_ (i := 17) (N := some 29) (v := ?_) (a' := ?_) #[true, true, true, true, true, true, true, true, true, true, true, true, true, true, true, false, true, true, false, false, false, false, false, false, false, false, false, false, false, false] rfl rfl (take_ofW HT_.out HW_.out (by kernel_rfl)) (fun _ _ _ h => h) (Or.inl ⟨by rfl, ?_⟩) hHeld ?_ ?_
        rotate_left
        ·
         rintro w' ⟨s0, s1, s2, s3, s4, s5, s6, s7, s8, s9, s10, s11, s12, s13⟩
         go_simp
         with_reducible rfl
        rotate_left
        ·
         simp only [Act.put, List.setIfInBounds_toArray, List.set_cons_zero, List.set_cons_succ, i64_w, i32_w]
         rfl
        refine one_ (i := 15) (N := some 27) #[true, true, true, true, true, true, true, true, true, true, true, true, true, true, true, true, true, true, false, false, false, false, false, false, false, false, false, false, false, false] rfl rfl (one_of HT_.out (by kernel_rfl)) (by decide) (fun K hK => ?_)
        refine goes_ Tryz.func11 (by kernel_rfl) rfl #[.agg #[.int .i64 a0_0, .int .i64 a0_1, .int .i64 a0_2, .int .i64 a0_3, .int .i64 a0_4, .slice A0_5 l0_5.length c0_5, .slice A0_6 l0_6.length c0_6], .agg #[.int .i64 a1_0, .int .i64 a1_1, .int .i64 a1_2, .int .i64 a1_3, .int .i64 a1_4, .slice A1_5 l1_5.length c1_5, .slice A1_6 l1_6.length c1_6]] (by rfl) rfl rfl (by (try simp only [List.map_toArray, List.map_cons, List.map_nil]); first | done | rfl | (simp only [List.length_drop, List.length_take]; rfl)) ?_
        with_reducible refine (conf_Same.calls kj2 a0_0 a0_1 a0_2 a0_3 a0_4 _ _ l0_5 _ _ l0_6 a1_0 a1_1 a1_2 a1_3 a1_4 _ _ l1_5 _ _ l1_6 t249 _ ?side1 ?side2 ?side3 ?side4 ?side5 ?side6 ?side7 ?side8 A26.out).mono ?_
        (case side1 => repeat (first | exact (Kd.C_below HR0_5.out HB.out) | (with_reducible refine Kd.C_alloc ?_ _) | (with_reducible refine Kd.C_drewN ?_ _) | (with_reducible refine Kd.C_drew ?_)))
        (case side2 => exact HC0_5.out)
        (case side3 => repeat (first | exact (Kd.C_below HR0_6.out HB.out) | (with_reducible refine Kd.C_alloc ?_ _) | (with_reducible refine Kd.C_drewN ?_ _) | (with_reducible refine Kd.C_drew ?_)))
        (case side4 => exact HC0_6.out)
        (case side5 => repeat (first | exact (Kd.C_below HR1_5.out HB.out) | (with_reducible refine Kd.C_alloc ?_ _) | (with_reducible refine Kd.C_drewN ?_ _) | (with_reducible refine Kd.C_drew ?_)))
        (case side6 => exact HC1_5.out)
        (case side7 => repeat (first | exact (Kd.C_below HR1_6.out HB.out) | (with_reducible refine Kd.C_alloc ?_ _) | (with_reducible refine Kd.C_drewN ?_ _) | (with_reducible refine Kd.C_drew ?_)))
        (case side8 => exact HC1_6.out)
        rintro e w37 ⟨rfl, hb⟩
        refine ⟨_, rfl, ?_⟩
        have n0_ := As0.mk (blk_below (g := gb240) (o := .cells #[.int .i64 a0_0, .int .i64 a0_1, .int .i64 a0_2, .int .i64 a0_3, .int .i64 a0_4, .slice A0_5 l0_5.length c0_5, .slice A0_6 l0_6.length c0_6] 25 (0, 0)) (by (with_reducible repeat (first | refine bkn ?_ _ | refine bkd ?_ | refine bka ?_ _)); exact BK240.out) hb)
        have n1_ := As0.mk (blk_below (g := gb241) (o := .cells #[.int .i64 a1_0, .int .i64 a1_1, .int .i64 a1_2, .int .i64 a1_3, .int .i64 a1_4, .slice A1_5 l1_5.length c1_5, .slice A1_6 l1_6.length c1_6] 25 (0, 0)) (by (with_reducible repeat (first | refine bkn ?_ _ | refine bkd ?_ | refine bka ?_ _)); exact BK241.out) hb)
        have n2_ := As0.mk (below_step (by repeat (first | (with_reducible first | exact HB.out | apply bla | apply bln | apply bld | refine bls ?_ GE240.out | refine bls ?_ GE241.out) | exact HB.out)) hb)
        clear BK240
        clear BK241
        clear HB
        have BK240 := n0_
        have BK241 := n1_
        have HB := n2_
        clear n0_ n1_ n2_
        (try clear hb)
        (try clear hb2)
        (try clear hk)
        (try clear hi)
        refine hK.out _ _ ⟨(bkc BK240.out 0).trans rfl, (bkc BK240.out 1).trans rfl, (bkc BK240.out 2).trans rfl, (bkc BK240.out 3).trans rfl, (bkc BK240.out 4).trans rfl, (bkc BK240.out 5).trans rfl, (bkc BK240.out 6).trans rfl, (bkc BK241.out 0).trans rfl, (bkc BK241.out 1).trans rfl, (bkc BK241.out 2).trans rfl, (bkc BK241.out 3).trans rfl, (bkc BK241.out 4).trans rfl, (bkc BK241.out 5).trans rfl, (bkc BK241.out 6).trans rfl⟩ (fun hHeld => ?_)
        clear hK K
        refine norm_ (a' := ?_) ?_ ?_
        rotate_left
        ·
         show Act.put _ (some 27) _ = _
         simp only [Act.put, List.setIfInBounds_toArray, List.set_cons_zero, List.set_cons_succ, i64_w, i32_w]
         rfl
        refine one_ (i := 18) (N := some 30) #[true, true, true, true, true, true, true, true, true, true, true, true, true, true, true, true, true, true, true, false, false, false, false, false, false, false, false, false, false, false] rfl rfl (one_of HT_.out (by kernel_rfl)) (by decide) (fun K hK => ?_)
        refine goes_ Tryz.func12 (by kernel_rfl) rfl #[.agg #[.int .i64 a0_0, .int .i64 a0_1, .int .i64 a0_2, .int .i64 a0_3, .int .i64 a0_4, .slice A0_5 l0_5.length c0_5, .slice A0_6 l0_6.length c0_6], .agg #[.int .i64 a1_0, .int .i64 a1_1, .int .i64 a1_2, .int .i64 a1_3, .int .i64 a1_4, .slice A1_5 l1_5.length c1_5, .slice A1_6 l1_6.length c1_6]] (by rfl) rfl rfl (by (try simp only [List.map_toArray, List.map_cons, List.map_nil]); first | done | rfl | (simp only [List.length_drop, List.length_take]; rfl)) ?_
        with_reducible refine (sr14_Same.calls kj2 a0_0 a0_1 a0_2 a0_3 a0_4 _ _ l0_5 _ _ l0_6 a1_0 a1_1 a1_2 a1_3 a1_4 _ _ l1_5 _ _ l1_6 t250 _ ?side1 ?side2 ?side3 ?side4 ?side5 ?side6 ?side7 ?side8 A27.out).mono ?_
        (case side1 => repeat (first | exact (Kd.C_below HR0_5.out HB.out) | (with_reducible refine Kd.C_alloc ?_ _) | (with_reducible refine Kd.C_drewN ?_ _) | (with_reducible refine Kd.C_drew ?_)))
        (case side2 => exact HC0_5.out)
        (case side3 => repeat (first | exact (Kd.C_below HR0_6.out HB.out) | (with_reducible refine Kd.C_alloc ?_ _) | (with_reducible refine Kd.C_drewN ?_ _) | (with_reducible refine Kd.C_drew ?_)))
        (case side4 => exact HC0_6.out)
        (case side5 => repeat (first | exact (Kd.C_below HR1_5.out HB.out) | (with_reducible refine Kd.C_alloc ?_ _) | (with_reducible refine Kd.C_drewN ?_ _) | (with_reducible refine Kd.C_drew ?_)))
        (case side6 => exact HC1_5.out)
        (case side7 => repeat (first | exact (Kd.C_below HR1_6.out HB.out) | (with_reducible refine Kd.C_alloc ?_ _) | (with_reducible refine Kd.C_drewN ?_ _) | (with_reducible refine Kd.C_drew ?_)))
        (case side8 => exact HC1_6.out)
        rintro e w38 ⟨rfl, hb⟩
        refine ⟨_, rfl, ?_⟩
        have n0_ := As0.mk (blk_below (g := gb240) (o := .cells #[.int .i64 a0_0, .int .i64 a0_1, .int .i64 a0_2, .int .i64 a0_3, .int .i64 a0_4, .slice A0_5 l0_5.length c0_5, .slice A0_6 l0_6.length c0_6] 25 (0, 0)) (by (with_reducible repeat (first | refine bkn ?_ _ | refine bkd ?_ | refine bka ?_ _)); exact BK240.out) hb)
        have n1_ := As0.mk (blk_below (g := gb241) (o := .cells #[.int .i64 a1_0, .int .i64 a1_1, .int .i64 a1_2, .int .i64 a1_3, .int .i64 a1_4, .slice A1_5 l1_5.length c1_5, .slice A1_6 l1_6.length c1_6] 25 (0, 0)) (by (with_reducible repeat (first | refine bkn ?_ _ | refine bkd ?_ | refine bka ?_ _)); exact BK241.out) hb)
        have n2_ := As0.mk (below_step (by repeat (first | (with_reducible first | exact HB.out | apply bla | apply bln | apply bld | refine bls ?_ GE240.out | refine bls ?_ GE241.out) | exact HB.out)) hb)
        clear BK240
        clear BK241
        clear HB
        have BK240 := n0_
        have BK241 := n1_
        have HB := n2_
        clear n0_ n1_ n2_
        (try clear hb)
        (try clear hb2)
        (try clear hk)
        (try clear hi)
        refine hK.out _ _ ⟨(bkc BK240.out 0).trans rfl, (bkc BK240.out 1).trans rfl, (bkc BK240.out 2).trans rfl, (bkc BK240.out 3).trans rfl, (bkc BK240.out 4).trans rfl, (bkc BK240.out 5).trans rfl, (bkc BK240.out 6).trans rfl, (bkc BK241.out 0).trans rfl, (bkc BK241.out 1).trans rfl, (bkc BK241.out 2).trans rfl, (bkc BK241.out 3).trans rfl, (bkc BK241.out 4).trans rfl, (bkc BK241.out 5).trans rfl, (bkc BK241.out 6).trans rfl⟩ (fun hHeld => ?_)
        clear hK K
        refine norm_ (a' := ?_) ?_ ?_
        rotate_left
        ·
         show Act.put _ (some 30) _ = _
         simp only [Act.put, List.setIfInBounds_toArray, List.set_cons_zero, List.set_cons_succ, i64_w, i32_w]
         rfl
        refine pure_ (i := 19) (N := some 31) (v := ?_) (a' := ?_) #[true, true, true, true, true, true, true, true, true, true, true, true, true, true, true, true, true, true, true, true, false, false, false, false, false, false, false, false, false, false] rfl rfl (any_of HT_.out (by kernel_rfl)) (fun _ _ _ h => h) (Or.inl ⟨by rfl, ?_⟩) ?_ ?_
        rotate_left
        ·
         intro w'
         go_simp
         with_reducible rfl
        rotate_left
        ·
         simp only [Act.put, List.setIfInBounds_toArray, List.set_cons_zero, List.set_cons_succ, i64_w, i32_w]
         rfl
        refine pure_ (i := 20) (N := some 32) (v := ?_) (a' := ?_) #[true, true, true, true, true, true, true, true, true, true, true, true, true, true, true, true, true, true, true, true, true, false, false, false, false, false, false, false, false, false] rfl rfl (any_of HT_.out (by kernel_rfl)) (fun _ _ _ h => h) (Or.inl ⟨by rfl, ?_⟩) ?_ ?_
        rotate_left
        ·
         intro w'
         go_simp
         with_reducible rfl
        rotate_left
        ·
         simp only [Act.put, List.setIfInBounds_toArray, List.set_cons_zero, List.set_cons_succ, i64_w, i32_w]
         rfl
        refine pure_ (i := 21) (N := some 33) (v := ?_) (a' := ?_) #[true, true, true, true, true, true, true, true, true, true, true, true, true, true, true, true, true, true, true, true, true, true, false, false, false, false, false, false, false, false] rfl rfl (any_of HT_.out (by kernel_rfl)) (fun _ _ _ h => h) (Or.inl ⟨by rfl, ?_⟩) ?_ ?_
        rotate_left
        ·
         intro w'
         go_simp
         with_reducible rfl
        rotate_left
        ·
         simp only [Act.put, List.setIfInBounds_toArray, List.set_cons_zero, List.set_cons_succ, i64_w, i32_w]
         rfl
        refine take_ (i := 22) (N := some 34) (v := ?_) (a' := ?_) #[true, true, true, true, true, true, true, true, true, true, true, true, true, true, true, true, true, true, true, true, true, true, true, false, false, false, false, false, false, false] rfl rfl (take_ofW HT_.out HW_.out (by kernel_rfl)) (fun _ _ _ h => h) (Or.inl ⟨by rfl, ?_⟩) hHeld ?_ ?_
        rotate_left
        ·
         rintro w' ⟨s0, s1, s2, s3, s4, s5, s6, s7, s8, s9, s10, s11, s12, s13⟩
         go_simp
         with_reducible rfl
        rotate_left
        ·
         simp only [Act.put, List.setIfInBounds_toArray, List.set_cons_zero, List.set_cons_succ, i64_w, i32_w]
         rfl
        refine take_ (i := 23) (N := some 35) (v := ?_) (a' := ?_) #[true, true, true, true, true, true, true, true, true, true, true, true, true, true, true, true, true, true, true, true, true, true, true, true, false, false, false, false, false, false] rfl rfl (take_ofW HT_.out HW_.out (by kernel_rfl)) (fun _ _ _ h => h) (Or.inl ⟨by rfl, ?_⟩) hHeld ?_ ?_
        rotate_left
        ·
         rintro w' ⟨s0, s1, s2, s3, s4, s5, s6, s7, s8, s9, s10, s11, s12, s13⟩
         go_simp
         with_reducible rfl
        rotate_left
        ·
         simp only [Act.put, List.setIfInBounds_toArray, List.set_cons_zero, List.set_cons_succ, i64_w, i32_w]
         rfl
        refine one_ (i := 24) (N := some 36) #[true, true, true, true, true, true, true, true, true, true, true, true, true, true, true, true, true, true, true, true, true, true, true, true, true, false, false, false, false, false] rfl rfl (one_of HT_.out (by kernel_rfl)) (by decide) (fun K hK => ?_)
        refine goes_ Tryz.func11 (by kernel_rfl) rfl #[.agg #[.int .i64 a0_0, .int .i64 a0_1, .int .i64 a0_2, .int .i64 a0_3, .int .i64 a0_4, .slice A0_5 l0_5.length c0_5, .slice A0_6 l0_6.length c0_6], .agg #[.int .i64 a0_0, .int .i64 a0_1, .int .i64 a0_2, .int .i64 a0_3, .int .i64 a0_4, .slice A0_5 l0_5.length c0_5, .slice A0_6 l0_6.length c0_6]] (by rfl) rfl rfl (by (try simp only [List.map_toArray, List.map_cons, List.map_nil]); first | done | rfl | (simp only [List.length_drop, List.length_take]; rfl)) ?_
        with_reducible refine (conf_Same.calls kj2 a0_0 a0_1 a0_2 a0_3 a0_4 _ _ l0_5 _ _ l0_6 a0_0 a0_1 a0_2 a0_3 a0_4 _ _ l0_5 _ _ l0_6 true _ ?side1 ?side2 ?side3 ?side4 ?side5 ?side6 ?side7 ?side8 A29.out).mono ?_
        (case side1 => repeat (first | exact (Kd.C_below HR0_5.out HB.out) | (with_reducible refine Kd.C_alloc ?_ _) | (with_reducible refine Kd.C_drewN ?_ _) | (with_reducible refine Kd.C_drew ?_)))
        (case side2 => exact HC0_5.out)
        (case side3 => repeat (first | exact (Kd.C_below HR0_6.out HB.out) | (with_reducible refine Kd.C_alloc ?_ _) | (with_reducible refine Kd.C_drewN ?_ _) | (with_reducible refine Kd.C_drew ?_)))
        (case side4 => exact HC0_6.out)
        (case side5 => repeat (first | exact (Kd.C_below HR0_5.out HB.out) | (with_reducible refine Kd.C_alloc ?_ _) | (with_reducible refine Kd.C_drewN ?_ _) | (with_reducible refine Kd.C_drew ?_)))
        (case side6 => exact HC0_5.out)
        (case side7 => repeat (first | exact (Kd.C_below HR0_6.out HB.out) | (with_reducible refine Kd.C_alloc ?_ _) | (with_reducible refine Kd.C_drewN ?_ _) | (with_reducible refine Kd.C_drew ?_)))
        (case side8 => exact HC0_6.out)
        rintro e w39 ⟨rfl, hb⟩
        refine ⟨_, rfl, ?_⟩
        have n0_ := As0.mk (blk_below (g := gb240) (o := .cells #[.int .i64 a0_0, .int .i64 a0_1, .int .i64 a0_2, .int .i64 a0_3, .int .i64 a0_4, .slice A0_5 l0_5.length c0_5, .slice A0_6 l0_6.length c0_6] 25 (0, 0)) (by (with_reducible repeat (first | refine bkn ?_ _ | refine bkd ?_ | refine bka ?_ _)); exact BK240.out) hb)
        have n1_ := As0.mk (blk_below (g := gb241) (o := .cells #[.int .i64 a1_0, .int .i64 a1_1, .int .i64 a1_2, .int .i64 a1_3, .int .i64 a1_4, .slice A1_5 l1_5.length c1_5, .slice A1_6 l1_6.length c1_6] 25 (0, 0)) (by (with_reducible repeat (first | refine bkn ?_ _ | refine bkd ?_ | refine bka ?_ _)); exact BK241.out) hb)
        have n2_ := As0.mk (below_step (by repeat (first | (with_reducible first | exact HB.out | apply bla | apply bln | apply bld | refine bls ?_ GE240.out | refine bls ?_ GE241.out) | exact HB.out)) hb)
        clear BK240
        clear BK241
        clear HB
        have BK240 := n0_
        have BK241 := n1_
        have HB := n2_
        clear n0_ n1_ n2_
        (try clear hb)
        (try clear hb2)
        (try clear hk)
        (try clear hi)
        refine hK.out _ _ ⟨(bkc BK240.out 0).trans rfl, (bkc BK240.out 1).trans rfl, (bkc BK240.out 2).trans rfl, (bkc BK240.out 3).trans rfl, (bkc BK240.out 4).trans rfl, (bkc BK240.out 5).trans rfl, (bkc BK240.out 6).trans rfl, (bkc BK241.out 0).trans rfl, (bkc BK241.out 1).trans rfl, (bkc BK241.out 2).trans rfl, (bkc BK241.out 3).trans rfl, (bkc BK241.out 4).trans rfl, (bkc BK241.out 5).trans rfl, (bkc BK241.out 6).trans rfl⟩ (fun hHeld => ?_)
        clear hK K
        refine norm_ (a' := ?_) ?_ ?_
        rotate_left
        ·
         show Act.put _ (some 36) _ = _
         simp only [Act.put, List.setIfInBounds_toArray, List.set_cons_zero, List.set_cons_succ, i64_w, i32_w]
         rfl
        refine pure_ (i := 25) (N := some 37) (v := ?_) (a' := ?_) #[true, true, true, true, true, true, true, true, true, true, true, true, true, true, true, true, true, true, true, true, true, true, true, true, true, true, false, false, false, false] rfl rfl (any_of HT_.out (by kernel_rfl)) (fun _ _ _ h => h) (Or.inl ⟨by rfl, ?_⟩) ?_ ?_
        rotate_left
        ·
         intro w'
         go_simp
         with_reducible rfl
        rotate_left
        ·
         simp only [Act.put, List.setIfInBounds_toArray, List.set_cons_zero, List.set_cons_succ, i64_w, i32_w]
         rfl
        refine pure_ (i := 26) (N := some 38) (v := ?_) (a' := ?_) #[true, true, true, true, true, true, true, true, true, true, true, true, true, true, true, true, true, true, true, true, true, true, true, true, true, true, true, false, false, false] rfl rfl (any_of HT_.out (by kernel_rfl)) (fun _ _ _ h => h) (Or.inl ⟨by rfl, ?_⟩) ?_ ?_
        rotate_left
        ·
         intro w'
         go_simp
         with_reducible rfl
        rotate_left
        ·
         simp only [Act.put, List.setIfInBounds_toArray, List.set_cons_zero, List.set_cons_succ, i64_w, i32_w]
         rfl
        refine one_ (i := 27) (N := some 39) #[true, true, true, true, true, true, true, true, true, true, true, true, true, true, true, true, true, true, true, true, true, true, true, true, true, true, true, true, false, false] rfl rfl (one_of HT_.out (by kernel_rfl)) (by decide) (fun K hK => ?_)
        refine goes_ Tryz.func6 (by kernel_rfl) rfl #[] (by rfl) rfl rfl (by (try simp only [List.map_toArray, List.map_cons, List.map_nil]); first | done | rfl | (simp only [List.length_drop, List.length_take]; rfl)) ?_
        with_reducible refine (sl14_works.calls kj2  t252 _ ?side1 A31.out).mono ?_
        (case side1 => exact Laid.below HLD.out (by repeat (first | (with_reducible first | exact HB.out | apply bla | apply bln | apply bld | refine bls ?_ GE240.out | refine bls ?_ GE241.out) | exact HB.out)))
        rintro e w40 ⟨rfl, hb⟩
        refine ⟨_, rfl, ?_⟩
        have n0_ := As0.mk (blk_below (g := gb240) (o := .cells #[.int .i64 a0_0, .int .i64 a0_1, .int .i64 a0_2, .int .i64 a0_3, .int .i64 a0_4, .slice A0_5 l0_5.length c0_5, .slice A0_6 l0_6.length c0_6] 25 (0, 0)) (by (with_reducible repeat (first | refine bkn ?_ _ | refine bkd ?_ | refine bka ?_ _)); exact BK240.out) hb)
        have n1_ := As0.mk (blk_below (g := gb241) (o := .cells #[.int .i64 a1_0, .int .i64 a1_1, .int .i64 a1_2, .int .i64 a1_3, .int .i64 a1_4, .slice A1_5 l1_5.length c1_5, .slice A1_6 l1_6.length c1_6] 25 (0, 0)) (by (with_reducible repeat (first | refine bkn ?_ _ | refine bkd ?_ | refine bka ?_ _)); exact BK241.out) hb)
        have n2_ := As0.mk (below_step (by repeat (first | (with_reducible first | exact HB.out | apply bla | apply bln | apply bld | refine bls ?_ GE240.out | refine bls ?_ GE241.out) | exact HB.out)) hb)
        clear BK240
        clear BK241
        clear HB
        have BK240 := n0_
        have BK241 := n1_
        have HB := n2_
        clear n0_ n1_ n2_
        (try clear hb)
        (try clear hb2)
        (try clear hk)
        (try clear hi)
        refine hK.out _ _ ⟨(bkc BK240.out 0).trans rfl, (bkc BK240.out 1).trans rfl, (bkc BK240.out 2).trans rfl, (bkc BK240.out 3).trans rfl, (bkc BK240.out 4).trans rfl, (bkc BK240.out 5).trans rfl, (bkc BK240.out 6).trans rfl, (bkc BK241.out 0).trans rfl, (bkc BK241.out 1).trans rfl, (bkc BK241.out 2).trans rfl, (bkc BK241.out 3).trans rfl, (bkc BK241.out 4).trans rfl, (bkc BK241.out 5).trans rfl, (bkc BK241.out 6).trans rfl⟩ (fun hHeld => ?_)
        clear hK K
        refine norm_ (a' := ?_) ?_ ?_
        rotate_left
        ·
         show Act.put _ (some 39) _ = _
         simp only [Act.put, List.setIfInBounds_toArray, List.set_cons_zero, List.set_cons_succ, i64_w, i32_w]
         rfl
        refine pure_ (i := 28) (N := some 40) (v := ?_) (a' := ?_) #[true, true, true, true, true, true, true, true, true, true, true, true, true, true, true, true, true, true, true, true, true, true, true, true, true, true, true, true, true, false] rfl rfl (any_of HT_.out (by kernel_rfl)) (fun _ _ _ h => h) (Or.inl ⟨by rfl, ?_⟩) ?_ ?_
        rotate_left
        ·
         intro w'
         go_simp
         with_reducible rfl
        rotate_left
        ·
         simp only [Act.put, List.setIfInBounds_toArray, List.set_cons_zero, List.set_cons_succ, i64_w, i32_w]
         rfl
        refine pure_ (i := 29) (N := some 4) (v := ?_) (a' := ?_) #[true, true, true, true, true, true, true, true, true, true, true, true, true, true, true, true, true, true, true, true, true, true, true, true, true, true, true, true, true, true] rfl rfl (any_of HT_.out (by kernel_rfl)) (fun _ _ _ h => h) (Or.inl ⟨by rfl, ?_⟩) ?_ ?_
        rotate_left
        ·
         intro w'
         go_simp
         with_reducible rfl
        rotate_left
        ·
         simp only [Act.put, List.setIfInBounds_toArray, List.set_cons_zero, List.set_cons_succ, i64_w, i32_w]
         rfl
        refine done_ (done_of HT_.out (by kernel_rfl)) ?_
        try go_wp2
        go_ret
        exact ⟨by first | rfl | (simp [errW_none, errW_some] <;> rfl) | (simp [*, errW_none, errW_some] <;> rfl), by repeat (first | (with_reducible first | exact HB.out | apply bla | apply bln | apply bld | refine bls ?_ GE240.out | refine bls ?_ GE241.out) | exact HB.out)⟩
       ·
        replace c30 := Bool.eq_false_iff.mpr c30
        subst c30
        have H1 : (some false) = some r := by rw [if_neg (show ¬ (false = true) by decide)] at H; exact H
        exact absurd (Option.some.inj H1) (by rw [hrt.out]; decide)
      ·
       rw [if_neg c28] at H
       exact absurd (Option.some.inj H) (by rw [hrt.out]; decide)
     ·
      rw [if_neg c25] at H
      exact absurd (Option.some.inj H) (by rw [hrt.out]; decide)
    ·
     rw [if_neg c22] at H
     exact absurd (Option.some.inj H) (by rw [hrt.out]; decide)
end Go.Proofs.YtmppkcdphgelcaaGreatDoor.PConf
set_option linter.unusedVariables false
set_option linter.unusedSimpArgs false
namespace Go.Proofs.YtmppkcdphgelcaaGreatDoor.PConf
open Go.RowKit Go.Proofs.YtmppkcdphgelcaaGreatDoor.W.PrintWords Go.Lib
def gb (s : ByteArray) (i : Nat) : Nat := (s.get! i).toNat
theorem gb_lt (s : ByteArray) (i : Nat) : gb s i < 256 := UInt8.toNat_lt _
theorem bt_gb (s : ByteArray) (i : Nat) : bt s (i : Int) = (gb s i : Int) := by
 unfold bt gb
 split
 ·
  rename_i h
  have h' : i < s.size := h
  cases s with
  | mk d =>
   show ((d[i]).toNat : Int) = (d[i]!.toNat : Int)
   rw [getElem!_pos d i h']
 ·
  rename_i h
  have h' : ¬ i < s.size := h
  cases s with
  | mk d =>
   show (0 : Int) = (d[i]!.toNat : Int)
   rw [getElem!_neg d i h']; rfl
theorem wrap_nat (n : Nat) (h : n < 9223372036854775808) : wrap64 (n : Int) = n := by unfold wrap64; omega
def mOf (c : Nat) : Nat := if 194 ≤ c ∧ c < 224 then 2 else if 224 ≤ c ∧ c < 240 then 3 else if 240 ≤ c ∧ c < 245 then 4 else 0
def sizeN (n b0 b1 b2 b3 : Nat) : Nat :=
 if b0 < 128 then 1 else if n < mOf b0 then 0
 else if 1 < mOf b0 ∧ (b1 < 128 ∨ 191 < b1) then 0 else if 2 < mOf b0 ∧ (b2 < 128 ∨ 191 < b2) then 0 else if 3 < mOf b0 ∧ (b3 < 128 ∨ 191 < b3) then 0
 else if 2 < mOf b0 ∧ (b0 = 224 ∧ b1 < 160 ∨ b0 = 237 ∧ 159 < b1 ∨ b0 = 240 ∧ b1 < 144 ∨ b0 = 244 ∧ 143 < b1) then 0 else mOf b0
theorem Sj0 (k : Nat) (s : ByteArray) (c m : Int) (b : Bool) : sr04_Size.j0 (k + 1) s c m b = if b = true then sr04_Size.j1 k s c 2 else sr04_Size.j1 k s c m := by rw [sr04_Size.j0]
theorem Sj1 (k : Nat) (s : ByteArray) (c m : Int) : sr04_Size.j1 (k + 1) s c m = if c ≥ 224 then sr04_Size.j2 k s c m (decide (c < 240)) else sr04_Size.j2 k s c m false := by rw [sr04_Size.j1]
theorem Sj2 (k : Nat) (s : ByteArray) (c m : Int) (b : Bool) : sr04_Size.j2 (k + 1) s c m b = if b = true then sr04_Size.j3 k s c 3 else sr04_Size.j3 k s c m := by rw [sr04_Size.j2]
theorem Sj3 (k : Nat) (s : ByteArray) (c m : Int) : sr04_Size.j3 (k + 1) s c m = if c ≥ 240 then sr04_Size.j4 k s c m (decide (c < 245)) else sr04_Size.j4 k s c m false := by rw [sr04_Size.j3]
theorem Sj4 (k : Nat) (s : ByteArray) (c m : Int) (b : Bool) : sr04_Size.j4 (k + 1) s c m b = if b = true then sr04_Size.j5 k s c 4 else sr04_Size.j5 k s c m := by rw [sr04_Size.j4]
theorem chain (k : Nat) (s : ByteArray) (c : Nat) : (if (c : Int) ≥ 194 then sr04_Size.j0 (k + 5 + 1) s c 0 (decide ((c : Int) < 224)) else sr04_Size.j0 (k + 5 + 1) s c 0 false) = sr04_Size.j5 (k + 1) s c (mOf c : Nat) := by
 simp only [Sj0 (k + 5), Sj1 (k + 4), Sj2 (k + 3), Sj3 (k + 2), Sj4 (k + 1), decide_eq_true_eq, Bool.false_eq_true, if_false]
 unfold mOf
 repeat' split
 all_goals first | rfl | (exfalso; omega)
theorem Sl0_yes (k : Nat) (s : ByteArray) (c m i : Nat) (h : i < m) (hs : i < s.size) (hi : i < 9) : sr04_Size.l0 (k + 1) s c m i = if gb s i < 128 ∨ 191 < gb s i then some 0 else sr04_Size.l0 k s c m ((i + 1 : Nat) : Int) := by
 rw [sr04_Size.l0, if_pos (by omega), if_pos (by omega), if_pos (by omega), bt_gb]
 have e : wrap64 ((i : Int) + 1) = ((i + 1 : Nat) : Int) := wrap_nat (i + 1) (by omega)
 rw [e]
 repeat' split
 all_goals first | rfl | (exfalso; omega)
theorem Sl0_no (k : Nat) (s : ByteArray) (c m i : Nat) (h : ¬ i < m) (hs : m ≤ s.size) : sr04_Size.l0 (k + 1) s c m i = some ((if 2 < m ∧ (c = 224 ∧ gb s 1 < 160 ∨ c = 237 ∧ 159 < gb s 1 ∨ c = 240 ∧ gb s 1 < 144 ∨ c = 244 ∧ 143 < gb s 1) then 0 else m : Nat) : Int) := by
 have b1 : bt s 1 = (gb s 1 : Int) := bt_gb s 1
 have w1 : wrap64 (bt s 1) = (gb s 1 : Int) := by rw [b1]; exact wrap_nat _ (by have := gb_lt s 1; omega)
 rw [sr04_Size.l0, if_neg (by omega), w1]
 generalize gb s 1 = g at *
 repeat' split
 all_goals first | rfl | (exfalso; omega) | skip
theorem size_tail (k : Nat) (s : ByteArray) (c m : Nat) (hm : m ≤ 4) (h1 : m ≠ 1) (hs : m ≤ s.size) : sr04_Size.l0 (k + 5) s c m 1 = some ((if 1 < m ∧ (gb s 1 < 128 ∨ 191 < gb s 1) then 0 else if 2 < m ∧ (gb s 2 < 128 ∨ 191 < gb s 2) then 0 else if 3 < m ∧ (gb s 3 < 128 ∨ 191 < gb s 3) then 0
 else if 2 < m ∧ (c = 224 ∧ gb s 1 < 160 ∨ c = 237 ∧ 159 < gb s 1 ∨ c = 240 ∧ gb s 1 < 144 ∨ c = 244 ∧ 143 < gb s 1) then 0 else m : Nat) : Int) := by
 have hmc : m = 0 ∨ m = 2 ∨ m = 3 ∨ m = 4 := by omega
 show sr04_Size.l0 (k + 4 + 1) s c m ((1 : Nat) : Int) = _
 rcases hmc with rfl | rfl | rfl | rfl
 ·
  rw [Sl0_no _ _ _ _ _ (by omega) hs]; simp
 ·
  rw [Sl0_yes _ _ _ _ _ (by omega) (by omega) (by omega), Sl0_no (k + 3) _ _ _ _ (by omega) hs]
  try simp only [Nat.reduceAdd]
  repeat' split
  all_goals first | rfl | (exfalso; omega)
 ·
  rw [Sl0_yes _ _ _ _ _ (by omega) (by omega) (by omega), Sl0_yes (k + 3) _ _ _ _ (by omega) (by omega) (by omega), Sl0_no (k + 2) _ _ _ _ (by omega) hs]
  try simp only [Nat.reduceAdd]
  repeat' split
  all_goals first | rfl | (exfalso; omega)
 ·
  rw [Sl0_yes _ _ _ _ _ (by omega) (by omega) (by omega), Sl0_yes (k + 3) _ _ _ _ (by omega) (by omega) (by omega), Sl0_yes (k + 2) _ _ _ _ (by omega) (by omega) (by omega), Sl0_no (k + 1) _ _ _ _ (by omega) hs]
  try simp only [Nat.reduceAdd]
  repeat' split
  all_goals first | rfl | (exfalso; omega)
theorem mOf_le (c : Nat) : mOf c ≤ 4 ∧ mOf c ≠ 1 := by
 unfold mOf
 repeat' split
 all_goals omega
theorem ref_size (k : Nat) (s : ByteArray) (hs : 0 < s.size) : sr04_Size.f (k + 12) s = some ((sizeN s.size (gb s 0) (gb s 1) (gb s 2) (gb s 3) : Nat) : Int) := by
 have b0 : bt s 0 = (gb s 0 : Int) := bt_gb s 0
 have w0 : wrap64 (bt s 0) = (gb s 0 : Int) := by rw [b0]; exact wrap_nat _ (by have := gb_lt s 0; omega)
 unfold sr04_Size.f sizeN
 rw [if_pos (by omega), w0]
 by_cases h : gb s 0 < 128
 ·
  rw [if_pos (by omega), if_pos h]; rfl
 ·
  rw [if_neg (by omega), if_neg h, chain (k + 6), sr04_Size.j5]
  by_cases h2 : s.size < mOf (gb s 0)
  ·
   rw [if_pos (by omega), if_pos h2]; rfl
  ·
   rw [if_neg (by omega), if_neg h2]
   exact size_tail (k + 1) s _ _ (mOf_le _).1 (mOf_le _).2 (by omega)
set_option maxHeartbeats 1000000 in
theorem size_dec (n b0 b1 b2 b3 : Nat) (hn : 1 ≤ n) (h0 : b0 < 256) (h1 : b1 < 256) (h2 : b2 < 256) (h3 : b3 < 256) :
  (sizeN n b0 b1 b2 b3 = 0 ∧ decodeN n b0 b1 b2 b3 = (65533, 1)) ∨ (sizeN n b0 b1 b2 b3 = 1 ∧ b0 < 128 ∧ decodeN n b0 b1 b2 b3 = (b0, 1)) ∨
  (sizeN n b0 b1 b2 b3 = 2 ∧ 2 ≤ n ∧ 194 ≤ b0 ∧ 128 ≤ b1 ∧ decodeN n b0 b1 b2 b3 = ((b0 - 192) * 64 + b1 - 128, 2)) ∨ (sizeN n b0 b1 b2 b3 = 3 ∧ 3 ≤ n ∧ 224 ≤ b0 ∧ 128 ≤ b1 ∧ 128 ≤ b2 ∧ decodeN n b0 b1 b2 b3 = ((b0 - 224) * 4096 + (b1 - 128) * 64 + b2 - 128, 3)) ∨
  (sizeN n b0 b1 b2 b3 = 4 ∧ 4 ≤ n ∧ 240 ≤ b0 ∧ 128 ≤ b1 ∧ 128 ≤ b2 ∧ 128 ≤ b3 ∧ decodeN n b0 b1 b2 b3 = ((b0 - 240) * 262144 + (b1 - 128) * 4096 + (b2 - 128) * 64 + b3 - 128, 4)) := by
 by_cases c1 : b0 < 128
 ·
  unfold sizeN decodeN
  rw [if_pos c1, if_pos c1]; exact .inr (.inl ⟨rfl, c1, rfl⟩)
 ·
  by_cases c2 : b0 < 194
  ·
   have hm : mOf b0 = 0 := by
    unfold mOf
    repeat' split
    all_goals omega
   refine .inl ⟨?_, ?_⟩
   ·
    unfold sizeN; rw [hm]; repeat' split
    all_goals first | rfl | omega
   ·
    unfold decodeN
    repeat' split
    all_goals first | rfl | (exfalso; omega)
  ·
   by_cases c3 : b0 < 224
   ·
    have hm : mOf b0 = 2 := by
     unfold mOf
     repeat' split
     all_goals omega
    by_cases hg : 2 ≤ n ∧ 128 ≤ b1 ∧ b1 ≤ 191
    ·
     refine .inr (.inr (.inl ⟨?_, hg.1, by omega, hg.2.1, ?_⟩))
     ·
      unfold sizeN; rw [hm]; repeat' split
      all_goals first | rfl | omega
     ·
      unfold decodeN
      repeat' split
      all_goals first | (exfalso; omega) | (apply Prod.ext <;> simp only <;> omega)
    ·
     refine .inl ⟨?_, ?_⟩
     ·
      unfold sizeN; rw [hm]; repeat' split
      all_goals first | rfl | omega
     ·
      unfold decodeN
      repeat' split
      all_goals first | rfl | (exfalso; omega)
   ·
    by_cases c4 : b0 < 240
    ·
     have hm : mOf b0 = 3 := by
      unfold mOf
      repeat' split
      all_goals omega
     by_cases hg : 3 ≤ n ∧ 128 ≤ b1 ∧ b1 ≤ 191 ∧ 128 ≤ b2 ∧ b2 ≤ 191 ∧ ¬ (b0 = 224 ∧ b1 < 160) ∧ ¬ (b0 = 237 ∧ 159 < b1)
     ·
      refine .inr (.inr (.inr (.inl ⟨?_, hg.1, by omega, by omega, by omega, ?_⟩)))
      ·
       unfold sizeN; rw [hm]; repeat' split
       all_goals first | rfl | omega
      ·
       unfold decodeN
       repeat' split
       all_goals first | (exfalso; omega) | (apply Prod.ext <;> simp only <;> omega)
     ·
      refine .inl ⟨?_, ?_⟩
      ·
       unfold sizeN; rw [hm]; repeat' split
       all_goals first | rfl | omega
      ·
       unfold decodeN
       repeat' split
       all_goals first | rfl | (exfalso; omega)
    ·
     by_cases c5 : b0 < 245
     ·
      have hm : mOf b0 = 4 := by
       unfold mOf
       repeat' split
       all_goals omega
      by_cases hg : 4 ≤ n ∧ 128 ≤ b1 ∧ b1 ≤ 191 ∧ 128 ≤ b2 ∧ b2 ≤ 191 ∧ 128 ≤ b3 ∧ b3 ≤ 191 ∧ ¬ (b0 = 240 ∧ b1 < 144) ∧ ¬ (b0 = 244 ∧ 143 < b1)
      ·
       refine .inr (.inr (.inr (.inr ⟨?_, hg.1, by omega, by omega, by omega, by omega, ?_⟩)))
       ·
        unfold sizeN; rw [hm]; repeat' split
        all_goals first | rfl | omega
       ·
        unfold decodeN
        repeat' split
        all_goals first | (exfalso; omega) | (apply Prod.ext <;> simp only <;> omega)
      ·
       refine .inl ⟨?_, ?_⟩
       ·
        unfold sizeN; rw [hm]; repeat' split
        all_goals first | rfl | omega
       ·
        unfold decodeN
        repeat' split
        all_goals first | rfl | (exfalso; omega)
     ·
      have hm : mOf b0 = 0 := by
       unfold mOf
       repeat' split
       all_goals omega
      refine .inl ⟨?_, ?_⟩
      ·
       unfold sizeN; rw [hm]; repeat' split
       all_goals first | rfl | omega
      ·
       unfold decodeN
       repeat' split
       all_goals first | rfl | (exfalso; omega)
end Go.Proofs.YtmppkcdphgelcaaGreatDoor.PConf
