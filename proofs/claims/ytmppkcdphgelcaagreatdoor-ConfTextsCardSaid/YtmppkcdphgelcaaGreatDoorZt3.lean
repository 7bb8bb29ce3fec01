/- A part of the proof: texts of this seat, joined. -/
import Derived.BigRegion
import Derived.Deep.AppendLies
import Derived.Deep.DrawnRows
import Derived.Deep.RegionHeld3
import Derived.Deep.RegionLaw
import Derived.Lib.AtoiAllCases
import Derived.WalkSpells
import Derived.Test.YtmppkcdphgelcaaGreatDoorZt1
import Derived.Test.YtmppkcdphgelcaaGreatDoorZt2
namespace Go.Proofs.YtmppkcdphgelcaaGreatDoor.PConf
open Go.RowKit Go.Proofs.YtmppkcdphgelcaaGreatDoor.W.PrintWords Go.Proofs.YtmppkcdphgelcaaGreatDoor.W.PrintLast Go.Proofs.YtmppkcdphgelcaaGreatDoor.W.PrintMore
attribute [local go_sem] max2_int min2_int max_two min_two max_three min_three max_four min_four   -- for this text's walks alone
set_option linter.unusedVariables false
set_option linter.unusedSimpArgs false
def conf_workerLine.f (a0_0 : Int) (a0_1 : Int) (a0_2 : Int) (a0_3 : Int) (a0_4 : Int) (l0_5 : List ByteArray) (l0_6 : List (S41)) (a1_0 : Int) (a1_1 : Int) (a1_2 : Int) : Option (ByteArray) := (conf_Number.f a1_0).bind fun t120 => ((conf_Number.f a1_1).bind fun t121 => ((some (([(⟨#[119, 111, 114, 107, 101, 114]⟩ : ByteArray), t120, t121] : List ByteArray) : List ByteArray)).bind fun y122 => ((names_Tell.f l0_5 a1_2).bind fun t125 => (if y122.length + t125.length < 8796093022208 then ((conf_line.f (y122 ++ t125)).bind fun t131 => (some t131)) else (none)))))
def conf_workerLine.T1 : Bool × List (List Nat × List Nat) := (true, [([], []), ([0], [0]), ([1], [1]), ([], []), ([3], [3]), ([4, 2], [4]), ([2, 5], [2, 5]), ([], []), ([7], [7]), ([], []), ([9], [9]), ([8, 10, 5], [8, 10]), ([6, 11, 11], [6, 11]), ([12, 12], [12]), ([13, 13, 0, 1, 2, 3, 4, 5, 6, 7, 8, 9, 10, 11, 12, 13], [13])])
def conf_workerLine.B1 : List Nat := [0, 1, 3, 0, 8, 31, 63, 0, 128, 0, 512, 1983, 4095, 8191, 16383]
theorem conf_workerLine.tab1 : rtab .any (opsOf Tryz.f23 1) = conf_workerLine.T1 := by kernel_rfl
theorem conf_workerLine.bits1 : waitsOk conf_workerLine.T1.2 conf_workerLine.B1 = true := by kernel_rfl
set_option maxHeartbeats 8000000 in
set_option maxRecDepth 100000 in
theorem conf_workerLine.calls (a0_0 : Int) (a0_1 : Int) (a0_2 : Int) (a0_3 : Int) (a0_4 : Int) (A0_5 : Option Addr) (c0_5 : Nat) (l0_5 : List ByteArray) (A0_6 : Option Addr) (c0_6 : Nat) (l0_6 : List (S41)) (a1_0 : Int) (a1_1 : Int) (a1_2 : Int) (r : ByteArray) (w : World) (hr0_5 : Kd.C Kd.string w A0_5 l0_5.length l0_5) (hc0_5 : l0_5.length ≤ c0_5) (hr0_6 : Kd.C k41 w A0_6 l0_6.length l0_6) (hc0_6 : l0_6.length ≤ c0_6) (hL_ : Laid w) (h : conf_workerLine.f a0_0 a0_1 a0_2 a0_3 a0_4 l0_5 l0_6 a1_0 a1_1 a1_2 = some r) :
  Calls Tryz.prog 23 #[.agg #[.int .i64 a0_0, .int .i64 a0_1, .int .i64 a0_2, .int .i64 a0_3, .int .i64 a0_4, .slice A0_5 l0_5.length c0_5, .slice A0_6 l0_6.length c0_6], .agg #[.int .i64 a1_0, .int .i64 a1_1, .int .u64 a1_2]] w fun e w' => e = .returned (.string r) ∧ Below w.heap.size w w' := by
 have hu25 := Tryz.underlying25
 have hu41 := Tryz.underlying41
 have HLD := As0.mk hL_
 clear hL_
 have HR0_5 := As0.mk hr0_5
 have HC0_5 := As0.mk hc0_5
 clear hr0_5 hc0_5
 have HR0_6 := As0.mk hr0_6
 have HC0_6 := As0.mk hc0_6
 clear hr0_6 hc0_6
 have HB := As0.mk (Below.refl w.heap.size w)
 have H : ((conf_Number.f a1_0).bind fun t120 => ((conf_Number.f a1_1).bind fun t121 => ((some (([(⟨#[119, 111, 114, 107, 101, 114]⟩ : ByteArray), t120, t121] : List ByteArray) : List ByteArray)).bind fun y122 => ((names_Tell.f l0_5 a1_2).bind fun t125 => (if y122.length + t125.length < 8796093022208 then ((conf_line.f (y122 ++ t125)).bind fun t131 => (some t131)) else (none)))))) = some r := h
 clear h
 replace H := Option.bind_eq_some_iff.mp H
 obtain ⟨t120, A30, H⟩ := H
 replace H : ((conf_Number.f a1_1).bind fun t121 => ((some (([(⟨#[119, 111, 114, 107, 101, 114]⟩ : ByteArray), t120, t121] : List ByteArray) : List ByteArray)).bind fun y122 => ((names_Tell.f l0_5 a1_2).bind fun t125 => (if y122.length + t125.length < 8796093022208 then ((conf_line.f (y122 ++ t125)).bind fun t131 => (some t131)) else (none))))) = some r := H
 have A3 := As0.mk A30
 clear A30
 replace H := Option.bind_eq_some_iff.mp H
 obtain ⟨t121, A40, H⟩ := H
 replace H : ((some (([(⟨#[119, 111, 114, 107, 101, 114]⟩ : ByteArray), t120, t121] : List ByteArray) : List ByteArray)).bind fun y122 => ((names_Tell.f l0_5 a1_2).bind fun t125 => (if y122.length + t125.length < 8796093022208 then ((conf_line.f (y122 ++ t125)).bind fun t131 => (some t131)) else (none)))) = some r := H
 have A4 := As0.mk A40
 clear A40
 obtain ⟨y122, hy122⟩ : ∃ y_ : List ByteArray, y_ = (([(⟨#[119, 111, 114, 107, 101, 114]⟩ : ByteArray), t120, t121] : List ByteArray)) := ⟨_, rfl⟩
 replace H : ((names_Tell.f l0_5 a1_2).bind fun t125 => (if y122.length + t125.length < 8796093022208 then ((conf_line.f (y122 ++ t125)).bind fun t131 => (some t131)) else (none))) = some r := by first | (rw [hy122]; with_reducible exact H) | (have H2_ := (Option.bind_some _ _).symm.trans H; rw [hy122]; with_reducible exact H2_) | (have H2_ := (Option.bind_some _ _).symm.trans H; with_reducible exact H2_) | with_reducible exact H | (rw [hy122]; exact H) | exact H
 have Ny122 := As0.mk hy122
 clear hy122
 replace H := Option.bind_eq_some_iff.mp H
 obtain ⟨t125, A50, H⟩ := H
 replace H : (if y122.length + t125.length < 8796093022208 then ((conf_line.f (y122 ++ t125)).bind fun t131 => (some t131)) else (none)) = some r := H
 have A5 := As0.mk A50
 clear A50
 by_cases c6 : y122.length + t125.length < 8796093022208
 ·
  rw [if_pos c6] at H
  have LMc6 := As0.mk c6
  clear c6
  obtain ⟨y128, hy128⟩ : ∃ y_ : List ByteArray, y_ = (y122 ++ t125) := ⟨_, rfl⟩
  replace H : ((conf_line.f y128).bind fun t131 => (some t131)) = some r := by first | (rw [hy128]; with_reducible exact H) | (have H2_ := (Option.bind_some _ _).symm.trans H; rw [hy128]; with_reducible exact H2_) | (have H2_ := (Option.bind_some _ _).symm.trans H; with_reducible exact H2_) | with_reducible exact H | (rw [hy128]; exact H) | exact H
  have Ny128 := As0.mk hy128
  clear hy128
  replace H := Option.bind_eq_some_iff.mp H
  obtain ⟨t131, A70, H⟩ := H
  replace H : (some t131) = some r := H
  have A7 := As0.mk A70
  clear A70
  obtain rfl := Option.some.inj H
  go_enter Tryz.func23, Tryz.ntmps23
  try go_wp2_with (first | ((with_reducible refine gate_dst (N := 2) rfl ?_); refine box_event ?hg (N := 2) ?hd (cs := #[.int .i64 a0_0, .int .i64 a0_1, .int .i64 a0_2, .int .i64 a0_3, .int .i64 a0_4, .slice A0_5 l0_5.length c0_5, .slice A0_6 l0_6.length c0_6]) (t := 25) ?hr ?_; (case hd => rfl); (case hg => rfl); (case hr => first | (go_simp; done) | (go_simp; rfl)); intro gb118 hg w8 hbox hb; have n0_ := As0.mk (below_step (by repeat (first | (with_reducible first | exact HB.out | apply bla | apply bln | apply bld) | exact HB.out)) hb); have n1_ := As0.mk (hbox); have n2_ := As0.mk ((by rw [hg]; exact (below_size (by repeat (first | (with_reducible first | exact HB.out | apply bla | apply bln | apply bld) | exact HB.out))) : w.heap.size ≤ gb118)); have n3_ := As0.mk ((by rw [hg]; exact (below_size (by repeat (first | (with_reducible first | exact HB.out | apply bla | apply bln | apply bld) | exact HB.out))) : w.heap.size ≤ gb118)); clear HB; have HB := n0_; have BK118 := n1_; have GW118 := n2_; have GE118 := n3_; clear n0_ n1_ n2_ n3_; clear hb hbox hg) | ((with_reducible refine gate_dst (N := 3) rfl ?_); refine box_event ?hg (N := 3) ?hd (cs := #[.int .i64 a1_0, .int .i64 a1_1, .int .u64 a1_2]) (t := 41) ?hr ?_; (case hd => rfl); (case hg => rfl); (case hr => first | (go_simp; done) | (go_simp; rfl)); intro gb119 hg w9 hbox hb; have n0_ := As0.mk (blk_below (g := gb118) (o := .cells #[.int .i64 a0_0, .int .i64 a0_1, .int .i64 a0_2, .int .i64 a0_3, .int .i64 a0_4, .slice A0_5 l0_5.length c0_5, .slice A0_6 l0_6.length c0_6] 25 (0, 0)) (by (with_reducible repeat (first | refine bkn ?_ _ | refine bkd ?_ | refine bka ?_ _)); exact BK118.out) hb); have n1_ := As0.mk (below_step (by repeat (first | (with_reducible first | exact HB.out | apply bla | apply bln | apply bld | refine bls ?_ GE118.out) | exact HB.out)) hb); have n2_ := As0.mk (hbox); have n3_ := As0.mk ((by rw [hg]; exact (below_size (by repeat (first | (with_reducible first | exact HB.out | apply bla | apply bln | apply bld | refine bls ?_ GE118.out) | exact HB.out))) : w.heap.size ≤ gb119)); have n4_ := As0.mk ((by rw [hg]; exact (below_size (by repeat (first | (with_reducible first | exact HB.out | apply bla | apply bln | apply bld | refine bls ?_ GE118.out) | exact HB.out))) : w.heap.size ≤ gb119)); have n5_ := As0.mk ((by rw [hg]; exact Nat.ne_of_lt (blk_lt (g := gb118) (o := .cells #[.int .i64 a0_0, .int .i64 a0_1, .int .i64 a0_2, .int .i64 a0_3, .int .i64 a0_4, .slice A0_5 l0_5.length c0_5, .slice A0_6 l0_6.length c0_6] 25 (0, 0)) (by (with_reducible repeat (first | refine bkn ?_ _ | refine bkd ?_ | refine bka ?_ _)); exact BK118.out)) : gb118 ≠ gb119)); have n6_ := As0.mk ((by rw [hg]; exact Nat.ne_of_gt (blk_lt (g := gb118) (o := .cells #[.int .i64 a0_0, .int .i64 a0_1, .int .i64 a0_2, .int .i64 a0_3, .int .i64 a0_4, .slice A0_5 l0_5.length c0_5, .slice A0_6 l0_6.length c0_6] 25 (0, 0)) (by (with_reducible repeat (first | refine bkn ?_ _ | refine bkd ?_ | refine bka ?_ _)); exact BK118.out)) : gb119 ≠ gb118)); clear BK118; clear HB; have BK118 := n0_; have HB := n1_; have BK119 := n2_; have GW119 := n3_; have GE119 := n4_; have NB118_119 := n5_; have NB119_118 := n6_; clear n0_ n1_ n2_ n3_ n4_ n5_ n6_; clear hb hbox hg))
  have n0_ := As0.mk (bkd BK118.out)
  have n1_ := As0.mk (bkd BK119.out)
  have n2_ := As0.mk (bld HB.out)
  clear BK118
  clear BK119
  clear HB
  have BK118 := n0_
  have BK119 := n1_
  have HB := n2_
  clear n0_ n1_ n2_
  refine start_ (n := 15) (S := fun w' => w'.cell? ⟨gb119, 0, none⟩ = some (.int .i64 a1_0) ∧ w'.cell? ⟨gb119, 1, none⟩ = some (.int .i64 a1_1) ∧ w'.cell? ⟨gb119, 2, none⟩ = some (.int .u64 a1_2) ∧ w'.cell? ⟨gb118, 0, none⟩ = some (.int .i64 a0_0) ∧ w'.cell? ⟨gb118, 1, none⟩ = some (.int .i64 a0_1) ∧ w'.cell? ⟨gb118, 2, none⟩ = some (.int .i64 a0_2) ∧ w'.cell? ⟨gb118, 3, none⟩ = some (.int .i64 a0_3) ∧ w'.cell? ⟨gb118, 4, none⟩ = some (.int .i64 a0_4) ∧ w'.cell? ⟨gb118, 5, none⟩ = some (.slice A0_5 l0_5.length c0_5) ∧ w'.cell? ⟨gb118, 6, none⟩ = some (.slice A0_6 l0_6.length c0_6)) (ds := []) #[false, false, false, false, false, false, false, false, false, false, false, false, false, false, false] (by kernel_rfl) rfl rfl ⟨(bkc BK119.out 0).trans rfl, (bkc BK119.out 1).trans rfl, (bkc BK119.out 2).trans rfl, (bkc BK118.out 0).trans rfl, (bkc BK118.out 1).trans rfl, (bkc BK118.out 2).trans rfl, (bkc BK118.out 3).trans rfl, (bkc BK118.out 4).trans rfl, (bkc BK118.out 5).trans rfl, (bkc BK118.out 6).trans rfl⟩ (fun hHeld => ?_); refine with_tabW conf_workerLine.tab1 conf_workerLine.bits1 (fun HT_ HW_ => ?_)
  generalize w9.drew = w10 at BK118 BK119 HB hHeld ⊢
  refine pure_ (i := 0) (N := some 5) (v := ?_) (a' := ?_) #[true, false, false, false, false, false, false, false, false, false, false, false, false, false, false] rfl rfl (any_of HT_.out (by kernel_rfl)) (fun _ _ _ h => h) (Or.inl ⟨by rfl, ?_⟩) ?_ ?_
  rotate_left
  ·
   intro w'
   go_simp
   with_reducible rfl
  rotate_left
  ·
   simp only [Act.put, List.setIfInBounds_toArray, List.set_cons_zero, List.set_cons_succ, i64_w, i32_w]
   rfl
  refine pure_ (i := 3) (N := some 8) (v := ?_) (a' := ?_) #[true, false, false, true, false, false, false, false, false, false, false, false, false, false, false] rfl rfl (any_of HT_.out (by kernel_rfl)) (fun _ _ _ h => h) (Or.inl ⟨by rfl, ?_⟩) ?_ ?_
  rotate_left
  ·
   intro w'
   go_simp
   with_reducible rfl
  rotate_left
  ·
   simp only [Act.put, List.setIfInBounds_toArray, List.set_cons_zero, List.set_cons_succ, i64_w, i32_w]
   rfl
  refine pure_ (i := 7) (N := some 12) (v := ?_) (a' := ?_) #[true, false, false, true, false, false, false, true, false, false, false, false, false, false, false] rfl rfl (any_of HT_.out (by kernel_rfl)) (fun _ _ _ h => h) (Or.inl ⟨by rfl, ?_⟩) ?_ ?_
  rotate_left
  ·
   intro w'
   go_simp
   with_reducible rfl
  rotate_left
  ·
   simp only [Act.put, List.setIfInBounds_toArray, List.set_cons_zero, List.set_cons_succ, i64_w, i32_w]
   rfl
  refine pure_ (i := 9) (N := some 14) (v := ?_) (a' := ?_) #[true, false, false, true, false, false, false, true, false, true, false, false, false, false, false] rfl rfl (any_of HT_.out (by kernel_rfl)) (fun _ _ _ h => h) (Or.inl ⟨by rfl, ?_⟩) ?_ ?_
  rotate_left
  ·
   intro w'
   go_simp
   with_reducible rfl
  rotate_left
  ·
   simp only [Act.put, List.setIfInBounds_toArray, List.set_cons_zero, List.set_cons_succ, i64_w, i32_w]
   rfl
  refine take_ (i := 1) (N := some 6) (v := ?_) (a' := ?_) #[true, true, false, true, false, false, false, true, false, true, false, false, false, false, false] rfl rfl (take_ofW HT_.out HW_.out (by kernel_rfl)) (fun _ _ _ h => h) (Or.inl ⟨by rfl, ?_⟩) hHeld ?_ ?_
  rotate_left
  ·
   rintro w' ⟨s0, s1, s2, s3, s4, s5, s6, s7, s8, s9⟩
   go_simp
   with_reducible rfl
  rotate_left
  ·
   simp only [Act.put, List.setIfInBounds_toArray, List.set_cons_zero, List.set_cons_succ, i64_w, i32_w]
   rfl
  refine take_ (i := 4) (N := some 9) (v := ?_) (a' := ?_) #[true, true, false, true, true, false, false, true, false, true, false, false, false, false, false] rfl rfl (take_ofW HT_.out HW_.out (by kernel_rfl)) (fun _ _ _ h => h) (Or.inl ⟨by rfl, ?_⟩) hHeld ?_ ?_
  rotate_left
  ·
   rintro w' ⟨s0, s1, s2, s3, s4, s5, s6, s7, s8, s9⟩
   go_simp
   with_reducible rfl
  rotate_left
  ·
   simp only [Act.put, List.setIfInBounds_toArray, List.set_cons_zero, List.set_cons_succ, i64_w, i32_w]
   rfl
  refine take_ (i := 8) (N := some 13) (v := ?_) (a' := ?_) #[true, true, false, true, true, false, false, true, true, true, false, false, false, false, false] rfl rfl (take_ofW HT_.out HW_.out (by kernel_rfl)) (fun _ _ _ h => h) (Or.inl ⟨by rfl, ?_⟩) hHeld ?_ ?_
  rotate_left
  ·
   rintro w' ⟨s0, s1, s2, s3, s4, s5, s6, s7, s8, s9⟩
   go_simp
   with_reducible rfl
  rotate_left
  ·
   simp only [Act.put, List.setIfInBounds_toArray, List.set_cons_zero, List.set_cons_succ, i64_w, i32_w]
   rfl
  refine take_ (i := 10) (N := some 15) (v := ?_) (a' := ?_) #[true, true, false, true, true, false, false, true, true, true, true, false, false, false, false] rfl rfl (take_ofW HT_.out HW_.out (by kernel_rfl)) (fun _ _ _ h => h) (Or.inl ⟨by rfl, ?_⟩) hHeld ?_ ?_
  rotate_left
  ·
   rintro w' ⟨s0, s1, s2, s3, s4, s5, s6, s7, s8, s9⟩
   go_simp
   with_reducible rfl
  rotate_left
  ·
   simp only [Act.put, List.setIfInBounds_toArray, List.set_cons_zero, List.set_cons_succ, i64_w, i32_w]
   rfl
  refine one_ (i := 2) (N := some 7) #[true, true, true, true, true, false, false, true, true, true, true, false, false, false, false] rfl rfl (one_of HT_.out (by kernel_rfl)) (by decide) (fun K hK => ?_)
  refine goes_ Tryz.func22 (by kernel_rfl) rfl #[.int .i64 a1_0] (by rfl) rfl rfl (by (try simp only [List.map_toArray, List.map_cons, List.map_nil]); first | done | rfl | (simp only [List.length_drop, List.length_take]; rfl)) ?_
  with_reducible refine (conf_Number.calls a1_0 t120 _ ?side1 A3.out).mono ?_
  (case side1 => exact Laid.below HLD.out (by repeat (first | (with_reducible first | exact HB.out | apply bla | apply bln | apply bld | refine bls ?_ GE118.out | refine bls ?_ GE119.out) | exact HB.out)))
  rintro e w11 ⟨rfl, hb⟩
  refine ⟨_, rfl, ?_⟩
  have n0_ := As0.mk (blk_below (g := gb118) (o := .cells #[.int .i64 a0_0, .int .i64 a0_1, .int .i64 a0_2, .int .i64 a0_3, .int .i64 a0_4, .slice A0_5 l0_5.length c0_5, .slice A0_6 l0_6.length c0_6] 25 (0, 0)) (by (with_reducible repeat (first | refine bkn ?_ _ | refine bkd ?_ | refine bka ?_ _)); exact BK118.out) hb)
  have n1_ := As0.mk (blk_below (g := gb119) (o := .cells #[.int .i64 a1_0, .int .i64 a1_1, .int .u64 a1_2] 41 (0, 0)) (by (with_reducible repeat (first | refine bkn ?_ _ | refine bkd ?_ | refine bka ?_ _)); exact BK119.out) hb)
  have n2_ := As0.mk (below_step (by repeat (first | (with_reducible first | exact HB.out | apply bla | apply bln | apply bld | refine bls ?_ GE118.out | refine bls ?_ GE119.out) | exact HB.out)) hb)
  clear BK118
  clear BK119
  clear HB
  have BK118 := n0_
  have BK119 := n1_
  have HB := n2_
  clear n0_ n1_ n2_
  (try clear hb)
  (try clear hb2)
  (try clear hk)
  (try clear hi)
  refine hK.out _ _ ⟨(bkc BK119.out 0).trans rfl, (bkc BK119.out 1).trans rfl, (bkc BK119.out 2).trans rfl, (bkc BK118.out 0).trans rfl, (bkc BK118.out 1).trans rfl, (bkc BK118.out 2).trans rfl, (bkc BK118.out 3).trans rfl, (bkc BK118.out 4).trans rfl, (bkc BK118.out 5).trans rfl, (bkc BK118.out 6).trans rfl⟩ (fun hHeld => ?_)
  clear hK K
  refine norm_ (a' := ?_) ?_ ?_
  rotate_left
  ·
   show Act.put _ (some 7) _ = _
   simp only [Act.put, List.setIfInBounds_toArray, List.set_cons_zero, List.set_cons_succ, i64_w, i32_w]
   rfl
  refine one_ (i := 5) (N := some 10) #[true, true, true, true, true, true, false, true, true, true, true, false, false, false, false] rfl rfl (one_of HT_.out (by kernel_rfl)) (by decide) (fun K hK => ?_)
  refine goes_ Tryz.func22 (by kernel_rfl) rfl #[.int .i64 a1_1] (by rfl) rfl rfl (by (try simp only [List.map_toArray, List.map_cons, List.map_nil]); first | done | rfl | (simp only [List.length_drop, List.length_take]; rfl)) ?_
  with_reducible refine (conf_Number.calls a1_1 t121 _ ?side1 A4.out).mono ?_
  (case side1 => exact Laid.below HLD.out (by repeat (first | (with_reducible first | exact HB.out | apply bla | apply bln | apply bld | refine bls ?_ GE118.out | refine bls ?_ GE119.out) | exact HB.out)))
  rintro e w12 ⟨rfl, hb⟩
  refine ⟨_, rfl, ?_⟩
  have n0_ := As0.mk (blk_below (g := gb118) (o := .cells #[.int .i64 a0_0, .int .i64 a0_1, .int .i64 a0_2, .int .i64 a0_3, .int .i64 a0_4, .slice A0_5 l0_5.length c0_5, .slice A0_6 l0_6.length c0_6] 25 (0, 0)) (by (with_reducible repeat (first | refine bkn ?_ _ | refine bkd ?_ | refine bka ?_ _)); exact BK118.out) hb)
  have n1_ := As0.mk (blk_below (g := gb119) (o := .cells #[.int .i64 a1_0, .int .i64 a1_1, .int .u64 a1_2] 41 (0, 0)) (by (with_reducible repeat (first | refine bkn ?_ _ | refine bkd ?_ | refine bka ?_ _)); exact BK119.out) hb)
  have n2_ := As0.mk (below_step (by repeat (first | (with_reducible first | exact HB.out | apply bla | apply bln | apply bld | refine bls ?_ GE118.out | refine bls ?_ GE119.out) | exact HB.out)) hb)
  clear BK118
  clear BK119
  clear HB
  have BK118 := n0_
  have BK119 := n1_
  have HB := n2_
  clear n0_ n1_ n2_
  (try clear hb)
  (try clear hb2)
  (try clear hk)
  (try clear hi)
  refine hK.out _ _ ⟨(bkc BK119.out 0).trans rfl, (bkc BK119.out 1).trans rfl, (bkc BK119.out 2).trans rfl, (bkc BK118.out 0).trans rfl, (bkc BK118.out 1).trans rfl, (bkc BK118.out 2).trans rfl, (bkc BK118.out 3).trans rfl, (bkc BK118.out 4).trans rfl, (bkc BK118.out 5).trans rfl, (bkc BK118.out 6).trans rfl⟩ (fun hHeld => ?_)
  clear hK K
  refine norm_ (a' := ?_) ?_ ?_
  rotate_left
  ·
   show Act.put _ (some 10) _ = _
   simp only [Act.put, List.setIfInBounds_toArray, List.set_cons_zero, List.set_cons_succ, i64_w, i32_w]
   rfl
  refine join_ (σ := Value × Value) 3 #[true, true, true, true, true, true, true, true, true, true, true, true, false, false, false] (fun s_ => [(11, s_.1), (16, s_.2)]) (fun s_ w' => (w'.cell? ⟨gb119, 0, none⟩ = some (.int .i64 a1_0) ∧ w'.cell? ⟨gb119, 1, none⟩ = some (.int .i64 a1_1) ∧ w'.cell? ⟨gb119, 2, none⟩ = some (.int .u64 a1_2) ∧ w'.cell? ⟨gb118, 0, none⟩ = some (.int .i64 a0_0) ∧ w'.cell? ⟨gb118, 1, none⟩ = some (.int .i64 a0_1) ∧ w'.cell? ⟨gb118, 2, none⟩ = some (.int .i64 a0_2) ∧ w'.cell? ⟨gb118, 3, none⟩ = some (.int .i64 a0_3) ∧ w'.cell? ⟨gb118, 4, none⟩ = some (.int .i64 a0_4) ∧ w'.cell? ⟨gb118, 5, none⟩ = some (.slice A0_5 l0_5.length c0_5) ∧ w'.cell? ⟨gb118, 6, none⟩ = some (.slice A0_6 l0_6.length c0_6)) ∧ (Kd.R Kd.string 9 w' w.heap.size (fun k_ => some k_ ≠ (s_.2 : Value).ownBlock) s_.1 y122) ∧ (Kd.R Kd.string 9 w' w.heap.size (fun k_ => some k_ ≠ (s_.1 : Value).ownBlock) s_.2 t125) ∧ (w'.heap[gb118]? = some (.cells #[.int .i64 a0_0, .int .i64 a0_1, .int .i64 a0_2, .int .i64 a0_3, .int .i64 a0_4, .slice A0_5 l0_5.length c0_5, .slice A0_6 l0_6.length c0_6] 25 (0, 0))) ∧ (w'.heap[gb119]? = some (.cells #[.int .i64 a1_0, .int .i64 a1_1, .int .u64 a1_2] 41 (0, 0))) ∧ (Below w.heap.size w w')) ?_ ?_
  rotate_left
  ·
   intro hCont
   refine two_ (i := 6) (j := 11) (Ni := some 11) (Nj := some 16) #[true, true, true, true, true, true, true, true, true, true, true, false, false, false, false] #[true, true, true, true, true, true, false, true, true, true, true, true, false, false, false] rfl rfl rfl rfl (two_of HT_.out (by kernel_rfl)) (by decide) (by decide) (fun K hK => ?_) (fun K hK => ?_)
   ·
    skip
    refine Kd.R_lit_step Kd.string _ 9 ?hg (N := 11) ?hd (xs := ([(⟨#[119, 111, 114, 107, 101, 114]⟩ : ByteArray), t120, t121] : List ByteArray)) (inner := [.string (⟨#[119, 111, 114, 107, 101, 114]⟩ : ByteArray), .string t120, .string t121]) (ok := fun _ => True) (okp := fun _ => True) ?hr ?hp (fun _ hk => hk) trivial (Below.refl _ _) (Nat.le_refl _) (by simp) ?_; (case hd => rfl); (case hg => rfl); (case hr => first | (go_simp; done) | (go_simp; rfl)); (case hp => exact (Reps.one (show Kd.M Kd.string _ _ _ (⟨#[119, 111, 114, 107, 101, 114]⟩ : ByteArray) [.string (⟨#[119, 111, 114, 107, 101, 114]⟩ : ByteArray)] from rfl) (Reps.one (show Kd.M Kd.string _ _ _ t120 [.string t120] from rfl) (Reps.one (show Kd.M Kd.string _ _ _ t121 [.string t121] from rfl) (Reps.none _ _)))))
    intro v123 w13 ho14 hb hg_ hnew_
    clear hg_ hnew_
    (first | rw [← Ny122.out] at ho14 | (simp only [Int.reduceToNat] at ho14; rw [← Ny122.out] at ho14))
    have n0_ := As0.mk (Kd.R_lower ho14 (below_size (by repeat (first | (with_reducible first | exact HB.out | apply bla | apply bln | apply bld | refine bls ?_ GE118.out | refine bls ?_ GE119.out) | exact HB.out))))
    have n1_ := As0.mk (blk_below (g := gb118) (o := .cells #[.int .i64 a0_0, .int .i64 a0_1, .int .i64 a0_2, .int .i64 a0_3, .int .i64 a0_4, .slice A0_5 l0_5.length c0_5, .slice A0_6 l0_6.length c0_6] 25 (0, 0)) (by (with_reducible repeat (first | refine bkn ?_ _ | refine bkd ?_ | refine bka ?_ _)); exact BK118.out) hb)
    have n2_ := As0.mk (blk_below (g := gb119) (o := .cells #[.int .i64 a1_0, .int .i64 a1_1, .int .u64 a1_2] 41 (0, 0)) (by (with_reducible repeat (first | refine bkn ?_ _ | refine bkd ?_ | refine bka ?_ _)); exact BK119.out) hb)
    have n3_ := As0.mk (below_step (by repeat (first | (with_reducible first | exact HB.out | apply bla | apply bln | apply bld | refine bls ?_ GE118.out | refine bls ?_ GE119.out) | exact HB.out)) hb)
    clear BK118
    clear BK119
    clear HB
    have HO124 := n0_
    have BK118 := n1_
    have BK119 := n2_
    have HB := n3_
    clear n0_ n1_ n2_ n3_
    clear hb ho14
    refine hK.out _ _ ⟨(bkc BK119.out 0).trans rfl, (bkc BK119.out 1).trans rfl, (bkc BK119.out 2).trans rfl, (bkc BK118.out 0).trans rfl, (bkc BK118.out 1).trans rfl, (bkc BK118.out 2).trans rfl, (bkc BK118.out 3).trans rfl, (bkc BK118.out 4).trans rfl, (bkc BK118.out 5).trans rfl, (bkc BK118.out 6).trans rfl⟩ (fun hHeld => ?_)
    clear hK K
    refine norm_ (a' := ?_) ?_ ?_
    rotate_left
    ·
     show Act.put _ (some 11) _ = _
     simp only [Act.put, List.setIfInBounds_toArray, List.set_cons_zero, List.set_cons_succ, i64_w, i32_w]
     rfl
    refine one_ (i := 11) (N := some 16) #[true, true, true, true, true, true, true, true, true, true, true, true, false, false, false] rfl rfl (one_of HT_.out (by kernel_rfl)) (by decide) (fun K hK => ?_)
    refine goes_ Tryz.func39 (by kernel_rfl) rfl #[.slice A0_5 l0_5.length c0_5, .int .u64 a1_2] (by rfl) rfl rfl (by (try simp only [List.map_toArray, List.map_cons, List.map_nil]); first | done | rfl | (simp only [List.length_drop, List.length_take]; rfl)) ?_
    with_reducible refine (names_Tell.calls _ _ l0_5 a1_2 t125 _ ?side1 ?side2 A5.out).mono ?_
    (case side1 => repeat (first | exact (Kd.C_below HR0_5.out HB.out) | (with_reducible refine Kd.C_alloc ?_ _) | (with_reducible refine Kd.C_drewN ?_ _) | (with_reducible refine Kd.C_drew ?_)))
    (case side2 => exact HC0_5.out)
    rintro e w15 ⟨v126, rfl, ho0, hb⟩
    refine ⟨_, rfl, ?_⟩
    have n0_ := As0.mk (Kd.R_elder' (by (with_reducible repeat (first | apply Kd.R_alloc | apply Kd.R_drewN | apply Kd.R_drew)); exact HO124.out) (Kd.R_base ho0) hb)
    have n1_ := As0.mk (Kd.R_lower (Kd.R_new' ho0 (Kd.R_lt (by (with_reducible repeat (first | apply Kd.R_alloc | apply Kd.R_drewN | apply Kd.R_drew)); exact HO124.out))) (below_size (by repeat (first | (with_reducible first | exact HB.out | apply bla | apply bln | apply bld | refine bls ?_ GE118.out | refine bls ?_ GE119.out) | exact HB.out))))
    have n2_ := As0.mk (blk_below (g := gb118) (o := .cells #[.int .i64 a0_0, .int .i64 a0_1, .int .i64 a0_2, .int .i64 a0_3, .int .i64 a0_4, .slice A0_5 l0_5.length c0_5, .slice A0_6 l0_6.length c0_6] 25 (0, 0)) (by (with_reducible repeat (first | refine bkn ?_ _ | refine bkd ?_ | refine bka ?_ _)); exact BK118.out) hb)
    have n3_ := As0.mk (blk_below (g := gb119) (o := .cells #[.int .i64 a1_0, .int .i64 a1_1, .int .u64 a1_2] 41 (0, 0)) (by (with_reducible repeat (first | refine bkn ?_ _ | refine bkd ?_ | refine bka ?_ _)); exact BK119.out) hb)
    have n4_ := As0.mk (below_step (by repeat (first | (with_reducible first | exact HB.out | apply bla | apply bln | apply bld | refine bls ?_ GE118.out | refine bls ?_ GE119.out) | exact HB.out)) hb)
    clear HO124
    clear BK118
    clear BK119
    clear HB
    have HO124 := n0_
    have HO127 := n1_
    have BK118 := n2_
    have BK119 := n3_
    have HB := n4_
    clear n0_ n1_ n2_ n3_ n4_
    (try clear hb)
    (try clear hb2)
    (try clear hk)
    (try clear hi)
    (try clear ho0)
    refine hK.out _ _ ⟨(bkc BK119.out 0).trans rfl, (bkc BK119.out 1).trans rfl, (bkc BK119.out 2).trans rfl, (bkc BK118.out 0).trans rfl, (bkc BK118.out 1).trans rfl, (bkc BK118.out 2).trans rfl, (bkc BK118.out 3).trans rfl, (bkc BK118.out 4).trans rfl, (bkc BK118.out 5).trans rfl, (bkc BK118.out 6).trans rfl⟩ (fun hHeld => ?_)
    clear hK K
    refine norm_ (a' := ?_) ?_ ?_
    rotate_left
    ·
     show Act.put _ (some 16) _ = _
     simp only [Act.put, List.setIfInBounds_toArray, List.set_cons_zero, List.set_cons_succ, i64_w, i32_w]
     rfl
    exact norm_ (by simp only [putAll, Act.put, List.setIfInBounds_toArray, List.set_cons_zero, List.set_cons_succ]) (hCont (v123, v126) _ ⟨hHeld, (by (with_reducible repeat (first | apply Kd.R_alloc | apply Kd.R_drewN | apply Kd.R_drew)); exact Kd.R_mono HO124.out (fun _ hk => hk.2)), (by (with_reducible repeat (first | apply Kd.R_alloc | apply Kd.R_drewN | apply Kd.R_drew)); exact Kd.R_mono HO127.out (fun _ hk => hk.2)), (by (with_reducible repeat (first | refine bkn ?_ _ | refine bkd ?_ | refine bka ?_ _)); exact BK118.out), (by (with_reducible repeat (first | refine bkn ?_ _ | refine bkd ?_ | refine bka ?_ _)); exact BK119.out), (by repeat (first | (with_reducible first | exact HB.out | apply bla | apply bln | apply bld | refine bls ?_ GE118.out | refine bls ?_ GE119.out) | exact HB.out))⟩)
   ·
    skip
    refine goes_ Tryz.func39 (by kernel_rfl) rfl #[.slice A0_5 l0_5.length c0_5, .int .u64 a1_2] (by rfl) rfl rfl (by (try simp only [List.map_toArray, List.map_cons, List.map_nil]); first | done | rfl | (simp only [List.length_drop, List.length_take]; rfl)) ?_
    with_reducible refine (names_Tell.calls _ _ l0_5 a1_2 t125 _ ?side1 ?side2 A5.out).mono ?_
    (case side1 => repeat (first | exact (Kd.C_below HR0_5.out HB.out) | (with_reducible refine Kd.C_alloc ?_ _) | (with_reducible refine Kd.C_drewN ?_ _) | (with_reducible refine Kd.C_drew ?_)))
    (case side2 => exact HC0_5.out)
    rintro e w13 ⟨v126, rfl, ho0, hb⟩
    refine ⟨_, rfl, ?_⟩
    have n0_ := As0.mk (Kd.R_lower ho0 (below_size (by repeat (first | (with_reducible first | exact HB.out | apply bla | apply bln | apply bld | refine bls ?_ GE118.out | refine bls ?_ GE119.out) | exact HB.out))))
    have n1_ := As0.mk (blk_below (g := gb118) (o := .cells #[.int .i64 a0_0, .int .i64 a0_1, .int .i64 a0_2, .int .i64 a0_3, .int .i64 a0_4, .slice A0_5 l0_5.length c0_5, .slice A0_6 l0_6.length c0_6] 25 (0, 0)) (by (with_reducible repeat (first | refine bkn ?_ _ | refine bkd ?_ | refine bka ?_ _)); exact BK118.out) hb)
    have n2_ := As0.mk (blk_below (g := gb119) (o := .cells #[.int .i64 a1_0, .int .i64 a1_1, .int .u64 a1_2] 41 (0, 0)) (by (with_reducible repeat (first | refine bkn ?_ _ | refine bkd ?_ | refine bka ?_ _)); exact BK119.out) hb)
    have n3_ := As0.mk (below_step (by repeat (first | (with_reducible first | exact HB.out | apply bla | apply bln | apply bld | refine bls ?_ GE118.out | refine bls ?_ GE119.out) | exact HB.out)) hb)
    clear BK118
    clear BK119
    clear HB
    have HO127 := n0_
    have BK118 := n1_
    have BK119 := n2_
    have HB := n3_
    clear n0_ n1_ n2_ n3_
    (try clear hb)
    (try clear hb2)
    (try clear hk)
    (try clear hi)
    (try clear ho0)
    refine hK.out _ _ ⟨(bkc BK119.out 0).trans rfl, (bkc BK119.out 1).trans rfl, (bkc BK119.out 2).trans rfl, (bkc BK118.out 0).trans rfl, (bkc BK118.out 1).trans rfl, (bkc BK118.out 2).trans rfl, (bkc BK118.out 3).trans rfl, (bkc BK118.out 4).trans rfl, (bkc BK118.out 5).trans rfl, (bkc BK118.out 6).trans rfl⟩ (fun hHeld => ?_)
    clear hK K
    refine norm_ (a' := ?_) ?_ ?_
    rotate_left
    ·
     show Act.put _ (some 16) _ = _
     simp only [Act.put, List.setIfInBounds_toArray, List.set_cons_zero, List.set_cons_succ, i64_w, i32_w]
     rfl
    refine one_ (i := 6) (N := some 11) #[true, true, true, true, true, true, true, true, true, true, true, true, false, false, false] rfl rfl (one_of HT_.out (by kernel_rfl)) (by decide) (fun K hK => ?_)
    refine Kd.R_lit_step Kd.string _ 9 ?hg (N := 11) ?hd (xs := ([(⟨#[119, 111, 114, 107, 101, 114]⟩ : ByteArray), t120, t121] : List ByteArray)) (inner := [.string (⟨#[119, 111, 114, 107, 101, 114]⟩ : ByteArray), .string t120, .string t121]) (ok := fun _ => True) (okp := fun _ => True) ?hr ?hp (fun _ hk => hk) trivial (Below.refl _ _) (Nat.le_refl _) (by simp) ?_; (case hd => rfl); (case hg => rfl); (case hr => first | (go_simp; done) | (go_simp; rfl)); (case hp => exact (Reps.one (show Kd.M Kd.string _ _ _ (⟨#[119, 111, 114, 107, 101, 114]⟩ : ByteArray) [.string (⟨#[119, 111, 114, 107, 101, 114]⟩ : ByteArray)] from rfl) (Reps.one (show Kd.M Kd.string _ _ _ t120 [.string t120] from rfl) (Reps.one (show Kd.M Kd.string _ _ _ t121 [.string t121] from rfl) (Reps.none _ _)))))
    intro v123 w14 ho15 hb hg_ hnew_
    clear hg_ hnew_
    (first | rw [← Ny122.out] at ho15 | (simp only [Int.reduceToNat] at ho15; rw [← Ny122.out] at ho15))
    have n0_ := As0.mk (Kd.R_elder' (by (with_reducible repeat (first | apply Kd.R_alloc | apply Kd.R_drewN | apply Kd.R_drew)); exact HO127.out) (Kd.R_base ho15) hb)
    have n1_ := As0.mk (Kd.R_lower (Kd.R_new' ho15 (Kd.R_lt (by (with_reducible repeat (first | apply Kd.R_alloc | apply Kd.R_drewN | apply Kd.R_drew)); exact HO127.out))) (below_size (by repeat (first | (with_reducible first | exact HB.out | apply bla | apply bln | apply bld | refine bls ?_ GE118.out | refine bls ?_ GE119.out) | exact HB.out))))
    have n2_ := As0.mk (blk_below (g := gb118) (o := .cells #[.int .i64 a0_0, .int .i64 a0_1, .int .i64 a0_2, .int .i64 a0_3, .int .i64 a0_4, .slice A0_5 l0_5.length c0_5, .slice A0_6 l0_6.length c0_6] 25 (0, 0)) (by (with_reducible repeat (first | refine bkn ?_ _ | refine bkd ?_ | refine bka ?_ _)); exact BK118.out) hb)
    have n3_ := As0.mk (blk_below (g := gb119) (o := .cells #[.int .i64 a1_0, .int .i64 a1_1, .int .u64 a1_2] 41 (0, 0)) (by (with_reducible repeat (first | refine bkn ?_ _ | refine bkd ?_ | refine bka ?_ _)); exact BK119.out) hb)
    have n4_ := As0.mk (below_step (by repeat (first | (with_reducible first | exact HB.out | apply bla | apply bln | apply bld | refine bls ?_ GE118.out | refine bls ?_ GE119.out) | exact HB.out)) hb)
    clear HO127
    clear BK118
    clear BK119
    clear HB
    have HO127 := n0_
    have HO124 := n1_
    have BK118 := n2_
    have BK119 := n3_
    have HB := n4_
    clear n0_ n1_ n2_ n3_ n4_
    clear hb ho15
    refine hK.out _ _ ⟨(bkc BK119.out 0).trans rfl, (bkc BK119.out 1).trans rfl, (bkc BK119.out 2).trans rfl, (bkc BK118.out 0).trans rfl, (bkc BK118.out 1).trans rfl, (bkc BK118.out 2).trans rfl, (bkc BK118.out 3).trans rfl, (bkc BK118.out 4).trans rfl, (bkc BK118.out 5).trans rfl, (bkc BK118.out 6).trans rfl⟩ (fun hHeld => ?_)
    clear hK K
    refine norm_ (a' := ?_) ?_ ?_
    rotate_left
    ·
     show Act.put _ (some 11) _ = _
     simp only [Act.put, List.setIfInBounds_toArray, List.set_cons_zero, List.set_cons_succ, i64_w, i32_w]
     rfl
    exact norm_ (by simp only [putAll, Act.put, List.setIfInBounds_toArray, List.set_cons_zero, List.set_cons_succ]) (hCont (v123, v126) _ ⟨hHeld, (by (with_reducible repeat (first | apply Kd.R_alloc | apply Kd.R_drewN | apply Kd.R_drew)); exact Kd.R_mono HO124.out (fun _ hk => hk.2)), (by (with_reducible repeat (first | apply Kd.R_alloc | apply Kd.R_drewN | apply Kd.R_drew)); exact Kd.R_mono HO127.out (fun _ hk => hk.2)), (by (with_reducible repeat (first | refine bkn ?_ _ | refine bkd ?_ | refine bka ?_ _)); exact BK118.out), (by (with_reducible repeat (first | refine bkn ?_ _ | refine bkd ?_ | refine bka ?_ _)); exact BK119.out), (by repeat (first | (with_reducible first | exact HB.out | apply bla | apply bln | apply bld | refine bls ?_ GE118.out | refine bls ?_ GE119.out) | exact HB.out))⟩)
  rintro ⟨v123, v126⟩ w16 ⟨hS_, h0_, h1_, h2_, h3_, h4_⟩
  have n0_ : As0 (Kd.R Kd.string 9 w16 w.heap.size (fun k_ => some k_ ≠ (v126 : Value).ownBlock) v123 y122) := ⟨h0_⟩
  have n1_ : As0 (Kd.R Kd.string 9 w16 w.heap.size (fun k_ => some k_ ≠ (v123 : Value).ownBlock) v126 t125) := ⟨h1_⟩
  have n2_ : As0 (w16.heap[gb118]? = some (.cells #[.int .i64 a0_0, .int .i64 a0_1, .int .i64 a0_2, .int .i64 a0_3, .int .i64 a0_4, .slice A0_5 l0_5.length c0_5, .slice A0_6 l0_6.length c0_6] 25 (0, 0))) := ⟨h2_⟩
  have n3_ : As0 (w16.heap[gb119]? = some (.cells #[.int .i64 a1_0, .int .i64 a1_1, .int .u64 a1_2] 41 (0, 0))) := ⟨h3_⟩
  have n4_ : As0 (Below w.heap.size w w16) := ⟨h4_⟩
  clear BK118
  clear BK119
  clear HB
  clear h0_ h1_ h2_ h3_ h4_
  have HO124 := n0_
  have HO127 := n1_
  have BK118 := n2_
  have BK119 := n3_
  have HB := n4_
  clear n0_ n1_ n2_ n3_ n4_
  have hHeld : w16.cell? ⟨gb119, 0, none⟩ = some (.int .i64 a1_0) ∧ w16.cell? ⟨gb119, 1, none⟩ = some (.int .i64 a1_1) ∧ w16.cell? ⟨gb119, 2, none⟩ = some (.int .u64 a1_2) ∧ w16.cell? ⟨gb118, 0, none⟩ = some (.int .i64 a0_0) ∧ w16.cell? ⟨gb118, 1, none⟩ = some (.int .i64 a0_1) ∧ w16.cell? ⟨gb118, 2, none⟩ = some (.int .i64 a0_2) ∧ w16.cell? ⟨gb118, 3, none⟩ = some (.int .i64 a0_3) ∧ w16.cell? ⟨gb118, 4, none⟩ = some (.int .i64 a0_4) ∧ w16.cell? ⟨gb118, 5, none⟩ = some (.slice A0_5 l0_5.length c0_5) ∧ w16.cell? ⟨gb118, 6, none⟩ = some (.slice A0_6 l0_6.length c0_6) := hS_
  obtain ⟨Ao18, co18, eo18⟩ := Kd.R_slice HO127.out
  (first | subst eo18 | (injection eo18 with f1_ f2_ f3_; have f4_ := f1_.symm; have f5_ := f3_.symm; clear f1_ f2_ f3_; subst f4_; subst f5_))
  refine norm_ (a' := ?_) ?_ ?_
  rotate_left
  ·
   simp only [putAll, Act.put, List.setIfInBounds_toArray, List.set_cons_zero, List.set_cons_succ]
   rfl
  refine one_ (i := 12) (N := some 17) #[true, true, true, true, true, true, true, true, true, true, true, true, true, false, false] rfl rfl (one_of HT_.out (by kernel_rfl)) (by decide) (fun K hK => ?_)
  refine Kd.R_append_rows_step Kd.string (w0 := w) w.heap.size (by rfl) (.tmp 11) (.tmp 16) 22 9 (.string ⟨#[]⟩) 16 rfl Tryz.underlying22 info9 rfl (by decide) (by omega) v123 y122 t125 _ _ _ (fun k_ => some k_ ≠ (.slice Ao18 t125.length co18 : Value).ownBlock) (fun _ => False) rfl rfl ?aO ?aR (fun _ _ h => h) (fun _ h => h.elim) ?aF ?aB ?aS ?aL ?_
  (case aR => repeat (first | exact (Kd.R_reads' HO127.out).2.2 | (with_reducible refine Kd.C_alloc ?_ _) | (with_reducible refine Kd.C_drewN ?_ _) | (with_reducible refine Kd.C_drew ?_)))
  (case aB => exact (by repeat (first | (with_reducible first | exact HB.out | apply bla | apply bln | apply bld | refine bls ?_ GE118.out | refine bls ?_ GE119.out) | exact HB.out)))
  (case aF => exact (fun k_ hk => Kd.fresh' (Kd.R_lt (by (with_reducible repeat (first | apply Kd.R_alloc | apply Kd.R_drewN | apply Kd.R_drew)); exact HO127.out)) k_ hk))
  (case aO => exact (by (with_reducible repeat (first | apply Kd.R_alloc | apply Kd.R_drewN | apply Kd.R_drew)); exact HO124.out))
  (case aS => exact (below_size (by repeat (first | (with_reducible first | exact HB.out | apply bla | apply bln | apply bld | refine bls ?_ GE118.out | refine bls ?_ GE119.out) | exact HB.out))))
  (case aL => have := LMc6.out; omega)
  intro v129 w17 ho hb hg hat
  rw [← Ny128.out] at ho
  have n0_ := As0.mk (blk_grown (g := gb118) (o := .cells #[.int .i64 a0_0, .int .i64 a0_1, .int .i64 a0_2, .int .i64 a0_3, .int .i64 a0_4, .slice A0_5 l0_5.length c0_5, .slice A0_6 l0_6.length c0_6] 25 (0, 0)) (by (with_reducible repeat (first | refine bkn ?_ _ | refine bkd ?_ | refine bka ?_ _)); exact BK118.out) hg (Kd.R_ne HO124.out BK118.out (by decide)))
  have n1_ := As0.mk (blk_grown (g := gb119) (o := .cells #[.int .i64 a1_0, .int .i64 a1_1, .int .u64 a1_2] 41 (0, 0)) (by (with_reducible repeat (first | refine bkn ?_ _ | refine bkd ?_ | refine bka ?_ _)); exact BK119.out) hg (Kd.R_ne HO124.out BK119.out (by decide)))
  have n2_ := As0.mk (Kd.R_after (ok := (fun _ => True)) (by (with_reducible repeat (first | apply Kd.R_alloc | apply Kd.R_drewN | apply Kd.R_drew)); exact Kd.R_mono HO127.out (fun _ hk => ⟨trivial, hk⟩)) hg hat)
  have n3_ := As0.mk (hb)
  have n4_ := As0.mk (ho)
  clear BK118
  clear BK119
  clear HO127
  clear HB
  clear HO124
  have BK118 := n0_
  have BK119 := n1_
  have HO127 := n2_
  have HB := n3_
  have HO130 := n4_
  clear n0_ n1_ n2_ n3_ n4_
  clear ho hb hg hat
  obtain ⟨Ao19, co19, eo19⟩ := Kd.R_slice HO130.out
  (first | subst eo19 | (injection eo19 with f1_ f2_ f3_; have f4_ := f1_.symm; have f5_ := f3_.symm; clear f1_ f2_ f3_; subst f4_; subst f5_))
  refine hK.out _ _ ⟨(bkc BK119.out 0).trans rfl, (bkc BK119.out 1).trans rfl, (bkc BK119.out 2).trans rfl, (bkc BK118.out 0).trans rfl, (bkc BK118.out 1).trans rfl, (bkc BK118.out 2).trans rfl, (bkc BK118.out 3).trans rfl, (bkc BK118.out 4).trans rfl, (bkc BK118.out 5).trans rfl, (bkc BK118.out 6).trans rfl⟩ (fun hHeld => ?_)
  clear hK K
  refine norm_ (a' := ?_) ?_ ?_
  rotate_left
  ·
   show Act.put _ (some 17) _ = _
   simp only [Act.put, List.setIfInBounds_toArray, List.set_cons_zero, List.set_cons_succ, i64_w, i32_w]
   rfl
  refine one_ (i := 13) (N := some 18) #[true, true, true, true, true, true, true, true, true, true, true, true, true, true, false] rfl rfl (one_of HT_.out (by kernel_rfl)) (by decide) (fun K hK => ?_)
  refine goes_ Tryz.func21 (by kernel_rfl) rfl #[.slice Ao19 y128.length co19] (by rfl) rfl rfl (by (try simp only [List.map_toArray, List.map_cons, List.map_nil]); first | done | rfl | (simp only [List.length_drop, List.length_take]; rfl)) ?_
  with_reducible refine (conf_line.calls _ _ y128 t131 _ ?side1 ?side2 A7.out).mono ?_
  (case side1 => repeat (first | exact (Kd.R_reads' HO130.out).2.2 | (with_reducible refine Kd.C_alloc ?_ _) | (with_reducible refine Kd.C_drewN ?_ _) | (with_reducible refine Kd.C_drew ?_)))
  (case side2 => exact (Kd.R_reads' HO130.out).2.1)
  rintro e w20 ⟨rfl, hb⟩
  refine ⟨_, rfl, ?_⟩
  have n0_ := As0.mk (Kd.R_below (by (with_reducible repeat (first | apply Kd.R_alloc | apply Kd.R_drewN | apply Kd.R_drew)); exact HO127.out) hb)
  have n1_ := As0.mk (Kd.R_below (by (with_reducible repeat (first | apply Kd.R_alloc | apply Kd.R_drewN | apply Kd.R_drew)); exact HO130.out) hb)
  have n2_ := As0.mk (blk_below (g := gb118) (o := .cells #[.int .i64 a0_0, .int .i64 a0_1, .int .i64 a0_2, .int .i64 a0_3, .int .i64 a0_4, .slice A0_5 l0_5.length c0_5, .slice A0_6 l0_6.length c0_6] 25 (0, 0)) (by (with_reducible repeat (first | refine bkn ?_ _ | refine bkd ?_ | refine bka ?_ _)); exact BK118.out) hb)
  have n3_ := As0.mk (blk_below (g := gb119) (o := .cells #[.int .i64 a1_0, .int .i64 a1_1, .int .u64 a1_2] 41 (0, 0)) (by (with_reducible repeat (first | refine bkn ?_ _ | refine bkd ?_ | refine bka ?_ _)); exact BK119.out) hb)
  have n4_ := As0.mk (below_step (by repeat (first | (with_reducible first | exact HB.out | apply bla | apply bln | apply bld | refine bls ?_ GE118.out | refine bls ?_ GE119.out) | exact HB.out)) hb)
  clear HO127
  clear HO130
  clear BK118
  clear BK119
  clear HB
  have HO127 := n0_
  have HO130 := n1_
  have BK118 := n2_
  have BK119 := n3_
  have HB := n4_
  clear n0_ n1_ n2_ n3_ n4_
  (try clear hb)
  (try clear hb2)
  (try clear hk)
  (try clear hi)
  refine hK.out _ _ ⟨(bkc BK119.out 0).trans rfl, (bkc BK119.out 1).trans rfl, (bkc BK119.out 2).trans rfl, (bkc BK118.out 0).trans rfl, (bkc BK118.out 1).trans rfl, (bkc BK118.out 2).trans rfl, (bkc BK118.out 3).trans rfl, (bkc BK118.out 4).trans rfl, (bkc BK118.out 5).trans rfl, (bkc BK118.out 6).trans rfl⟩ (fun hHeld => ?_)
  clear hK K
  refine norm_ (a' := ?_) ?_ ?_
  rotate_left
  ·
   show Act.put _ (some 18) _ = _
   simp only [Act.put, List.setIfInBounds_toArray, List.set_cons_zero, List.set_cons_succ, i64_w, i32_w]
   rfl
  refine pure_ (i := 14) (N := some 4) (v := ?_) (a' := ?_) #[true, true, true, true, true, true, true, true, true, true, true, true, true, true, true] rfl rfl (any_of HT_.out (by kernel_rfl)) (fun _ _ _ h => h) (Or.inl ⟨by rfl, ?_⟩) ?_ ?_
  rotate_left
  ·
   intro w'
   go_simp
   with_reducible rfl
  rotate_left
  ·
   simp only [Act.put, List.setIfInBounds_toArray, List.set_cons_zero, List.set_cons_succ, i64_w, i32_w]
   rfl
  refine done_ (done_of HT_.out (by kernel_rfl)) ?_
  try go_wp2
  go_ret
  exact ⟨by first | rfl | (simp [errW_none, errW_some] <;> rfl) | (simp [*, errW_none, errW_some] <;> rfl), by repeat (first | (with_reducible first | exact HB.out | apply bla | apply bln | apply bld | refine bls ?_ GE118.out | refine bls ?_ GE119.out) | exact HB.out)⟩
 ·
  rw [if_neg c6] at H
  exact absurd H (by simp)
end Go.Proofs.YtmppkcdphgelcaaGreatDoor.PConf
namespace Go.Proofs.YtmppkcdphgelcaaGreatDoor.PConf
open Go.RowKit Go.Proofs.YtmppkcdphgelcaaGreatDoor.W.PrintWords Go.Proofs.YtmppkcdphgelcaaGreatDoor.W.PrintLast Go.Proofs.YtmppkcdphgelcaaGreatDoor.W.PrintMore
attribute [local go_sem] max2_int min2_int max_two min_two max_three min_three max_four min_four   -- for this text's walks alone
set_option linter.unusedVariables false
set_option linter.unusedSimpArgs false
def conf_Text.l0 : Nat → ByteArray → List (S41) → Int → Int → Int → Int → Int → Int → Int → List ByteArray → List (S41) → Option (ByteArray)
 | 0, _, _, _, _, _, _, _, _, _, _, _ => none
 | k + 1, x3, x34, x35, x36, x133000, x133001, x133002, x133003, x133004, x133005, x133006 => if x36 < x35 then (if 0 ≤ x36 then (if x36 < (x34.length : Int) then ((conf_workerLine.f x133000 x133001 x133002 x133003 x133004 x133005 x133006 ((rd_T41 x34 x36).f0) ((rd_T41 x34 x36).f1) ((rd_T41 x34 x36).f2)).bind fun t152 => (if x3.size + t152.size ≤ 9223372036854775807 then (conf_Text.l0 k (x3 ++ t152) x34 x35 (wrap64 (x36 + 1)) x133000 x133001 x133002 x133003 x133004 x133005 x133006) else (none))) else (none)) else (none)) else (some x3)
def conf_Text.f (k : Nat) (a0_0 : Int) (a0_1 : Int) (a0_2 : Int) (a0_3 : Int) (a0_4 : Int) (l0_5 : List ByteArray) (l0_6 : List (S41)) : Option (ByteArray) := (conf_Check.f k a0_0 a0_1 a0_2 a0_3 a0_4 l0_5 l0_6).bind fun t133 => (if t133 = 0 then ((conf_Number.f a0_0).bind fun t134 => ((conf_Number.f a0_1).bind fun t135 => ((conf_Number.f a0_2).bind fun t136 => ((conf_Number.f a0_3).bind fun t137 => ((conf_Number.f a0_4).bind fun t138 => ((conf_line.f (([(⟨#[99, 108, 117, 115, 116, 101, 114]⟩ : ByteArray), t134, t135, t136, t137, t138] : List ByteArray))).bind fun t142 => ((some (([(⟨#[110, 97, 109, 101, 115]⟩ : ByteArray)] : List ByteArray) : List ByteArray)).bind fun y143 => (if y143.length + l0_5.length < 8796093022208 then ((conf_line.f (y143 ++ l0_5)).bind fun t149 => (if t142.size + t149.size ≤ 9223372036854775807 then (conf_Text.l0 k (t142 ++ t149) l0_6 (l0_6.length : Int) 0 a0_0 a0_1 a0_2 a0_3 a0_4 l0_5 l0_6) else (none))) else (none))))))))) else (some (⟨#[]⟩ : ByteArray)))
theorem conf_Text.mono_l : ∀ k, (∀ y0 y1 y2 y3 y4 y5 y6 y7 y8 y9 y10, LeO (conf_Text.l0 k y0 y1 y2 y3 y4 y5 y6 y7 y8 y9 y10) (conf_Text.l0 (k + 1) y0 y1 y2 y3 y4 y5 y6 y7 y8 y9 y10))
 | 0 => fun _ _ _ _ _ _ _ _ _ _ _ r h => by simp [conf_Text.l0] at h
 | k + 1 => by
  have ih0 := conf_Text.mono_l k
  ·
   intro y0 y1 y2 y3 y4 y5 y6 y7 y8 y9 y10
   unfold conf_Text.l0
   repeat' first
   | (with_reducible exact ih0 _ _ _ _ _ _ _ _ _ _ _)
   | (with_reducible exact conf_Check.mono _ _ _ _ _ _ _ _)
   | (with_reducible exact LeO.refl _)
   | (with_reducible exact LeO.none _)
   | (with_reducible refine LeO.ite ?_ ?_)
   | (with_reducible refine LeO.bind ?_ (fun _ => ?_))
   | exact ih0 _ _ _ _ _ _ _ _ _ _ _
   | exact conf_Check.mono _ _ _ _ _ _ _ _
   | exact LeO.none _
   | refine LeO.ite ?_ ?_
   | refine LeO.bind ?_ (fun _ => ?_)
theorem conf_Text.mono : ∀ a0 a1 a2 a3 a4 a5 a6 k, LeO (conf_Text.f k a0 a1 a2 a3 a4 a5 a6) (conf_Text.f (k + 1) a0 a1 a2 a3 a4 a5 a6) := by
 intro a0 a1 a2 a3 a4 a5 a6 k
 have ih0 := conf_Text.mono_l k
 unfold conf_Text.f
 repeat' first
   | (with_reducible exact ih0 _ _ _ _ _ _ _ _ _ _ _)
   | (with_reducible exact conf_Check.mono _ _ _ _ _ _ _ _)
   | (with_reducible exact LeO.refl _)
   | (with_reducible exact LeO.none _)
   | (with_reducible refine LeO.ite ?_ ?_)
   | (with_reducible refine LeO.bind ?_ (fun _ => ?_))
   | exact ih0 _ _ _ _ _ _ _ _ _ _ _
   | exact conf_Check.mono _ _ _ _ _ _ _ _
   | exact LeO.none _
   | refine LeO.ite ?_ ?_
   | refine LeO.bind ?_ (fun _ => ?_)
def conf_Text.T3 : Bool × List (List Nat × List Nat) := (true, [([], []), ([0], [0]), ([1], [1]), ([], []), ([3], [3]), ([4, 2], [4]), ([], []), ([6], [6]), ([7, 5], [7]), ([], []), ([9], [9]), ([10, 8], [10]), ([], []), ([12], [12]), ([13, 11], [13]), ([2, 5, 8, 11, 14], [2, 5, 8, 11, 14]), ([15, 14], [15]), ([16, 16, 0, 1, 2, 3, 4, 5, 6, 7, 8, 9, 10, 11, 12, 13, 14, 15, 16], [16])])
def conf_Text.B3 : List Nat := [0, 1, 3, 0, 8, 31, 0, 64, 255, 0, 512, 2047, 0, 4096, 16383, 32767, 65535, 131071]
theorem conf_Text.tab3 : rtab .any (opsOf Tryz.f9 3) = conf_Text.T3 := by kernel_rfl
theorem conf_Text.bits3 : waitsOk conf_Text.T3.2 conf_Text.B3 = true := by kernel_rfl
set_option maxHeartbeats 8000000 in
set_option maxRecDepth 100000 in
theorem conf_Text.calls (k : Nat) (a0_0 : Int) (a0_1 : Int) (a0_2 : Int) (a0_3 : Int) (a0_4 : Int) (A0_5 : Option Addr) (c0_5 : Nat) (l0_5 : List ByteArray) (A0_6 : Option Addr) (c0_6 : Nat) (l0_6 : List (S41)) (r : ByteArray) (w : World) (hr0_5 : Kd.C Kd.string w A0_5 l0_5.length l0_5) (hc0_5 : l0_5.length ≤ c0_5) (hr0_6 : Kd.C k41 w A0_6 l0_6.length l0_6) (hc0_6 : l0_6.length ≤ c0_6) (hL_ : Laid w) (h : conf_Text.f k a0_0 a0_1 a0_2 a0_3 a0_4 l0_5 l0_6 = some r) :
  Calls Tryz.prog 9 #[.agg #[.int .i64 a0_0, .int .i64 a0_1, .int .i64 a0_2, .int .i64 a0_3, .int .i64 a0_4, .slice A0_5 l0_5.length c0_5, .slice A0_6 l0_6.length c0_6]] w fun e w' => e = .returned (.string r) ∧ Below w.heap.size w w' := by
 have hu25 := Tryz.underlying25
 have hu41 := Tryz.underlying41
 have HLD := As0.mk hL_
 clear hL_
 have HR0_5 := As0.mk hr0_5
 have HC0_5 := As0.mk hc0_5
 clear hr0_5 hc0_5
 have HR0_6 := As0.mk hr0_6
 have HC0_6 := As0.mk hc0_6
 clear hr0_6 hc0_6
 have HB := As0.mk (Below.refl w.heap.size w)
 have H : ((conf_Check.f k a0_0 a0_1 a0_2 a0_3 a0_4 l0_5 l0_6).bind fun t133 => (if t133 = 0 then ((conf_Number.f a0_0).bind fun t134 => ((conf_Number.f a0_1).bind fun t135 => ((conf_Number.f a0_2).bind fun t136 => ((conf_Number.f a0_3).bind fun t137 => ((conf_Number.f a0_4).bind fun t138 => ((conf_line.f (([(⟨#[99, 108, 117, 115, 116, 101, 114]⟩ : ByteArray), t134, t135, t136, t137, t138] : List ByteArray))).bind fun t142 => ((some (([(⟨#[110, 97, 109, 101, 115]⟩ : ByteArray)] : List ByteArray) : List ByteArray)).bind fun y143 => (if y143.length + l0_5.length < 8796093022208 then ((conf_line.f (y143 ++ l0_5)).bind fun t149 => (if t142.size + t149.size ≤ 9223372036854775807 then (conf_Text.l0 k (t142 ++ t149) l0_6 (l0_6.length : Int) 0 a0_0 a0_1 a0_2 a0_3 a0_4 l0_5 l0_6) else (none))) else (none))))))))) else (some (⟨#[]⟩ : ByteArray)))) = some r := h
 clear h
 replace H := Option.bind_eq_some_iff.mp H
 obtain ⟨t133, A20, H⟩ := H
 replace H : (if t133 = 0 then ((conf_Number.f a0_0).bind fun t134 => ((conf_Number.f a0_1).bind fun t135 => ((conf_Number.f a0_2).bind fun t136 => ((conf_Number.f a0_3).bind fun t137 => ((conf_Number.f a0_4).bind fun t138 => ((conf_line.f (([(⟨#[99, 108, 117, 115, 116, 101, 114]⟩ : ByteArray), t134, t135, t136, t137, t138] : List ByteArray))).bind fun t142 => ((some (([(⟨#[110, 97, 109, 101, 115]⟩ : ByteArray)] : List ByteArray) : List ByteArray)).bind fun y143 => (if y143.length + l0_5.length < 8796093022208 then ((conf_line.f (y143 ++ l0_5)).bind fun t149 => (if t142.size + t149.size ≤ 9223372036854775807 then (conf_Text.l0 k (t142 ++ t149) l0_6 (l0_6.length : Int) 0 a0_0 a0_1 a0_2 a0_3 a0_4 l0_5 l0_6) else (none))) else (none))))))))) else (some (⟨#[]⟩ : ByteArray))) = some r := H
 have A2 := As0.mk A20
 clear A20
 by_cases c3 : t133 = 0
 ·
  rw [if_pos c3] at H
  have c3b0 : (t133 == 0) = true := beq_iff_eq.mpr c3
  have c3b1 : (t133 != 0) = false := bne_eq_false_iff_eq.mpr c3
  clear c3
  replace H := Option.bind_eq_some_iff.mp H
  obtain ⟨t134, A40, H⟩ := H
  replace H : ((conf_Number.f a0_1).bind fun t135 => ((conf_Number.f a0_2).bind fun t136 => ((conf_Number.f a0_3).bind fun t137 => ((conf_Number.f a0_4).bind fun t138 => ((conf_line.f (([(⟨#[99, 108, 117, 115, 116, 101, 114]⟩ : ByteArray), t134, t135, t136, t137, t138] : List ByteArray))).bind fun t142 => ((some (([(⟨#[110, 97, 109, 101, 115]⟩ : ByteArray)] : List ByteArray) : List ByteArray)).bind fun y143 => (if y143.length + l0_5.length < 8796093022208 then ((conf_line.f (y143 ++ l0_5)).bind fun t149 => (if t142.size + t149.size ≤ 9223372036854775807 then (conf_Text.l0 k (t142 ++ t149) l0_6 (l0_6.length : Int) 0 a0_0 a0_1 a0_2 a0_3 a0_4 l0_5 l0_6) else (none))) else (none)))))))) = some r := H
  have A4 := As0.mk A40
  clear A40
  replace H := Option.bind_eq_some_iff.mp H
  obtain ⟨t135, A50, H⟩ := H
  replace H : ((conf_Number.f a0_2).bind fun t136 => ((conf_Number.f a0_3).bind fun t137 => ((conf_Number.f a0_4).bind fun t138 => ((conf_line.f (([(⟨#[99, 108, 117, 115, 116, 101, 114]⟩ : ByteArray), t134, t135, t136, t137, t138] : List ByteArray))).bind fun t142 => ((some (([(⟨#[110, 97, 109, 101, 115]⟩ : ByteArray)] : List ByteArray) : List ByteArray)).bind fun y143 => (if y143.length + l0_5.length < 8796093022208 then ((conf_line.f (y143 ++ l0_5)).bind fun t149 => (if t142.size + t149.size ≤ 9223372036854775807 then (conf_Text.l0 k (t142 ++ t149) l0_6 (l0_6.length : Int) 0 a0_0 a0_1 a0_2 a0_3 a0_4 l0_5 l0_6) else (none))) else (none))))))) = some r := H
  have A5 := As0.mk A50
  clear A50
  replace H := Option.bind_eq_some_iff.mp H
  obtain ⟨t136, A60, H⟩ := H
  replace H : ((conf_Number.f a0_3).bind fun t137 => ((conf_Number.f a0_4).bind fun t138 => ((conf_line.f (([(⟨#[99, 108, 117, 115, 116, 101, 114]⟩ : ByteArray), t134, t135, t136, t137, t138] : List ByteArray))).bind fun t142 => ((some (([(⟨#[110, 97, 109, 101, 115]⟩ : ByteArray)] : List ByteArray) : List ByteArray)).bind fun y143 => (if y143.length + l0_5.length < 8796093022208 then ((conf_line.f (y143 ++ l0_5)).bind fun t149 => (if t142.size + t149.size ≤ 9223372036854775807 then (conf_Text.l0 k (t142 ++ t149) l0_6 (l0_6.length : Int) 0 a0_0 a0_1 a0_2 a0_3 a0_4 l0_5 l0_6) else (none))) else (none)))))) = some r := H
  have A6 := As0.mk A60
  clear A60
  replace H := Option.bind_eq_some_iff.mp H
  obtain ⟨t137, A70, H⟩ := H
  replace H : ((conf_Number.f a0_4).bind fun t138 => ((conf_line.f (([(⟨#[99, 108, 117, 115, 116, 101, 114]⟩ : ByteArray), t134, t135, t136, t137, t138] : List ByteArray))).bind fun t142 => ((some (([(⟨#[110, 97, 109, 101, 115]⟩ : ByteArray)] : List ByteArray) : List ByteArray)).bind fun y143 => (if y143.length + l0_5.length < 8796093022208 then ((conf_line.f (y143 ++ l0_5)).bind fun t149 => (if t142.size + t149.size ≤ 9223372036854775807 then (conf_Text.l0 k (t142 ++ t149) l0_6 (l0_6.length : Int) 0 a0_0 a0_1 a0_2 a0_3 a0_4 l0_5 l0_6) else (none))) else (none))))) = some r := H
  have A7 := As0.mk A70
  clear A70
  replace H := Option.bind_eq_some_iff.mp H
  obtain ⟨t138, A80, H⟩ := H
  replace H : ((conf_line.f (([(⟨#[99, 108, 117, 115, 116, 101, 114]⟩ : ByteArray), t134, t135, t136, t137, t138] : List ByteArray))).bind fun t142 => ((some (([(⟨#[110, 97, 109, 101, 115]⟩ : ByteArray)] : List ByteArray) : List ByteArray)).bind fun y143 => (if y143.length + l0_5.length < 8796093022208 then ((conf_line.f (y143 ++ l0_5)).bind fun t149 => (if t142.size + t149.size ≤ 9223372036854775807 then (conf_Text.l0 k (t142 ++ t149) l0_6 (l0_6.length : Int) 0 a0_0 a0_1 a0_2 a0_3 a0_4 l0_5 l0_6) else (none))) else (none)))) = some r := H
  have A8 := As0.mk A80
  clear A80
  obtain ⟨y139, hy139⟩ : ∃ y_ : List ByteArray, y_ = (([(⟨#[99, 108, 117, 115, 116, 101, 114]⟩ : ByteArray), t134, t135, t136, t137, t138] : List ByteArray)) := ⟨_, rfl⟩
  replace H : ((conf_line.f y139).bind fun t142 => ((some (([(⟨#[110, 97, 109, 101, 115]⟩ : ByteArray)] : List ByteArray) : List ByteArray)).bind fun y143 => (if y143.length + l0_5.length < 8796093022208 then ((conf_line.f (y143 ++ l0_5)).bind fun t149 => (if t142.size + t149.size ≤ 9223372036854775807 then (conf_Text.l0 k (t142 ++ t149) l0_6 (l0_6.length : Int) 0 a0_0 a0_1 a0_2 a0_3 a0_4 l0_5 l0_6) else (none))) else (none)))) = some r := by first | (rw [hy139]; with_reducible exact H) | (have H2_ := (Option.bind_some _ _).symm.trans H; rw [hy139]; with_reducible exact H2_) | (have H2_ := (Option.bind_some _ _).symm.trans H; with_reducible exact H2_) | with_reducible exact H | (rw [hy139]; exact H) | exact H
  have Ny139 := As0.mk hy139
  clear hy139
  replace H := Option.bind_eq_some_iff.mp H
  obtain ⟨t142, A90, H⟩ := H
  replace H : ((some (([(⟨#[110, 97, 109, 101, 115]⟩ : ByteArray)] : List ByteArray) : List ByteArray)).bind fun y143 => (if y143.length + l0_5.length < 8796093022208 then ((conf_line.f (y143 ++ l0_5)).bind fun t149 => (if t142.size + t149.size ≤ 9223372036854775807 then (conf_Text.l0 k (t142 ++ t149) l0_6 (l0_6.length : Int) 0 a0_0 a0_1 a0_2 a0_3 a0_4 l0_5 l0_6) else (none))) else (none))) = some r := H
  have A9 := As0.mk A90
  clear A90
  obtain ⟨y143, hy143⟩ : ∃ y_ : List ByteArray, y_ = (([(⟨#[110, 97, 109, 101, 115]⟩ : ByteArray)] : List ByteArray)) := ⟨_, rfl⟩
  replace H : (if y143.length + l0_5.length < 8796093022208 then ((conf_line.f (y143 ++ l0_5)).bind fun t149 => (if t142.size + t149.size ≤ 9223372036854775807 then (conf_Text.l0 k (t142 ++ t149) l0_6 (l0_6.length : Int) 0 a0_0 a0_1 a0_2 a0_3 a0_4 l0_5 l0_6) else (none))) else (none)) = some r := by first | (rw [hy143]; with_reducible exact H) | (have H2_ := (Option.bind_some _ _).symm.trans H; rw [hy143]; with_reducible exact H2_) | (have H2_ := (Option.bind_some _ _).symm.trans H; with_reducible exact H2_) | with_reducible exact H | (rw [hy143]; exact H) | exact H
  have Ny143 := As0.mk hy143
  clear hy143
  by_cases c10 : y143.length + l0_5.length < 8796093022208
  ·
   rw [if_pos c10] at H
   have LMc10 := As0.mk c10
   clear c10
   obtain ⟨y146, hy146⟩ : ∃ y_ : List ByteArray, y_ = (y143 ++ l0_5) := ⟨_, rfl⟩
   replace H : ((conf_line.f y146).bind fun t149 => (if t142.size + t149.size ≤ 9223372036854775807 then (conf_Text.l0 k (t142 ++ t149) l0_6 (l0_6.length : Int) 0 a0_0 a0_1 a0_2 a0_3 a0_4 l0_5 l0_6) else (none))) = some r := by first | (rw [hy146]; with_reducible exact H) | (have H2_ := (Option.bind_some _ _).symm.trans H; rw [hy146]; with_reducible exact H2_) | (have H2_ := (Option.bind_some _ _).symm.trans H; with_reducible exact H2_) | with_reducible exact H | (rw [hy146]; exact H) | exact H
   have Ny146 := As0.mk hy146
   clear hy146
   replace H := Option.bind_eq_some_iff.mp H
   obtain ⟨t149, A110, H⟩ := H
   replace H : (if t142.size + t149.size ≤ 9223372036854775807 then (conf_Text.l0 k (t142 ++ t149) l0_6 (l0_6.length : Int) 0 a0_0 a0_1 a0_2 a0_3 a0_4 l0_5 l0_6) else (none)) = some r := H
   have A11 := As0.mk A110
   clear A110
   by_cases c12 : t142.size + t149.size ≤ 9223372036854775807
   ·
    rw [if_pos c12] at H
    have c12b0 := eq_true c12
    have c12b1 : decide (t142.size + t149.size ≤ 9223372036854775807) = true := decide_eq_true c12
    try have c12b2 : (9223372036854775807 < t142.size + t149.size) = False := eq_false (Nat.not_lt.2 c12)
    have H' := As0.mk H
    clear H
    go_enter Tryz.func9, Tryz.ntmps9
    try go_wp2_with (first | ((with_reducible refine gate_dst (N := 1) rfl ?_); refine box_event ?hg (N := 1) ?hd (cs := #[.int .i64 a0_0, .int .i64 a0_1, .int .i64 a0_2, .int .i64 a0_3, .int .i64 a0_4, .slice A0_5 l0_5.length c0_5, .slice A0_6 l0_6.length c0_6]) (t := 25) ?hr ?_; (case hd => rfl); (case hg => rfl); (case hr => first | (go_simp; done) | (go_simp; rfl)); intro gb132 hg w13 hbox hb; have n0_ := As0.mk (below_step (by repeat (first | (with_reducible first | exact HB.out | apply bla | apply bln | apply bld) | exact HB.out)) hb); have n1_ := As0.mk (hbox); have n2_ := As0.mk ((by rw [hg]; exact (below_size (by repeat (first | (with_reducible first | exact HB.out | apply bla | apply bln | apply bld) | exact HB.out))) : w.heap.size ≤ gb132)); have n3_ := As0.mk ((by rw [hg]; exact (below_size (by repeat (first | (with_reducible first | exact HB.out | apply bla | apply bln | apply bld) | exact HB.out))) : w.heap.size ≤ gb132)); clear HB; have HB := n0_; have BK132 := n1_; have GW132 := n2_; have GE132 := n3_; clear n0_ n1_ n2_ n3_; clear hb hbox hg; have hcz14_0 : w13.cell? ⟨gb132, 0, none⟩ = some (.int .i64 a0_0) := (bkc BK132.out 0).trans rfl; have hcz14_1 : w13.cell? ⟨gb132, 1, none⟩ = some (.int .i64 a0_1) := (bkc BK132.out 1).trans rfl; have hcz14_2 : w13.cell? ⟨gb132, 2, none⟩ = some (.int .i64 a0_2) := (bkc BK132.out 2).trans rfl; have hcz14_3 : w13.cell? ⟨gb132, 3, none⟩ = some (.int .i64 a0_3) := (bkc BK132.out 3).trans rfl; have hcz14_4 : w13.cell? ⟨gb132, 4, none⟩ = some (.int .i64 a0_4) := (bkc BK132.out 4).trans rfl; have hcz14_5 : w13.cell? ⟨gb132, 5, none⟩ = some (.slice A0_5 l0_5.length c0_5) := (bkc BK132.out 5).trans rfl; have hcz14_6 : w13.cell? ⟨gb132, 6, none⟩ = some (.slice A0_6 l0_6.length c0_6) := (bkc BK132.out 6).trans rfl; have hfz14_0 := bkf BK132.out 0; have hfz14_1 := bkf BK132.out 1; have hfz14_2 := bkf BK132.out 2; have hfz14_3 := bkf BK132.out 3; have hfz14_4 := bkf BK132.out 4; have hfz14_5 := bkf BK132.out 5; have hfz14_6 := bkf BK132.out 6) | ((with_reducible refine gate_callee (f := 7) rfl ?_); refine goesL_ (some 7) rfl rfl Tryz.func7 (by kernel_rfl) rfl #[.agg #[.int .i64 a0_0, .int .i64 a0_1, .int .i64 a0_2, .int .i64 a0_3, .int .i64 a0_4, .slice A0_5 l0_5.length c0_5, .slice A0_6 l0_6.length c0_6]] rfl (by (try simp only [List.map_toArray, List.map_cons, List.map_nil]); first | done | rfl | (simp only [List.length_drop, List.length_take]; rfl)) ?_; (with_reducible refine (conf_Check.calls k a0_0 a0_1 a0_2 a0_3 a0_4 _ _ l0_5 _ _ l0_6 t133 _ ?side1 ?side2 ?side3 ?side4 A2.out).mono ?_); (case side1 => repeat (first | exact (Kd.C_below HR0_5.out HB.out) | (with_reducible refine Kd.C_alloc ?_ _) | (with_reducible refine Kd.C_drewN ?_ _) | (with_reducible refine Kd.C_drew ?_))); (case side2 => exact HC0_5.out); (case side3 => repeat (first | exact (Kd.C_below HR0_6.out HB.out) | (with_reducible refine Kd.C_alloc ?_ _) | (with_reducible refine Kd.C_drewN ?_ _) | (with_reducible refine Kd.C_drew ?_))); (case side4 => exact HC0_6.out); rintro e w15 ⟨rfl, hb⟩; refine ⟨_, rfl, ?_⟩; have n0_ := As0.mk (blk_below (g := gb132) (o := .cells #[.int .i64 a0_0, .int .i64 a0_1, .int .i64 a0_2, .int .i64 a0_3, .int .i64 a0_4, .slice A0_5 l0_5.length c0_5, .slice A0_6 l0_6.length c0_6] 25 (0, 0)) (by (with_reducible repeat (first | refine bkn ?_ _ | refine bkd ?_ | refine bka ?_ _)); exact BK132.out) hb); have n1_ := As0.mk (below_step (by repeat (first | (with_reducible first | exact HB.out | apply bla | apply bln | apply bld | refine bls ?_ GE132.out) | exact HB.out)) hb); clear BK132; clear HB; have BK132 := n0_; have HB := n1_; clear n0_ n1_; (try clear hb); (try clear hb2); (try clear hk); (try clear hi)))
    have n0_ := As0.mk (bkd BK132.out)
    have n1_ := As0.mk (bld HB.out)
    clear BK132
    clear HB
    have BK132 := n0_
    have HB := n1_
    clear n0_ n1_
    refine start_ (n := 18) (S := fun w' => w'.cell? ⟨gb132, 0, none⟩ = some (.int .i64 a0_0) ∧ w'.cell? ⟨gb132, 1, none⟩ = some (.int .i64 a0_1) ∧ w'.cell? ⟨gb132, 2, none⟩ = some (.int .i64 a0_2) ∧ w'.cell? ⟨gb132, 3, none⟩ = some (.int .i64 a0_3) ∧ w'.cell? ⟨gb132, 4, none⟩ = some (.int .i64 a0_4) ∧ w'.cell? ⟨gb132, 5, none⟩ = some (.slice A0_5 l0_5.length c0_5) ∧ w'.cell? ⟨gb132, 6, none⟩ = some (.slice A0_6 l0_6.length c0_6)) (ds := []) #[false, false, false, false, false, false, false, false, false, false, false, false, false, false, false, false, false, false] (by kernel_rfl) rfl rfl ⟨(bkc BK132.out 0).trans rfl, (bkc BK132.out 1).trans rfl, (bkc BK132.out 2).trans rfl, (bkc BK132.out 3).trans rfl, (bkc BK132.out 4).trans rfl, (bkc BK132.out 5).trans rfl, (bkc BK132.out 6).trans rfl⟩ (fun hHeld => ?_); refine with_tabW conf_Text.tab3 conf_Text.bits3 (fun HT_ HW_ => ?_)
    generalize w15.drew = w16 at BK132 HB hHeld ⊢
    refine pure_ (i := 0) (N := some 9) (v := ?_) (a' := ?_) #[true, false, false, false, false, false, false, false, false, false, false, false, false, false, false, false, false, false] rfl rfl (any_of HT_.out (by kernel_rfl)) (fun _ _ _ h => h) (Or.inl ⟨by rfl, ?_⟩) ?_ ?_
    rotate_left
    ·
     intro w'
     go_simp
     with_reducible rfl
    rotate_left
    ·
     simp only [Act.put, List.setIfInBounds_toArray, List.set_cons_zero, List.set_cons_succ, i64_w, i32_w]
     rfl
    refine pure_ (i := 3) (N := some 12) (v := ?_) (a' := ?_) #[true, false, false, true, false, false, false, false, false, false, false, false, false, false, false, false, false, false] rfl rfl (any_of HT_.out (by kernel_rfl)) (fun _ _ _ h => h) (Or.inl ⟨by rfl, ?_⟩) ?_ ?_
    rotate_left
    ·
     intro w'
     go_simp
     with_reducible rfl
    rotate_left
    ·
     simp only [Act.put, List.setIfInBounds_toArray, List.set_cons_zero, List.set_cons_succ, i64_w, i32_w]
     rfl
    refine pure_ (i := 6) (N := some 15) (v := ?_) (a' := ?_) #[true, false, false, true, false, false, true, false, false, false, false, false, false, false, false, false, false, false] rfl rfl (any_of HT_.out (by kernel_rfl)) (fun _ _ _ h => h) (Or.inl ⟨by rfl, ?_⟩) ?_ ?_
    rotate_left
    ·
     intro w'
     go_simp
     with_reducible rfl
    rotate_left
    ·
     simp only [Act.put, List.setIfInBounds_toArray, List.set_cons_zero, List.set_cons_succ, i64_w, i32_w]
     rfl
    refine pure_ (i := 9) (N := some 18) (v := ?_) (a' := ?_) #[true, false, false, true, false, false, true, false, false, true, false, false, false, false, false, false, false, false] rfl rfl (any_of HT_.out (by kernel_rfl)) (fun _ _ _ h => h) (Or.inl ⟨by rfl, ?_⟩) ?_ ?_
    rotate_left
    ·
     intro w'
     go_simp
     with_reducible rfl
    rotate_left
    ·
     simp only [Act.put, List.setIfInBounds_toArray, List.set_cons_zero, List.set_cons_succ, i64_w, i32_w]
     rfl
    refine pure_ (i := 12) (N := some 21) (v := ?_) (a' := ?_) #[true, false, false, true, false, false, true, false, false, true, false, false, true, false, false, false, false, false] rfl rfl (any_of HT_.out (by kernel_rfl)) (fun _ _ _ h => h) (Or.inl ⟨by rfl, ?_⟩) ?_ ?_
    rotate_left
    ·
     intro w'
     go_simp
     with_reducible rfl
    rotate_left
    ·
     simp only [Act.put, List.setIfInBounds_toArray, List.set_cons_zero, List.set_cons_succ, i64_w, i32_w]
     rfl
    refine take_ (i := 1) (N := some 10) (v := ?_) (a' := ?_) #[true, true, false, true, false, false, true, false, false, true, false, false, true, false, false, false, false, false] rfl rfl (take_ofW HT_.out HW_.out (by kernel_rfl)) (fun _ _ _ h => h) (Or.inl ⟨by rfl, ?_⟩) hHeld ?_ ?_
    rotate_left
    ·
     rintro w' ⟨s0, s1, s2, s3, s4, s5, s6⟩
     go_simp
     with_reducible rfl
    rotate_left
    ·
     simp only [Act.put, List.setIfInBounds_toArray, List.set_cons_zero, List.set_cons_succ, i64_w, i32_w]
     rfl
    refine take_ (i := 4) (N := some 13) (v := ?_) (a' := ?_) #[true, true, false, true, true, false, true, false, false, true, false, false, true, false, false, false, false, false] rfl rfl (take_ofW HT_.out HW_.out (by kernel_rfl)) (fun _ _ _ h => h) (Or.inl ⟨by rfl, ?_⟩) hHeld ?_ ?_
    rotate_left
    ·
     rintro w' ⟨s0, s1, s2, s3, s4, s5, s6⟩
     go_simp
     with_reducible rfl
    rotate_left
    ·
     simp only [Act.put, List.setIfInBounds_toArray, List.set_cons_zero, List.set_cons_succ, i64_w, i32_w]
     rfl
    refine take_ (i := 7) (N := some 16) (v := ?_) (a' := ?_) #[true, true, false, true, true, false, true, true, false, true, false, false, true, false, false, false, false, false] rfl rfl (take_ofW HT_.out HW_.out (by kernel_rfl)) (fun _ _ _ h => h) (Or.inl ⟨by rfl, ?_⟩) hHeld ?_ ?_
    rotate_left
    ·
     rintro w' ⟨s0, s1, s2, s3, s4, s5, s6⟩
     go_simp
     with_reducible rfl
    rotate_left
    ·
     simp only [Act.put, List.setIfInBounds_toArray, List.set_cons_zero, List.set_cons_succ, i64_w, i32_w]
     rfl
    refine take_ (i := 10) (N := some 19) (v := ?_) (a' := ?_) #[true, true, false, true, true, false, true, true, false, true, true, false, true, false, false, false, false, false] rfl rfl (take_ofW HT_.out HW_.out (by kernel_rfl)) (fun _ _ _ h => h) (Or.inl ⟨by rfl, ?_⟩) hHeld ?_ ?_
    rotate_left
    ·
     rintro w' ⟨s0, s1, s2, s3, s4, s5, s6⟩
     go_simp
     with_reducible rfl
    rotate_left
    ·
     simp only [Act.put, List.setIfInBounds_toArray, List.set_cons_zero, List.set_cons_succ, i64_w, i32_w]
     rfl
    refine take_ (i := 13) (N := some 22) (v := ?_) (a' := ?_) #[true, true, false, true, true, false, true, true, false, true, true, false, true, true, false, false, false, false] rfl rfl (take_ofW HT_.out HW_.out (by kernel_rfl)) (fun _ _ _ h => h) (Or.inl ⟨by rfl, ?_⟩) hHeld ?_ ?_
    rotate_left
    ·
     rintro w' ⟨s0, s1, s2, s3, s4, s5, s6⟩
     go_simp
     with_reducible rfl
    rotate_left
    ·
     simp only [Act.put, List.setIfInBounds_toArray, List.set_cons_zero, List.set_cons_succ, i64_w, i32_w]
     rfl
    refine one_ (i := 2) (N := some 11) #[true, true, true, true, true, false, true, true, false, true, true, false, true, true, false, false, false, false] rfl rfl (one_of HT_.out (by kernel_rfl)) (by decide) (fun K hK => ?_)
    refine goes_ Tryz.func22 (by kernel_rfl) rfl #[.int .i64 a0_0] (by rfl) rfl rfl (by (try simp only [List.map_toArray, List.map_cons, List.map_nil]); first | done | rfl | (simp only [List.length_drop, List.length_take]; rfl)) ?_
    with_reducible refine (conf_Number.calls a0_0 t134 _ ?side1 A4.out).mono ?_
    (case side1 => exact Laid.below HLD.out (by repeat (first | (with_reducible first | exact HB.out | apply bla | apply bln | apply bld | refine bls ?_ GE132.out) | exact HB.out)))
    rintro e w17 ⟨rfl, hb⟩
    refine ⟨_, rfl, ?_⟩
    have n0_ := As0.mk (blk_below (g := gb132) (o := .cells #[.int .i64 a0_0, .int .i64 a0_1, .int .i64 a0_2, .int .i64 a0_3, .int .i64 a0_4, .slice A0_5 l0_5.length c0_5, .slice A0_6 l0_6.length c0_6] 25 (0, 0)) (by (with_reducible repeat (first | refine bkn ?_ _ | refine bkd ?_ | refine bka ?_ _)); exact BK132.out) hb)
    have n1_ := As0.mk (below_step (by repeat (first | (with_reducible first | exact HB.out | apply bla | apply bln | apply bld | refine bls ?_ GE132.out) | exact HB.out)) hb)
    clear BK132
    clear HB
    have BK132 := n0_
    have HB := n1_
    clear n0_ n1_
    (try clear hb)
    (try clear hb2)
    (try clear hk)
    (try clear hi)
    refine hK.out _ _ ⟨(bkc BK132.out 0).trans rfl, (bkc BK132.out 1).trans rfl, (bkc BK132.out 2).trans rfl, (bkc BK132.out 3).trans rfl, (bkc BK132.out 4).trans rfl, (bkc BK132.out 5).trans rfl, (bkc BK132.out 6).trans rfl⟩ (fun hHeld => ?_)
    clear hK K
    refine norm_ (a' := ?_) ?_ ?_
    rotate_left
    ·
     show Act.put _ (some 11) _ = _
     simp only [Act.put, List.setIfInBounds_toArray, List.set_cons_zero, List.set_cons_succ, i64_w, i32_w]
     rfl
    refine one_ (i := 5) (N := some 14) #[true, true, true, true, true, true, true, true, false, true, true, false, true, true, false, false, false, false] rfl rfl (one_of HT_.out (by kernel_rfl)) (by decide) (fun K hK => ?_)
    refine goes_ Tryz.func22 (by kernel_rfl) rfl #[.int .i64 a0_1] (by rfl) rfl rfl (by (try simp only [List.map_toArray, List.map_cons, List.map_nil]); first | done | rfl | (simp only [List.length_drop, List.length_take]; rfl)) ?_
    with_reducible refine (conf_Number.calls a0_1 t135 _ ?side1 A5.out).mono ?_
    (case side1 => exact Laid.below HLD.out (by repeat (first | (with_reducible first | exact HB.out | apply bla | apply bln | apply bld | refine bls ?_ GE132.out) | exact HB.out)))
    rintro e w18 ⟨rfl, hb⟩
    refine ⟨_, rfl, ?_⟩
    have n0_ := As0.mk (blk_below (g := gb132) (o := .cells #[.int .i64 a0_0, .int .i64 a0_1, .int .i64 a0_2, .int .i64 a0_3, .int .i64 a0_4, .slice A0_5 l0_5.length c0_5, .slice A0_6 l0_6.length c0_6] 25 (0, 0)) (by (with_reducible repeat (first | refine bkn ?_ _ | refine bkd ?_ | refine bka ?_ _)); exact BK132.out) hb)
    have n1_ := As0.mk (below_step (by repeat (first | (with_reducible first | exact HB.out | apply bla | apply bln | apply bld | refine bls ?_ GE132.out) | exact HB.out)) hb)
    clear BK132
    clear HB
    have BK132 := n0_
    have HB := n1_
    clear n0_ n1_
    (try clear hb)
    (try clear hb2)
    (try clear hk)
    (try clear hi)
    refine hK.out _ _ ⟨(bkc BK132.out 0).trans rfl, (bkc BK132.out 1).trans rfl, (bkc BK132.out 2).trans rfl, (bkc BK132.out 3).trans rfl, (bkc BK132.out 4).trans rfl, (bkc BK132.out 5).trans rfl, (bkc BK132.out 6).trans rfl⟩ (fun hHeld => ?_)
    clear hK K
    refine norm_ (a' := ?_) ?_ ?_
    rotate_left
    ·
     show Act.put _ (some 14) _ = _
     simp only [Act.put, List.setIfInBounds_toArray, List.set_cons_zero, List.set_cons_succ, i64_w, i32_w]
     rfl
    refine one_ (i := 8) (N := some 17) #[true, true, true, true, true, true, true, true, true, true, true, false, true, true, false, false, false, false] rfl rfl (one_of HT_.out (by kernel_rfl)) (by decide) (fun K hK => ?_)
    refine goes_ Tryz.func22 (by kernel_rfl) rfl #[.int .i64 a0_2] (by rfl) rfl rfl (by (try simp only [List.map_toArray, List.map_cons, List.map_nil]); first | done | rfl | (simp only [List.length_drop, List.length_take]; rfl)) ?_
    with_reducible refine (conf_Number.calls a0_2 t136 _ ?side1 A6.out).mono ?_
    (case side1 => exact Laid.below HLD.out (by repeat (first | (with_reducible first | exact HB.out | apply bla | apply bln | apply bld | refine bls ?_ GE132.out) | exact HB.out)))
    rintro e w19 ⟨rfl, hb⟩
    refine ⟨_, rfl, ?_⟩
    have n0_ := As0.mk (blk_below (g := gb132) (o := .cells #[.int .i64 a0_0, .int .i64 a0_1, .int .i64 a0_2, .int .i64 a0_3, .int .i64 a0_4, .slice A0_5 l0_5.length c0_5, .slice A0_6 l0_6.length c0_6] 25 (0, 0)) (by (with_reducible repeat (first | refine bkn ?_ _ | refine bkd ?_ | refine bka ?_ _)); exact BK132.out) hb)
    have n1_ := As0.mk (below_step (by repeat (first | (with_reducible first | exact HB.out | apply bla | apply bln | apply bld | refine bls ?_ GE132.out) | exact HB.out)) hb)
    clear BK132
    clear HB
    have BK132 := n0_
    have HB := n1_
    clear n0_ n1_
    (try clear hb)
    (try clear hb2)
    (try clear hk)
    (try clear hi)
    refine hK.out _ _ ⟨(bkc BK132.out 0).trans rfl, (bkc BK132.out 1).trans rfl, (bkc BK132.out 2).trans rfl, (bkc BK132.out 3).trans rfl, (bkc BK132.out 4).trans rfl, (bkc BK132.out 5).trans rfl, (bkc BK132.out 6).trans rfl⟩ (fun hHeld => ?_)
    clear hK K
    refine norm_ (a' := ?_) ?_ ?_
    rotate_left
    ·
     show Act.put _ (some 17) _ = _
     simp only [Act.put, List.setIfInBounds_toArray, List.set_cons_zero, List.set_cons_succ, i64_w, i32_w]
     rfl
    refine one_ (i := 11) (N := some 20) #[true, true, true, true, true, true, true, true, true, true, true, true, true, true, false, false, false, false] rfl rfl (one_of HT_.out (by kernel_rfl)) (by decide) (fun K hK => ?_)
    refine goes_ Tryz.func22 (by kernel_rfl) rfl #[.int .i64 a0_3] (by rfl) rfl rfl (by (try simp only [List.map_toArray, List.map_cons, List.map_nil]); first | done | rfl | (simp only [List.length_drop, List.length_take]; rfl)) ?_
    with_reducible refine (conf_Number.calls a0_3 t137 _ ?side1 A7.out).mono ?_
    (case side1 => exact Laid.below HLD.out (by repeat (first | (with_reducible first | exact HB.out | apply bla | apply bln | apply bld | refine bls ?_ GE132.out) | exact HB.out)))
    rintro e w20 ⟨rfl, hb⟩
    refine ⟨_, rfl, ?_⟩
    have n0_ := As0.mk (blk_below (g := gb132) (o := .cells #[.int .i64 a0_0, .int .i64 a0_1, .int .i64 a0_2, .int .i64 a0_3, .int .i64 a0_4, .slice A0_5 l0_5.length c0_5, .slice A0_6 l0_6.length c0_6] 25 (0, 0)) (by (with_reducible repeat (first | refine bkn ?_ _ | refine bkd ?_ | refine bka ?_ _)); exact BK132.out) hb)
    have n1_ := As0.mk (below_step (by repeat (first | (with_reducible first | exact HB.out | apply bla | apply bln | apply bld | refine bls ?_ GE132.out) | exact HB.out)) hb)
    clear BK132
    clear HB
    have BK132 := n0_
    have HB := n1_
    clear n0_ n1_
    (try clear hb)
    (try clear hb2)
    (try clear hk)
    (try clear hi)
    refine hK.out _ _ ⟨(bkc BK132.out 0).trans rfl, (bkc BK132.out 1).trans rfl, (bkc BK132.out 2).trans rfl, (bkc BK132.out 3).trans rfl, (bkc BK132.out 4).trans rfl, (bkc BK132.out 5).trans rfl, (bkc BK132.out 6).trans rfl⟩ (fun hHeld => ?_)
    clear hK K
    refine norm_ (a' := ?_) ?_ ?_
    rotate_left
    ·
     show Act.put _ (some 20) _ = _
     simp only [Act.put, List.setIfInBounds_toArray, List.set_cons_zero, List.set_cons_succ, i64_w, i32_w]
     rfl
    refine one_ (i := 14) (N := some 23) #[true, true, true, true, true, true, true, true, true, true, true, true, true, true, true, false, false, false] rfl rfl (one_of HT_.out (by kernel_rfl)) (by decide) (fun K hK => ?_)
    refine goes_ Tryz.func22 (by kernel_rfl) rfl #[.int .i64 a0_4] (by rfl) rfl rfl (by (try simp only [List.map_toArray, List.map_cons, List.map_nil]); first | done | rfl | (simp only [List.length_drop, List.length_take]; rfl)) ?_
    with_reducible refine (conf_Number.calls a0_4 t138 _ ?side1 A8.out).mono ?_
    (case side1 => exact Laid.below HLD.out (by repeat (first | (with_reducible first | exact HB.out | apply bla | apply bln | apply bld | refine bls ?_ GE132.out) | exact HB.out)))
    rintro e w21 ⟨rfl, hb⟩
    refine ⟨_, rfl, ?_⟩
    have n0_ := As0.mk (blk_below (g := gb132) (o := .cells #[.int .i64 a0_0, .int .i64 a0_1, .int .i64 a0_2, .int .i64 a0_3, .int .i64 a0_4, .slice A0_5 l0_5.length c0_5, .slice A0_6 l0_6.length c0_6] 25 (0, 0)) (by (with_reducible repeat (first | refine bkn ?_ _ | refine bkd ?_ | refine bka ?_ _)); exact BK132.out) hb)
    have n1_ := As0.mk (below_step (by repeat (first | (with_reducible first | exact HB.out | apply bla | apply bln | apply bld | refine bls ?_ GE132.out) | exact HB.out)) hb)
    clear BK132
    clear HB
    have BK132 := n0_
    have HB := n1_
    clear n0_ n1_
    (try clear hb)
    (try clear hb2)
    (try clear hk)
    (try clear hi)
    refine hK.out _ _ ⟨(bkc BK132.out 0).trans rfl, (bkc BK132.out 1).trans rfl, (bkc BK132.out 2).trans rfl, (bkc BK132.out 3).trans rfl, (bkc BK132.out 4).trans rfl, (bkc BK132.out 5).trans rfl, (bkc BK132.out 6).trans rfl⟩ (fun hHeld => ?_)
    clear hK K
    refine norm_ (a' := ?_) ?_ ?_
    rotate_left
    ·
     show Act.put _ (some 23) _ = _
     simp only [Act.put, List.setIfInBounds_toArray, List.set_cons_zero, List.set_cons_succ, i64_w, i32_w]
     rfl
    refine one_ (i := 15) (N := some 24) #[true, true, true, true, true, true, true, true, true, true, true, true, true, true, true, true, false, false] rfl rfl (one_of HT_.out (by kernel_rfl)) (by decide) (fun K hK => ?_)
    refine Kd.R_lit_step Kd.string _ 9 ?hg (N := 24) ?hd (xs := ([(⟨#[99, 108, 117, 115, 116, 101, 114]⟩ : ByteArray), t134, t135, t136, t137, t138] : List ByteArray)) (inner := [.string (⟨#[99, 108, 117, 115, 116, 101, 114]⟩ : ByteArray), .string t134, .string t135, .string t136, .string t137, .string t138]) (ok := fun _ => True) (okp := fun _ => True) ?hr ?hp (fun _ hk => hk) trivial (Below.refl _ _) (Nat.le_refl _) (by simp) ?_; (case hd => rfl); (case hg => rfl); (case hr => first | (go_simp; done) | (go_simp; rfl)); (case hp => exact (Reps.one (show Kd.M Kd.string _ _ _ (⟨#[99, 108, 117, 115, 116, 101, 114]⟩ : ByteArray) [.string (⟨#[99, 108, 117, 115, 116, 101, 114]⟩ : ByteArray)] from rfl) (Reps.one (show Kd.M Kd.string _ _ _ t134 [.string t134] from rfl) (Reps.one (show Kd.M Kd.string _ _ _ t135 [.string t135] from rfl) (Reps.one (show Kd.M Kd.string _ _ _ t136 [.string t136] from rfl) (Reps.one (show Kd.M Kd.string _ _ _ t137 [.string t137] from rfl) (Reps.one (show Kd.M Kd.string _ _ _ t138 [.string t138] from rfl) (Reps.none _ _))))))))
    intro v140 w22 ho23 hb hg_ hnew_
    clear hg_ hnew_
    (first | rw [← Ny139.out] at ho23 | (simp only [Int.reduceToNat] at ho23; rw [← Ny139.out] at ho23))
    have n0_ := As0.mk (Kd.R_lower ho23 (below_size (by repeat (first | (with_reducible first | exact HB.out | apply bla | apply bln | apply bld | refine bls ?_ GE132.out) | exact HB.out))))
    have n1_ := As0.mk (blk_below (g := gb132) (o := .cells #[.int .i64 a0_0, .int .i64 a0_1, .int .i64 a0_2, .int .i64 a0_3, .int .i64 a0_4, .slice A0_5 l0_5.length c0_5, .slice A0_6 l0_6.length c0_6] 25 (0, 0)) (by (with_reducible repeat (first | refine bkn ?_ _ | refine bkd ?_ | refine bka ?_ _)); exact BK132.out) hb)
    have n2_ := As0.mk (below_step (by repeat (first | (with_reducible first | exact HB.out | apply bla | apply bln | apply bld | refine bls ?_ GE132.out) | exact HB.out)) hb)
    clear BK132
    clear HB
    have HO141 := n0_
    have BK132 := n1_
    have HB := n2_
    clear n0_ n1_ n2_
    clear hb ho23
    obtain ⟨Ao24, co24, eo24⟩ := Kd.R_slice HO141.out
    (first | subst eo24 | (injection eo24 with f1_ f2_ f3_; have f4_ := f1_.symm; have f5_ := f3_.symm; clear f1_ f2_ f3_; subst f4_; subst f5_))
    refine hK.out _ _ ⟨(bkc BK132.out 0).trans rfl, (bkc BK132.out 1).trans rfl, (bkc BK132.out 2).trans rfl, (bkc BK132.out 3).trans rfl, (bkc BK132.out 4).trans rfl, (bkc BK132.out 5).trans rfl, (bkc BK132.out 6).trans rfl⟩ (fun hHeld => ?_)
    clear hK K
    refine norm_ (a' := ?_) ?_ ?_
    rotate_left
    ·
     show Act.put _ (some 24) _ = _
     simp only [Act.put, List.setIfInBounds_toArray, List.set_cons_zero, List.set_cons_succ, i64_w, i32_w]
     rfl
    refine one_ (i := 16) (N := some 25) #[true, true, true, true, true, true, true, true, true, true, true, true, true, true, true, true, true, false] rfl rfl (one_of HT_.out (by kernel_rfl)) (by decide) (fun K hK => ?_)
    refine goes_ Tryz.func21 (by kernel_rfl) rfl #[.slice Ao24 y139.length co24] (by rfl) rfl rfl (by (try simp only [List.map_toArray, List.map_cons, List.map_nil]); first | done | rfl | (simp only [List.length_drop, List.length_take]; rfl)) ?_
    with_reducible refine (conf_line.calls _ _ y139 t142 _ ?side1 ?side2 A9.out).mono ?_
    (case side1 => repeat (first | exact (Kd.R_reads' HO141.out).2.2 | (with_reducible refine Kd.C_alloc ?_ _) | (with_reducible refine Kd.C_drewN ?_ _) | (with_reducible refine Kd.C_drew ?_)))
    (case side2 => exact (Kd.R_reads' HO141.out).2.1)
    rintro e w25 ⟨rfl, hb⟩
    refine ⟨_, rfl, ?_⟩
    have n0_ := As0.mk (Kd.R_below (by (with_reducible repeat (first | apply Kd.R_alloc | apply Kd.R_drewN | apply Kd.R_drew)); exact HO141.out) hb)
    have n1_ := As0.mk (blk_below (g := gb132) (o := .cells #[.int .i64 a0_0, .int .i64 a0_1, .int .i64 a0_2, .int .i64 a0_3, .int .i64 a0_4, .slice A0_5 l0_5.length c0_5, .slice A0_6 l0_6.length c0_6] 25 (0, 0)) (by (with_reducible repeat (first | refine bkn ?_ _ | refine bkd ?_ | refine bka ?_ _)); exact BK132.out) hb)
    have n2_ := As0.mk (below_step (by repeat (first | (with_reducible first | exact HB.out | apply bla | apply bln | apply bld | refine bls ?_ GE132.out) | exact HB.out)) hb)
    clear HO141
    clear BK132
    clear HB
    have HO141 := n0_
    have BK132 := n1_
    have HB := n2_
    clear n0_ n1_ n2_
    (try clear hb)
    (try clear hb2)
    (try clear hk)
    (try clear hi)
    refine hK.out _ _ ⟨(bkc BK132.out 0).trans rfl, (bkc BK132.out 1).trans rfl, (bkc BK132.out 2).trans rfl, (bkc BK132.out 3).trans rfl, (bkc BK132.out 4).trans rfl, (bkc BK132.out 5).trans rfl, (bkc BK132.out 6).trans rfl⟩ (fun hHeld => ?_)
    clear hK K
    refine norm_ (a' := ?_) ?_ ?_
    rotate_left
    ·
     show Act.put _ (some 25) _ = _
     simp only [Act.put, List.setIfInBounds_toArray, List.set_cons_zero, List.set_cons_succ, i64_w, i32_w]
     rfl
    refine pure_ (i := 17) (N := some 3) (v := ?_) (a' := ?_) #[true, true, true, true, true, true, true, true, true, true, true, true, true, true, true, true, true, true] rfl rfl (any_of HT_.out (by kernel_rfl)) (fun _ _ _ h => h) (Or.inl ⟨by rfl, ?_⟩) ?_ ?_
    rotate_left
    ·
     intro w'
     go_simp
     with_reducible rfl
    rotate_left
    ·
     simp only [Act.put, List.setIfInBounds_toArray, List.set_cons_zero, List.set_cons_succ, i64_w, i32_w]
     rfl
    refine done_ (done_of HT_.out (by kernel_rfl)) ?_
    try go_wp2_with (first | ((with_reducible refine gate_dst (N := 27) rfl ?_); refine Kd.R_lit Kd.string _ 9 ?hg (N := 27) ?hd (xs := ([(⟨#[110, 97, 109, 101, 115]⟩ : ByteArray)] : List ByteArray)) (inner := [.string (⟨#[110, 97, 109, 101, 115]⟩ : ByteArray)]) (ok := fun _ => True) (okp := fun _ => True) ?hr ?hp (fun _ hk => hk) trivial (Below.refl _ _) (Nat.le_refl _) (by simp) ?_; (case hd => rfl); (case hg => rfl); (case hr => first | (go_simp; done) | (go_simp; rfl)); (case hp => exact (Reps.one (show Kd.M Kd.string _ _ _ (⟨#[110, 97, 109, 101, 115]⟩ : ByteArray) [.string (⟨#[110, 97, 109, 101, 115]⟩ : ByteArray)] from rfl) (Reps.none _ _))); intro v144 w26 ho27 hb hg_ hnew_; clear hg_ hnew_; (first | rw [← Ny143.out] at ho27 | (simp only [Int.reduceToNat] at ho27; rw [← Ny143.out] at ho27)); have n0_ := As0.mk (Kd.R_elder' (by (with_reducible repeat (first | apply Kd.R_alloc | apply Kd.R_drewN | apply Kd.R_drew)); exact HO141.out) (Kd.R_base ho27) hb); have n1_ := As0.mk (Kd.R_lower (Kd.R_new' ho27 (Kd.R_lt (by (with_reducible repeat (first | apply Kd.R_alloc | apply Kd.R_drewN | apply Kd.R_drew)); exact HO141.out))) (below_size (by repeat (first | (with_reducible first | exact HB.out | apply bla | apply bln | apply bld | refine bls ?_ GE132.out) | exact HB.out)))); have n2_ := As0.mk (blk_below (g := gb132) (o := .cells #[.int .i64 a0_0, .int .i64 a0_1, .int .i64 a0_2, .int .i64 a0_3, .int .i64 a0_4, .slice A0_5 l0_5.length c0_5, .slice A0_6 l0_6.length c0_6] 25 (0, 0)) (by (with_reducible repeat (first | refine bkn ?_ _ | refine bkd ?_ | refine bka ?_ _)); exact BK132.out) hb); have n3_ := As0.mk (below_step (by repeat (first | (with_reducible first | exact HB.out | apply bla | apply bln | apply bld | refine bls ?_ GE132.out) | exact HB.out)) hb); clear HO141; clear BK132; clear HB; have HO141 := n0_; have HO145 := n1_; have BK132 := n2_; have HB := n3_; clear n0_ n1_ n2_ n3_; clear hb ho27; have hcz28_0 : w26.cell? ⟨gb132, 0, none⟩ = some (.int .i64 a0_0) := (bkc BK132.out 0).trans rfl; have hcz28_1 : w26.cell? ⟨gb132, 1, none⟩ = some (.int .i64 a0_1) := (bkc BK132.out 1).trans rfl; have hcz28_2 : w26.cell? ⟨gb132, 2, none⟩ = some (.int .i64 a0_2) := (bkc BK132.out 2).trans rfl; have hcz28_3 : w26.cell? ⟨gb132, 3, none⟩ = some (.int .i64 a0_3) := (bkc BK132.out 3).trans rfl; have hcz28_4 : w26.cell? ⟨gb132, 4, none⟩ = some (.int .i64 a0_4) := (bkc BK132.out 4).trans rfl; have hcz28_5 : w26.cell? ⟨gb132, 5, none⟩ = some (.slice A0_5 l0_5.length c0_5) := (bkc BK132.out 5).trans rfl; have hcz28_6 : w26.cell? ⟨gb132, 6, none⟩ = some (.slice A0_6 l0_6.length c0_6) := (bkc BK132.out 6).trans rfl; have hfz28_0 := bkf BK132.out 0; have hfz28_1 := bkf BK132.out 1; have hfz28_2 := bkf BK132.out 2; have hfz28_3 := bkf BK132.out 3; have hfz28_4 := bkf BK132.out 4; have hfz28_5 := bkf BK132.out 5; have hfz28_6 := bkf BK132.out 6) | ((with_reducible refine gate_builtin (b := .append) (xs := #[.tmp 27, .tmp 29]) rfl ?_); at_builtin; refine Kd.R_append_rows Kd.string (w0 := w) w.heap.size rfl (.tmp 27) (.tmp 29) 22 9 (.string ⟨#[]⟩) 16 rfl Tryz.underlying22 info9 rfl (by decide) (by omega) v144 y143 l0_5 _ _ _ (fun k_ => some k_ ≠ (.slice Ao24 y139.length co24 : Value).ownBlock) (fun _ => False) rfl rfl ?aO ?aR (fun _ _ h => h) (fun _ h => h.elim) ?aF ?aB ?aS ?aL ?_; (case aR => repeat (first | exact (Kd.C_below HR0_5.out HB.out) | (with_reducible refine Kd.C_alloc ?_ _) | (with_reducible refine Kd.C_drewN ?_ _) | (with_reducible refine Kd.C_drew ?_))); (case aB => exact (by repeat (first | (with_reducible first | exact HB.out | apply bla | apply bln | apply bld | refine bls ?_ GE132.out) | exact HB.out))); (case aF => exact (fun k_ hk => Kd.fresh' (Kd.R_lt (by (with_reducible repeat (first | apply Kd.R_alloc | apply Kd.R_drewN | apply Kd.R_drew)); exact HO141.out)) k_ hk)); (case aO => exact (by (with_reducible repeat (first | apply Kd.R_alloc | apply Kd.R_drewN | apply Kd.R_drew)); exact Kd.R_mono HO145.out (fun _ hk => hk.2))); (case aS => exact (below_size (by repeat (first | (with_reducible first | exact HB.out | apply bla | apply bln | apply bld | refine bls ?_ GE132.out) | exact HB.out)))); (case aL => have := LMc10.out; omega); intro v147 w29 ho hb hg hat; rw [← Ny146.out] at ho; have n0_ := As0.mk (blk_grown (g := gb132) (o := .cells #[.int .i64 a0_0, .int .i64 a0_1, .int .i64 a0_2, .int .i64 a0_3, .int .i64 a0_4, .slice A0_5 l0_5.length c0_5, .slice A0_6 l0_6.length c0_6] 25 (0, 0)) (by (with_reducible repeat (first | refine bkn ?_ _ | refine bkd ?_ | refine bka ?_ _)); exact BK132.out) hg (Kd.R_ne HO145.out BK132.out (by decide))); have n1_ := As0.mk (Kd.R_after (ok := (fun _ => True)) (by (with_reducible repeat (first | apply Kd.R_alloc | apply Kd.R_drewN | apply Kd.R_drew)); exact HO141.out) hg hat); have n2_ := As0.mk (hb); have n3_ := As0.mk (ho); clear BK132; clear HO141; clear HB; clear HO145; have BK132 := n0_; have HO141 := n1_; have HB := n2_; have HO148 := n3_; clear n0_ n1_ n2_ n3_; clear ho hb hg hat; obtain ⟨Ao30, co30, eo30⟩ := Kd.R_slice HO148.out; subst eo30) | ((with_reducible refine gate_callee (f := 21) rfl ?_); refine goesL_ (some 31) rfl rfl Tryz.func21 (by kernel_rfl) rfl #[.slice Ao30 y146.length co30] rfl (by (try simp only [List.map_toArray, List.map_cons, List.map_nil]); first | done | rfl | (simp only [List.length_drop, List.length_take]; rfl)) ?_; (with_reducible refine (conf_line.calls _ _ y146 t149 _ ?side1 ?side2 A11.out).mono ?_); (case side1 => repeat (first | exact (Kd.R_reads' HO148.out).2.2 | (with_reducible refine Kd.C_alloc ?_ _) | (with_reducible refine Kd.C_drewN ?_ _) | (with_reducible refine Kd.C_drew ?_))); (case side2 => exact (Kd.R_reads' HO148.out).2.1); rintro e w31 ⟨rfl, hb⟩; refine ⟨_, rfl, ?_⟩; have n0_ := As0.mk (Kd.R_below (by (with_reducible repeat (first | apply Kd.R_alloc | apply Kd.R_drewN | apply Kd.R_drew)); exact HO141.out) hb); have n1_ := As0.mk (Kd.R_below (by (with_reducible repeat (first | apply Kd.R_alloc | apply Kd.R_drewN | apply Kd.R_drew)); exact HO148.out) hb); have n2_ := As0.mk (blk_below (g := gb132) (o := .cells #[.int .i64 a0_0, .int .i64 a0_1, .int .i64 a0_2, .int .i64 a0_3, .int .i64 a0_4, .slice A0_5 l0_5.length c0_5, .slice A0_6 l0_6.length c0_6] 25 (0, 0)) (by (with_reducible repeat (first | refine bkn ?_ _ | refine bkd ?_ | refine bka ?_ _)); exact BK132.out) hb); have n3_ := As0.mk (below_step (by repeat (first | (with_reducible first | exact HB.out | apply bla | apply bln | apply bld | refine bls ?_ GE132.out) | exact HB.out)) hb); clear HO141; clear HO148; clear BK132; clear HB; have HO141 := n0_; have HO148 := n1_; have BK132 := n2_; have HB := n3_; clear n0_ n1_ n2_ n3_; (try clear hb); (try clear hb2); (try clear hk); (try clear hi); have hcz32_0 : w31.cell? ⟨gb132, 0, none⟩ = some (.int .i64 a0_0) := (bkc BK132.out 0).trans rfl; have hcz32_1 : w31.cell? ⟨gb132, 1, none⟩ = some (.int .i64 a0_1) := (bkc BK132.out 1).trans rfl; have hcz32_2 : w31.cell? ⟨gb132, 2, none⟩ = some (.int .i64 a0_2) := (bkc BK132.out 2).trans rfl; have hcz32_3 : w31.cell? ⟨gb132, 3, none⟩ = some (.int .i64 a0_3) := (bkc BK132.out 3).trans rfl; have hcz32_4 : w31.cell? ⟨gb132, 4, none⟩ = some (.int .i64 a0_4) := (bkc BK132.out 4).trans rfl; have hcz32_5 : w31.cell? ⟨gb132, 5, none⟩ = some (.slice A0_5 l0_5.length c0_5) := (bkc BK132.out 5).trans rfl; have hcz32_6 : w31.cell? ⟨gb132, 6, none⟩ = some (.slice A0_6 l0_6.length c0_6) := (bkc BK132.out 6).trans rfl; have hfz32_0 := bkf BK132.out 0; have hfz32_1 := bkf BK132.out 1; have hfz32_2 := bkf BK132.out 2; have hfz32_3 := bkf BK132.out 3; have hfz32_4 := bkf BK132.out 4; have hfz32_5 := bkf BK132.out 5; have hfz32_6 := bkf BK132.out 6))
    go_loopg [3, 36] k (fun kq v3 v36 w' => ∃ (x3_1 : ByteArray) (x36_1 : Int), v3 = .string x3_1 ∧ v36 = .int .i64 x36_1 ∧ As0 (conf_Text.l0 kq x3_1 l0_6 (l0_6.length : Int) x36_1 a0_0 a0_1 a0_2 a0_3 a0_4 l0_5 l0_6 = some r) ∧ As0 (kq ≤ k) ∧ As0 (w'.heap[gb132]? = some (.cells #[.int .i64 a0_0, .int .i64 a0_1, .int .i64 a0_2, .int .i64 a0_3, .int .i64 a0_4, (.slice A0_5 l0_5.length c0_5), (.slice A0_6 l0_6.length c0_6)] 25 (0, 0))) ∧ As0 (Below w.heap.size w w'))
    case atStart => exact ⟨(t142 ++ t149), (0), (by first | rfl | (simp; done) | (simp [*]; done)), (by first | rfl | (simp; done) | (simp [*]; done)), H', ⟨Nat.le_refl _⟩, ⟨by (with_reducible repeat (first | refine bkn ?_ _ | refine bkd ?_ | refine bka ?_ _)); exact BK132.out⟩, ⟨by repeat (first | (with_reducible first | exact HB.out | apply bla | apply bln | apply bld | refine bls ?_ GE132.out) | exact HB.out)⟩⟩
    case round =>
     clear H'
     try clear c1
     try clear c2
     try clear p2
     try clear c3
     try clear c3b0
     try clear c3b1
     try clear c7
     try clear c9
     try clear c10
     try clear c12
     try clear c12b0
     try clear c12b1
     try clear c12b2
     try clear c21
     try clear c22
     try clear hcz14_0
     try clear hcz14_1
     try clear hcz14_2
     try clear hcz14_3
     try clear hcz14_4
     try clear hcz14_5
     try clear hcz14_6
     try clear hcz28_0
     try clear hcz28_1
     try clear hcz28_2
     try clear hcz28_3
     try clear hcz28_4
     try clear hcz28_5
     try clear hcz28_6
     try clear hcz32_0
     try clear hcz32_1
     try clear hcz32_2
     try clear hcz32_3
     try clear hcz32_4
     try clear hcz32_5
     try clear hcz32_6
     try clear hfz14_0
     try clear hfz14_1
     try clear hfz14_2
     try clear hfz14_3
     try clear hfz14_4
     try clear hfz14_5
     try clear hfz14_6
     try clear hfz28_0
     try clear hfz28_1
     try clear hfz28_2
     try clear hfz28_3
     try clear hfz28_4
     try clear hfz28_5
     try clear hfz28_6
     try clear hfz32_0
     try clear hfz32_1
     try clear hfz32_2
     try clear hfz32_3
     try clear hfz32_4
     try clear hfz32_5
     try clear hfz32_6
     obtain ⟨x3_1, x36_1, rfl, rfl, HA, HK1, BK132, HB⟩ := hrel
     cases gk with
     | zero => exact absurd HA.out (by simp [conf_Text.l0])
     | succ k1 =>
      have H := HA.out
      clear HA
      simp only [conf_Text.l0] at H
      by_cases c33 : x36_1 < (l0_6.length : Int)
      ·
       rw [if_pos c33] at H
       have c33b0 : decide (x36_1 < (l0_6.length : Int)) = true := decide_eq_true c33
       clear c33
       by_cases c34 : 0 ≤ x36_1
       ·
        rw [if_pos c34] at H
        have c34b0 : decide (0 ≤ x36_1) = true := decide_eq_true c34
        clear c34
        by_cases c35 : x36_1 < (l0_6.length : Int)
        ·
         rw [if_pos c35] at H
         have c35b0 : decide (x36_1 < (l0_6.length : Int)) = true := decide_eq_true c35
         clear c35
         replace H := Option.bind_eq_some_iff.mp H
         obtain ⟨t152, A360, H⟩ := H
         replace H : (if x3_1.size + t152.size ≤ 9223372036854775807 then (conf_Text.l0 k1 (x3_1 ++ t152) l0_6 (l0_6.length : Int) (wrap64 (x36_1 + 1)) a0_0 a0_1 a0_2 a0_3 a0_4 l0_5 l0_6) else (none)) = some r := H
         have A36 := As0.mk A360
         clear A360
         by_cases c37 : x3_1.size + t152.size ≤ 9223372036854775807
         ·
          rw [if_pos c37] at H
          have c37b0 := eq_true c37
          have c37b1 : decide (x3_1.size + t152.size ≤ 9223372036854775807) = true := decide_eq_true c37
          try have c37b2 : (9223372036854775807 < x3_1.size + t152.size) = False := eq_false (Nat.not_lt.2 c37)
          have H' := As0.mk H
          clear H
          have p150 : 0 ≤ (x36_1 : Int) := of_decide_eq_true (by first | (with_reducible assumption) | assumption)
          have q150 : x36_1 < (l0_6.length : Int) := of_decide_eq_true (by first | (with_reducible assumption) | assumption)
          obtain ⟨ad150, e150, hx150_0, hx150_1, hx150_2⟩ := at_T41 HR0_6.out x36_1 p150 q150
          cases e150
          replace hx150_0 := (HB.out.cell (World.block_lt_of_cell? w _ hx150_0)).trans hx150_0
          replace hx150_1 := (HB.out.cell (World.block_lt_of_cell? w _ hx150_1)).trans hx150_1
          replace hx150_2 := (HB.out.cell (World.block_lt_of_cell? w _ hx150_2)).trans hx150_2
          replace p150 := eq_true p150
          replace q150 := eq_true q150
          go_wp2_with (first | ((with_reducible refine gate_dst (N := 5) rfl ?_); refine box_event ?hg (N := 5) ?hd (cs := #[.int .i64 0, .int .i64 0, .int .u64 0]) (t := 41) ?hr ?_; (case hd => rfl); (case hg => rfl); (case hr => first | (go_simp; done) | (go_simp; rfl)); intro gb151 hg w38 hbox hb; have n0_ := As0.mk (blk_below (g := gb132) (o := .cells #[.int .i64 a0_0, .int .i64 a0_1, .int .i64 a0_2, .int .i64 a0_3, .int .i64 a0_4, .slice A0_5 l0_5.length c0_5, .slice (some ad150) l0_6.length c0_6] 25 (0, 0)) (by (with_reducible repeat (first | refine bkn ?_ _ | refine bkd ?_ | refine bka ?_ _)); exact BK132.out) hb); have n1_ := As0.mk (below_step (by repeat (first | (with_reducible first | exact HB.out | apply bla | apply bln | apply bld | refine bls ?_ GE132.out) | exact HB.out)) hb); have n2_ := As0.mk (hbox); have n3_ := As0.mk ((by rw [hg]; exact (below_size (by repeat (first | (with_reducible first | exact HB.out | apply bla | apply bln | apply bld | refine bls ?_ GE132.out) | exact HB.out))) : w.heap.size ≤ gb151)); have n4_ := As0.mk ((by rw [hg]; exact (below_size (by repeat (first | (with_reducible first | exact HB.out | apply bla | apply bln | apply bld | refine bls ?_ GE132.out) | exact HB.out))) : w.heap.size ≤ gb151)); have n5_ := As0.mk ((by rw [hg]; exact Nat.ne_of_lt (blk_lt (g := gb132) (o := .cells #[.int .i64 a0_0, .int .i64 a0_1, .int .i64 a0_2, .int .i64 a0_3, .int .i64 a0_4, .slice A0_5 l0_5.length c0_5, .slice (some ad150) l0_6.length c0_6] 25 (0, 0)) (by (with_reducible repeat (first | refine bkn ?_ _ | refine bkd ?_ | refine bka ?_ _)); exact BK132.out)) : gb132 ≠ gb151)); have n6_ := As0.mk ((by rw [hg]; exact Nat.ne_of_gt (blk_lt (g := gb132) (o := .cells #[.int .i64 a0_0, .int .i64 a0_1, .int .i64 a0_2, .int .i64 a0_3, .int .i64 a0_4, .slice A0_5 l0_5.length c0_5, .slice (some ad150) l0_6.length c0_6] 25 (0, 0)) (by (with_reducible repeat (first | refine bkn ?_ _ | refine bkd ?_ | refine bka ?_ _)); exact BK132.out)) : gb151 ≠ gb132)); clear BK132; clear HB; have BK132 := n0_; have HB := n1_; have BK151 := n2_; have GW151 := n3_; have GE151 := n4_; have NB132_151 := n5_; have NB151_132 := n6_; clear n0_ n1_ n2_ n3_ n4_ n5_ n6_; clear hb hbox hg; have hnb39 := NB151_132.out; have hnc39 := NB132_151.out; have hcz40_0 : w38.cell? ⟨gb151, 0, none⟩ = some (.int .i64 0) := (bkc BK151.out 0).trans rfl; have hcz40_1 : w38.cell? ⟨gb151, 1, none⟩ = some (.int .i64 0) := (bkc BK151.out 1).trans rfl; have hcz40_2 : w38.cell? ⟨gb151, 2, none⟩ = some (.int .u64 0) := (bkc BK151.out 2).trans rfl; have hfz40_0 := bkf BK151.out 0; have hfz40_1 := bkf BK151.out 1; have hfz40_2 := bkf BK151.out 2; have hcz41_0 : w38.cell? ⟨gb132, 0, none⟩ = some (.int .i64 a0_0) := (bkc BK132.out 0).trans rfl; have hcz41_1 : w38.cell? ⟨gb132, 1, none⟩ = some (.int .i64 a0_1) := (bkc BK132.out 1).trans rfl; have hcz41_2 : w38.cell? ⟨gb132, 2, none⟩ = some (.int .i64 a0_2) := (bkc BK132.out 2).trans rfl; have hcz41_3 : w38.cell? ⟨gb132, 3, none⟩ = some (.int .i64 a0_3) := (bkc BK132.out 3).trans rfl; have hcz41_4 : w38.cell? ⟨gb132, 4, none⟩ = some (.int .i64 a0_4) := (bkc BK132.out 4).trans rfl; have hcz41_5 : w38.cell? ⟨gb132, 5, none⟩ = some (.slice A0_5 l0_5.length c0_5) := (bkc BK132.out 5).trans rfl; have hcz41_6 : w38.cell? ⟨gb132, 6, none⟩ = some (.slice (some ad150) l0_6.length c0_6) := (bkc BK132.out 6).trans rfl; have hfz41_0 := bkf BK132.out 0; have hfz41_1 := bkf BK132.out 1; have hfz41_2 := bkf BK132.out 2; have hfz41_3 := bkf BK132.out 3; have hfz41_4 := bkf BK132.out 4; have hfz41_5 := bkf BK132.out 5; have hfz41_6 := bkf BK132.out 6) | ((with_reducible refine gate_callee (f := 23) rfl ?_); refine goesL_ (some 43) rfl rfl Tryz.func23 (by kernel_rfl) rfl #[.agg #[.int .i64 a0_0, .int .i64 a0_1, .int .i64 a0_2, .int .i64 a0_3, .int .i64 a0_4, .slice A0_5 l0_5.length c0_5, .slice (some ad150) l0_6.length c0_6], .agg #[.int .i64 ((rd_T41 l0_6 x36_1).f0), .int .i64 ((rd_T41 l0_6 x36_1).f1), .int .u64 ((rd_T41 l0_6 x36_1).f2)]] rfl (by (try simp only [List.map_toArray, List.map_cons, List.map_nil]); first | done | rfl | (simp only [List.length_drop, List.length_take]; rfl)) ?_; (with_reducible refine (conf_workerLine.calls a0_0 a0_1 a0_2 a0_3 a0_4 _ _ l0_5 _ _ l0_6 ((rd_T41 l0_6 x36_1).f0) ((rd_T41 l0_6 x36_1).f1) ((rd_T41 l0_6 x36_1).f2) t152 _ ?side1 ?side2 ?side3 ?side4 ?side5 A36.out).mono ?_); (case side1 => exact Kd.C_below HR0_5.out (by repeat (first | (with_reducible first | exact HB.out | apply bla | apply bln | apply bld | refine bls ?_ GE132.out | refine bls ?_ GE151.out) | exact HB.out))); (case side2 => exact HC0_5.out); (case side3 => exact Kd.C_below HR0_6.out (by repeat (first | (with_reducible first | exact HB.out | apply bla | apply bln | apply bld | refine bls ?_ GE132.out | refine bls ?_ GE151.out) | exact HB.out))); (case side4 => exact HC0_6.out); (case side5 => exact Laid.below HLD.out (by repeat (first | (with_reducible first | exact HB.out | apply bla | apply bln | apply bld | refine bls ?_ GE132.out | refine bls ?_ GE151.out) | exact HB.out))); rintro e w42 ⟨rfl, hb⟩; refine ⟨_, rfl, ?_⟩; have n0_ := As0.mk (blk_below (g := gb132) (o := .cells #[.int .i64 a0_0, .int .i64 a0_1, .int .i64 a0_2, .int .i64 a0_3, .int .i64 a0_4, .slice A0_5 l0_5.length c0_5, .slice (some ad150) l0_6.length c0_6] 25 (0, 0)) (by (with_reducible repeat (first | refine bkn ?_ _ | refine bkd ?_ | refine bka ?_ _)); refine blk_far ?_ NB132_151.out _; (with_reducible repeat (first | refine bkn ?_ _ | refine bkd ?_ | refine bka ?_ _)); refine blk_far ?_ NB132_151.out _; (with_reducible repeat (first | refine bkn ?_ _ | refine bkd ?_ | refine bka ?_ _)); refine blk_far ?_ NB132_151.out _; (with_reducible repeat (first | refine bkn ?_ _ | refine bkd ?_ | refine bka ?_ _)); exact BK132.out) hb); have n1_ := As0.mk (blk_below (g := gb151) (o := .cells #[.int .i64 ((rd_T41 l0_6 x36_1).f0), .int .i64 ((rd_T41 l0_6 x36_1).f1), .int .u64 ((rd_T41 l0_6 x36_1).f2)] 41 (0, 0)) (by (with_reducible repeat (first | refine bkn ?_ _ | refine bkd ?_ | refine bka ?_ _)); refine blk_put (cs := #[.int .i64 ((rd_T41 l0_6 x36_1).f0), .int .i64 ((rd_T41 l0_6 x36_1).f1), .int .u64 0]) ?_ 2 _ rfl; (with_reducible repeat (first | refine bkn ?_ _ | refine bkd ?_ | refine bka ?_ _)); refine blk_put (cs := #[.int .i64 ((rd_T41 l0_6 x36_1).f0), .int .i64 0, .int .u64 0]) ?_ 1 _ rfl; (with_reducible repeat (first | refine bkn ?_ _ | refine bkd ?_ | refine bka ?_ _)); refine blk_put (cs := #[.int .i64 0, .int .i64 0, .int .u64 0]) ?_ 0 _ rfl; (with_reducible repeat (first | refine bkn ?_ _ | refine bkd ?_ | refine bka ?_ _)); exact BK151.out) hb); have n2_ := As0.mk (below_step (by repeat (first | (with_reducible first | exact HB.out | apply bla | apply bln | apply bld | refine bls ?_ GE132.out | refine bls ?_ GE151.out) | exact HB.out)) hb); clear BK132; clear BK151; clear HB; have BK132 := n0_; have BK151 := n1_; have HB := n2_; clear n0_ n1_ n2_; (try clear hb); (try clear hb2); (try clear hk); (try clear hi)))
          go_roundg k1
          case measure => have := HK1.out; omega
          case rel => exact ⟨(x3_1 ++ t152), (wrap64 (x36_1 + 1)), (by first | rfl | (simp; done) | (simp [*]; done)), (by first | rfl | (simp; done) | (simp [*]; done)), H', ⟨by have := HK1.out; omega⟩, ⟨by (with_reducible repeat (first | refine bkn ?_ _ | refine bkd ?_ | refine bka ?_ _)); exact BK132.out⟩, ⟨by repeat (first | (with_reducible first | exact HB.out | apply bla | apply bln | apply bld | refine bls ?_ GE132.out | refine bls ?_ GE151.out) | exact HB.out)⟩⟩
         ·
          rw [if_neg c37] at H
          exact absurd H (by simp)
        ·
         rw [if_neg c35] at H
         exact absurd H (by simp)
       ·
        rw [if_neg c34] at H
        exact absurd H (by simp)
      ·
       rw [if_neg c33] at H
       have c33b0 : decide (x36_1 < (l0_6.length : Int)) = false := decide_eq_false c33
       clear c33
       obtain rfl := Option.some.inj H
       go_wp2
       go_ret
       exact ⟨by first | rfl | (simp [errW_none, errW_some] <;> rfl) | (simp [*, errW_none, errW_some] <;> rfl), by repeat (first | (with_reducible first | exact HB.out | apply bla | apply bln | apply bld | refine bls ?_ GE132.out) | exact HB.out)⟩
   ·
    rw [if_neg c12] at H
    exact absurd H (by simp)
  ·
   rw [if_neg c10] at H
   exact absurd H (by simp)
 ·
  rw [if_neg c3] at H
  have c3b0 : (t133 == 0) = false := beq_eq_false_iff_ne.mpr c3
  have c3b1 : (t133 != 0) = true := bne_iff_ne.mpr c3
  obtain rfl := Option.some.inj H
  go_enter Tryz.func9, Tryz.ntmps9
  go_wp2_with (first | ((with_reducible refine gate_dst (N := 1) rfl ?_); refine box_event ?hg (N := 1) ?hd (cs := #[.int .i64 a0_0, .int .i64 a0_1, .int .i64 a0_2, .int .i64 a0_3, .int .i64 a0_4, .slice A0_5 l0_5.length c0_5, .slice A0_6 l0_6.length c0_6]) (t := 25) ?hr ?_; (case hd => rfl); (case hg => rfl); (case hr => first | (go_simp; done) | (go_simp; rfl)); intro gb132 hg w43 hbox hb; have n0_ := As0.mk (below_step (by repeat (first | (with_reducible first | exact HB.out | apply bla | apply bln | apply bld) | exact HB.out)) hb); have n1_ := As0.mk (hbox); have n2_ := As0.mk ((by rw [hg]; exact (below_size (by repeat (first | (with_reducible first | exact HB.out | apply bla | apply bln | apply bld) | exact HB.out))) : w.heap.size ≤ gb132)); have n3_ := As0.mk ((by rw [hg]; exact (below_size (by repeat (first | (with_reducible first | exact HB.out | apply bla | apply bln | apply bld) | exact HB.out))) : w.heap.size ≤ gb132)); clear HB; have HB := n0_; have BK132 := n1_; have GW132 := n2_; have GE132 := n3_; clear n0_ n1_ n2_ n3_; clear hb hbox hg; have hcz44_0 : w43.cell? ⟨gb132, 0, none⟩ = some (.int .i64 a0_0) := (bkc BK132.out 0).trans rfl; have hcz44_1 : w43.cell? ⟨gb132, 1, none⟩ = some (.int .i64 a0_1) := (bkc BK132.out 1).trans rfl; have hcz44_2 : w43.cell? ⟨gb132, 2, none⟩ = some (.int .i64 a0_2) := (bkc BK132.out 2).trans rfl; have hcz44_3 : w43.cell? ⟨gb132, 3, none⟩ = some (.int .i64 a0_3) := (bkc BK132.out 3).trans rfl; have hcz44_4 : w43.cell? ⟨gb132, 4, none⟩ = some (.int .i64 a0_4) := (bkc BK132.out 4).trans rfl; have hcz44_5 : w43.cell? ⟨gb132, 5, none⟩ = some (.slice A0_5 l0_5.length c0_5) := (bkc BK132.out 5).trans rfl; have hcz44_6 : w43.cell? ⟨gb132, 6, none⟩ = some (.slice A0_6 l0_6.length c0_6) := (bkc BK132.out 6).trans rfl; have hfz44_0 := bkf BK132.out 0; have hfz44_1 := bkf BK132.out 1; have hfz44_2 := bkf BK132.out 2; have hfz44_3 := bkf BK132.out 3; have hfz44_4 := bkf BK132.out 4; have hfz44_5 := bkf BK132.out 5; have hfz44_6 := bkf BK132.out 6) | ((with_reducible refine gate_callee (f := 7) rfl ?_); refine goesL_ (some 7) rfl rfl Tryz.func7 (by kernel_rfl) rfl #[.agg #[.int .i64 a0_0, .int .i64 a0_1, .int .i64 a0_2, .int .i64 a0_3, .int .i64 a0_4, .slice A0_5 l0_5.length c0_5, .slice A0_6 l0_6.length c0_6]] rfl (by (try simp only [List.map_toArray, List.map_cons, List.map_nil]); first | done | rfl | (simp only [List.length_drop, List.length_take]; rfl)) ?_; (with_reducible refine (conf_Check.calls k a0_0 a0_1 a0_2 a0_3 a0_4 _ _ l0_5 _ _ l0_6 t133 _ ?side1 ?side2 ?side3 ?side4 A2.out).mono ?_); (case side1 => repeat (first | exact (Kd.C_below HR0_5.out HB.out) | (with_reducible refine Kd.C_alloc ?_ _) | (with_reducible refine Kd.C_drewN ?_ _) | (with_reducible refine Kd.C_drew ?_))); (case side2 => exact HC0_5.out); (case side3 => repeat (first | exact (Kd.C_below HR0_6.out HB.out) | (with_reducible refine Kd.C_alloc ?_ _) | (with_reducible refine Kd.C_drewN ?_ _) | (with_reducible refine Kd.C_drew ?_))); (case side4 => exact HC0_6.out); rintro e w45 ⟨rfl, hb⟩; refine ⟨_, rfl, ?_⟩; have n0_ := As0.mk (blk_below (g := gb132) (o := .cells #[.int .i64 a0_0, .int .i64 a0_1, .int .i64 a0_2, .int .i64 a0_3, .int .i64 a0_4, .slice A0_5 l0_5.length c0_5, .slice A0_6 l0_6.length c0_6] 25 (0, 0)) (by (with_reducible repeat (first | refine bkn ?_ _ | refine bkd ?_ | refine bka ?_ _)); exact BK132.out) hb); have n1_ := As0.mk (below_step (by repeat (first | (with_reducible first | exact HB.out | apply bla | apply bln | apply bld | refine bls ?_ GE132.out) | exact HB.out)) hb); clear BK132; clear HB; have BK132 := n0_; have HB := n1_; clear n0_ n1_; (try clear hb); (try clear hb2); (try clear hk); (try clear hi)))
  go_ret
  exact ⟨by first | rfl | (simp [errW_none, errW_some] <;> rfl) | (simp [*, errW_none, errW_some] <;> rfl), by repeat (first | (with_reducible first | exact HB.out | apply bla | apply bln | apply bld | refine bls ?_ GE132.out) | exact HB.out)⟩
end Go.Proofs.YtmppkcdphgelcaaGreatDoor.PConf
namespace Go.Proofs.YtmppkcdphgelcaaGreatDoor.PConf
open Go.RowKit Go.Proofs.YtmppkcdphgelcaaGreatDoor.W.PrintWords Go.Proofs.YtmppkcdphgelcaaGreatDoor.W.PrintLast Go.Proofs.YtmppkcdphgelcaaGreatDoor.W.PrintMore
attribute [local go_sem] max2_int min2_int max_two min_two max_three min_three max_four min_four   -- for this text's walks alone
set_option linter.unusedVariables false
set_option linter.unusedSimpArgs false
def strings_Cut.f (a0 : ByteArray) (a1 : ByteArray) : Option (ByteArray × ByteArray × Bool) :=
 if a0.size < 4294967281 then some (⟨(Lib.cut a0.data.toList a1.data.toList).1.toArray⟩, ⟨(Lib.cut a0.data.toList a1.data.toList).2.1.toArray⟩, (Lib.cut a0.data.toList a1.data.toList).2.2) else none
theorem strings_Cut.calls (a0 : ByteArray) (a1 : ByteArray) (r1 : ByteArray) (r2 : ByteArray) (r3 : Bool) (w : World) (hL_ : Laid w) (h : strings_Cut.f a0 a1 = some (r1, r2, r3)) :
  Calls Tryz.prog 29 #[.string a0, .string a1] w fun e w' => e = .returned (.tuple #[.string r1, .string r2, .bool r3]) ∧ Below w.heap.size w w' := by
 unfold strings_Cut.f at h
 by_cases hs : a0.size < 4294967281
 ·
  rw [if_pos hs] at h
  simp only [Option.some.injEq, Prod.mk.injEq] at h
  obtain ⟨rfl, rfl, rfl⟩ := h
  obtain ⟨m, hm⟩ := hL_.maxlen
  refine (Tryz.strings_Cut a0 a1 m w hs hm).mono ?_
  rintro e w' ⟨rfl, n, rfl⟩
  exact ⟨rfl, bln (Below.refl _ _) n⟩
 ·
  rw [if_neg hs] at h
  cases h
end Go.Proofs.YtmppkcdphgelcaaGreatDoor.PConf
namespace Go.Proofs.YtmppkcdphgelcaaGreatDoor.PConf
open Go.RowKit Go.Proofs.YtmppkcdphgelcaaGreatDoor.W.PrintWords Go.Proofs.YtmppkcdphgelcaaGreatDoor.W.PrintLast Go.Proofs.YtmppkcdphgelcaaGreatDoor.W.PrintMore
attribute [local go_sem] max2_int min2_int max_two min_two max_three min_three max_four min_four   -- for this text's walks alone
set_option linter.unusedVariables false
set_option linter.unusedSimpArgs false
attribute [local go_sem ↓] Go.wp_at_zero Go.wp_at_succ
def confCells (a0 a1 a2 a3 a4 : Int) (nm wk : Value) : Array Value := #[.int .i64 a0, .int .i64 a1, .int .i64 a2, .int .i64 a3, .int .i64 a4, nm, wk]
theorem cell_grown_none {w w1 : World} {p : Addr} {v : Value} (h : w.cell? p = some v) (hg : w.grownBy w1 none) : w1.cell? p = some v :=
 (World.cell?_of_block (hg.block p.block (World.block_lt_of_cell? w p h) (by simp))).trans h
theorem grown_set {w w1 : World} {g : Nat} (h : w.grownBy w1 none) (i : Nat) (v : Value) : w.grownBy (w1.setCell ⟨g, i, none⟩ v) (some g) :=
 ⟨h.os, h.tape, h.output, by rw [World.size_setCell]; exact h.size, fun k hk hne => by
  rw [Below.heap_setCell _ _ _ _ (fun e => hne (by rw [e]))]; exact h.block k hk (by simp)⟩
structure TableDone (g : Nat) (a0 a1 a2 a3 a4 : Int) (wk : Value) (ws : List ByteArray) (w : World) (e : Ending) (w' : World) : Prop where
 val : e = .returned (.bool ((ws.getD 0 ByteArray.empty).toList == [110, 97, 109, 101, 115]))
 row : ∃ v, Kd.R Kd.string 9 w' w.heap.size (fun _ => True) v (ws.drop 1) ∧ w'.heap[g]? = some (.cells (confCells a0 a1 a2 a3 a4 v wk) 25 (0, 0))
 world : w.grownBy w' (some g)
set_option maxHeartbeats 3200000 in
set_option maxRecDepth 100000 in
theorem conf_table.one (g : Nat) (a0 a1 a2 a3 a4 : Int) (wk : Value) (b : Nat) (ws : List ByteArray) (w : World) (hl : ws.length = 1)
  (hg : w.heap[g]? = some (.cells (confCells a0 a1 a2 a3 a4 (.slice none 0 0) wk) 25 (0, 0))) (hc : ∀ j, j < ws.length → w.cell? ⟨b, j, none⟩ = some (.string (ws.getD j ByteArray.empty))) :
  Calls Tryz.prog 45 #[.pointer (some ⟨g, 0, none⟩), .slice (some ⟨b, 0, none⟩) ws.length ws.length] w (TableDone g a0 a1 a2 a3 a4 wk ws w) := by
 have h5 : w.cell? ⟨g, 5, none⟩ = some (.slice none 0 0) := (bkc hg 5).trans rfl
 have h5f : w.frozen? ⟨g, 5, none⟩ = false := bkf hg 5
 have hx := hc 0 (by omega)
 obtain ⟨x, hx0⟩ : ∃ x, x = ws.getD 0 ByteArray.empty := ⟨_, rfl⟩
 rw [← hx0] at hx
 have HX := As0.mk hx0
 have HG := As0.mk hg
 have HL := As0.mk hl
 rw [hl]
 clear hx0 hg hc hl
 go_enter Tryz.func45, Tryz.ntmps45
 go_wp2_with fail
 go_region_law (fail)
 go_wp2
 go_ret
 refine ⟨by rw [← HX.out]; rfl, ⟨.slice none 0 0, ?_, ?_⟩, ?_⟩
 ·
  rw [show ws.drop 1 = [] from List.eq_nil_of_length_eq_zero (by rw [List.length_drop, HL.out])]; exact Kd.R_nil _ _ _ _ _
 ·
  exact (blk_set (g := g) HG.out 5 (.slice none 0 0)).trans rfl
 ·
  have := grown_set (w := w) (w1 := w) (g := g) ⟨rfl, rfl, rfl, Nat.le_refl _, fun _ _ _ => rfl⟩ 5 (.slice none 0 0)
  exact ⟨this.os, this.tape, this.output, this.size, this.block⟩
set_option maxHeartbeats 3200000 in
set_option maxRecDepth 100000 in
theorem conf_table.more (g : Nat) (a0 a1 a2 a3 a4 : Int) (wk : Value) (b : Nat) (ws : List ByteArray) (w : World) (hl : 2 ≤ ws.length) (hb : ws.length * 16 ≤ 140737488355328)
  (hg : w.heap[g]? = some (.cells (confCells a0 a1 a2 a3 a4 (.slice none 0 0) wk) 25 (0, 0))) (hc : ∀ j, j < ws.length → w.cell? ⟨b, j, none⟩ = some (.string (ws.getD j ByteArray.empty))) :
  Calls Tryz.prog 45 #[.pointer (some ⟨g, 0, none⟩), .slice (some ⟨b, 0, none⟩) ws.length ws.length] w (TableDone g a0 a1 a2 a3 a4 wk ws w) := by
 have h5 : w.cell? ⟨g, 5, none⟩ = some (.slice none 0 0) := (bkc hg 5).trans rfl
 have h5f : w.frozen? ⟨g, 5, none⟩ = false := bkf hg 5
 have hx := hc 0 (by omega)
 obtain ⟨i0, hi0, hz0, hz1, hz2⟩ := info_parts info9
 obtain ⟨x, hx0⟩ : ∃ x, x = ws.getD 0 ByteArray.empty := ⟨_, rfl⟩
 rw [← hx0] at hx
 have HX := As0.mk hx0
 have HG := As0.mk hg
 have HN := As0.mk (show ∀ j u, ((ws.drop 1).map Value.string)[j]? = some u → w.cell? ((⟨b, 1, none⟩ : Addr).add j) = some u from fun j u hu => by
  rw [List.getElem?_map, List.getElem?_drop] at hu
  obtain ⟨z, hz, rfl⟩ := Option.map_eq_some_iff.mp hu
  obtain ⟨hlt, hz⟩ := List.getElem?_eq_some_iff.mp hz
  have := hc (1 + j) hlt
  rw [names_Check.getD_at hlt, hz] at this
  rw [show (⟨b, 1, none⟩ : Addr).add j = ⟨b, 1 + j, none⟩ by unfold Addr.add; split <;> simp_all]
  exact this)
 obtain ⟨n, hn⟩ : ∃ n, ws.length = n + 1 := ⟨ws.length - 1, by omega⟩
 have HL := As0.mk (show ((ws.drop 1).map Value.string).length = n * 1 by simp; omega)
 have hnl : n = ws.length - 1 := by omega
 have hn0 : 0 < n := by omega
 have hn1 : (1 : Int) ≤ ((n : Nat) : Int) + 1 := by omega
 have hn4 : ¬ n = 0 := by omega
 have hn2 : n * 16 ≤ 140737488355328 := by omega
 have hn3 : n ≤ maxLen := by unfold maxLen; omega
 rw [hn]
 clear hx0 hg hc hnl hn hl hb
 go_enter Tryz.func45, Tryz.ntmps45
 go_wp2_with fail
 go_region_law ((refine step_append_lies _ (by rfl) _ _ _ (by rfl) w.heap.size 9 i0 _ 1 16 Tryz.underlying22 hi0 hz0 hz1 hz2 rfl (by omega) (.slice none 0 0) 0 [] (by rfl) (own_nil _ _ _ _) ⟨b, 1, none⟩ n n ((ws.drop 1).map Value.string) (by rfl) HL.out (by exact HN.out) (by intro u hu; obtain ⟨z, _, rfl⟩ := List.mem_map.mp hu; rfl) (by omega) (by omega) (by omega) (Nat.le_refl _) _ rfl ?_; intro gg cap w1 hown1 hgrow hat hlt; have HG1 := As0.mk (blk_grown (w := w.drew) HG.out hgrow (by simp [Value.ownBlock])); have q5 := (show w1.cell? ⟨g, 5, none⟩ = some (.slice none 0 0) from (bkc HG1.out 5).trans rfl); have q5f := bkf HG1.out 5; have qx := cell_grown_none (w := w.drew) hx hgrow; have HO1 := As0.mk hown1; have HW1 := As0.mk hgrow; have HA1 := As0.mk hat; clear hown1 hgrow hat))
 go_wp2
 go_ret
 have hgg : w.heap.size ≤ gg := by rcases HA1.out with h | h; (· simp [Value.ownBlock] at h); (· exact Nat.le_of_eq h.symm)
 have hgl := blk_lt HG.out
 refine ⟨by rw [← HX.out]; rfl, ⟨.slice (some ⟨gg, 0, none⟩) n cap, ?_, ?_⟩, ?_⟩
 ·
  have ho := HO1.out
  rw [Nat.zero_add] at ho
  have hlen : n = (ws.drop 1).length := by have := HL.out; simp at this ⊢; omega
  have hR : Kd.R Kd.string 9 w1 w.heap.size (fun k => w.heap.size ≤ k) (.slice (some ⟨gg, 0, none⟩) n cap) (ws.drop 1) := by
   refine Kd.R_of_own (enc := Value.string) (h1 := fun _ => rfl) ?_ (fun k hk => ?_)
   ·
    rw [← hlen]; exact ho
   ·
    have : gg = k := by simpa [Value.ownBlock] using hk
    omega
  exact Kd.R_mono (Kd.R_far hR (p := ⟨g, 5, none⟩) (fun k hk => by show k ≠ g; omega) _) (fun _ _ => trivial)
 ·
  exact (blk_set (g := g) HG1.out 5 (.slice (some ⟨gg, 0, none⟩) n cap)).trans rfl
 ·
  have := grown_set (w := w.drew) (w1 := w1) (g := g) HW1.out 5 (.slice (some ⟨gg, 0, none⟩) n cap)
  exact ⟨this.os, this.tape, this.output, this.size, this.block⟩
theorem conf_table.calls (g : Nat) (a0 a1 a2 a3 a4 : Int) (wk : Value) (b : Nat) (ws : List ByteArray) (w : World) (hl : 1 ≤ ws.length) (hb : ws.length * 16 ≤ 140737488355328)
  (hg : w.heap[g]? = some (.cells (confCells a0 a1 a2 a3 a4 (.slice none 0 0) wk) 25 (0, 0))) (hc : ∀ j, j < ws.length → w.cell? ⟨b, j, none⟩ = some (.string (ws.getD j ByteArray.empty))) :
  Calls Tryz.prog 45 #[.pointer (some ⟨g, 0, none⟩), .slice (some ⟨b, 0, none⟩) ws.length ws.length] w (TableDone g a0 a1 a2 a3 a4 wk ws w) := by
 by_cases h : ws.length = 1
 ·
  exact conf_table.one g a0 a1 a2 a3 a4 wk b ws w h hg hc
 ·
  exact conf_table.more g a0 a1 a2 a3 a4 wk b ws w (by omega) hb hg hc
end Go.Proofs.YtmppkcdphgelcaaGreatDoor.PConf
namespace Go.Proofs.YtmppkcdphgelcaaGreatDoor.PConf
open Go.RowKit Go.Proofs.YtmppkcdphgelcaaGreatDoor.W.PrintWords Go.Proofs.YtmppkcdphgelcaaGreatDoor.W.PrintLast Go.Proofs.YtmppkcdphgelcaaGreatDoor.W.PrintMore
attribute [local go_sem] max2_int min2_int max_two min_two max_three min_three max_four min_four   -- for this text's walks alone
set_option linter.unusedVariables false
set_option linter.unusedSimpArgs false
def conf_Digits.val (s : List UInt8) : Int × Bool :=
 match Lib.atoiAll s with
 | .ok n => if 0 ≤ n ∧ n ≤ 72057594037927935 ∧ Lib.itoa n = s then (n, true) else (0, false)
 | _ => (0, false)
def conf_Digits.f (a0 : ByteArray) : Option (Int × Bool) := if a0.size ≤ 281474976710656 then some (conf_Digits.val a0.data.toList) else none
theorem conf_Digits.atoi_ok (a0 : ByteArray) (hs : a0.size ≤ 281474976710656) (n : Int) (ha : Lib.atoiAll a0.data.toList = .ok n) (w : World) :
  Calls Tryz.prog 87 #[.string a0] w fun e w' => e = .returned (.tuple #[.int .i64 n, .nilIface]) ∧ Below w.heap.size w w' := by
 refine (Tryz.strconv_Atoi_ok a0 (by omega) n ha w).mono ?_
 rintro e w' ⟨rfl, rfl | ⟨t, rfl⟩⟩
 ·
  exact ⟨rfl, Below.refl _ _⟩
 ·
  exact ⟨rfl, bytes_below (Below.refl _ _) (Nat.le_refl _) _ _⟩
theorem conf_Digits.atoi_bad (a0 : ByteArray) (hs : a0.size ≤ 281474976710656) (ha : ∀ n, Lib.atoiAll a0.data.toList ≠ .ok n) (w : World) (hL_ : Laid w) :
  Calls Tryz.prog 87 #[.string a0] w fun e w' => ∃ (v : Int) (T : TypeId) (p : Value), e = .returned (.tuple #[.int .i64 v, .iface T p]) ∧ Below w.heap.size w w' := by
 rcases hx : Lib.atoiAll a0.data.toList with n | _ | _
 ·
  exact absurd hx (ha n)
 ·
  obtain ⟨tp, p, hv⟩ := hL_.syn
  refine (Tryz.strconv_Atoi_syntax_var a0 hs hx tp p w hv).mono ?_
  rintro e w' ⟨N, rfl, _, _, hb⟩
  exact ⟨_, _, _, rfl, hb⟩
 ·
  obtain ⟨tp, p, hv⟩ := hL_.rng
  refine (Tryz.strconv_Atoi_range_var a0 hs hx tp p w hv).mono ?_
  rintro e w' ⟨N, rfl, _, _, hb⟩
  exact ⟨_, _, _, rfl, hb⟩
theorem conf_Digits.bytes_ne {n : List UInt8} {a0 : ByteArray} (h : ¬ n = a0.data.toList) : (n == a0.toList) = false := by
 rw [ByteArray.toList_eq]
 exact beq_eq_false_iff_ne.mpr h
set_option maxHeartbeats 2000000 in
theorem conf_Digits.calls (a0 : ByteArray) (r1 : Int) (r2 : Bool) (w : World) (hL_ : Laid w) (h : conf_Digits.f a0 = some (r1, r2)) :
  Calls Tryz.prog 74 #[.string a0] w fun e w' => e = .returned (.tuple #[.int .i64 r1, .bool r2]) ∧ Below w.heap.size w w' := by
 unfold conf_Digits.f at h
 by_cases hs : a0.size ≤ 281474976710656
 ·
  rw [if_pos hs] at h
  have H := As0.mk (Option.some.inj h)
  clear h
  by_cases hex : ∃ n, Lib.atoiAll a0.data.toList = .ok n
  ·
   obtain ⟨n, ha⟩ := hex
   have HC := As0.mk (conf_Digits.atoi_ok a0 hs n ha w)
   have hb := Lib.atoiAll_bounds ha
   have HV := As0.mk ((show conf_Digits.val a0.data.toList = if 0 ≤ n ∧ n ≤ 72057594037927935 ∧ Lib.itoa n = a0.data.toList then (n, true) else (0, false) by simp only [conf_Digits.val, ha]).symm.trans H.out)
   have HN := As0.mk (fun (W : World) (hW : Laid W) => conf_Number.calls n ⟨(Lib.itoa n).toArray⟩ W hW (by unfold conf_Number.f; rw [if_pos hb]))
   have HL := As0.mk hL_
   clear ha hb H hL_ hs
   by_cases h0 : n < 0
   ·
    have h1 : decide (n < 0) = true := decide_eq_true h0
    have HV' := As0.mk ((if_neg (fun h => by omega)).symm.trans HV.out)
    clear HV
    go_enter Tryz.func74, Tryz.ntmps74
    go_wp2_with (go_at_call 87; refine HC.out.mono ?_; rintro e w1 ⟨rfl, hb1⟩)
    obtain ⟨rfl, rfl⟩ := Prod.mk.inj HV'.out
    go_ret2
    exact ⟨rfl, hb1⟩
   ·
    have h1 : decide (n < 0) = false := decide_eq_false h0
    by_cases h2 : 72057594037927935 < n
    ·
     have h3 : decide (72057594037927935 < n) = true := decide_eq_true h2
     have HV' := As0.mk ((if_neg (fun h => by omega)).symm.trans HV.out)
     clear HV
     go_enter Tryz.func74, Tryz.ntmps74
     go_wp2_with (go_at_call 87; refine HC.out.mono ?_; rintro e w1 ⟨rfl, hb1⟩)
     obtain ⟨rfl, rfl⟩ := Prod.mk.inj HV'.out
     go_ret2
     exact ⟨rfl, hb1⟩
    ·
     have h3 : decide (72057594037927935 < n) = false := decide_eq_false h2
     by_cases h4 : Lib.itoa n = a0.data.toList
     ·
      have HV' := As0.mk ((if_pos ⟨by omega, by omega, h4⟩).symm.trans HV.out)
      rw [show (⟨(Lib.itoa n).toArray⟩ : ByteArray) = a0 by rw [h4]] at HN
      clear HV h4
      go_enter Tryz.func74, Tryz.ntmps74
      go_wp2_with (first | (go_at_call 87; refine HC.out.mono ?_; rintro e w1 ⟨rfl, hb1⟩; have HL1 := As0.mk (HL.out.below hb1); have HB1 := As0.mk hb1; clear hb1) | (go_at_call 22; refine (HN.out _ HL1.out).mono ?_; rintro e w2 ⟨rfl, hb2⟩; have HB2 := As0.mk (below_then HB1.out HB1.out.size hb2); clear hb2))
      obtain ⟨rfl, rfl⟩ := Prod.mk.inj HV'.out
      go_ret2
      exact ⟨rfl, HB2.out⟩
     ·
      have HV' := As0.mk ((if_neg (fun h => h4 h.2.2)).symm.trans HV.out)
      have h5 := conf_Digits.bytes_ne h4
      clear HV h4
      go_enter Tryz.func74, Tryz.ntmps74
      go_wp2_with (first | (go_at_call 87; refine HC.out.mono ?_; rintro e w1 ⟨rfl, hb1⟩; have HL1 := As0.mk (HL.out.below hb1); have HB1 := As0.mk hb1; clear hb1) | (go_at_call 22; refine (HN.out _ HL1.out).mono ?_; rintro e w2 ⟨rfl, hb2⟩; have HB2 := As0.mk (below_then HB1.out HB1.out.size hb2); clear hb2))
      obtain ⟨rfl, rfl⟩ := Prod.mk.inj HV'.out
      go_ret2
      exact ⟨rfl, HB2.out⟩
  ·
   have HC := As0.mk (conf_Digits.atoi_bad a0 hs (fun n hn => hex ⟨n, hn⟩) w hL_)
   have HV := As0.mk ((show conf_Digits.val a0.data.toList = (0, false) by
    unfold conf_Digits.val
    rcases hx : Lib.atoiAll a0.data.toList with n | _ | _
    ·
     exact absurd ⟨n, hx⟩ hex
    ·
     rfl
    ·
     rfl).symm.trans H.out)
   clear hex H hL_ hs
   go_enter Tryz.func74, Tryz.ntmps74
   go_wp2_with (go_at_call 87; refine HC.out.mono ?_; rintro e w1 ⟨v, T, p, rfl, hb1⟩)
   obtain ⟨rfl, rfl⟩ := Prod.mk.inj HV.out
   go_ret2
   exact ⟨rfl, hb1⟩
 ·
  rw [if_neg hs] at h
  cases h
end Go.Proofs.YtmppkcdphgelcaaGreatDoor.PConf
namespace Go.Proofs.YtmppkcdphgelcaaGreatDoor.PConf
open Go.RowKit Go.Proofs.YtmppkcdphgelcaaGreatDoor.W.PrintWords Go.Proofs.YtmppkcdphgelcaaGreatDoor.W.PrintLast Go.Proofs.YtmppkcdphgelcaaGreatDoor.W.PrintMore
attribute [local go_sem] max2_int min2_int max_two min_two max_three min_three max_four min_four   -- for this text's walks alone
set_option linter.unusedVariables false
set_option linter.unusedSimpArgs false
def conf_numbers.l0 : Nat → Int → List Int → List ByteArray → Int → Int → Option (List Int × Bool)
 | 0, _, _, _, _, _ => none
 | k + 1, x1, x6, x11, x12, x13 => if x13 < x12 then (if 0 ≤ x13 then (if x13 < (x11.length : Int) then ((conf_Digits.f (rdOf ByteArray.empty x11 x13)).bind fun bt154 => (if bt154.2 = true then (if x6.length < 17592186044416 then (conf_numbers.l0 k x1 (x6 ++ [bt154.1]) x11 x12 (wrap64 (x13 + 1))) else (none)) else (some (([] : List Int), false)))) else (none)) else (none)) else (some (x6, ((x6.length : Int) == x1)))
def conf_numbers.f (k : Nat) (l0 : List ByteArray) (a1 : Int) : Option (List Int × Bool) := conf_numbers.l0 k a1 ([] : List Int) l0 (l0.length : Int) 0
set_option maxHeartbeats 8000000 in
set_option maxRecDepth 100000 in
theorem conf_numbers.calls (k : Nat) (A0 : Option Addr) (c0 : Nat) (l0 : List ByteArray) (a1 : Int) (r1 : List Int) (r2 : Bool) (w : World) (hr0 : Kd.C Kd.string w A0 l0.length l0) (hc0 : l0.length ≤ c0) (hL_ : Laid w) (h : conf_numbers.f k l0 a1 = some (r1, r2)) :
  Calls Tryz.prog 60 #[.slice A0 l0.length c0, .int .i64 a1] w fun e w' => ∃ v0_ : Value, e = .returned (.tuple #[v0_, .bool r2]) ∧ Kd.R (Kd.int .i64) 3 w' w.heap.size (fun _ => True) v0_ r1 ∧ Below w.heap.size w w' := by
 have HLD := As0.mk hL_
 clear hL_
 have HR0 := As0.mk hr0
 have HC0 := As0.mk hc0
 clear hr0 hc0
 have HB := As0.mk (Below.refl w.heap.size w)
 have H : (conf_numbers.l0 k a1 ([] : List Int) l0 (l0.length : Int) 0) = some (r1, r2) := h
 clear h
 have H' := As0.mk H
 clear H
 go_enter Tryz.func60, Tryz.ntmps60
 go_wp2
 go_loopg [6, 13] k (fun kq v6 v13 w' => ∃ (x6_1 : List Int) (x13_1 : Int), v13 = .int .i64 x13_1 ∧ As0 (conf_numbers.l0 kq a1 x6_1 l0 (l0.length : Int) x13_1 = some (r1, r2)) ∧ As0 (kq ≤ k) ∧ As0 (Kd.R (Kd.int .i64) 3 w' w.heap.size (fun _ => True) v6 x6_1) ∧ As0 (Below w.heap.size w w'))
 case atStart => exact ⟨(([] : List Int)), (0), (by first | rfl | (simp; done) | (simp [*]; done)), H', ⟨Nat.le_refl _⟩, ⟨by first | exact Kd.R_nil _ _ _ _ _ | exact Kd.N_nil _ _ _ _ _ | exact Kd.V_nil _ _ _ _ _ | exact Kd.Q_nil _ _ _ _ _ | exact Kd.S_nil _ _ _ _ _⟩, ⟨by repeat (first | (with_reducible first | exact HB.out | apply bla | apply bln | apply bld) | exact HB.out)⟩⟩
 case round =>
  clear H'
  try clear p2
  obtain ⟨x6_1, x13_1, rfl, HA, HK1, HO_6, HB⟩ := hrel
  cases gk with
  | zero => exact absurd HA.out (by simp [conf_numbers.l0])
  | succ k1 =>
   have H := HA.out
   clear HA
   simp only [conf_numbers.l0] at H
   by_cases c3 : x13_1 < (l0.length : Int)
   ·
    rw [if_pos c3] at H
    have c3b0 : decide (x13_1 < (l0.length : Int)) = true := decide_eq_true c3
    clear c3
    by_cases c4 : 0 ≤ x13_1
    ·
     rw [if_pos c4] at H
     have c4b0 : decide (0 ≤ x13_1) = true := decide_eq_true c4
     clear c4
     by_cases c5 : x13_1 < (l0.length : Int)
     ·
      rw [if_pos c5] at H
      have c5b0 : decide (x13_1 < (l0.length : Int)) = true := decide_eq_true c5
      clear c5
      replace H := Option.bind_eq_some_iff.mp H
      obtain ⟨⟨t154, t155⟩, A60, H⟩ := H
      replace H : (if t155 = true then (if x6_1.length < 17592186044416 then (conf_numbers.l0 k1 a1 (x6_1 ++ [t154]) l0 (l0.length : Int) (wrap64 (x13_1 + 1))) else (none)) else (some (([] : List Int), false))) = some (r1, r2) := H
      have A6 := As0.mk A60
      clear A60
      by_cases c7 : t155 = true
      ·
       subst c7
       have H1 : (if x6_1.length < 17592186044416 then (conf_numbers.l0 k1 a1 (x6_1 ++ [t154]) l0 (l0.length : Int) (wrap64 (x13_1 + 1))) else (none)) = some (r1, r2) := by rw [if_pos rfl] at H; exact H
       clear H
       have H := H1
       clear H1
       by_cases c8 : x6_1.length < 17592186044416
       ·
        rw [if_pos c8] at H
        have LMc8 := As0.mk c8
        clear c8
        obtain ⟨y156, hy156⟩ : ∃ y_ : List Int, y_ = (x6_1 ++ [t154]) := ⟨_, rfl⟩
        replace H : (conf_numbers.l0 k1 a1 y156 l0 (l0.length : Int) (wrap64 (x13_1 + 1))) = some (r1, r2) := by first | (rw [hy156]; with_reducible exact H) | (have H2_ := (Option.bind_some _ _).symm.trans H; rw [hy156]; with_reducible exact H2_) | (have H2_ := (Option.bind_some _ _).symm.trans H; with_reducible exact H2_) | with_reducible exact H | (rw [hy156]; exact H) | exact H
        have Ny156 := As0.mk hy156
        clear hy156
        have H' := As0.mk H
        clear H
        have p153 : 0 ≤ (x13_1 : Int) := of_decide_eq_true (by first | (with_reducible assumption) | assumption)
        have q153 : x13_1 < (l0.length : Int) := of_decide_eq_true (by first | (with_reducible assumption) | assumption)
        obtain ⟨ad153, e153, hx153_0⟩ := Kd.at_string HR0.out x13_1 p153 q153
        cases e153
        replace hx153_0 := (HB.out.cell (World.block_lt_of_cell? w _ hx153_0)).trans hx153_0
        replace p153 := eq_true p153
        replace q153 := eq_true q153
        go_wp2_with (first | ((with_reducible refine gate_callee (f := 74) rfl ?_); refine goesL_ (some 19) rfl rfl Tryz.func74 (by kernel_rfl) rfl #[.string (rdOf ByteArray.empty l0 x13_1)] rfl (by (try simp only [List.map_toArray, List.map_cons, List.map_nil]); first | done | rfl | (simp only [List.length_drop, List.length_take]; rfl)) ?_; (with_reducible refine (conf_Digits.calls (rdOf ByteArray.empty l0 x13_1) t154 true _ ?side1 A6.out).mono ?_); (case side1 => exact Laid.below HLD.out (by repeat (first | (with_reducible first | exact HB.out | apply bla | apply bln | apply bld) | exact HB.out))); rintro e w9 ⟨rfl, hb⟩; refine ⟨_, rfl, ?_⟩; have n0_ := As0.mk (Kd.R_below (by (with_reducible repeat (first | apply Kd.R_alloc | apply Kd.R_drewN | apply Kd.R_drew)); exact HO_6.out) hb); have n1_ := As0.mk (below_step (by repeat (first | (with_reducible first | exact HB.out | apply bla | apply bln | apply bld) | exact HB.out)) hb); clear HO_6; clear HB; have HO_6 := n0_; have HB := n1_; clear n0_ n1_; (try clear hb); (try clear hb2); (try clear hk); (try clear hi)) | ((with_reducible refine gate_builtin (b := .append) (xs := #[.tmp 24, .tmp 26]) rfl ?_); at_builtin; refine Kd.R_append (Kd.int .i64) (w0 := w) w.heap.size rfl (.tmp 24) (.tmp 26) 65 3 (.int .i64 0) 8 rfl Tryz.underlying65 info3 rfl (by decide) (by omega) u6 x6_1 t154 [.int .i64 t154] (fun _ => True) (fun _ => False) rfl rfl ?aP (fun _ hk => hk.elim) ?aF ?aO ?aB ?aS ?aL ?_; (case aP => exact rfl); (case aB => exact (by repeat (first | (with_reducible first | exact HB.out | apply bla | apply bln | apply bld) | exact HB.out))); (case aF => exact (fun _ _ => trivial)); (case aO => exact (by (with_reducible repeat (first | apply Kd.R_alloc | apply Kd.R_drewN | apply Kd.R_drew)); exact HO_6.out)); (case aS => exact (below_size (by repeat (first | (with_reducible first | exact HB.out | apply bla | apply bln | apply bld) | exact HB.out)))); (case aL => have := LMc8.out; omega); intro v157 w10 ho hb hg hat; rw [← Ny156.out] at ho; have n0_ := As0.mk (hb); have n1_ := As0.mk (ho); clear HB; clear HO_6; have HB := n0_; have HO158 := n1_; clear n0_ n1_; clear ho hb hg hat))
        go_roundg k1
        case measure => have := HK1.out; omega
        case rel => exact ⟨(y156), (wrap64 (x13_1 + 1)), (by first | rfl | (simp; done) | (simp [*]; done)), H', ⟨by have := HK1.out; omega⟩, ⟨by (with_reducible repeat (first | apply Kd.R_alloc | apply Kd.R_drewN | apply Kd.R_drew)); exact HO158.out⟩, ⟨by repeat (first | (with_reducible first | exact HB.out | apply bla | apply bln | apply bld) | exact HB.out)⟩⟩
       ·
        rw [if_neg c8] at H
        exact absurd H (by simp)
      ·
       replace c7 := Bool.eq_false_iff.mpr c7
       subst c7
       have H1 : (some (([] : List Int), false)) = some (r1, r2) := by rw [if_neg (show ¬ (false = true) by decide)] at H; exact H
       clear H
       have H := H1
       clear H1
       simp only [Option.some.injEq, Prod.mk.injEq] at H
       obtain ⟨rfl, rfl⟩ := H
       have p153 : 0 ≤ (x13_1 : Int) := of_decide_eq_true (by first | (with_reducible assumption) | assumption)
       have q153 : x13_1 < (l0.length : Int) := of_decide_eq_true (by first | (with_reducible assumption) | assumption)
       obtain ⟨ad153, e153, hx153_0⟩ := Kd.at_string HR0.out x13_1 p153 q153
       cases e153
       replace hx153_0 := (HB.out.cell (World.block_lt_of_cell? w _ hx153_0)).trans hx153_0
       replace p153 := eq_true p153
       replace q153 := eq_true q153
       go_wp2_with (first | ((with_reducible refine gate_callee (f := 74) rfl ?_); refine goesL_ (some 19) rfl rfl Tryz.func74 (by kernel_rfl) rfl #[.string (rdOf ByteArray.empty l0 x13_1)] rfl (by (try simp only [List.map_toArray, List.map_cons, List.map_nil]); first | done | rfl | (simp only [List.length_drop, List.length_take]; rfl)) ?_; (with_reducible refine (conf_Digits.calls (rdOf ByteArray.empty l0 x13_1) t154 false _ ?side1 A6.out).mono ?_); (case side1 => exact Laid.below HLD.out (by repeat (first | (with_reducible first | exact HB.out | apply bla | apply bln | apply bld) | exact HB.out))); rintro e w11 ⟨rfl, hb⟩; refine ⟨_, rfl, ?_⟩; have n0_ := As0.mk (Kd.R_below (by (with_reducible repeat (first | apply Kd.R_alloc | apply Kd.R_drewN | apply Kd.R_drew)); exact HO_6.out) hb); have n1_ := As0.mk (below_step (by repeat (first | (with_reducible first | exact HB.out | apply bla | apply bln | apply bld) | exact HB.out)) hb); clear HO_6; clear HB; have HO_6 := n0_; have HB := n1_; clear n0_ n1_; (try clear hb); (try clear hb2); (try clear hk); (try clear hi)))
       go_ret2
       exact ⟨_, by first | rfl | (simp [errW_none, errW_some] <;> rfl) | (simp [*, errW_none, errW_some] <;> rfl), by first | exact Kd.R_nil _ _ _ _ _ | exact Kd.N_nil _ _ _ _ _ | exact Kd.V_nil _ _ _ _ _ | exact Kd.Q_nil _ _ _ _ _ | exact Kd.S_nil _ _ _ _ _, by repeat (first | (with_reducible first | exact HB.out | apply bla | apply bln | apply bld) | exact HB.out)⟩
     ·
      rw [if_neg c5] at H
      exact absurd H (by simp)
    ·
     rw [if_neg c4] at H
     exact absurd H (by simp)
   ·
    rw [if_neg c3] at H
    have c3b0 : decide (x13_1 < (l0.length : Int)) = false := decide_eq_false c3
    clear c3
    simp only [Option.some.injEq, Prod.mk.injEq] at H
    obtain ⟨rfl, rfl⟩ := H
    obtain ⟨Ao12, co12, eo12⟩ := Kd.R_slice HO_6.out
    subst eo12
    go_wp2
    go_ret2
    exact ⟨_, by first | rfl | (simp [errW_none, errW_some] <;> rfl) | (simp [*, errW_none, errW_some] <;> rfl), by (with_reducible repeat (first | apply Kd.R_alloc | apply Kd.R_drewN | apply Kd.R_drew)); exact HO_6.out, by repeat (first | (with_reducible first | exact HB.out | apply bla | apply bln | apply bld) | exact HB.out)⟩
end Go.Proofs.YtmppkcdphgelcaaGreatDoor.PConf
namespace Go.Proofs.YtmppkcdphgelcaaGreatDoor.PConf
open Go.RowKit Go.Proofs.YtmppkcdphgelcaaGreatDoor.W.PrintWords Go.Proofs.YtmppkcdphgelcaaGreatDoor.W.PrintLast Go.Proofs.YtmppkcdphgelcaaGreatDoor.W.PrintMore
attribute [local go_sem] max2_int min2_int max_two min_two max_three min_three max_four min_four   -- for this text's walks alone
set_option linter.unusedVariables false
set_option linter.unusedSimpArgs false
attribute [local go_sem ↓] Go.wp_at_zero Go.wp_at_succ
structure HeadDone (g : Nat) (cs : Array Value) (yes : Bool) (w : World) (e : Ending) (w' : World) : Prop where
 val : e = .returned (.bool yes)
 row : w'.heap[g]? = some (.cells cs 25 (0, 0))
 world : w.grownBy w' (some g)
theorem Words.tail {w : World} {b n : Nat} {ws : List ByteArray} {A : Option Addr} (hn : ws.length = n + 1) (hA : (if n = 0 then some (⟨b, 0, none⟩ : Addr) else some ⟨b, 1, none⟩) = A) (hc : ∀ j, j < ws.length → w.cell? ⟨b, j, none⟩ = some (.string (ws.getD j ByteArray.empty))) (hm : ws.length ≤ 9223372036854775807) :
  Kd.C Kd.string w A n (ws.drop 1) := by
 refine Kd.C_of_reads (enc := Value.string) (d := ByteArray.empty) (h1 := fun _ => rfl) ⟨by rw [List.length_drop]; omega, by omega, fun h0 => ?_⟩
 rw [if_neg (by omega)] at hA
 subst hA
 refine ⟨_, rfl, fun j hj => ?_⟩
 rw [show (⟨b, 1, none⟩ : Addr).add j = ⟨b, 1 + j, none⟩ by unfold Addr.add; split <;> simp_all]
 rw [hc (1 + j) (by omega), List.getD_eq_getElem?_getD, List.getD_eq_getElem?_getD, List.getElem?_drop]
theorem Words.cell_below {w w' : World} {b : Nat} {ws : List ByteArray} (hb : Below w.heap.size w w') (hc : ∀ j, j < ws.length → w.cell? ⟨b, j, none⟩ = some (.string (ws.getD j ByteArray.empty))) : ∀ j, j < ws.length → w'.cell? ⟨b, j, none⟩ = some (.string (ws.getD j ByteArray.empty)) :=
 fun j hj => pw_cell_below hb (hc j hj)
theorem grown_set' {w w1 : World} {g : Nat} (h : w.grownBy w1 (some g)) (i : Nat) (v : Value) : w.grownBy (w1.setCell ⟨g, i, none⟩ v) (some g) :=
 ⟨h.os, h.tape, h.output, by rw [World.size_setCell]; exact h.size, fun k hk hne => by
  rw [Below.heap_setCell _ _ _ _ (fun e => hne (by rw [e]))]; exact h.block k hk hne⟩
theorem grown_below_none {w w1 : World} {g : Nat} (h : Below w.heap.size w w1) : w.grownBy w1 (some g) := grown_of_below h _
set_option maxHeartbeats 3200000 in
set_option maxRecDepth 100000 in
theorem conf_head.no (k : Nat) (g : Nat) (cs : Array Value) (b : Nat) (ws : List ByteArray) (l : List Int) (ok : Bool) (w : World) (hL : Laid w) (hl : 1 ≤ ws.length) (hm : ws.length ≤ 9223372036854775807)
  (hg : w.heap[g]? = some (.cells cs 25 (0, 0))) (hc : ∀ j, j < ws.length → w.cell? ⟨b, j, none⟩ = some (.string (ws.getD j ByteArray.empty)))
  (hn : conf_numbers.f k (ws.drop 1) 5 = some (l, ok)) (hno : ok = false ∨ ((ws.getD 0 ByteArray.empty).toList == [99, 108, 117, 115, 116, 101, 114]) = false) :
  Calls Tryz.prog 44 #[.pointer (some ⟨g, 0, none⟩), .slice (some ⟨b, 0, none⟩) ws.length ws.length] w (HeadDone g cs false w) := by
 obtain ⟨n, hn1⟩ : ∃ n, ws.length = n + 1 := ⟨ws.length - 1, by omega⟩
 obtain ⟨A, hA⟩ : ∃ A, (if n = 0 then some (⟨b, 0, none⟩ : Addr) else some ⟨b, 1, none⟩) = A := ⟨_, rfl⟩
 have hln : (ws.drop 1).length = n := by rw [List.length_drop]; omega
 have HC := As0.mk (conf_numbers.calls k A n (ws.drop 1) 5 l ok w (by rw [hln]; exact Words.tail hn1 hA hc hm) (by omega) hL hn)
 rw [hln] at HC
 have hx := hc 0 (by omega)
 obtain ⟨x, hx0⟩ : ∃ x, x = ws.getD 0 ByteArray.empty := ⟨_, rfl⟩
 rw [← hx0] at hx hno
 have HX := As0.mk hx
 have HG := As0.mk hg
 have h1 : (1 : Int) ≤ (n : Int) + 1 := by omega
 rw [hn1]
 clear hx hx0 hg hc hln hn hL hl hm hn1
 cases ok with
 | false =>
  clear hno
  go_enter Tryz.func44, Tryz.ntmps44
  go_wp2_with (go_at_call 60; refine HC.out.mono ?_; rintro e w1 ⟨v0, rfl, ho, hb⟩; have HB1 := As0.mk hb; clear ho hb)
  go_ret
  exact ⟨rfl, blk_below HG.out HB1.out, grown_below_none HB1.out⟩
 | true =>
  have hno' : (x.toList == [99, 108, 117, 115, 116, 101, 114]) = false := by rcases hno with h | h; (· cases h); (· exact h)
  clear hno
  go_enter Tryz.func44, Tryz.ntmps44
  go_wp2_with (go_at_call 60; refine HC.out.mono ?_; rintro e w1 ⟨v0, rfl, ho, hb⟩; have HB1 := As0.mk hb; have hx1 := pw_cell_below hb HX.out; clear ho hb)
  go_ret
  exact ⟨rfl, blk_below HG.out HB1.out, grown_below_none HB1.out⟩
set_option maxHeartbeats 6400000 in
set_option maxRecDepth 100000 in
theorem conf_head.yes (k : Nat) (g : Nat) (a0 a1 a2 a3 a4 : Int) (nm wk : Value) (b : Nat) (ws : List ByteArray) (l0 l1 l2 l3 l4 : Int) (w : World) (hL : Laid w) (hl : 1 ≤ ws.length) (hm : ws.length ≤ 9223372036854775807)
  (hg : w.heap[g]? = some (.cells (confCells a0 a1 a2 a3 a4 nm wk) 25 (0, 0))) (hc : ∀ j, j < ws.length → w.cell? ⟨b, j, none⟩ = some (.string (ws.getD j ByteArray.empty)))
  (hn : conf_numbers.f k (ws.drop 1) 5 = some ([l0, l1, l2, l3, l4], true)) (hyes : ((ws.getD 0 ByteArray.empty).toList == [99, 108, 117, 115, 116, 101, 114]) = true) :
  Calls Tryz.prog 44 #[.pointer (some ⟨g, 0, none⟩), .slice (some ⟨b, 0, none⟩) ws.length ws.length] w (HeadDone g (confCells l0 l1 l2 l3 l4 nm wk) true w) := by
 obtain ⟨n, hn1⟩ : ∃ n, ws.length = n + 1 := ⟨ws.length - 1, by omega⟩
 obtain ⟨A, hA⟩ : ∃ A, (if n = 0 then some (⟨b, 0, none⟩ : Addr) else some ⟨b, 1, none⟩) = A := ⟨_, rfl⟩
 have hln : (ws.drop 1).length = n := by rw [List.length_drop]; omega
 have HC := As0.mk (conf_numbers.calls k A n (ws.drop 1) 5 [l0, l1, l2, l3, l4] true w (by rw [hln]; exact Words.tail hn1 hA hc hm) (by omega) hL hn)
 rw [hln] at HC
 have hx := hc 0 (by omega)
 obtain ⟨x, hx0⟩ : ∃ x, x = ws.getD 0 ByteArray.empty := ⟨_, rfl⟩
 rw [← hx0] at hx hyes
 have HX := As0.mk hx
 have HG := As0.mk hg
 have h1 : (1 : Int) ≤ (n : Int) + 1 := by omega
 rw [hn1]
 clear hx hx0 hg hc hln hn hL hl hm hn1
 go_enter Tryz.func44, Tryz.ntmps44
 go_wp2_with (go_at_call 60; refine HC.out.mono ?_; rintro e w1 ⟨v0, rfl, ho, hb⟩; have HB1 := As0.mk hb; have hx1 := pw_cell_below hb HX.out; have HG1 := As0.mk (blk_below HG.out hb); obtain ⟨gl, cap, rfl, hgl, hgl2⟩ := (Kd.own_of_R ho).form (by simp); have hcl := (Kd.own_of_R ho).cells (g := gl) rfl; have q0 := (show w1.cell? ⟨gl, 0, none⟩ = some (.int .i64 l0) from by have z := hcl 0 (.int .i64 l0) rfl; rwa [add_plain] at z); have q1 := (show w1.cell? ⟨gl, 1, none⟩ = some (.int .i64 l1) from by have z := hcl 1 (.int .i64 l1) rfl; rwa [add_plain] at z); have q2 := (show w1.cell? ⟨gl, 2, none⟩ = some (.int .i64 l2) from by have z := hcl 2 (.int .i64 l2) rfl; rwa [add_plain] at z); have q3 := (show w1.cell? ⟨gl, 3, none⟩ = some (.int .i64 l3) from by have z := hcl 3 (.int .i64 l3) rfl; rwa [add_plain] at z); have q4 := (show w1.cell? ⟨gl, 4, none⟩ = some (.int .i64 l4) from by have z := hcl 4 (.int .i64 l4) rfl; rwa [add_plain] at z); have s0 := (show w1.cell? ⟨g, 0, none⟩ = some (.int .i64 a0) from (bkc HG1.out 0).trans rfl); have s1 := (show w1.cell? ⟨g, 1, none⟩ = some (.int .i64 a1) from (bkc HG1.out 1).trans rfl); have s2 := (show w1.cell? ⟨g, 2, none⟩ = some (.int .i64 a2) from (bkc HG1.out 2).trans rfl); have s3 := (show w1.cell? ⟨g, 3, none⟩ = some (.int .i64 a3) from (bkc HG1.out 3).trans rfl); have s4 := (show w1.cell? ⟨g, 4, none⟩ = some (.int .i64 a4) from (bkc HG1.out 4).trans rfl); have f0 := bkf HG1.out 0; have f1 := bkf HG1.out 1; have f2 := bkf HG1.out 2; have f3 := bkf HG1.out 3; have f4 := bkf HG1.out 4; have hne : ¬ g = gl := (by have := blk_lt HG.out; omega); have hne' : ¬ gl = g := (fun e => hne e.symm); clear ho hb hcl hgl hgl2)
 go_region_held3 (fun w' => w'.cell? ⟨gl, 0, none⟩ = some (.int .i64 l0) ∧ w'.cell? ⟨gl, 1, none⟩ = some (.int .i64 l1) ∧ w'.cell? ⟨gl, 2, none⟩ = some (.int .i64 l2) ∧ w'.cell? ⟨gl, 3, none⟩ = some (.int .i64 l3) ∧ w'.cell? ⟨gl, 4, none⟩ = some (.int .i64 l4)) (go_keep) (fail)
 go_wp2
 go_ret
 refine ⟨rfl, (blk_set (blk_set (blk_set (blk_set (blk_set (bkd HG1.out) 0 (.int .i64 l0)) 1 (.int .i64 l1)) 2 (.int .i64 l2)) 3 (.int .i64 l3)) 4 (.int .i64 l4)).trans rfl, ?_⟩
 have z := grown_set' (g := g) (grown_set' (grown_set' (grown_set' (grown_set' (w1 := w1.drew) ⟨HB1.out.os, HB1.out.tape, HB1.out.output, HB1.out.size, fun k hk _ => HB1.out.block k hk⟩ 0 (.int .i64 l0)) 1 (.int .i64 l1)) 2 (.int .i64 l2)) 3 (.int .i64 l3)) 4 (.int .i64 l4)
 exact ⟨z.os, z.tape, z.output, z.size, z.block⟩
theorem conf_head.calls : True := trivial
end Go.Proofs.YtmppkcdphgelcaaGreatDoor.PConf
namespace Go.Proofs.YtmppkcdphgelcaaGreatDoor.PConf
open Go.RowKit Go.Proofs.YtmppkcdphgelcaaGreatDoor.W.PrintWords Go.Proofs.YtmppkcdphgelcaaGreatDoor.W.PrintLast Go.Proofs.YtmppkcdphgelcaaGreatDoor.W.PrintMore
attribute [local go_sem] max2_int min2_int max_two min_two max_three min_three max_four min_four   -- for this text's walks alone
set_option linter.unusedVariables false
set_option linter.unusedSimpArgs false
def names_Place.f (l0 : List ByteArray) (a1 : ByteArray) : Option (Int) := if l0.length ≤ 9223372036854775807 then some (firstN (fun i => (l0.getD i ByteArray.empty).toList == a1.toList) l0.length 0) else none
set_option maxHeartbeats 1000000 in
theorem names_Place.asks (A0 : Option Addr) (c0 : Nat) (l0 : List ByteArray) (a1 : ByteArray) (W : World) (B1 B2 : Nat) (hB1 : W.cell? ⟨B1, 0, none⟩ = some (.slice A0 l0.length c0)) (hB2 : W.cell? ⟨B2, 0, none⟩ = some (.string a1))
  (hr : Kd.C Kd.string W A0 l0.length l0) (hc0 : l0.length ≤ c0) (hn : l0.length ≤ 9223372036854775807) (i : Nat) (hi : i < l0.length) :
  Calls Tryz.prog 88 #[.int .i64 i, .pointer (some ⟨B1, 0, none⟩), .pointer (some ⟨B2, 0, none⟩)] W fun e w' => e = .returned (.bool ((l0.getD i ByteArray.empty).toList == a1.toList)) ∧ ∃ q, w' = W.drewN q := by
 obtain ⟨ad, rfl, hx⟩ := Kd.at_string hr i (by omega) (by omega)
 have e1 : ((i : Int)).toNat = i := rfl
 rw [e1] at hx
 have e2 : rdOf ByteArray.empty l0 (i : Int) = l0.getD i ByteArray.empty := rfl
 rw [e2] at hx
 clear e1 e2 hr
 obtain ⟨x, hx0⟩ : ∃ x, x = l0.getD i ByteArray.empty := ⟨_, rfl⟩
 rw [← hx0] at hx ⊢
 clear hx0
 have h0 : 0 ≤ (i : Int) := by omega
 have h1 : (i : Int) < (l0.length : Int) := by omega
 obtain ⟨n, hn0⟩ : ∃ n, n = l0.length := ⟨_, rfl⟩
 rw [← hn0] at *
 clear hn0
 go_enter Tryz.func88, Tryz.ntmps88
 go_wp2
 go_quiet (fail)
 go_wp2
 go_ret
 exact ⟨rfl, _, rfl⟩
set_option maxHeartbeats 1000000 in
theorem names_Place.calls (A0 : Option Addr) (c0 : Nat) (l0 : List ByteArray) (a1 : ByteArray) (r : Int) (w : World) (hr0 : Kd.C Kd.string w A0 l0.length l0) (hc0 : l0.length ≤ c0) (h : names_Place.f l0 a1 = some r) :
  Calls Tryz.prog 75 #[.slice A0 l0.length c0, .string a1] w fun e w' => e = .returned (.int .i64 r) ∧ Below w.heap.size w w' := by
 unfold names_Place.f at h
 by_cases hs : l0.length ≤ 9223372036854775807
 ·
  rw [if_pos hs] at h
  have hmf : ∀ (fn : Fn) (first cap : Array Value) (w : World), (Instr.makeFunc fn first cap).run Tryz.prog w = .ok (.func fn first cap) w := fun _ _ _ _ => rfl
  have H := As0.mk (Option.some.inj h)
  clear h
  have hM1 : ((w.alloc (.cells #[.slice A0 l0.length c0] 22)).alloc (.cells #[.string a1] 9)).cell? ⟨w.heap.size, 0, none⟩ = some (.slice A0 l0.length c0) := by
   rw [World.cell?_alloc_past _ _ _ (by simp), World.cell?_alloc_at _ _ _ _ rfl]; rfl
  have hM2 : ((w.alloc (.cells #[.slice A0 l0.length c0] 22)).alloc (.cells #[.string a1] 9)).cell? ⟨w.heap.size + 1, 0, none⟩ = some (.string a1) := by
   rw [World.cell?_alloc_at _ _ _ _ (by simp)]; rfl
  have HC := As0.mk (first_any 88 #[.pointer (some ⟨w.heap.size, 0, none⟩), .pointer (some ⟨w.heap.size + 1, 0, none⟩)] (fun i => (l0.getD i ByteArray.empty).toList == a1.toList) l0.length
   ((w.alloc (.cells #[.slice A0 l0.length c0] 22)).alloc (.cells #[.string a1] 9)) (by omega) (enters_of Tryz.func88 (by kernel_rfl) rfl)
   (fun i hi m => names_Place.asks A0 c0 l0 a1 (((w.alloc (.cells #[.slice A0 l0.length c0] 22)).alloc (.cells #[.string a1] 9)).drewN m) w.heap.size (w.heap.size + 1)
    hM1 hM2
    (Kd.C_drewN (Kd.C_alloc (Kd.C_alloc hr0 _) _) m) hc0 hs i (by omega)))
  have HB := As0.mk (bla (bla (Below.refl w.heap.size w) (.cells #[.slice A0 l0.length c0] 22)) (.cells #[.string a1] 9))
  clear hr0 hc0 hM1 hM2
  go_enter Tryz.func75, Tryz.ntmps75
  go_wp2_with (go_at_call 33; refine HC.out.mono ?_; rintro e w' ⟨rfl, q, rfl⟩)
  go_ret
  refine ⟨?_, bln HB.out q⟩
  rw [← H.out]
  rfl
 ·
  rw [if_neg hs] at h
  cases h
end Go.Proofs.YtmppkcdphgelcaaGreatDoor.PConf
namespace Go.Proofs.YtmppkcdphgelcaaGreatDoor.PConf
open Go.RowKit Go.Proofs.YtmppkcdphgelcaaGreatDoor.W.PrintWords Go.Proofs.YtmppkcdphgelcaaGreatDoor.W.PrintLast Go.Proofs.YtmppkcdphgelcaaGreatDoor.W.PrintMore
attribute [local go_sem] max2_int min2_int max_two min_two max_three min_three max_four min_four   -- for this text's walks alone
set_option linter.unusedVariables false
set_option linter.unusedSimpArgs false
def names_Set.l0 : Nat → List ByteArray → Int → List ByteArray → Int → Int → Option (Int × Int × Int)
 | 0, _, _, _, _, _ => none
 | k + 1, x0, x7, x11, x12, x13 => if x13 < x12 then (if 0 ≤ x13 then (if x13 < (x11.length : Int) then (if 0 ≤ (mn (x0.length : Int) 64) then (if (mn (x0.length : Int) 64) ≤ (x0.length : Int) then ((names_Place.f (x0.take ((mn (x0.length : Int) 64) : Int).toNat) (rdOf ByteArray.empty x11 x13)).bind fun t161 => (if t161 < 0 then (some (0, x13, 5)) else (if 0 ≤ t161 then (names_Set.l0 k x0 (Go.bits .or .u64 x7 (shl .u64 1 t161)) x11 x12 (wrap64 (x13 + 1))) else (none)))) else (none)) else (none)) else (none)) else (none)) else (some (x7, (-1), 0))
def names_Set.f (k : Nat) (l0 : List ByteArray) (l1 : List ByteArray) : Option (Int × Int × Int) := names_Set.l0 k l0 0 l1 (l1.length : Int) 0
set_option maxHeartbeats 8000000 in
set_option maxRecDepth 100000 in
theorem names_Set.calls (k : Nat) (A0 : Option Addr) (c0 : Nat) (l0 : List ByteArray) (A1 : Option Addr) (c1 : Nat) (l1 : List ByteArray) (r1 : Int) (r2 : Int) (r3 : Int) (w : World) (hr0 : Kd.C Kd.string w A0 l0.length l0) (hc0 : l0.length ≤ c0) (hr1 : Kd.C Kd.string w A1 l1.length l1) (hc1 : l1.length ≤ c1) (h : names_Set.f k l0 l1 = some (r1, r2, r3)) :
  Calls Tryz.prog 61 #[.slice A0 l0.length c0, .slice A1 l1.length c1] w fun e w' => e = .returned (.tuple #[.int .u64 r1, .int .i64 r2, .int .i64 r3]) ∧ Below w.heap.size w w' := by
 have HR0 := As0.mk hr0
 have HC0 := As0.mk hc0
 clear hr0 hc0
 have HR1 := As0.mk hr1
 have HC1 := As0.mk hc1
 clear hr1 hc1
 have HB := As0.mk (Below.refl w.heap.size w)
 have H : (names_Set.l0 k l0 0 l1 (l1.length : Int) 0) = some (r1, r2, r3) := h
 clear h
 have H' := As0.mk H
 clear H
 go_enter Tryz.func61, Tryz.ntmps61
 go_wp2
 go_loopg [7, 13] k (fun kq v7 v13 w' => ∃ (x7_1 : Int) (x13_1 : Int), v7 = .int .u64 x7_1 ∧ v13 = .int .i64 x13_1 ∧ As0 (names_Set.l0 kq l0 x7_1 l1 (l1.length : Int) x13_1 = some (r1, r2, r3)) ∧ As0 (kq ≤ k) ∧ As0 (Below w.heap.size w w'))
 case atStart => exact ⟨(0), (0), (by first | rfl | (simp; done) | (simp [*]; done)), (by first | rfl | (simp; done) | (simp [*]; done)), H', ⟨Nat.le_refl _⟩, ⟨by repeat (first | (with_reducible first | exact HB.out | apply bla | apply bln | apply bld) | exact HB.out)⟩⟩
 case round =>
  clear H'
  try clear c1
  try clear p2
  obtain ⟨x7_1, x13_1, rfl, rfl, HA, HK1, HB⟩ := hrel
  cases gk with
  | zero => exact absurd HA.out (by simp [names_Set.l0])
  | succ k1 =>
   have H := HA.out
   clear HA
   simp only [names_Set.l0] at H
   by_cases c3 : x13_1 < (l1.length : Int)
   ·
    rw [if_pos c3] at H
    have c3b0 : decide (x13_1 < (l1.length : Int)) = true := decide_eq_true c3
    clear c3
    by_cases c4 : 0 ≤ x13_1
    ·
     rw [if_pos c4] at H
     have c4b0 : decide (0 ≤ x13_1) = true := decide_eq_true c4
     clear c4
     by_cases c5 : x13_1 < (l1.length : Int)
     ·
      rw [if_pos c5] at H
      have c5b0 : decide (x13_1 < (l1.length : Int)) = true := decide_eq_true c5
      clear c5
      obtain ⟨ji6, hji6⟩ : ∃ j_ : Int, (mn (l0.length : Int) 64) = j_ := ⟨_, rfl⟩
      replace H : (if 0 ≤ (ji6) then (if (ji6) ≤ (l0.length : Int) then ((names_Place.f (l0.take ((ji6) : Int).toNat) (rdOf ByteArray.empty l1 x13_1)).bind fun t161 => (if t161 < 0 then (some (0, x13_1, 5)) else (if 0 ≤ t161 then (names_Set.l0 k1 l0 (Go.bits .or .u64 x7_1 (shl .u64 1 t161)) l1 (l1.length : Int) (wrap64 (x13_1 + 1))) else (none)))) else (none)) else (none)) = some (r1, r2, r3) := by first | (rw [hji6] at H; exact H) | (simp only [hji6] at H ⊢; exact H)
      have hji6_ : (if 64 < (l0.length : Int) then 64 else (l0.length : Int)) = ji6 := hji6
      by_cases c7 : 0 ≤ (ji6)
      ·
       rw [if_pos c7] at H
       have c7b0 := eq_true c7
       have c7b1 : decide (0 ≤ (ji6)) = true := decide_eq_true c7
       clear c7
       by_cases c8 : (ji6) ≤ (l0.length : Int)
       ·
        rw [if_pos c8] at H
        have c8b0 := eq_true c8
        have c8b1 : decide ((ji6) ≤ (l0.length : Int)) = true := decide_eq_true c8
        clear c8
        replace H := Option.bind_eq_some_iff.mp H
        obtain ⟨t161, A90, H⟩ := H
        replace H : (if t161 < 0 then (some (0, x13_1, 5)) else (if 0 ≤ t161 then (names_Set.l0 k1 l0 (Go.bits .or .u64 x7_1 (shl .u64 1 t161)) l1 (l1.length : Int) (wrap64 (x13_1 + 1))) else (none))) = some (r1, r2, r3) := H
        have A9 := As0.mk A90
        clear A90
        by_cases c10 : t161 < 0
        ·
         rw [if_pos c10] at H
         have c10b0 : decide (t161 < 0) = true := decide_eq_true c10
         clear c10
         simp only [Option.some.injEq, Prod.mk.injEq] at H
         obtain ⟨rfl, rfl, rfl⟩ := H
         have p159 : 0 ≤ (x13_1 : Int) := of_decide_eq_true (by first | (with_reducible assumption) | assumption)
         have q159 : x13_1 < (l1.length : Int) := of_decide_eq_true (by first | (with_reducible assumption) | assumption)
         obtain ⟨ad159, e159, hx159_0⟩ := Kd.at_string HR1.out x13_1 p159 q159
         cases e159
         replace hx159_0 := (HB.out.cell (World.block_lt_of_cell? w _ hx159_0)).trans hx159_0
         replace p159 := eq_true p159
         replace q159 := eq_true q159
         obtain ⟨i011, hi011, _, hsz11, _⟩ := info_parts info9
         obtain ⟨hcut11, hA11, hC11⟩ := print_take_of (P := Tryz.prog) Value.string (⟨#[]⟩ : ByteArray) 22 9 .i64 Tryz.underlying22 hi011 hsz11 A0 c0 l0 (ji6) (of_decide_eq_true (by first | (with_reducible assumption) | assumption)) (of_decide_eq_true (by first | (with_reducible assumption) | assumption)) HC0.out
         have HR160 := As0.mk (Kd.C_of_reads (h1 := fun _ => rfl) (hA11 _ (Kd.reads_of_C HR0.out)))
         have HC160 := As0.mk hC11
         clear hA11 hC11 hi011 hsz11
         go_wp2_with (first | ((with_reducible refine gate_callee (f := 75) rfl ?_); refine goesL_ (some 24) rfl rfl Tryz.func75 (by kernel_rfl) rfl #[.slice A0 (l0.take ((ji6) : Int).toNat).length c0, .string (rdOf ByteArray.empty l1 x13_1)] rfl (by (try simp only [List.map_toArray, List.map_cons, List.map_nil]); first | done | (rw [show (l0.take ((ji6) : Int).toNat).length = (ji6).toNat from (by rw [List.length_take]; have h_ : ((ji6) : Int) ≤ (l0.length : Int) := of_decide_eq_true (by first | (with_reducible assumption) | assumption); omega)] <;> rfl) | (simp only [hji6]; rfl) | rfl | (simp only [List.length_drop, List.length_take]; rfl)) ?_; (with_reducible refine (names_Place.calls _ _ (l0.take ((ji6) : Int).toNat) (rdOf ByteArray.empty l1 x13_1) t161 _ ?side1 ?side2 A9.out).mono ?_); (case side1 => repeat (first | exact (Kd.C_below HR160.out HB.out) | (with_reducible refine Kd.C_alloc ?_ _) | (with_reducible refine Kd.C_drewN ?_ _) | (with_reducible refine Kd.C_drew ?_))); (case side2 => exact HC160.out); rintro e w12 ⟨rfl, hb⟩; refine ⟨_, rfl, ?_⟩; have n0_ := As0.mk (below_step (by repeat (first | (with_reducible first | exact HB.out | apply bla | apply bln | apply bld) | exact HB.out)) hb); clear HB; have HB := n0_; clear n0_; (try clear hb); (try clear hb2); (try clear hk); (try clear hi)))
         go_ret3
         exact ⟨by first | rfl | (simp [errW_none, errW_some] <;> rfl) | (simp only [← hji6]; first | rfl | (simp [errW_none, errW_some] <;> rfl)) | (simp [*, errW_none, errW_some] <;> rfl), by repeat (first | (with_reducible first | exact HB.out | apply bla | apply bln | apply bld) | exact HB.out)⟩
        ·
         rw [if_neg c10] at H
         have c10b0 : decide (t161 < 0) = false := decide_eq_false c10
         clear c10
         by_cases c13 : 0 ≤ t161
         ·
          rw [if_pos c13] at H
          have c13b0 := eq_true c13
          have c13b1 : decide (0 ≤ t161) = true := decide_eq_true c13
          clear c13
          obtain ⟨ji14, hji14⟩ : ∃ j_ : Int, (shl .u64 1 t161) = j_ := ⟨_, rfl⟩
          replace H : (names_Set.l0 k1 l0 (Go.bits .or .u64 x7_1 (ji14)) l1 (l1.length : Int) (wrap64 (x13_1 + 1))) = some (r1, r2, r3) := by first | (rw [hji14] at H; exact H) | (simp only [hji14] at H ⊢; exact H)
          (try rw [hji14] at A9)
          have hji14_ : (IntKind.u64.wrap (1 * 2 ^ min t161.toNat 64)) = ji14 := hji14
          have hji14z : t161 ≤ 64 → (IntKind.u64.wrap (1 * 2 ^ t161.toNat)) = ji14 := shl_small hji14
          have hji14u : (IntKind.u64.wrap (2 ^ min t161.toNat 64)) = ji14 := by have h_ := hji14_; rw [Int.one_mul] at h_; exact h_
          have hji14v : t161 ≤ 64 → (IntKind.u64.wrap (2 ^ t161.toNat)) = ji14 := fun hle_ => by have h_ := hji14z hle_; rw [Int.one_mul] at h_; exact h_
          have H' := As0.mk H
          clear H
          have p159 : 0 ≤ (x13_1 : Int) := of_decide_eq_true (by first | (with_reducible assumption) | assumption)
          have q159 : x13_1 < (l1.length : Int) := of_decide_eq_true (by first | (with_reducible assumption) | assumption)
          obtain ⟨ad159, e159, hx159_0⟩ := Kd.at_string HR1.out x13_1 p159 q159
          cases e159
          replace hx159_0 := (HB.out.cell (World.block_lt_of_cell? w _ hx159_0)).trans hx159_0
          replace p159 := eq_true p159
          replace q159 := eq_true q159
          obtain ⟨i015, hi015, _, hsz15, _⟩ := info_parts info9
          obtain ⟨hcut15, hA15, hC15⟩ := print_take_of (P := Tryz.prog) Value.string (⟨#[]⟩ : ByteArray) 22 9 .i64 Tryz.underlying22 hi015 hsz15 A0 c0 l0 (ji6) (of_decide_eq_true (by first | (with_reducible assumption) | assumption)) (of_decide_eq_true (by first | (with_reducible assumption) | assumption)) HC0.out
          have HR160 := As0.mk (Kd.C_of_reads (h1 := fun _ => rfl) (hA15 _ (Kd.reads_of_C HR0.out)))
          have HC160 := As0.mk hC15
          clear hA15 hC15 hi015 hsz15
          go_wp2_with (first | ((with_reducible refine gate_callee (f := 75) rfl ?_); refine goesL_ (some 24) rfl rfl Tryz.func75 (by kernel_rfl) rfl #[.slice A0 (l0.take ((ji6) : Int).toNat).length c0, .string (rdOf ByteArray.empty l1 x13_1)] rfl (by (try simp only [List.map_toArray, List.map_cons, List.map_nil]); first | done | (rw [show (l0.take ((ji6) : Int).toNat).length = (ji6).toNat from (by rw [List.length_take]; have h_ : ((ji6) : Int) ≤ (l0.length : Int) := of_decide_eq_true (by first | (with_reducible assumption) | assumption); omega)] <;> rfl) | (simp only [hji6]; rfl) | rfl | (simp only [List.length_drop, List.length_take]; rfl)) ?_; (with_reducible refine (names_Place.calls _ _ (l0.take ((ji6) : Int).toNat) (rdOf ByteArray.empty l1 x13_1) t161 _ ?side1 ?side2 A9.out).mono ?_); (case side1 => repeat (first | exact (Kd.C_below HR160.out HB.out) | (with_reducible refine Kd.C_alloc ?_ _) | (with_reducible refine Kd.C_drewN ?_ _) | (with_reducible refine Kd.C_drew ?_))); (case side2 => exact HC160.out); rintro e w16 ⟨rfl, hb⟩; refine ⟨_, rfl, ?_⟩; have n0_ := As0.mk (below_step (by repeat (first | (with_reducible first | exact HB.out | apply bla | apply bln | apply bld) | exact HB.out)) hb); clear HB; have HB := n0_; clear n0_; (try clear hb); (try clear hb2); (try clear hk); (try clear hi)))
          go_roundg k1
          case measure => have := HK1.out; omega
          case rel => exact ⟨(Go.bits .or .u64 x7_1 (ji14)), (wrap64 (x13_1 + 1)), (by first | rfl | (simp; done) | (simp only [← hji14] <;> (first | rfl | simp)) | (simp [*]; done)), (by first | rfl | (simp; done) | (simp [*]; done)), H', ⟨by have := HK1.out; omega⟩, ⟨by repeat (first | (with_reducible first | exact HB.out | apply bla | apply bln | apply bld) | exact HB.out)⟩⟩
         ·
          rw [if_neg c13] at H
          exact absurd H (by simp)
       ·
        rw [if_neg c8] at H
        exact absurd H (by simp)
      ·
       rw [if_neg c7] at H
       exact absurd H (by simp)
     ·
      rw [if_neg c5] at H
      exact absurd H (by simp)
    ·
     rw [if_neg c4] at H
     exact absurd H (by simp)
   ·
    rw [if_neg c3] at H
    have c3b0 : decide (x13_1 < (l1.length : Int)) = false := decide_eq_false c3
    clear c3
    simp only [Option.some.injEq, Prod.mk.injEq] at H
    obtain ⟨rfl, rfl, rfl⟩ := H
    go_wp2
    go_ret3
    exact ⟨by first | rfl | (simp [errW_none, errW_some] <;> rfl) | (simp [*, errW_none, errW_some] <;> rfl), by repeat (first | (with_reducible first | exact HB.out | apply bla | apply bln | apply bld) | exact HB.out)⟩
end Go.Proofs.YtmppkcdphgelcaaGreatDoor.PConf
namespace Go.Proofs.YtmppkcdphgelcaaGreatDoor.PConf
open Go.RowKit Go.Proofs.YtmppkcdphgelcaaGreatDoor.W.PrintWords Go.Proofs.YtmppkcdphgelcaaGreatDoor.W.PrintLast Go.Proofs.YtmppkcdphgelcaaGreatDoor.W.PrintMore
attribute [local go_sem] max2_int min2_int max_two min_two max_three min_three max_four min_four   -- for this text's walks alone
set_option linter.unusedVariables false
set_option linter.unusedSimpArgs false
attribute [local go_sem ↓] Go.wp_at_zero Go.wp_at_succ
abbrev Wk := S41
def conf_worker.f (k : Nat) (a0 a1 a2 a3 a4 : Int) (nm : List ByteArray) (wk : List Wk) (ws : List ByteArray) : Option (Bool × List Wk) :=
 if ((ws.getD 0 ByteArray.empty).toList == [119, 111, 114, 107, 101, 114]) = true ∧ 3 ≤ ws.length then
  (conf_numbers.f k ((ws.drop 1).take 2) 2).bind fun n => (names_Set.f k nm (ws.drop 3)).bind fun s =>
   if n.2 = true ∧ s.2.2 = 0 then
    (conf_workerLine.f a0 a1 a2 a3 a4 nm (wk ++ [⟨n.1.getD 0 0, n.1.getD 1 0, s.1⟩]) (n.1.getD 0 0) (n.1.getD 1 0) s.1).bind fun x => (conf_line.f ws).bind fun y => some (x.toList == y.toList, wk ++ [⟨n.1.getD 0 0, n.1.getD 1 0, s.1⟩])
   else some (false, wk)
 else some (false, wk)
structure WorkerDone (g : Nat) (a0 a1 a2 a3 a4 : Int) (nm : Value) (wkv : Value) (wk' : List Wk) (yes : Bool) (B : Nat) (w : World) (e : Ending) (w' : World) : Prop where
 val : e = .returned (.bool yes)
 row : ∃ v, Kd.R k41 41 w' B (fun _ => True) v wk' ∧ w'.heap[g]? = some (.cells (confCells a0 a1 a2 a3 a4 nm v) 25 (0, 0)) ∧ (v = wkv ∨ v.ownBlock = wkv.ownBlock ∨ ∃ b, v.ownBlock = some b ∧ w.heap.size ≤ b)
 world : Kept w w' (fun k => k = g ∨ some k = wkv.ownBlock)
 below : Below B w w'
theorem Kept.none_ {w w' : World} {S : Nat → Prop} (h : Below w.heap.size w w') : Kept w w' S := Kept.of_below h S
theorem Words.part {w : World} {b : Nat} {ws : List ByteArray} (i n : Nat) (h : i + n ≤ ws.length) {A : Option Addr} (hA : 0 < n → A = some ⟨b, i, none⟩) (hc : ∀ j, j < ws.length → w.cell? ⟨b, j, none⟩ = some (.string (ws.getD j ByteArray.empty))) (hm : ws.length ≤ 9223372036854775807) :
  Kd.C Kd.string w A n ((ws.drop i).take n) := by
 refine Kd.C_of_reads (enc := Value.string) (d := ByteArray.empty) (h1 := fun _ => rfl) ⟨by rw [List.length_take, List.length_drop]; omega, by omega, fun h0 => ?_⟩
 refine ⟨_, hA h0, fun j hj => ?_⟩
 rw [show (⟨b, i, none⟩ : Addr).add j = ⟨b, i + j, none⟩ by unfold Addr.add; split <;> simp_all]
 rw [hc (i + j) (by omega), List.getD_eq_getElem?_getD, List.getD_eq_getElem?_getD, List.getElem?_take, if_pos hj, List.getElem?_drop]
theorem conf_worker.keeps {w w' : World} (hb : Below w.heap.size w w') {p0 p1 p2 p3 p4 p5 p6 q0 q1 q2 : Addr} {v0 v1 v2 v3 v4 v5 v6 x0 x1 x2 : Value}
  (h : w.cell? p0 = some v0 ∧ w.cell? p1 = some v1 ∧ w.cell? p2 = some v2 ∧ w.cell? p3 = some v3 ∧ w.cell? p4 = some v4 ∧ w.cell? p5 = some v5 ∧ w.cell? p6 = some v6 ∧ w.cell? q0 = some x0 ∧ w.cell? q1 = some x1 ∧ w.cell? q2 = some x2) :
  w'.cell? p0 = some v0 ∧ w'.cell? p1 = some v1 ∧ w'.cell? p2 = some v2 ∧ w'.cell? p3 = some v3 ∧ w'.cell? p4 = some v4 ∧ w'.cell? p5 = some v5 ∧ w'.cell? p6 = some v6 ∧ w'.cell? q0 = some x0 ∧ w'.cell? q1 = some x1 ∧ w'.cell? q2 = some x2 := by
 obtain ⟨h0, h1, h2, h3, h4, h5, h6, g0, g1, g2⟩ := h
 exact ⟨pw_cell_below hb h0, pw_cell_below hb h1, pw_cell_below hb h2, pw_cell_below hb h3, pw_cell_below hb h4, pw_cell_below hb h5, pw_cell_below hb h6, pw_cell_below hb g0, pw_cell_below hb g1, pw_cell_below hb g2⟩
set_option maxHeartbeats 3200000 in
set_option maxRecDepth 100000 in
theorem conf_worker.no1 (g : Nat) (a0 a1 a2 a3 a4 : Int) (nmv wkv : Value) (wk : List Wk) (b : Nat) (ws : List ByteArray) (B : Nat) (w : World) (hl : 1 ≤ ws.length) (hBw : B ≤ w.heap.size)
  (hg : w.heap[g]? = some (.cells (confCells a0 a1 a2 a3 a4 nmv wkv) 25 (0, 0))) (hc : ∀ j, j < ws.length → w.cell? ⟨b, j, none⟩ = some (.string (ws.getD j ByteArray.empty)))
  (hwk : Kd.R k41 41 w B (fun _ => True) wkv wk)
  (hno : ¬ (((ws.getD 0 ByteArray.empty).toList == [119, 111, 114, 107, 101, 114]) = true ∧ 3 ≤ ws.length)) :
  Calls Tryz.prog 46 #[.pointer (some ⟨g, 0, none⟩), .slice (some ⟨b, 0, none⟩) ws.length ws.length] w (WorkerDone g a0 a1 a2 a3 a4 nmv wkv wk false B w) := by
 have hx := hc 0 (by omega)
 obtain ⟨x, hx0⟩ : ∃ x, x = ws.getD 0 ByteArray.empty := ⟨_, rfl⟩
 rw [← hx0] at hx hno
 have HD := As0.mk (show WorkerDone g a0 a1 a2 a3 a4 nmv wkv wk false B w (.returned (.bool false)) w from ⟨rfl, ⟨wkv, hwk, hg, .inl rfl⟩, Kept.refl _ _, Below.refl _ _⟩)
 have h0 : (0 : Int) < (ws.length : Int) := by omega
 have h0' : 0 < ws.length := by omega
 clear hx0 hg hc hwk
 cases hb : (x.toList == [119, 111, 114, 107, 101, 114]) with
 | false =>
  clear hno
  go_enter Tryz.func46, Tryz.ntmps46
  go_wp2
  go_ret
  exact HD.out
 | true =>
  have h3 : ¬ 3 ≤ ws.length := fun h => hno ⟨hb, h⟩
  have h3a : decide ((ws.length : Int) < 3) = true := decide_eq_true (by omega)
  have h3b : decide (ws.length < 3) = true := decide_eq_true (by omega)
  clear hno h3
  go_enter Tryz.func46, Tryz.ntmps46
  go_wp2
  go_ret
  exact HD.out
set_option maxHeartbeats 6400000 in
set_option maxRecDepth 100000 in
theorem conf_worker.more (k : Nat) (g : Nat) (a0 a1 a2 a3 a4 : Int) (An : Option Addr) (cn : Nat) (nm : List ByteArray) (wkv : Value) (wk : List Wk) (b : Nat) (ws : List ByteArray) (B : Nat) (w : World) (hL : Laid w) (hl : 3 ≤ ws.length) (hm : ws.length ≤ 9223372036854775807) (hBw : B ≤ w.heap.size)
  (hg : w.heap[g]? = some (.cells (confCells a0 a1 a2 a3 a4 (.slice An nm.length cn) wkv) 25 (0, 0))) (hgB : B ≤ g) (hc : ∀ j, j < ws.length → w.cell? ⟨b, j, none⟩ = some (.string (ws.getD j ByteArray.empty)))
  (hrn : ∀ W', Kept w W' (fun k => k = g ∨ some k = wkv.ownBlock) → Kd.C Kd.string W' An nm.length nm) (hcn : nm.length ≤ cn)
  (hwk : Kd.R k41 41 w B (fun _ => True) wkv wk) (hlen : (wk.length + 1) * 24 ≤ 140737488355328)
  (hyes : ((ws.getD 0 ByteArray.empty).toList == [119, 111, 114, 107, 101, 114]) = true) (l : List Int) (ok : Bool) (set i2 e2 : Int)
  (hn : conf_numbers.f k ((ws.drop 1).take 2) 2 = some (l, ok)) (hs : names_Set.f k nm (ws.drop 3) = some (set, i2, e2)) (hno : ¬ (ok = true ∧ e2 = 0)) :
  Calls Tryz.prog 46 #[.pointer (some ⟨g, 0, none⟩), .slice (some ⟨b, 0, none⟩) ws.length ws.length] w (WorkerDone g a0 a1 a2 a3 a4 (.slice An nm.length cn) wkv wk false B w) := by
 obtain ⟨n, hn1⟩ : ∃ n, ws.length = n + 3 := ⟨ws.length - 3, by omega⟩
 have hx := hc 0 (by omega)
 obtain ⟨x, hx0⟩ : ∃ x, x = ws.getD 0 ByteArray.empty := ⟨_, rfl⟩
 rw [← hx0] at hx hyes
 have hln1 : ((ws.drop 1).take 2).length = 2 := by rw [List.length_take, List.length_drop]; omega
 have hln3 : (ws.drop 3).length = n := by rw [List.length_drop]; omega
 have HC := As0.mk (conf_numbers.calls k (some ⟨b, 1, none⟩) (n + 2) ((ws.drop 1).take 2) 2 l ok w (by rw [hln1]; exact Words.part 1 2 (by omega) (fun _ => rfl) hc hm) (by omega) hL hn)
 rw [hln1] at HC
 obtain ⟨A, hA⟩ : ∃ A, (if n = 0 then some (⟨b, 0, none⟩ : Addr) else some ⟨b, 3, none⟩) = A := ⟨_, rfl⟩
 have HS := As0.mk (fun (W : World) (hb : Below w.heap.size w W) => names_Set.calls k An cn nm A n (ws.drop 3) set i2 e2 W (hrn W (Kept.of_below hb _)) hcn (by
  rw [hln3]
  have := Words.part (A := A) 3 n (by omega) (fun h0 => by rw [← hA, if_neg (by omega)]) (Words.cell_below hb hc) hm
  rwa [List.take_of_length_le (by omega)] at this) (by omega) hs)
 rw [hln3] at HS
 have HG := As0.mk hg
 have HX := As0.mk hx
 have HD := As0.mk (show ∀ W, Below w.heap.size w W → WorkerDone g a0 a1 a2 a3 a4 (.slice An nm.length cn) wkv wk false B w (.returned (.bool false)) W from fun W hb => ⟨rfl, ⟨wkv, Kd.R_below hwk hb, blk_below hg hb, .inl rfl⟩, Kept.of_below hb _, hb.mono hBw⟩)
 have h1 : (3 : Int) ≤ (n : Int) + 3 := by omega
 have h1' : (1 : Int) ≤ 3 := by omega
 have h0 : (0 : Int) < (n : Int) + 3 := by omega
 have h0' : 0 < n + 3 := by omega
 have h3a : decide ((n : Int) + 3 < 3) = false := decide_eq_false (by omega)
 have h3b : decide (n + 3 < 3) = false := decide_eq_false (by omega)
 rw [hn1]
 clear hx0 hg hc hln1 hln3 hn hs hL hl hm hn1 hwk hrn
 cases ok with
 | false =>
  clear hno
  go_enter Tryz.func46, Tryz.ntmps46
  go_wp2_with (go_at_call 60; refine HC.out.mono ?_; rintro e w1 ⟨v0, rfl, ho, hb⟩; have HB1 := As0.mk hb; have hg5 := (show w1.cell? ⟨g, 5, none⟩ = some (.slice An nm.length cn) from (bkc (blk_below HG.out hb) 5).trans rfl); clear ho hb)
  have HB1d := As0.mk (below_drew HB1.out)
  go_region_held3 (fun w' => w'.cell? ⟨g, 5, none⟩ = some (.slice An nm.length cn)) (first | go_keep | (exact hg52)) ((go_at_call 61; refine (HS.out _ (by exact HB1d.out)).mono ?_; rintro e w2 ⟨rfl, hb2⟩; have HB2 := As0.mk (below_then HB1d.out HB1d.out.size hb2); have hg52 := (show w2.cell? ⟨g, 5, none⟩ = some (.slice An nm.length cn) from (bkc (blk_below HG.out HB2.out) 5).trans rfl); clear hb2))
  go_wp2
  go_ret
  exact HD.out _ HB2.out
 | true =>
  have he2 : (e2 != 0) = true := bne_iff_ne.mpr (fun h => hno ⟨rfl, h⟩)
  have he2' : (e2 == 0) = false := beq_eq_false_iff_ne.mpr (fun h => hno ⟨rfl, h⟩)
  clear hno
  go_enter Tryz.func46, Tryz.ntmps46
  go_wp2_with (go_at_call 60; refine HC.out.mono ?_; rintro e w1 ⟨v0, rfl, ho, hb⟩; have HB1 := As0.mk hb; have hg5 := (show w1.cell? ⟨g, 5, none⟩ = some (.slice An nm.length cn) from (bkc (blk_below HG.out hb) 5).trans rfl); clear ho hb)
  have HB1d := As0.mk (below_drew HB1.out)
  go_region_held3 (fun w' => w'.cell? ⟨g, 5, none⟩ = some (.slice An nm.length cn)) (first | go_keep | (exact hg52)) ((go_at_call 61; refine (HS.out _ (by exact HB1d.out)).mono ?_; rintro e w2 ⟨rfl, hb2⟩; have HB2 := As0.mk (below_then HB1d.out HB1d.out.size hb2); have hg52 := (show w2.cell? ⟨g, 5, none⟩ = some (.slice An nm.length cn) from (bkc (blk_below HG.out HB2.out) 5).trans rfl); clear hb2))
  go_wp2
  go_ret
  exact HD.out _ HB2.out
set_option maxHeartbeats 6400000 in
set_option maxRecDepth 100000 in
theorem conf_worker.yes (k : Nat) (g : Nat) (a0 a1 a2 a3 a4 : Int) (An : Option Addr) (cn : Nat) (nm : List ByteArray) (wkv : Value) (wk : List Wk) (b : Nat) (ws : List ByteArray) (B : Nat) (w : World) (hL : Laid w) (hl : 3 ≤ ws.length) (hm : ws.length ≤ 9223372036854775807) (hBw : B ≤ w.heap.size)
  (hg : w.heap[g]? = some (.cells (confCells a0 a1 a2 a3 a4 (.slice An nm.length cn) wkv) 25 (0, 0))) (hgB : B ≤ g) (hc : ∀ j, j < ws.length → w.cell? ⟨b, j, none⟩ = some (.string (ws.getD j ByteArray.empty)))
  (hrn : ∀ W', Kept w W' (fun k => k = g ∨ some k = wkv.ownBlock) → Kd.C Kd.string W' An nm.length nm) (hcn : nm.length ≤ cn)
  (hck : ∀ W', Kept w W' (fun k => k = g ∨ some k = wkv.ownBlock) → ∀ j, j < ws.length → W'.cell? ⟨b, j, none⟩ = some (.string (ws.getD j ByteArray.empty))) (hB9 : 9 ≤ B)
  (hwk : Kd.R k41 41 w B (fun _ => True) wkv wk) (hlen : (wk.length + 1) * 24 ≤ 140737488355328)
  (hyes : ((ws.getD 0 ByteArray.empty).toList == [119, 111, 114, 107, 101, 114]) = true) (p q : Int) (set i2 : Int) (xl yl : ByteArray)
  (hn : conf_numbers.f k ((ws.drop 1).take 2) 2 = some ([p, q], true)) (hs : names_Set.f k nm (ws.drop 3) = some (set, i2, 0))
  (hw : conf_workerLine.f a0 a1 a2 a3 a4 nm (wk ++ [⟨p, q, set⟩]) p q set = some xl) (hline : conf_line.f ws = some yl) :
  Calls Tryz.prog 46 #[.pointer (some ⟨g, 0, none⟩), .slice (some ⟨b, 0, none⟩) ws.length ws.length] w (WorkerDone g a0 a1 a2 a3 a4 (.slice An nm.length cn) wkv (wk ++ [⟨p, q, set⟩]) (xl.toList == yl.toList) B w) := by
 obtain ⟨n, hn1⟩ : ∃ n, ws.length = n + 3 := ⟨ws.length - 3, by omega⟩
 have hx := hc 0 (by omega)
 obtain ⟨x, hx0⟩ : ∃ x, x = ws.getD 0 ByteArray.empty := ⟨_, rfl⟩
 rw [← hx0] at hx hyes
 have hln1 : ((ws.drop 1).take 2).length = 2 := by rw [List.length_take, List.length_drop]; omega
 have hln3 : (ws.drop 3).length = n := by rw [List.length_drop]; omega
 have HC := As0.mk (conf_numbers.calls k (some ⟨b, 1, none⟩) (n + 2) ((ws.drop 1).take 2) 2 [p, q] true w (by rw [hln1]; exact Words.part 1 2 (by omega) (fun _ => rfl) hc hm) (by omega) hL hn)
 rw [hln1] at HC
 obtain ⟨A, hA⟩ : ∃ A, (if n = 0 then some (⟨b, 0, none⟩ : Addr) else some ⟨b, 3, none⟩) = A := ⟨_, rfl⟩
 have HS := As0.mk (fun (W : World) (hb : Below w.heap.size w W) => names_Set.calls k An cn nm A n (ws.drop 3) set i2 0 W (hrn W (Kept.of_below hb _)) hcn (by
  rw [hln3]
  have := Words.part (A := A) 3 n (by omega) (fun h0 => by rw [← hA, if_neg (by omega)]) (Words.cell_below hb hc) hm
  rwa [List.take_of_length_le (by omega)] at this) (by omega) hs)
 rw [hln3] at HS
 have HG := As0.mk hg
 have HX := As0.mk hx
 have HWK := As0.mk hwk
 have HRN := As0.mk hrn
 have HWS := As0.mk hck
 have HLD := As0.mk hL
 have HWL := As0.mk hw
 have HLN := As0.mk hline
 have HM := As0.mk hm
 have HN1 := As0.mk hn1
 have h1 : (3 : Int) ≤ (n : Int) + 3 := by omega
 have h1' : (1 : Int) ≤ 3 := by omega
 have h0 : (0 : Int) < (n : Int) + 3 := by omega
 have h0' : 0 < n + 3 := by omega
 have h3a : decide ((n : Int) + 3 < 3) = false := decide_eq_false (by omega)
 have h3b : decide (n + 3 < 3) = false := decide_eq_false (by omega)
 rw [hn1]
 clear hx0 hg hc hln1 hln3 hn hs hL hl hm hn1 hwk hrn hw hline hck
 go_enter Tryz.func46, Tryz.ntmps46
 go_wp2_with (go_at_call 60; refine HC.out.mono ?_; rintro e w1 ⟨v0, rfl, ho, hb⟩; have HB1 := As0.mk hb; have hg5 := (show w1.cell? ⟨g, 5, none⟩ = some (.slice An nm.length cn) from (bkc (blk_below HG.out hb) 5).trans rfl); obtain ⟨gl, cap, rfl, hgl, hgl2⟩ := (Kd.own_of_R ho).form (by simp); have hcl := (Kd.own_of_R ho).cells (g := gl) rfl; have q0 := (show w1.cell? ⟨gl, 0, none⟩ = some (.int .i64 p) from by have z := hcl 0 (.int .i64 p) rfl; rwa [add_plain] at z); have q1 := (show w1.cell? ⟨gl, 1, none⟩ = some (.int .i64 q) from by have z := hcl 1 (.int .i64 q) rfl; rwa [add_plain] at z); have Q0 := As0.mk q0; have Q1 := As0.mk q1; clear ho hb hcl q0 q1)
 have HB1d := As0.mk (below_drew HB1.out)
 go_region_held3 (fun w' => w'.cell? ⟨g, 5, none⟩ = some (.slice An nm.length cn)) (first | go_keep | (exact hg52)) ((go_at_call 61; refine (HS.out _ (by exact HB1d.out)).mono ?_; rintro e w2 ⟨rfl, hb2⟩; have HB2 := As0.mk (below_then HB1d.out HB1d.out.size hb2); have Q20 := (show w2.cell? ⟨gl, 0, none⟩ = some (.int .i64 p) from pw_cell_below (w := w1.drew) hb2 Q0.out); have Q21 := (show w2.cell? ⟨gl, 1, none⟩ = some (.int .i64 q) from pw_cell_below (w := w1.drew) hb2 Q1.out); have hg52 := (show w2.cell? ⟨g, 5, none⟩ = some (.slice An nm.length cn) from (bkc (blk_below HG.out HB2.out) 5).trans rfl); clear hb2))
 go_wp2
 have hgl3 := World.block_lt_of_cell? w2 _ Q20
 go_region_held3 (fun w' => w'.cell? ⟨gl, 0, none⟩ = some (.int .i64 p) ∧ w'.cell? ⟨gl, 1, none⟩ = some (.int .i64 q)) (go_keep) (fail)
 go_wp2
 obtain ⟨i79, hi79, hz790, hz791, hz792⟩ := info_parts (show (Tryz.prog.info? 41).map (fun i => (i.zero, i.size, i.bytes)) = some (some (.agg #[.int .i64 0, .int .i64 0, .int .u64 0]), 3, 24) by kernel_rfl)
 obtain ⟨bx, hbx⟩ : ∃ bx, bx = w2.heap.size := ⟨_, rfl⟩
 obtain ⟨W3, hW3⟩ : ∃ W3, W3 = (w2.alloc (.cells #[.int .i64 p, .int .i64 q, .int .u64 set] 41)).drew := ⟨_, rfl⟩
 have HB3 := As0.mk (show Below w.heap.size w W3 by rw [hW3]; exact below_drew (bla HB2.out _))
 have HX3 := As0.mk (show W3.heap[bx]? = some (.cells #[.int .i64 p, .int .i64 q, .int .u64 set] 41 (0, 0)) by rw [hW3, hbx]; exact heap_alloc_new w2 _)
 have HBX := As0.mk (show w.heap.size ≤ bx by rw [hbx]; exact HB2.out.size)
 rw [← hbx, ← hW3]
 clear hW3 hbx hg52 Q20 Q21 hgl3 hg5
 have HG3 := As0.mk (blk_below HG.out HB3.out)
 have hne := Kd.R_ne (Kd.R_below HWK.out HB3.out) HG3.out (by decide)
 have HNE := As0.mk hne
 have HWK4 : Kd.R k41 41 (W3.alloc (.cells #[.int .i64 p, .int .i64 q, .int .u64 set] 41)).drew B (fun _ => True) wkv wk := Kd.R_drew (Kd.R_alloc (Kd.R_below HWK.out HB3.out) _)
 obtain ⟨k0, inner, hown, hreps⟩ := HWK4
 have HOWN := As0.mk hown
 have HREP := As0.mk hreps
 have s6 := (show W3.cell? ⟨g, 6, none⟩ = some wkv from (bkc HG3.out 6).trans rfl)
 have f6 := bkf HG3.out 6
 have b0 := (show W3.cell? ⟨bx, 0, none⟩ = some (.int .i64 p) from (bkc HX3.out 0).trans rfl)
 have b1 := (show W3.cell? ⟨bx, 1, none⟩ = some (.int .i64 q) from (bkc HX3.out 1).trans rfl)
 have b2 := (show W3.cell? ⟨bx, 2, none⟩ = some (.int .u64 set) from (bkc HX3.out 2).trans rfl)
 have HNX := As0.mk (show some bx ≠ wkv.ownBlock from fun e => by have := Kd.R_lt HWK.out bx e.symm; have := HBX.out; omega)
 have hl79 : (wk.length + 1) * 24 ≤ 140737488355328 := hlen
 have hl63 : wk.length + 1 ≤ maxLen := by unfold maxLen; omega
 have hBW : B ≤ (W3.alloc (.cells #[.int .i64 p, .int .i64 q, .int .u64 set] 41)).drew.heap.size := Nat.le_trans hBw (bla HB3.out _).size
 have hHS := As0.mk (show (W3.alloc (.cells #[.int .i64 p, .int .i64 q, .int .u64 set] 41)).drew.heap.size = W3.heap.size + 1 from by simp)
 have s6a := (show (W3.alloc (.cells #[.int .i64 p, .int .i64 q, .int .u64 set] 41)).cell? ⟨g, 6, none⟩ = some wkv from (bkc (bka HG3.out _) 6).trans rfl)
 have b0a := (show (W3.alloc (.cells #[.int .i64 p, .int .i64 q, .int .u64 set] 41)).cell? ⟨bx, 0, none⟩ = some (.int .i64 p) from (bkc (bka HX3.out _) 0).trans rfl)
 have b1a := (show (W3.alloc (.cells #[.int .i64 p, .int .i64 q, .int .u64 set] 41)).cell? ⟨bx, 1, none⟩ = some (.int .i64 q) from (bkc (bka HX3.out _) 1).trans rfl)
 have b2a := (show (W3.alloc (.cells #[.int .i64 p, .int .i64 q, .int .u64 set] 41)).cell? ⟨bx, 2, none⟩ = some (.int .u64 set) from (bkc (bka HX3.out _) 2).trans rfl)
 clear hown hreps k0 hne
 go_region_law ((refine step_append_lies _ (by rfl) _ _ _ (by rfl) B 41 i79 _ 3 24 Tryz.underlying23 hi79 hz790 hz791 hz792 rfl (by omega) wkv wk.length inner (by rfl) (by exact HOWN.out) ⟨W3.heap.size, 0, none⟩ 1 1 [.int .i64 p, .int .i64 q, .int .u64 set] (by rfl) (by rfl) (World.news_of_block (cs := #[.int .i64 p, .int .i64 q, .int .u64 set]) (t := 41) (fr := (0, 0)) (heap_alloc_new W3 _)) (by simp [Value.oneCell']) (by omega) (by omega) (by omega) (by exact hBW) _ (by exact hHS.out) ?_; intro gg cap2 w4 hown4 hgrow hat hlt; have HG4 := As0.mk (blk_grown (bkd (bka HG3.out _)) hgrow HNE.out); have HX4 := As0.mk (blk_grown (bkd (bka HX3.out _)) hgrow HNX.out); have HW4 := As0.mk hown4; have HGR := As0.mk hgrow; have HAT := As0.mk hat; have s64 := (show w4.cell? ⟨g, 6, none⟩ = some wkv from (bkc HG4.out 6).trans rfl); have f64 := bkf HG4.out 6; clear hown4 hgrow hat hlt))
 all_goals
  obtain ⟨W5, hW5⟩ : ∃ W5, W5 = w4.setCell ⟨g, 6, none⟩ (.slice (some ⟨gg, 0, none⟩) (wk.length + 1) cap2) := ⟨_, rfl⟩
  have HWX := As0.mk (show Kd.R k41 41 w4 B (fun _ => True) (.slice (some ⟨gg, 0, none⟩) (wk.length + 1) cap2) (wk ++ [⟨p, q, set⟩]) from
   Kd.R_appended (W := (W3.alloc (.cells #[.int .i64 p, .int .i64 q, .int .u64 set] 41)).drew) (okp := fun _ => False) (cs := [.int .i64 p, .int .i64 q, .int .u64 set]) (fun _ _ => trivial) HREP.out (k41_mkM _ B (fun _ => False) ⟨p, q, set⟩) (fun _ h => h.elim) (fun _ _ => trivial) HW4.out HGR.out (by rcases HAT.out with h | h; (· exact .inl h.symm); (· exact .inr ⟨gg, rfl, by rw [hHS.out]; omega⟩)))
  have HNG := As0.mk (Kd.R_ne HWX.out HG4.out (by decide))
  have HG5 := As0.mk (show W5.heap[g]? = some (.cells (confCells a0 a1 a2 a3 a4 (.slice An nm.length cn) (.slice (some ⟨gg, 0, none⟩) (wk.length + 1) cap2)) 25 (0, 0)) by rw [hW5]; exact (blk_set HG4.out 6 _).trans rfl)
  have hgx : bx ≠ g := fun e => by have z := HX4.out; rw [e, HG4.out] at z; injection z with z; injection z with _ z; exact absurd z (by decide)
  have HX5 := As0.mk (show W5.heap[bx]? = some (.cells #[.int .i64 p, .int .i64 q, .int .u64 set] 41 (0, 0)) by rw [hW5]; exact blk_far HX4.out hgx _)
  have HW5 := As0.mk (show Kd.R k41 41 W5 B (fun _ => True) (.slice (some ⟨gg, 0, none⟩) (wk.length + 1) cap2) (wk ++ [⟨p, q, set⟩]) by
   rw [hW5]
   exact Kd.R_mono (Kd.R_far (Kd.R_tight rfl HWX.out) (p := ⟨g, 6, none⟩) (fun k hk e => HNG.out (by rw [← hk]; exact congrArg some e.symm)) _) (fun _ _ => trivial))
  have HK5 := As0.mk (show Kept w W5 (fun k => k = g ∨ some k = wkv.ownBlock) by
   rw [hW5]
   exact Kept.setCell (Kept.of_grown HGR.out (Kept.drew (Kept.alloc (Kept.of_below HB3.out _) _)) (fun k hk => .inl (.inr hk.symm))) (.inl (.inl rfl)) _)
  have HBB := As0.mk (show Below B w W5 by
   rw [hW5]
   exact ((((below_drew (bla HB3.out _)).mono hBw).grown HGR.out hBW (fun k hk => Kd.R_base HWK.out k hk)).setCell hgB _))
  rw [← hW5]
  have HL5 := As0.mk (HLD.out.below HB3.out)
  have HS5 := As0.mk (show ∀ W, Below W5.heap.size W5 W → Laid W from fun W hb => (HLD.out.belowB hB9 HBB.out).below hb)
  have HCW := As0.mk (show ∀ W, Below W5.heap.size W5 W → Calls Tryz.prog 23 #[.agg #[.int .i64 a0, .int .i64 a1, .int .i64 a2, .int .i64 a3, .int .i64 a4, .slice An nm.length cn, .slice (some ⟨gg, 0, none⟩) (wk.length + 1) cap2], .agg #[.int .i64 p, .int .i64 q, .int .u64 set]] W (fun e w' => e = .returned (.string xl) ∧ Below W.heap.size W w') from fun W hb => by
   have z := Kd.R_reads' (Kd.R_below HW5.out hb)
   have z2 := conf_workerLine.calls a0 a1 a2 a3 a4 An cn nm (some ⟨gg, 0, none⟩) cap2 (wk ++ [⟨p, q, set⟩]) p q set xl W (Kd.C_below (HRN.out W5 HK5.out) hb) hcn z.2.2 (by rw [← z.1]; exact z.2.1) (HS5.out W hb) HWL.out
   rw [← z.1] at z2
   exact z2)
  have HCL := As0.mk (show ∀ W, Below W5.heap.size W5 W → Calls Tryz.prog 21 #[.slice (some ⟨b, 0, none⟩) (n + 3) (n + 3)] W (fun e w' => e = .returned (.string yl) ∧ Below W.heap.size W w') from fun W hb => by
   have hn1 := HN1.out
   have z := Words.part (A := some ⟨b, 0, none⟩) 0 (n + 3) (by omega) (fun _ => rfl) (Words.cell_below hb (HWS.out W5 HK5.out)) HM.out
   rw [List.drop_zero, List.take_of_length_le (by omega)] at z
   have z2 := conf_line.calls (some ⟨b, 0, none⟩) (n + 3) ws yl W (by rw [hn1]; exact z) (by omega) HLN.out
   rw [hn1] at z2
   exact z2)
  have c0 := (show W5.cell? ⟨g, 0, none⟩ = some (.int .i64 a0) from (bkc HG5.out 0).trans rfl)
  have c1 := (show W5.cell? ⟨g, 1, none⟩ = some (.int .i64 a1) from (bkc HG5.out 1).trans rfl)
  have c2 := (show W5.cell? ⟨g, 2, none⟩ = some (.int .i64 a2) from (bkc HG5.out 2).trans rfl)
  have c3 := (show W5.cell? ⟨g, 3, none⟩ = some (.int .i64 a3) from (bkc HG5.out 3).trans rfl)
  have c4 := (show W5.cell? ⟨g, 4, none⟩ = some (.int .i64 a4) from (bkc HG5.out 4).trans rfl)
  have c5 := (show W5.cell? ⟨g, 5, none⟩ = some (.slice An nm.length cn) from (bkc HG5.out 5).trans rfl)
  have c6 := (show W5.cell? ⟨g, 6, none⟩ = some (.slice (some ⟨gg, 0, none⟩) (wk.length + 1) cap2) from (bkc HG5.out 6).trans rfl)
  have e0 := (show W5.cell? ⟨bx, 0, none⟩ = some (.int .i64 p) from (bkc HX5.out 0).trans rfl)
  have e1 := (show W5.cell? ⟨bx, 1, none⟩ = some (.int .i64 q) from (bkc HX5.out 1).trans rfl)
  have e2 := (show W5.cell? ⟨bx, 2, none⟩ = some (.int .u64 set) from (bkc HX5.out 2).trans rfl)
  clear hW5 s64 f64 s6 f6 b0 b1 b2 s6a b0a b1a b2a hgx hl79 hl63 hBW
  go_wp2
  go_region_held3 (fun w' => w'.cell? ⟨g, 0, none⟩ = some (.int .i64 a0) ∧ w'.cell? ⟨g, 1, none⟩ = some (.int .i64 a1) ∧ w'.cell? ⟨g, 2, none⟩ = some (.int .i64 a2) ∧ w'.cell? ⟨g, 3, none⟩ = some (.int .i64 a3) ∧ w'.cell? ⟨g, 4, none⟩ = some (.int .i64 a4) ∧ w'.cell? ⟨g, 5, none⟩ = some (.slice An nm.length cn) ∧ w'.cell? ⟨g, 6, none⟩ = some (.slice (some ⟨gg, 0, none⟩) (wk.length + 1) cap2) ∧ w'.cell? ⟨bx, 0, none⟩ = some (.int .i64 p) ∧ w'.cell? ⟨bx, 1, none⟩ = some (.int .i64 q) ∧ w'.cell? ⟨bx, 2, none⟩ = some (.int .u64 set)) (first | go_keep | (exact K6.out) | (exact K7.out)) (first | (go_at_call 23; refine (HCW.out _ (by exact below_drew (Below.refl _ _))).mono ?_; rintro e w6 ⟨rfl, hb6⟩; have HB6 := As0.mk (below_then (below_drew (Below.refl W5.heap.size W5)) (Nat.le_refl _) hb6); have K6 := As0.mk (conf_worker.keeps HB6.out ⟨c0, c1, c2, c3, c4, c5, c6, e0, e1, e2⟩); clear hb6) | (go_at_call 21; refine (HCL.out _ (by exact HB6.out)).mono ?_; rintro e w7 ⟨rfl, hb7⟩; have HB7 := As0.mk (below_then HB6.out HB6.out.size hb7); have K7 := As0.mk (conf_worker.keeps HB7.out ⟨c0, c1, c2, c3, c4, c5, c6, e0, e1, e2⟩); clear hb7))
  go_wp2
  go_ret
  refine ⟨rfl, ⟨_, Kd.R_below HW5.out HB7.out, blk_below HG5.out HB7.out, ?_⟩, Kept.below HK5.out HB7.out, below_then HBB.out (Nat.le_trans hBw HBB.out.size) HB7.out⟩
  rcases HAT.out with h | h
  ·
   exact .inr (.inl h.symm)
  ·
   exact .inr (.inr ⟨gg, rfl, by rw [h]; exact Nat.le_succ_of_le HB3.out.size⟩)
theorem conf_numbers.len_ok : ∀ (k : Nat) (x1 : Int) (x6 : List Int) (x11 : List ByteArray) (x12 x13 : Int) (l : List Int), conf_numbers.l0 k x1 x6 x11 x12 x13 = some (l, true) → (l.length : Int) = x1
 | 0, _, _, _, _, _, _, h => by simp [conf_numbers.l0] at h
 | k + 1, x1, x6, x11, x12, x13, l, h => by
  simp only [conf_numbers.l0] at h
  split at h
  ·
   split at h
   ·
    split at h
    ·
     obtain ⟨d, _, h⟩ := Option.bind_eq_some_iff.mp h
     split at h
     ·
      split at h
      ·
       exact conf_numbers.len_ok k _ _ _ _ _ _ h
      ·
       cases h
     ·
      simp at h
    ·
     cases h
   ·
    cases h
  ·
   simp only [Option.some.injEq, Prod.mk.injEq, beq_iff_eq] at h
   rw [← h.1]; exact h.2
theorem conf_worker.calls (k : Nat) (g : Nat) (a0 a1 a2 a3 a4 : Int) (An : Option Addr) (cn : Nat) (nm : List ByteArray) (wkv : Value) (wk : List Wk) (b : Nat) (ws : List ByteArray) (B : Nat) (w : World) (yes : Bool) (wk' : List Wk) (hL : Laid w) (hl : 1 ≤ ws.length) (hm : ws.length ≤ 9223372036854775807) (hBw : B ≤ w.heap.size)
  (hg : w.heap[g]? = some (.cells (confCells a0 a1 a2 a3 a4 (.slice An nm.length cn) wkv) 25 (0, 0))) (hgB : B ≤ g) (hck : ∀ W', Kept w W' (fun k => k = g ∨ some k = wkv.ownBlock) → ∀ j, j < ws.length → W'.cell? ⟨b, j, none⟩ = some (.string (ws.getD j ByteArray.empty))) (hB9 : 9 ≤ B)
  (hrn : ∀ W', Kept w W' (fun k => k = g ∨ some k = wkv.ownBlock) → Kd.C Kd.string W' An nm.length nm) (hcn : nm.length ≤ cn)
  (hwk : Kd.R k41 41 w B (fun _ => True) wkv wk) (hlen : (wk.length + 1) * 24 ≤ 140737488355328)
  (h : conf_worker.f k a0 a1 a2 a3 a4 nm wk ws = some (yes, wk')) :
  Calls Tryz.prog 46 #[.pointer (some ⟨g, 0, none⟩), .slice (some ⟨b, 0, none⟩) ws.length ws.length] w (WorkerDone g a0 a1 a2 a3 a4 (.slice An nm.length cn) wkv wk' yes B w) := by
 have hc := hck w (Kept.refl _ _)
 unfold conf_worker.f at h
 by_cases hh : ((ws.getD 0 ByteArray.empty).toList == [119, 111, 114, 107, 101, 114]) = true ∧ 3 ≤ ws.length
 ·
  rw [if_pos hh] at h
  obtain ⟨⟨l, ok⟩, hn, h⟩ := Option.bind_eq_some_iff.mp h
  obtain ⟨⟨set, i2, e2⟩, hs, h⟩ := Option.bind_eq_some_iff.mp h
  by_cases h2 : ok = true ∧ e2 = 0
  ·
   rw [if_pos h2] at h
   obtain ⟨rfl, rfl⟩ := h2
   obtain ⟨xl, hw, h⟩ := Option.bind_eq_some_iff.mp h
   obtain ⟨yl, hline, h⟩ := Option.bind_eq_some_iff.mp h
   have hl2 : (l.length : Int) = 2 := conf_numbers.len_ok _ _ _ _ _ _ _ hn
   obtain ⟨p, q, rfl⟩ : ∃ p q, l = [p, q] := by
    match l, hl2 with
    | [p, q], _ => exact ⟨p, q, rfl⟩
    | [], h => simp at h
    | [_], h => simp at h
    | _ :: _ :: _ :: _, h => simp at h; omega
   simp only [Option.some.injEq, Prod.mk.injEq] at h
   obtain ⟨rfl, rfl⟩ := h
   exact conf_worker.yes k g a0 a1 a2 a3 a4 An cn nm wkv wk b ws B w hL hh.2 hm hBw hg hgB hc hrn hcn hck hB9 hwk hlen hh.1 p q set i2 xl yl hn hs hw hline
  ·
   rw [if_neg h2] at h
   simp only [Option.some.injEq, Prod.mk.injEq] at h
   obtain ⟨rfl, rfl⟩ := h
   exact conf_worker.more k g a0 a1 a2 a3 a4 An cn nm wkv wk b ws B w hL hh.2 hm hBw hg hgB hc hrn hcn hwk hlen hh.1 l ok set i2 e2 hn hs h2
 ·
  rw [if_neg hh] at h
  simp only [Option.some.injEq, Prod.mk.injEq] at h
  obtain ⟨rfl, rfl⟩ := h
  exact conf_worker.no1 g a0 a1 a2 a3 a4 _ wkv wk b ws B w hl hBw hg hc hwk hh
end Go.Proofs.YtmppkcdphgelcaaGreatDoor.PConf
