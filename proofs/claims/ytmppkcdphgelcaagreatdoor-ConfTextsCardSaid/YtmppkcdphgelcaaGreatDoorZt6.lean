/- A part of the proof: texts of this seat, joined. -/
import Derived.IntWalk
import Derived.Lib.ItoaNum
import Derived.Test.YtmppkcdphgelcaaGreatDoorZt1
import Derived.Test.YtmppkcdphgelcaaGreatDoorZt2
import Derived.Test.YtmppkcdphgelcaaGreatDoorZt3
import Derived.Test.YtmppkcdphgelcaaGreatDoorZt4
import Derived.Test.YtmppkcdphgelcaaGreatDoorZt5
namespace Go.Proofs.YtmppkcdphgelcaaGreatDoor.PConf
open Go.RowKit Go.Proofs.YtmppkcdphgelcaaGreatDoor.W.PrintWords Go.Proofs.YtmppkcdphgelcaaGreatDoor.W.PrintLast Go.Proofs.YtmppkcdphgelcaaGreatDoor.W.PrintMore
attribute [local go_sem] max2_int min2_int max_two min_two max_three min_three max_four min_four   -- for this text's walks alone
set_option linter.unusedVariables false
set_option linter.unusedSimpArgs false
mutual
def sr14_Check.j0 : Nat → Bool → Int → Int → Int → Int → Int → List ByteArray → List (S41) → Option (Int)
 | 0, _, _, _, _, _, _, _, _ => none
 | k + 1, x54, x198000, x198001, x198002, x198003, x198004, x198005, x198006 => if x54 = true then (some 1) else ((sr05_Check.f k x198005).bind fun t198 => (if t198 = 0 then (if (x198006.length : Int) < 1 then (sr14_Check.j1 k true x198000 x198001 x198002 x198003 x198004 x198005 x198006) else (sr14_Check.j1 k (decide ((x198006.length : Int) > 64)) x198000 x198001 x198002 x198003 x198004 x198005 x198006)) else (some t198)))
def sr14_Check.j1 : Nat → Bool → Int → Int → Int → Int → Int → List ByteArray → List (S41) → Option (Int)
 | 0, _, _, _, _, _, _, _, _ => none
 | k + 1, x70, x198000, x198001, x198002, x198003, x198004, x198005, x198006 => if x70 = true then (some 1) else (sr14_Check.l0 k 0 x198000 x198001 x198002 x198003 x198004 x198005 x198006)
def sr14_Check.l0 : Nat → Int → Int → Int → Int → Int → Int → List ByteArray → List (S41) → Option (Int)
 | 0, _, _, _, _, _, _, _, _ => none
 | k + 1, x4, x198000, x198001, x198002, x198003, x198004, x198005, x198006 => if x4 < (x198006.length : Int) then (if 0 ≤ x4 then (if ((rd_T41 x198006 x4).f0) < 1 then (sr14_Check.j3 k x4 true x198000 x198001 x198002 x198003 x198004 x198005 x198006 ((rd_T41 x198006 x4).f0) ((rd_T41 x198006 x4).f1) ((rd_T41 x198006 x4).f2)) else (if ((rd_T41 x198006 x4).f0) > 255 then (sr14_Check.j3 k x4 true x198000 x198001 x198002 x198003 x198004 x198005 x198006 ((rd_T41 x198006 x4).f0) ((rd_T41 x198006 x4).f1) ((rd_T41 x198006 x4).f2)) else (if ((rd_T41 x198006 x4).f1) < 1 then (sr14_Check.j3 k x4 true x198000 x198001 x198002 x198003 x198004 x198005 x198006 ((rd_T41 x198006 x4).f0) ((rd_T41 x198006 x4).f1) ((rd_T41 x198006 x4).f2)) else (sr14_Check.j3 k x4 (decide (((rd_T41 x198006 x4).f1) > 64)) x198000 x198001 x198002 x198003 x198004 x198005 x198006 ((rd_T41 x198006 x4).f0) ((rd_T41 x198006 x4).f1) ((rd_T41 x198006 x4).f2))))) else (none)) else (some 0)
def sr14_Check.j3 : Nat → Int → Bool → Int → Int → Int → Int → Int → List ByteArray → List (S41) → Int → Int → Int → Option (Int)
 | 0, _, _, _, _, _, _, _, _, _, _, _, _ => none
 | k + 1, x4, x100, x198000, x198001, x198002, x198003, x198004, x198005, x198006, x201000, x201001, x201002 => if x100 = true then (some 1) else (sr14_Check.l1 k x4 (x198005.length : Int) x198000 x198001 x198002 x198003 x198004 x198005 x198006 x201000 x201001 x201002)
def sr14_Check.l1 : Nat → Int → Int → Int → Int → Int → Int → Int → List ByteArray → List (S41) → Int → Int → Int → Option (Int)
 | 0, _, _, _, _, _, _, _, _, _, _, _, _ => none
 | k + 1, x4, x6, x198000, x198001, x198002, x198003, x198004, x198005, x198006, x201000, x201001, x201002 => if x6 < 64 then ((sr05_Has.f k x201002 x6).bind fun t201 => (if t201 = true then (some 1) else (sr14_Check.l1 k x4 (wrap64 (x6 + 1)) x198000 x198001 x198002 x198003 x198004 x198005 x198006 x201000 x201001 x201002))) else (sr14_Check.l0 k (wrap64 (x4 + 1)) x198000 x198001 x198002 x198003 x198004 x198005 x198006)
end
def sr14_Check.f (k : Nat) (a0_0 : Int) (a0_1 : Int) (a0_2 : Int) (a0_3 : Int) (a0_4 : Int) (l0_5 : List ByteArray) (l0_6 : List (S41)) : Option (Int) := if a0_0 < 1 then (sr14_Check.j0 k true a0_0 a0_1 a0_2 a0_3 a0_4 l0_5 l0_6) else (if a0_0 > 8 then (sr14_Check.j0 k true a0_0 a0_1 a0_2 a0_3 a0_4 l0_5 l0_6) else (if a0_1 < 1 then (sr14_Check.j0 k true a0_0 a0_1 a0_2 a0_3 a0_4 l0_5 l0_6) else (if a0_1 > 1000 then (sr14_Check.j0 k true a0_0 a0_1 a0_2 a0_3 a0_4 l0_5 l0_6) else (if a0_2 < 1 then (sr14_Check.j0 k true a0_0 a0_1 a0_2 a0_3 a0_4 l0_5 l0_6) else (if a0_2 > 1000 then (sr14_Check.j0 k true a0_0 a0_1 a0_2 a0_3 a0_4 l0_5 l0_6) else (if a0_3 < 0 then (sr14_Check.j0 k true a0_0 a0_1 a0_2 a0_3 a0_4 l0_5 l0_6) else (if a0_3 > 65536 then (sr14_Check.j0 k true a0_0 a0_1 a0_2 a0_3 a0_4 l0_5 l0_6) else (if a0_4 < 1 then (sr14_Check.j0 k true a0_0 a0_1 a0_2 a0_3 a0_4 l0_5 l0_6) else (sr14_Check.j0 k (decide (a0_4 > 16)) a0_0 a0_1 a0_2 a0_3 a0_4 l0_5 l0_6)))))))))
set_option maxHeartbeats 8000000 in
set_option maxRecDepth 100000 in
theorem sr14_Check.calls (k : Nat) (a0_0 : Int) (a0_1 : Int) (a0_2 : Int) (a0_3 : Int) (a0_4 : Int) (A0_5 : Option Addr) (c0_5 : Nat) (l0_5 : List ByteArray) (A0_6 : Option Addr) (c0_6 : Nat) (l0_6 : List (S41)) (r : Int) (w : World) (hr0_5 : Kd.C Kd.string w A0_5 l0_5.length l0_5) (hc0_5 : l0_5.length ≤ c0_5) (hr0_6 : Kd.C k41 w A0_6 l0_6.length l0_6) (hc0_6 : l0_6.length ≤ c0_6) (h : sr14_Check.f k a0_0 a0_1 a0_2 a0_3 a0_4 l0_5 l0_6 = some r) :
  Calls Tryz.prog 8 #[.agg #[.int .i64 a0_0, .int .i64 a0_1, .int .i64 a0_2, .int .i64 a0_3, .int .i64 a0_4, .slice A0_5 l0_5.length c0_5, .slice A0_6 l0_6.length c0_6]] w fun e w' => e = .returned (.int .i64 r) ∧ Below w.heap.size w w' := by
 have hu25 := Tryz.underlying25
 have hu41 := Tryz.underlying41
 have HR0_5 := As0.mk hr0_5
 have HC0_5 := As0.mk hc0_5
 clear hr0_5 hc0_5
 have HR0_6 := As0.mk hr0_6
 have HC0_6 := As0.mk hc0_6
 clear hr0_6 hc0_6
 have HB := As0.mk (Below.refl w.heap.size w)
 have H : (if a0_0 < 1 then (sr14_Check.j0 k true a0_0 a0_1 a0_2 a0_3 a0_4 l0_5 l0_6) else (if a0_0 > 8 then (sr14_Check.j0 k true a0_0 a0_1 a0_2 a0_3 a0_4 l0_5 l0_6) else (if a0_1 < 1 then (sr14_Check.j0 k true a0_0 a0_1 a0_2 a0_3 a0_4 l0_5 l0_6) else (if a0_1 > 1000 then (sr14_Check.j0 k true a0_0 a0_1 a0_2 a0_3 a0_4 l0_5 l0_6) else (if a0_2 < 1 then (sr14_Check.j0 k true a0_0 a0_1 a0_2 a0_3 a0_4 l0_5 l0_6) else (if a0_2 > 1000 then (sr14_Check.j0 k true a0_0 a0_1 a0_2 a0_3 a0_4 l0_5 l0_6) else (if a0_3 < 0 then (sr14_Check.j0 k true a0_0 a0_1 a0_2 a0_3 a0_4 l0_5 l0_6) else (if a0_3 > 65536 then (sr14_Check.j0 k true a0_0 a0_1 a0_2 a0_3 a0_4 l0_5 l0_6) else (if a0_4 < 1 then (sr14_Check.j0 k true a0_0 a0_1 a0_2 a0_3 a0_4 l0_5 l0_6) else (sr14_Check.j0 k (decide (a0_4 > 16)) a0_0 a0_1 a0_2 a0_3 a0_4 l0_5 l0_6)))))))))) = some r := h
 clear h
 have HC2 := As0.mk H
 clear H
 go_enter Tryz.func8, Tryz.ntmps8
 go_upto_region 1 with (first | ((with_reducible refine gate_dst (N := 1) rfl ?_); (try (refine gate_guard (by rfl) ?_; dsimp only)); refine box_event ?hg (N := 1) ?hd (cs := #[.int .i64 a0_0, .int .i64 a0_1, .int .i64 a0_2, .int .i64 a0_3, .int .i64 a0_4, .slice A0_5 l0_5.length c0_5, .slice A0_6 l0_6.length c0_6]) (t := 25) ?hr ?_; (case hd => rfl); (case hg => rfl); (case hr => first | (go_simp; done) | (go_simp; rfl)); intro gb197 hg w3 hbox hb; have n0_ := As0.mk (below_step (by repeat (first | (with_reducible first | exact HB.out | apply bla | apply bln | apply bld) | exact HB.out)) hb); have n1_ := As0.mk (hbox); have n2_ := As0.mk ((by rw [hg]; exact (below_size (by repeat (first | (with_reducible first | exact HB.out | apply bla | apply bln | apply bld) | exact HB.out))) : w.heap.size ≤ gb197)); have n3_ := As0.mk ((by rw [hg]; exact (below_size (by repeat (first | (with_reducible first | exact HB.out | apply bla | apply bln | apply bld) | exact HB.out))) : w.heap.size ≤ gb197)); clear HB; have HB := n0_; have BK197 := n1_; have GW197 := n2_; have GE197 := n3_; clear n0_ n1_ n2_ n3_; clear hb hbox hg))
 (try simp only [Act.put, List.setIfInBounds_toArray, List.set_cons_zero, List.set_cons_succ])
 go_cut [54] (fun v54 wc => ∃ (kq : Nat) (x54_1 : Bool), v54 = .bool x54_1 ∧ As0 (sr14_Check.j0 kq x54_1 a0_0 a0_1 a0_2 a0_3 a0_4 l0_5 l0_6 = some r) ∧ As0 (kq ≤ k) ∧ As0 (wc.heap[gb197]? = some (.cells #[.int .i64 a0_0, .int .i64 a0_1, .int .i64 a0_2, .int .i64 a0_3, .int .i64 a0_4, (.slice A0_5 l0_5.length c0_5), (.slice A0_6 l0_6.length c0_6)] 25 (0, 0))) ∧ As0 (Below w.heap.size w wc))
 case first =>
  have H := HC2.out
  clear HC2
  by_cases c4 : a0_0 < 1
  ·
   rw [if_pos c4] at H
   have c4b0 : decide (a0_0 < 1) = true := decide_eq_true c4
   clear c4
   (first | rw [c4b0] | (simp only [i64_w, i32_w]; rw [c4b0]) | skip)
   have H' := As0.mk H
   clear H
   have hcz5_0 : w3.cell? ⟨gb197, 0, none⟩ = some (.int .i64 a0_0) := (bkc BK197.out 0).trans rfl
   have hcz5_1 : w3.cell? ⟨gb197, 1, none⟩ = some (.int .i64 a0_1) := (bkc BK197.out 1).trans rfl
   have hcz5_2 : w3.cell? ⟨gb197, 2, none⟩ = some (.int .i64 a0_2) := (bkc BK197.out 2).trans rfl
   have hcz5_3 : w3.cell? ⟨gb197, 3, none⟩ = some (.int .i64 a0_3) := (bkc BK197.out 3).trans rfl
   have hcz5_4 : w3.cell? ⟨gb197, 4, none⟩ = some (.int .i64 a0_4) := (bkc BK197.out 4).trans rfl
   have hcz5_5 : w3.cell? ⟨gb197, 5, none⟩ = some (.slice A0_5 l0_5.length c0_5) := (bkc BK197.out 5).trans rfl
   have hcz5_6 : w3.cell? ⟨gb197, 6, none⟩ = some (.slice A0_6 l0_6.length c0_6) := (bkc BK197.out 6).trans rfl
   have hfz5_0 := bkf BK197.out 0
   have hfz5_1 := bkf BK197.out 1
   have hfz5_2 := bkf BK197.out 2
   have hfz5_3 := bkf BK197.out 3
   have hfz5_4 := bkf BK197.out 4
   have hfz5_5 := bkf BK197.out 5
   have hfz5_6 := bkf BK197.out 6
   go_wp2
   go_meet
   case rel => exact ⟨_, (true), (by first | rfl | (simp; done) | (simp [*]; done)), H', ⟨by first | omega | exact Nat.le_refl _⟩, ⟨by (with_reducible repeat (first | refine bkn ?_ _ | refine bkd ?_ | refine bka ?_ _)); exact BK197.out⟩, ⟨by repeat (first | (with_reducible first | exact HB.out | apply bla | apply bln | apply bld | refine bls ?_ GE197.out) | exact HB.out)⟩⟩
  ·
   rw [if_neg c4] at H
   have c4b0 : decide (a0_0 < 1) = false := decide_eq_false c4
   clear c4
   (first | rw [c4b0] | (simp only [i64_w, i32_w]; rw [c4b0]) | skip)
   by_cases c6 : a0_0 > 8
   ·
    rw [if_pos c6] at H
    have c6b0 : decide (8 < a0_0) = true := decide_eq_true c6
    clear c6
    have H' := As0.mk H
    clear H
    have hcz7_0 : w3.cell? ⟨gb197, 0, none⟩ = some (.int .i64 a0_0) := (bkc BK197.out 0).trans rfl
    have hcz7_1 : w3.cell? ⟨gb197, 1, none⟩ = some (.int .i64 a0_1) := (bkc BK197.out 1).trans rfl
    have hcz7_2 : w3.cell? ⟨gb197, 2, none⟩ = some (.int .i64 a0_2) := (bkc BK197.out 2).trans rfl
    have hcz7_3 : w3.cell? ⟨gb197, 3, none⟩ = some (.int .i64 a0_3) := (bkc BK197.out 3).trans rfl
    have hcz7_4 : w3.cell? ⟨gb197, 4, none⟩ = some (.int .i64 a0_4) := (bkc BK197.out 4).trans rfl
    have hcz7_5 : w3.cell? ⟨gb197, 5, none⟩ = some (.slice A0_5 l0_5.length c0_5) := (bkc BK197.out 5).trans rfl
    have hcz7_6 : w3.cell? ⟨gb197, 6, none⟩ = some (.slice A0_6 l0_6.length c0_6) := (bkc BK197.out 6).trans rfl
    have hfz7_0 := bkf BK197.out 0
    have hfz7_1 := bkf BK197.out 1
    have hfz7_2 := bkf BK197.out 2
    have hfz7_3 := bkf BK197.out 3
    have hfz7_4 := bkf BK197.out 4
    have hfz7_5 := bkf BK197.out 5
    have hfz7_6 := bkf BK197.out 6
    go_wp2
    go_meet
    case rel => exact ⟨_, (true), (by first | rfl | (simp; done) | (simp [*]; done)), H', ⟨by first | omega | exact Nat.le_refl _⟩, ⟨by (with_reducible repeat (first | refine bkn ?_ _ | refine bkd ?_ | refine bka ?_ _)); exact BK197.out⟩, ⟨by repeat (first | (with_reducible first | exact HB.out | apply bla | apply bln | apply bld | refine bls ?_ GE197.out) | exact HB.out)⟩⟩
   ·
    rw [if_neg c6] at H
    have c6b0 : decide (8 < a0_0) = false := decide_eq_false c6
    clear c6
    by_cases c8 : a0_1 < 1
    ·
     rw [if_pos c8] at H
     have c8b0 : decide (a0_1 < 1) = true := decide_eq_true c8
     clear c8
     have H' := As0.mk H
     clear H
     have hcz9_0 : w3.cell? ⟨gb197, 0, none⟩ = some (.int .i64 a0_0) := (bkc BK197.out 0).trans rfl
     have hcz9_1 : w3.cell? ⟨gb197, 1, none⟩ = some (.int .i64 a0_1) := (bkc BK197.out 1).trans rfl
     have hcz9_2 : w3.cell? ⟨gb197, 2, none⟩ = some (.int .i64 a0_2) := (bkc BK197.out 2).trans rfl
     have hcz9_3 : w3.cell? ⟨gb197, 3, none⟩ = some (.int .i64 a0_3) := (bkc BK197.out 3).trans rfl
     have hcz9_4 : w3.cell? ⟨gb197, 4, none⟩ = some (.int .i64 a0_4) := (bkc BK197.out 4).trans rfl
     have hcz9_5 : w3.cell? ⟨gb197, 5, none⟩ = some (.slice A0_5 l0_5.length c0_5) := (bkc BK197.out 5).trans rfl
     have hcz9_6 : w3.cell? ⟨gb197, 6, none⟩ = some (.slice A0_6 l0_6.length c0_6) := (bkc BK197.out 6).trans rfl
     have hfz9_0 := bkf BK197.out 0
     have hfz9_1 := bkf BK197.out 1
     have hfz9_2 := bkf BK197.out 2
     have hfz9_3 := bkf BK197.out 3
     have hfz9_4 := bkf BK197.out 4
     have hfz9_5 := bkf BK197.out 5
     have hfz9_6 := bkf BK197.out 6
     go_wp2
     go_meet
     case rel => exact ⟨_, (true), (by first | rfl | (simp; done) | (simp [*]; done)), H', ⟨by first | omega | exact Nat.le_refl _⟩, ⟨by (with_reducible repeat (first | refine bkn ?_ _ | refine bkd ?_ | refine bka ?_ _)); exact BK197.out⟩, ⟨by repeat (first | (with_reducible first | exact HB.out | apply bla | apply bln | apply bld | refine bls ?_ GE197.out) | exact HB.out)⟩⟩
    ·
     rw [if_neg c8] at H
     have c8b0 : decide (a0_1 < 1) = false := decide_eq_false c8
     clear c8
     by_cases c10 : a0_1 > 1000
     ·
      rw [if_pos c10] at H
      have c10b0 : decide (1000 < a0_1) = true := decide_eq_true c10
      clear c10
      have H' := As0.mk H
      clear H
      have hcz11_0 : w3.cell? ⟨gb197, 0, none⟩ = some (.int .i64 a0_0) := (bkc BK197.out 0).trans rfl
      have hcz11_1 : w3.cell? ⟨gb197, 1, none⟩ = some (.int .i64 a0_1) := (bkc BK197.out 1).trans rfl
      have hcz11_2 : w3.cell? ⟨gb197, 2, none⟩ = some (.int .i64 a0_2) := (bkc BK197.out 2).trans rfl
      have hcz11_3 : w3.cell? ⟨gb197, 3, none⟩ = some (.int .i64 a0_3) := (bkc BK197.out 3).trans rfl
      have hcz11_4 : w3.cell? ⟨gb197, 4, none⟩ = some (.int .i64 a0_4) := (bkc BK197.out 4).trans rfl
      have hcz11_5 : w3.cell? ⟨gb197, 5, none⟩ = some (.slice A0_5 l0_5.length c0_5) := (bkc BK197.out 5).trans rfl
      have hcz11_6 : w3.cell? ⟨gb197, 6, none⟩ = some (.slice A0_6 l0_6.length c0_6) := (bkc BK197.out 6).trans rfl
      have hfz11_0 := bkf BK197.out 0
      have hfz11_1 := bkf BK197.out 1
      have hfz11_2 := bkf BK197.out 2
      have hfz11_3 := bkf BK197.out 3
      have hfz11_4 := bkf BK197.out 4
      have hfz11_5 := bkf BK197.out 5
      have hfz11_6 := bkf BK197.out 6
      go_wp2
      go_meet
      case rel => exact ⟨_, (true), (by first | rfl | (simp; done) | (simp [*]; done)), H', ⟨by first | omega | exact Nat.le_refl _⟩, ⟨by (with_reducible repeat (first | refine bkn ?_ _ | refine bkd ?_ | refine bka ?_ _)); exact BK197.out⟩, ⟨by repeat (first | (with_reducible first | exact HB.out | apply bla | apply bln | apply bld | refine bls ?_ GE197.out) | exact HB.out)⟩⟩
     ·
      rw [if_neg c10] at H
      have c10b0 : decide (1000 < a0_1) = false := decide_eq_false c10
      clear c10
      by_cases c12 : a0_2 < 1
      ·
       rw [if_pos c12] at H
       have c12b0 : decide (a0_2 < 1) = true := decide_eq_true c12
       clear c12
       have H' := As0.mk H
       clear H
       have hcz13_0 : w3.cell? ⟨gb197, 0, none⟩ = some (.int .i64 a0_0) := (bkc BK197.out 0).trans rfl
       have hcz13_1 : w3.cell? ⟨gb197, 1, none⟩ = some (.int .i64 a0_1) := (bkc BK197.out 1).trans rfl
       have hcz13_2 : w3.cell? ⟨gb197, 2, none⟩ = some (.int .i64 a0_2) := (bkc BK197.out 2).trans rfl
       have hcz13_3 : w3.cell? ⟨gb197, 3, none⟩ = some (.int .i64 a0_3) := (bkc BK197.out 3).trans rfl
       have hcz13_4 : w3.cell? ⟨gb197, 4, none⟩ = some (.int .i64 a0_4) := (bkc BK197.out 4).trans rfl
       have hcz13_5 : w3.cell? ⟨gb197, 5, none⟩ = some (.slice A0_5 l0_5.length c0_5) := (bkc BK197.out 5).trans rfl
       have hcz13_6 : w3.cell? ⟨gb197, 6, none⟩ = some (.slice A0_6 l0_6.length c0_6) := (bkc BK197.out 6).trans rfl
       have hfz13_0 := bkf BK197.out 0
       have hfz13_1 := bkf BK197.out 1
       have hfz13_2 := bkf BK197.out 2
       have hfz13_3 := bkf BK197.out 3
       have hfz13_4 := bkf BK197.out 4
       have hfz13_5 := bkf BK197.out 5
       have hfz13_6 := bkf BK197.out 6
       go_wp2
       go_meet
       case rel => exact ⟨_, (true), (by first | rfl | (simp; done) | (simp [*]; done)), H', ⟨by first | omega | exact Nat.le_refl _⟩, ⟨by (with_reducible repeat (first | refine bkn ?_ _ | refine bkd ?_ | refine bka ?_ _)); exact BK197.out⟩, ⟨by repeat (first | (with_reducible first | exact HB.out | apply bla | apply bln | apply bld | refine bls ?_ GE197.out) | exact HB.out)⟩⟩
      ·
       rw [if_neg c12] at H
       have c12b0 : decide (a0_2 < 1) = false := decide_eq_false c12
       clear c12
       by_cases c14 : a0_2 > 1000
       ·
        rw [if_pos c14] at H
        have c14b0 : decide (1000 < a0_2) = true := decide_eq_true c14
        clear c14
        have H' := As0.mk H
        clear H
        have hcz15_0 : w3.cell? ⟨gb197, 0, none⟩ = some (.int .i64 a0_0) := (bkc BK197.out 0).trans rfl
        have hcz15_1 : w3.cell? ⟨gb197, 1, none⟩ = some (.int .i64 a0_1) := (bkc BK197.out 1).trans rfl
        have hcz15_2 : w3.cell? ⟨gb197, 2, none⟩ = some (.int .i64 a0_2) := (bkc BK197.out 2).trans rfl
        have hcz15_3 : w3.cell? ⟨gb197, 3, none⟩ = some (.int .i64 a0_3) := (bkc BK197.out 3).trans rfl
        have hcz15_4 : w3.cell? ⟨gb197, 4, none⟩ = some (.int .i64 a0_4) := (bkc BK197.out 4).trans rfl
        have hcz15_5 : w3.cell? ⟨gb197, 5, none⟩ = some (.slice A0_5 l0_5.length c0_5) := (bkc BK197.out 5).trans rfl
        have hcz15_6 : w3.cell? ⟨gb197, 6, none⟩ = some (.slice A0_6 l0_6.length c0_6) := (bkc BK197.out 6).trans rfl
        have hfz15_0 := bkf BK197.out 0
        have hfz15_1 := bkf BK197.out 1
        have hfz15_2 := bkf BK197.out 2
        have hfz15_3 := bkf BK197.out 3
        have hfz15_4 := bkf BK197.out 4
        have hfz15_5 := bkf BK197.out 5
        have hfz15_6 := bkf BK197.out 6
        go_wp2
        go_meet
        case rel => exact ⟨_, (true), (by first | rfl | (simp; done) | (simp [*]; done)), H', ⟨by first | omega | exact Nat.le_refl _⟩, ⟨by (with_reducible repeat (first | refine bkn ?_ _ | refine bkd ?_ | refine bka ?_ _)); exact BK197.out⟩, ⟨by repeat (first | (with_reducible first | exact HB.out | apply bla | apply bln | apply bld | refine bls ?_ GE197.out) | exact HB.out)⟩⟩
       ·
        rw [if_neg c14] at H
        have c14b0 : decide (1000 < a0_2) = false := decide_eq_false c14
        clear c14
        by_cases c16 : a0_3 < 0
        ·
         rw [if_pos c16] at H
         have c16b0 : decide (a0_3 < 0) = true := decide_eq_true c16
         clear c16
         have H' := As0.mk H
         clear H
         have hcz17_0 : w3.cell? ⟨gb197, 0, none⟩ = some (.int .i64 a0_0) := (bkc BK197.out 0).trans rfl
         have hcz17_1 : w3.cell? ⟨gb197, 1, none⟩ = some (.int .i64 a0_1) := (bkc BK197.out 1).trans rfl
         have hcz17_2 : w3.cell? ⟨gb197, 2, none⟩ = some (.int .i64 a0_2) := (bkc BK197.out 2).trans rfl
         have hcz17_3 : w3.cell? ⟨gb197, 3, none⟩ = some (.int .i64 a0_3) := (bkc BK197.out 3).trans rfl
         have hcz17_4 : w3.cell? ⟨gb197, 4, none⟩ = some (.int .i64 a0_4) := (bkc BK197.out 4).trans rfl
         have hcz17_5 : w3.cell? ⟨gb197, 5, none⟩ = some (.slice A0_5 l0_5.length c0_5) := (bkc BK197.out 5).trans rfl
         have hcz17_6 : w3.cell? ⟨gb197, 6, none⟩ = some (.slice A0_6 l0_6.length c0_6) := (bkc BK197.out 6).trans rfl
         have hfz17_0 := bkf BK197.out 0
         have hfz17_1 := bkf BK197.out 1
         have hfz17_2 := bkf BK197.out 2
         have hfz17_3 := bkf BK197.out 3
         have hfz17_4 := bkf BK197.out 4
         have hfz17_5 := bkf BK197.out 5
         have hfz17_6 := bkf BK197.out 6
         go_wp2
         go_meet
         case rel => exact ⟨_, (true), (by first | rfl | (simp; done) | (simp [*]; done)), H', ⟨by first | omega | exact Nat.le_refl _⟩, ⟨by (with_reducible repeat (first | refine bkn ?_ _ | refine bkd ?_ | refine bka ?_ _)); exact BK197.out⟩, ⟨by repeat (first | (with_reducible first | exact HB.out | apply bla | apply bln | apply bld | refine bls ?_ GE197.out) | exact HB.out)⟩⟩
        ·
         rw [if_neg c16] at H
         have c16b0 : decide (a0_3 < 0) = false := decide_eq_false c16
         clear c16
         by_cases c18 : a0_3 > 65536
         ·
          rw [if_pos c18] at H
          have c18b0 : decide (65536 < a0_3) = true := decide_eq_true c18
          clear c18
          have H' := As0.mk H
          clear H
          have hcz19_0 : w3.cell? ⟨gb197, 0, none⟩ = some (.int .i64 a0_0) := (bkc BK197.out 0).trans rfl
          have hcz19_1 : w3.cell? ⟨gb197, 1, none⟩ = some (.int .i64 a0_1) := (bkc BK197.out 1).trans rfl
          have hcz19_2 : w3.cell? ⟨gb197, 2, none⟩ = some (.int .i64 a0_2) := (bkc BK197.out 2).trans rfl
          have hcz19_3 : w3.cell? ⟨gb197, 3, none⟩ = some (.int .i64 a0_3) := (bkc BK197.out 3).trans rfl
          have hcz19_4 : w3.cell? ⟨gb197, 4, none⟩ = some (.int .i64 a0_4) := (bkc BK197.out 4).trans rfl
          have hcz19_5 : w3.cell? ⟨gb197, 5, none⟩ = some (.slice A0_5 l0_5.length c0_5) := (bkc BK197.out 5).trans rfl
          have hcz19_6 : w3.cell? ⟨gb197, 6, none⟩ = some (.slice A0_6 l0_6.length c0_6) := (bkc BK197.out 6).trans rfl
          have hfz19_0 := bkf BK197.out 0
          have hfz19_1 := bkf BK197.out 1
          have hfz19_2 := bkf BK197.out 2
          have hfz19_3 := bkf BK197.out 3
          have hfz19_4 := bkf BK197.out 4
          have hfz19_5 := bkf BK197.out 5
          have hfz19_6 := bkf BK197.out 6
          go_wp2
          go_meet
          case rel => exact ⟨_, (true), (by first | rfl | (simp; done) | (simp [*]; done)), H', ⟨by first | omega | exact Nat.le_refl _⟩, ⟨by (with_reducible repeat (first | refine bkn ?_ _ | refine bkd ?_ | refine bka ?_ _)); exact BK197.out⟩, ⟨by repeat (first | (with_reducible first | exact HB.out | apply bla | apply bln | apply bld | refine bls ?_ GE197.out) | exact HB.out)⟩⟩
         ·
          rw [if_neg c18] at H
          have c18b0 : decide (65536 < a0_3) = false := decide_eq_false c18
          clear c18
          by_cases c20 : a0_4 < 1
          ·
           rw [if_pos c20] at H
           have c20b0 : decide (a0_4 < 1) = true := decide_eq_true c20
           clear c20
           have H' := As0.mk H
           clear H
           have hcz21_0 : w3.cell? ⟨gb197, 0, none⟩ = some (.int .i64 a0_0) := (bkc BK197.out 0).trans rfl
           have hcz21_1 : w3.cell? ⟨gb197, 1, none⟩ = some (.int .i64 a0_1) := (bkc BK197.out 1).trans rfl
           have hcz21_2 : w3.cell? ⟨gb197, 2, none⟩ = some (.int .i64 a0_2) := (bkc BK197.out 2).trans rfl
           have hcz21_3 : w3.cell? ⟨gb197, 3, none⟩ = some (.int .i64 a0_3) := (bkc BK197.out 3).trans rfl
           have hcz21_4 : w3.cell? ⟨gb197, 4, none⟩ = some (.int .i64 a0_4) := (bkc BK197.out 4).trans rfl
           have hcz21_5 : w3.cell? ⟨gb197, 5, none⟩ = some (.slice A0_5 l0_5.length c0_5) := (bkc BK197.out 5).trans rfl
           have hcz21_6 : w3.cell? ⟨gb197, 6, none⟩ = some (.slice A0_6 l0_6.length c0_6) := (bkc BK197.out 6).trans rfl
           have hfz21_0 := bkf BK197.out 0
           have hfz21_1 := bkf BK197.out 1
           have hfz21_2 := bkf BK197.out 2
           have hfz21_3 := bkf BK197.out 3
           have hfz21_4 := bkf BK197.out 4
           have hfz21_5 := bkf BK197.out 5
           have hfz21_6 := bkf BK197.out 6
           go_wp2
           go_meet
           case rel => exact ⟨_, (true), (by first | rfl | (simp; done) | (simp [*]; done)), H', ⟨by first | omega | exact Nat.le_refl _⟩, ⟨by (with_reducible repeat (first | refine bkn ?_ _ | refine bkd ?_ | refine bka ?_ _)); exact BK197.out⟩, ⟨by repeat (first | (with_reducible first | exact HB.out | apply bla | apply bln | apply bld | refine bls ?_ GE197.out) | exact HB.out)⟩⟩
          ·
           rw [if_neg c20] at H
           have c20b0 : decide (a0_4 < 1) = false := decide_eq_false c20
           clear c20
           have H' := As0.mk H
           clear H
           have hcz22_0 : w3.cell? ⟨gb197, 0, none⟩ = some (.int .i64 a0_0) := (bkc BK197.out 0).trans rfl
           have hcz22_1 : w3.cell? ⟨gb197, 1, none⟩ = some (.int .i64 a0_1) := (bkc BK197.out 1).trans rfl
           have hcz22_2 : w3.cell? ⟨gb197, 2, none⟩ = some (.int .i64 a0_2) := (bkc BK197.out 2).trans rfl
           have hcz22_3 : w3.cell? ⟨gb197, 3, none⟩ = some (.int .i64 a0_3) := (bkc BK197.out 3).trans rfl
           have hcz22_4 : w3.cell? ⟨gb197, 4, none⟩ = some (.int .i64 a0_4) := (bkc BK197.out 4).trans rfl
           have hcz22_5 : w3.cell? ⟨gb197, 5, none⟩ = some (.slice A0_5 l0_5.length c0_5) := (bkc BK197.out 5).trans rfl
           have hcz22_6 : w3.cell? ⟨gb197, 6, none⟩ = some (.slice A0_6 l0_6.length c0_6) := (bkc BK197.out 6).trans rfl
           have hfz22_0 := bkf BK197.out 0
           have hfz22_1 := bkf BK197.out 1
           have hfz22_2 := bkf BK197.out 2
           have hfz22_3 := bkf BK197.out 3
           have hfz22_4 := bkf BK197.out 4
           have hfz22_5 := bkf BK197.out 5
           have hfz22_6 := bkf BK197.out 6
           go_wp2
           go_meet
           case rel => exact ⟨_, (decide (a0_4 > 16)), (by first | rfl | (simp; done) | (simp [*]; done)), H', ⟨by first | omega | exact Nat.le_refl _⟩, ⟨by (with_reducible repeat (first | refine bkn ?_ _ | refine bkd ?_ | refine bka ?_ _)); exact BK197.out⟩, ⟨by repeat (first | (with_reducible first | exact HB.out | apply bla | apply bln | apply bld | refine bls ?_ GE197.out) | exact HB.out)⟩⟩
 case rest =>
  clear HC2
  try clear c1
  try clear c2
  try clear p2
  try clear c4
  try clear c4b0
  try clear c6
  try clear c6b0
  try clear c8
  try clear c8b0
  try clear c10
  try clear c10b0
  try clear c12
  try clear c12b0
  try clear c14
  try clear c14b0
  try clear c16
  try clear c16b0
  try clear c18
  try clear c18b0
  try clear c20
  try clear c20b0
  try clear hcz11_0
  try clear hcz11_1
  try clear hcz11_2
  try clear hcz11_3
  try clear hcz11_4
  try clear hcz11_5
  try clear hcz11_6
  try clear hcz13_0
  try clear hcz13_1
  try clear hcz13_2
  try clear hcz13_3
  try clear hcz13_4
  try clear hcz13_5
  try clear hcz13_6
  try clear hcz15_0
  try clear hcz15_1
  try clear hcz15_2
  try clear hcz15_3
  try clear hcz15_4
  try clear hcz15_5
  try clear hcz15_6
  try clear hcz17_0
  try clear hcz17_1
  try clear hcz17_2
  try clear hcz17_3
  try clear hcz17_4
  try clear hcz17_5
  try clear hcz17_6
  try clear hcz19_0
  try clear hcz19_1
  try clear hcz19_2
  try clear hcz19_3
  try clear hcz19_4
  try clear hcz19_5
  try clear hcz19_6
  try clear hcz21_0
  try clear hcz21_1
  try clear hcz21_2
  try clear hcz21_3
  try clear hcz21_4
  try clear hcz21_5
  try clear hcz21_6
  try clear hcz22_0
  try clear hcz22_1
  try clear hcz22_2
  try clear hcz22_3
  try clear hcz22_4
  try clear hcz22_5
  try clear hcz22_6
  try clear hcz5_0
  try clear hcz5_1
  try clear hcz5_2
  try clear hcz5_3
  try clear hcz5_4
  try clear hcz5_5
  try clear hcz5_6
  try clear hcz7_0
  try clear hcz7_1
  try clear hcz7_2
  try clear hcz7_3
  try clear hcz7_4
  try clear hcz7_5
  try clear hcz7_6
  try clear hcz9_0
  try clear hcz9_1
  try clear hcz9_2
  try clear hcz9_3
  try clear hcz9_4
  try clear hcz9_5
  try clear hcz9_6
  try clear hfz11_0
  try clear hfz11_1
  try clear hfz11_2
  try clear hfz11_3
  try clear hfz11_4
  try clear hfz11_5
  try clear hfz11_6
  try clear hfz13_0
  try clear hfz13_1
  try clear hfz13_2
  try clear hfz13_3
  try clear hfz13_4
  try clear hfz13_5
  try clear hfz13_6
  try clear hfz15_0
  try clear hfz15_1
  try clear hfz15_2
  try clear hfz15_3
  try clear hfz15_4
  try clear hfz15_5
  try clear hfz15_6
  try clear hfz17_0
  try clear hfz17_1
  try clear hfz17_2
  try clear hfz17_3
  try clear hfz17_4
  try clear hfz17_5
  try clear hfz17_6
  try clear hfz19_0
  try clear hfz19_1
  try clear hfz19_2
  try clear hfz19_3
  try clear hfz19_4
  try clear hfz19_5
  try clear hfz19_6
  try clear hfz21_0
  try clear hfz21_1
  try clear hfz21_2
  try clear hfz21_3
  try clear hfz21_4
  try clear hfz21_5
  try clear hfz21_6
  try clear hfz22_0
  try clear hfz22_1
  try clear hfz22_2
  try clear hfz22_3
  try clear hfz22_4
  try clear hfz22_5
  try clear hfz22_6
  try clear hfz5_0
  try clear hfz5_1
  try clear hfz5_2
  try clear hfz5_3
  try clear hfz5_4
  try clear hfz5_5
  try clear hfz5_6
  try clear hfz7_0
  try clear hfz7_1
  try clear hfz7_2
  try clear hfz7_3
  try clear hfz7_4
  try clear hfz7_5
  try clear hfz7_6
  try clear hfz9_0
  try clear hfz9_1
  try clear hfz9_2
  try clear hfz9_3
  try clear hfz9_4
  try clear hfz9_5
  try clear hfz9_6
  obtain ⟨kq, x54_1, rfl, HA, HJ1, BK197, HB⟩ := hcut
  cases kq with
  | zero => exact absurd HA.out (by simp [sr14_Check.j0])
  | succ kj1 =>
   have H := HA.out
   clear HA
   simp only [sr14_Check.j0] at H
   by_cases c23 : x54_1 = true
   ·
    subst c23
    have H1 : (some 1) = some r := by rw [if_pos rfl] at H; exact H
    clear H
    have H := H1
    clear H1
    obtain rfl := Option.some.inj H
    go_wp2
    go_ret
    exact ⟨by first | rfl | (simp [errW_none, errW_some] <;> rfl) | (simp [*, errW_none, errW_some] <;> rfl), by repeat (first | (with_reducible first | exact HB.out | apply bla | apply bln | apply bld | refine bls ?_ GE197.out) | exact HB.out)⟩
   ·
    replace c23 := Bool.eq_false_iff.mpr c23
    subst c23
    have H1 : ((sr05_Check.f kj1 l0_5).bind fun t198 => (if t198 = 0 then (if (l0_6.length : Int) < 1 then (sr14_Check.j1 kj1 true a0_0 a0_1 a0_2 a0_3 a0_4 l0_5 l0_6) else (sr14_Check.j1 kj1 (decide ((l0_6.length : Int) > 64)) a0_0 a0_1 a0_2 a0_3 a0_4 l0_5 l0_6)) else (some t198))) = some r := by rw [if_neg (show ¬ (false = true) by decide)] at H; exact H
    clear H
    have H := H1
    clear H1
    replace H := Option.bind_eq_some_iff.mp H
    obtain ⟨t198, A240, H⟩ := H
    replace H : (if t198 = 0 then (if (l0_6.length : Int) < 1 then (sr14_Check.j1 kj1 true a0_0 a0_1 a0_2 a0_3 a0_4 l0_5 l0_6) else (sr14_Check.j1 kj1 (decide ((l0_6.length : Int) > 64)) a0_0 a0_1 a0_2 a0_3 a0_4 l0_5 l0_6)) else (some t198)) = some r := H
    have A24 := As0.mk A240
    clear A240
    by_cases c25 : t198 = 0
    ·
     rw [if_pos c25] at H
     have c25b0 : (t198 == 0) = true := beq_iff_eq.mpr c25
     have c25b1 : (t198 != 0) = false := bne_eq_false_iff_eq.mpr c25
     clear c25
     have HC26 := As0.mk H
     clear H
     have hcz27_0 : wc.cell? ⟨gb197, 0, none⟩ = some (.int .i64 a0_0) := (bkc BK197.out 0).trans rfl
     have hcz27_1 : wc.cell? ⟨gb197, 1, none⟩ = some (.int .i64 a0_1) := (bkc BK197.out 1).trans rfl
     have hcz27_2 : wc.cell? ⟨gb197, 2, none⟩ = some (.int .i64 a0_2) := (bkc BK197.out 2).trans rfl
     have hcz27_3 : wc.cell? ⟨gb197, 3, none⟩ = some (.int .i64 a0_3) := (bkc BK197.out 3).trans rfl
     have hcz27_4 : wc.cell? ⟨gb197, 4, none⟩ = some (.int .i64 a0_4) := (bkc BK197.out 4).trans rfl
     have hcz27_5 : wc.cell? ⟨gb197, 5, none⟩ = some (.slice A0_5 l0_5.length c0_5) := (bkc BK197.out 5).trans rfl
     have hcz27_6 : wc.cell? ⟨gb197, 6, none⟩ = some (.slice A0_6 l0_6.length c0_6) := (bkc BK197.out 6).trans rfl
     have hfz27_0 := bkf BK197.out 0
     have hfz27_1 := bkf BK197.out 1
     have hfz27_2 := bkf BK197.out 2
     have hfz27_3 := bkf BK197.out 3
     have hfz27_4 := bkf BK197.out 4
     have hfz27_5 := bkf BK197.out 5
     have hfz27_6 := bkf BK197.out 6
     go_upto_region 6 with (first | ((with_reducible refine gate_callee (f := 19) rfl ?_); refine goesL_ (some 57) rfl rfl Tryz.func19 (by kernel_rfl) rfl #[.slice A0_5 l0_5.length c0_5] rfl (by (try simp only [List.map_toArray, List.map_cons, List.map_nil]); first | done | rfl | (simp only [List.length_drop, List.length_take]; rfl)) ?_; (with_reducible refine (sr05_Check.calls kj1 _ _ l0_5 t198 _ ?side1 ?side2 A24.out).mono ?_); (case side1 => repeat (first | exact (Kd.C_below HR0_5.out HB.out) | (with_reducible refine Kd.C_alloc ?_ _) | (with_reducible refine Kd.C_drewN ?_ _) | (with_reducible refine Kd.C_drew ?_))); (case side2 => exact HC0_5.out); rintro e w28 ⟨rfl, hb⟩; refine ⟨_, rfl, ?_⟩; have n0_ := As0.mk (blk_below (g := gb197) (o := .cells #[.int .i64 a0_0, .int .i64 a0_1, .int .i64 a0_2, .int .i64 a0_3, .int .i64 a0_4, .slice A0_5 l0_5.length c0_5, .slice A0_6 l0_6.length c0_6] 25 (0, 0)) (by (with_reducible repeat (first | refine bkn ?_ _ | refine bkd ?_ | refine bka ?_ _)); exact BK197.out) hb); have n1_ := As0.mk (below_step (by repeat (first | (with_reducible first | exact HB.out | apply bla | apply bln | apply bld | refine bls ?_ GE197.out) | exact HB.out)) hb); clear BK197; clear HB; have BK197 := n0_; have HB := n1_; clear n0_ n1_; (try clear hb); (try clear hb2); (try clear hk); (try clear hi)))
     (try simp only [Act.put, List.setIfInBounds_toArray, List.set_cons_zero, List.set_cons_succ])
     go_cut [70] (fun v70 wc => ∃ (kq : Nat) (x70_25 : Bool), v70 = .bool x70_25 ∧ As0 (sr14_Check.j1 kq x70_25 a0_0 a0_1 a0_2 a0_3 a0_4 l0_5 l0_6 = some r) ∧ As0 (kq ≤ kj1) ∧ As0 (wc.heap[gb197]? = some (.cells #[.int .i64 a0_0, .int .i64 a0_1, .int .i64 a0_2, .int .i64 a0_3, .int .i64 a0_4, (.slice A0_5 l0_5.length c0_5), (.slice A0_6 l0_6.length c0_6)] 25 (0, 0))) ∧ As0 (Below w.heap.size w wc))
     case first =>
      have H := HC26.out
      clear HC26
      by_cases c29 : (l0_6.length : Int) < 1
      ·
       rw [if_pos c29] at H
       have c29b0 : decide ((l0_6.length : Int) < 1) = true := decide_eq_true c29
       have c29b1 : decide (l0_6.length < 1) = true := decide_eq_true (by omega)
       clear c29
       (first | rw [c29b0] | (simp only [i64_w, i32_w]; rw [c29b0]) | skip)
       have H' := As0.mk H
       clear H
       have hcz30_0 : w28.cell? ⟨gb197, 0, none⟩ = some (.int .i64 a0_0) := (bkc BK197.out 0).trans rfl
       have hcz30_1 : w28.cell? ⟨gb197, 1, none⟩ = some (.int .i64 a0_1) := (bkc BK197.out 1).trans rfl
       have hcz30_2 : w28.cell? ⟨gb197, 2, none⟩ = some (.int .i64 a0_2) := (bkc BK197.out 2).trans rfl
       have hcz30_3 : w28.cell? ⟨gb197, 3, none⟩ = some (.int .i64 a0_3) := (bkc BK197.out 3).trans rfl
       have hcz30_4 : w28.cell? ⟨gb197, 4, none⟩ = some (.int .i64 a0_4) := (bkc BK197.out 4).trans rfl
       have hcz30_5 : w28.cell? ⟨gb197, 5, none⟩ = some (.slice A0_5 l0_5.length c0_5) := (bkc BK197.out 5).trans rfl
       have hcz30_6 : w28.cell? ⟨gb197, 6, none⟩ = some (.slice A0_6 l0_6.length c0_6) := (bkc BK197.out 6).trans rfl
       have hfz30_0 := bkf BK197.out 0
       have hfz30_1 := bkf BK197.out 1
       have hfz30_2 := bkf BK197.out 2
       have hfz30_3 := bkf BK197.out 3
       have hfz30_4 := bkf BK197.out 4
       have hfz30_5 := bkf BK197.out 5
       have hfz30_6 := bkf BK197.out 6
       go_wp2
       go_meet
       case rel => exact ⟨_, (true), (by first | rfl | (simp; done) | (simp [*]; done)), H', ⟨by have := HJ1.out; first | omega | exact Nat.le_refl _⟩, ⟨by (with_reducible repeat (first | refine bkn ?_ _ | refine bkd ?_ | refine bka ?_ _)); exact BK197.out⟩, ⟨by repeat (first | (with_reducible first | exact HB.out | apply bla | apply bln | apply bld | refine bls ?_ GE197.out) | exact HB.out)⟩⟩
      ·
       rw [if_neg c29] at H
       have c29b0 : decide ((l0_6.length : Int) < 1) = false := decide_eq_false c29
       have c29b1 : decide (l0_6.length < 1) = false := decide_eq_false (by omega)
       clear c29
       (first | rw [c29b0] | (simp only [i64_w, i32_w]; rw [c29b0]) | skip)
       have H' := As0.mk H
       clear H
       have hcz31_0 : w28.cell? ⟨gb197, 0, none⟩ = some (.int .i64 a0_0) := (bkc BK197.out 0).trans rfl
       have hcz31_1 : w28.cell? ⟨gb197, 1, none⟩ = some (.int .i64 a0_1) := (bkc BK197.out 1).trans rfl
       have hcz31_2 : w28.cell? ⟨gb197, 2, none⟩ = some (.int .i64 a0_2) := (bkc BK197.out 2).trans rfl
       have hcz31_3 : w28.cell? ⟨gb197, 3, none⟩ = some (.int .i64 a0_3) := (bkc BK197.out 3).trans rfl
       have hcz31_4 : w28.cell? ⟨gb197, 4, none⟩ = some (.int .i64 a0_4) := (bkc BK197.out 4).trans rfl
       have hcz31_5 : w28.cell? ⟨gb197, 5, none⟩ = some (.slice A0_5 l0_5.length c0_5) := (bkc BK197.out 5).trans rfl
       have hcz31_6 : w28.cell? ⟨gb197, 6, none⟩ = some (.slice A0_6 l0_6.length c0_6) := (bkc BK197.out 6).trans rfl
       have hfz31_0 := bkf BK197.out 0
       have hfz31_1 := bkf BK197.out 1
       have hfz31_2 := bkf BK197.out 2
       have hfz31_3 := bkf BK197.out 3
       have hfz31_4 := bkf BK197.out 4
       have hfz31_5 := bkf BK197.out 5
       have hfz31_6 := bkf BK197.out 6
       go_wp2
       go_meet
       case rel => exact ⟨_, (decide ((l0_6.length : Int) > 64)), (by first | rfl | (simp; done) | (simp [*]; done)), H', ⟨by have := HJ1.out; first | omega | exact Nat.le_refl _⟩, ⟨by (with_reducible repeat (first | refine bkn ?_ _ | refine bkd ?_ | refine bka ?_ _)); exact BK197.out⟩, ⟨by repeat (first | (with_reducible first | exact HB.out | apply bla | apply bln | apply bld | refine bls ?_ GE197.out) | exact HB.out)⟩⟩
     case rest =>
      clear HC26
      try clear c1
      try clear c2
      try clear p2
      try clear c4
      try clear c4b0
      try clear c6
      try clear c6b0
      try clear c8
      try clear c8b0
      try clear c10
      try clear c10b0
      try clear c12
      try clear c12b0
      try clear c14
      try clear c14b0
      try clear c16
      try clear c16b0
      try clear c18
      try clear c18b0
      try clear c19
      try clear c20
      try clear c20b0
      try clear c23
      try clear c25
      try clear c25b0
      try clear c25b1
      try clear c29
      try clear c29b0
      try clear c29b1
      try clear hcz11_0
      try clear hcz11_1
      try clear hcz11_2
      try clear hcz11_3
      try clear hcz11_4
      try clear hcz11_5
      try clear hcz11_6
      try clear hcz13_0
      try clear hcz13_1
      try clear hcz13_2
      try clear hcz13_3
      try clear hcz13_4
      try clear hcz13_5
      try clear hcz13_6
      try clear hcz15_0
      try clear hcz15_1
      try clear hcz15_2
      try clear hcz15_3
      try clear hcz15_4
      try clear hcz15_5
      try clear hcz15_6
      try clear hcz17_0
      try clear hcz17_1
      try clear hcz17_2
      try clear hcz17_3
      try clear hcz17_4
      try clear hcz17_5
      try clear hcz17_6
      try clear hcz19_0
      try clear hcz19_1
      try clear hcz19_2
      try clear hcz19_3
      try clear hcz19_4
      try clear hcz19_5
      try clear hcz19_6
      try clear hcz21_0
      try clear hcz21_1
      try clear hcz21_2
      try clear hcz21_3
      try clear hcz21_4
      try clear hcz21_5
      try clear hcz21_6
      try clear hcz22_0
      try clear hcz22_1
      try clear hcz22_2
      try clear hcz22_3
      try clear hcz22_4
      try clear hcz22_5
      try clear hcz22_6
      try clear hcz27_0
      try clear hcz27_1
      try clear hcz27_2
      try clear hcz27_3
      try clear hcz27_4
      try clear hcz27_5
      try clear hcz27_6
      try clear hcz30_0
      try clear hcz30_1
      try clear hcz30_2
      try clear hcz30_3
      try clear hcz30_4
      try clear hcz30_5
      try clear hcz30_6
      try clear hcz31_0
      try clear hcz31_1
      try clear hcz31_2
      try clear hcz31_3
      try clear hcz31_4
      try clear hcz31_5
      try clear hcz31_6
      try clear hcz5_0
      try clear hcz5_1
      try clear hcz5_2
      try clear hcz5_3
      try clear hcz5_4
      try clear hcz5_5
      try clear hcz5_6
      try clear hcz7_0
      try clear hcz7_1
      try clear hcz7_2
      try clear hcz7_3
      try clear hcz7_4
      try clear hcz7_5
      try clear hcz7_6
      try clear hcz9_0
      try clear hcz9_1
      try clear hcz9_2
      try clear hcz9_3
      try clear hcz9_4
      try clear hcz9_5
      try clear hcz9_6
      try clear hfz11_0
      try clear hfz11_1
      try clear hfz11_2
      try clear hfz11_3
      try clear hfz11_4
      try clear hfz11_5
      try clear hfz11_6
      try clear hfz13_0
      try clear hfz13_1
      try clear hfz13_2
      try clear hfz13_3
      try clear hfz13_4
      try clear hfz13_5
      try clear hfz13_6
      try clear hfz15_0
      try clear hfz15_1
      try clear hfz15_2
      try clear hfz15_3
      try clear hfz15_4
      try clear hfz15_5
      try clear hfz15_6
      try clear hfz17_0
      try clear hfz17_1
      try clear hfz17_2
      try clear hfz17_3
      try clear hfz17_4
      try clear hfz17_5
      try clear hfz17_6
      try clear hfz19_0
      try clear hfz19_1
      try clear hfz19_2
      try clear hfz19_3
      try clear hfz19_4
      try clear hfz19_5
      try clear hfz19_6
      try clear hfz21_0
      try clear hfz21_1
      try clear hfz21_2
      try clear hfz21_3
      try clear hfz21_4
      try clear hfz21_5
      try clear hfz21_6
      try clear hfz22_0
      try clear hfz22_1
      try clear hfz22_2
      try clear hfz22_3
      try clear hfz22_4
      try clear hfz22_5
      try clear hfz22_6
      try clear hfz27_0
      try clear hfz27_1
      try clear hfz27_2
      try clear hfz27_3
      try clear hfz27_4
      try clear hfz27_5
      try clear hfz27_6
      try clear hfz30_0
      try clear hfz30_1
      try clear hfz30_2
      try clear hfz30_3
      try clear hfz30_4
      try clear hfz30_5
      try clear hfz30_6
      try clear hfz31_0
      try clear hfz31_1
      try clear hfz31_2
      try clear hfz31_3
      try clear hfz31_4
      try clear hfz31_5
      try clear hfz31_6
      try clear hfz5_0
      try clear hfz5_1
      try clear hfz5_2
      try clear hfz5_3
      try clear hfz5_4
      try clear hfz5_5
      try clear hfz5_6
      try clear hfz7_0
      try clear hfz7_1
      try clear hfz7_2
      try clear hfz7_3
      try clear hfz7_4
      try clear hfz7_5
      try clear hfz7_6
      try clear hfz9_0
      try clear hfz9_1
      try clear hfz9_2
      try clear hfz9_3
      try clear hfz9_4
      try clear hfz9_5
      try clear hfz9_6
      try clear p2
      obtain ⟨kq, x70_25, rfl, HA, HJ25, BK197, HB⟩ := hcut
      cases kq with
      | zero => exact absurd HA.out (by simp [sr14_Check.j1])
      | succ kj25 =>
       have H := HA.out
       clear HA
       simp only [sr14_Check.j1] at H
       by_cases c32 : x70_25 = true
       ·
        subst c32
        have H1 : (some 1) = some r := by rw [if_pos rfl] at H; exact H
        clear H
        have H := H1
        clear H1
        obtain rfl := Option.some.inj H
        go_wp2
        go_ret
        exact ⟨by first | rfl | (simp [errW_none, errW_some] <;> rfl) | (simp [*, errW_none, errW_some] <;> rfl), by repeat (first | (with_reducible first | exact HB.out | apply bla | apply bln | apply bld | refine bls ?_ GE197.out) | exact HB.out)⟩
       ·
        replace c32 := Bool.eq_false_iff.mpr c32
        subst c32
        have H1 : (sr14_Check.l0 kj25 0 a0_0 a0_1 a0_2 a0_3 a0_4 l0_5 l0_6) = some r := by rw [if_neg (show ¬ (false = true) by decide)] at H; exact H
        clear H
        have H := H1
        clear H1
        have H' := As0.mk H
        clear H
        go_wp2
        go_loopg [4] kj25 (fun kq v4 w' => ∃ (x4_3 : Int), v4 = .int .i64 x4_3 ∧ As0 (sr14_Check.l0 kq x4_3 a0_0 a0_1 a0_2 a0_3 a0_4 l0_5 l0_6 = some r) ∧ As0 (kq ≤ kj25) ∧ As0 (w'.heap[gb197]? = some (.cells #[.int .i64 a0_0, .int .i64 a0_1, .int .i64 a0_2, .int .i64 a0_3, .int .i64 a0_4, (.slice A0_5 l0_5.length c0_5), (.slice A0_6 l0_6.length c0_6)] 25 (0, 0))) ∧ As0 (Below w.heap.size w w'))
        case atStart => exact ⟨(0), (by first | rfl | (simp; done) | (simp [*]; done)), H', ⟨Nat.le_refl _⟩, ⟨by (with_reducible repeat (first | refine bkn ?_ _ | refine bkd ?_ | refine bka ?_ _)); exact BK197.out⟩, ⟨by repeat (first | (with_reducible first | exact HB.out | apply bla | apply bln | apply bld | refine bls ?_ GE197.out) | exact HB.out)⟩⟩
        case round =>
         clear H'
         try clear c1
         try clear c2
         try clear p2
         try clear c3
         try clear c4
         try clear c4b0
         try clear c6
         try clear c6b0
         try clear c8
         try clear c8b0
         try clear c10
         try clear c10b0
         try clear c12
         try clear c12b0
         try clear c14
         try clear c14b0
         try clear c16
         try clear c16b0
         try clear c18
         try clear c18b0
         try clear c19
         try clear c20
         try clear c20b0
         try clear c23
         try clear c25
         try clear c25b0
         try clear c25b1
         try clear c29
         try clear c29b0
         try clear c29b1
         try clear c32
         try clear hcz11_0
         try clear hcz11_1
         try clear hcz11_2
         try clear hcz11_3
         try clear hcz11_4
         try clear hcz11_5
         try clear hcz11_6
         try clear hcz13_0
         try clear hcz13_1
         try clear hcz13_2
         try clear hcz13_3
         try clear hcz13_4
         try clear hcz13_5
         try clear hcz13_6
         try clear hcz15_0
         try clear hcz15_1
         try clear hcz15_2
         try clear hcz15_3
         try clear hcz15_4
         try clear hcz15_5
         try clear hcz15_6
         try clear hcz17_0
         try clear hcz17_1
         try clear hcz17_2
         try clear hcz17_3
         try clear hcz17_4
         try clear hcz17_5
         try clear hcz17_6
         try clear hcz19_0
         try clear hcz19_1
         try clear hcz19_2
         try clear hcz19_3
         try clear hcz19_4
         try clear hcz19_5
         try clear hcz19_6
         try clear hcz21_0
         try clear hcz21_1
         try clear hcz21_2
         try clear hcz21_3
         try clear hcz21_4
         try clear hcz21_5
         try clear hcz21_6
         try clear hcz22_0
         try clear hcz22_1
         try clear hcz22_2
         try clear hcz22_3
         try clear hcz22_4
         try clear hcz22_5
         try clear hcz22_6
         try clear hcz27_0
         try clear hcz27_1
         try clear hcz27_2
         try clear hcz27_3
         try clear hcz27_4
         try clear hcz27_5
         try clear hcz27_6
         try clear hcz30_0
         try clear hcz30_1
         try clear hcz30_2
         try clear hcz30_3
         try clear hcz30_4
         try clear hcz30_5
         try clear hcz30_6
         try clear hcz31_0
         try clear hcz31_1
         try clear hcz31_2
         try clear hcz31_3
         try clear hcz31_4
         try clear hcz31_5
         try clear hcz31_6
         try clear hcz5_0
         try clear hcz5_1
         try clear hcz5_2
         try clear hcz5_3
         try clear hcz5_4
         try clear hcz5_5
         try clear hcz5_6
         try clear hcz7_0
         try clear hcz7_1
         try clear hcz7_2
         try clear hcz7_3
         try clear hcz7_4
         try clear hcz7_5
         try clear hcz7_6
         try clear hcz9_0
         try clear hcz9_1
         try clear hcz9_2
         try clear hcz9_3
         try clear hcz9_4
         try clear hcz9_5
         try clear hcz9_6
         try clear hfz11_0
         try clear hfz11_1
         try clear hfz11_2
         try clear hfz11_3
         try clear hfz11_4
         try clear hfz11_5
         try clear hfz11_6
         try clear hfz13_0
         try clear hfz13_1
         try clear hfz13_2
         try clear hfz13_3
         try clear hfz13_4
         try clear hfz13_5
         try clear hfz13_6
         try clear hfz15_0
         try clear hfz15_1
         try clear hfz15_2
         try clear hfz15_3
         try clear hfz15_4
         try clear hfz15_5
         try clear hfz15_6
         try clear hfz17_0
         try clear hfz17_1
         try clear hfz17_2
         try clear hfz17_3
         try clear hfz17_4
         try clear hfz17_5
         try clear hfz17_6
         try clear hfz19_0
         try clear hfz19_1
         try clear hfz19_2
         try clear hfz19_3
         try clear hfz19_4
         try clear hfz19_5
         try clear hfz19_6
         try clear hfz21_0
         try clear hfz21_1
         try clear hfz21_2
         try clear hfz21_3
         try clear hfz21_4
         try clear hfz21_5
         try clear hfz21_6
         try clear hfz22_0
         try clear hfz22_1
         try clear hfz22_2
         try clear hfz22_3
         try clear hfz22_4
         try clear hfz22_5
         try clear hfz22_6
         try clear hfz27_0
         try clear hfz27_1
         try clear hfz27_2
         try clear hfz27_3
         try clear hfz27_4
         try clear hfz27_5
         try clear hfz27_6
         try clear hfz30_0
         try clear hfz30_1
         try clear hfz30_2
         try clear hfz30_3
         try clear hfz30_4
         try clear hfz30_5
         try clear hfz30_6
         try clear hfz31_0
         try clear hfz31_1
         try clear hfz31_2
         try clear hfz31_3
         try clear hfz31_4
         try clear hfz31_5
         try clear hfz31_6
         try clear hfz5_0
         try clear hfz5_1
         try clear hfz5_2
         try clear hfz5_3
         try clear hfz5_4
         try clear hfz5_5
         try clear hfz5_6
         try clear hfz7_0
         try clear hfz7_1
         try clear hfz7_2
         try clear hfz7_3
         try clear hfz7_4
         try clear hfz7_5
         try clear hfz7_6
         try clear hfz9_0
         try clear hfz9_1
         try clear hfz9_2
         try clear hfz9_3
         try clear hfz9_4
         try clear hfz9_5
         try clear hfz9_6
         try clear p2
         obtain ⟨x4_3, rfl, HA, HK3, BK197, HB⟩ := hrel
         cases gk with
         | zero => exact absurd HA.out (by simp [sr14_Check.l0])
         | succ k3 =>
          have H := HA.out
          clear HA
          simp only [sr14_Check.l0] at H
          by_cases c33 : x4_3 < (l0_6.length : Int)
          ·
           rw [if_pos c33] at H
           have c33b0 : decide (x4_3 < (l0_6.length : Int)) = true := decide_eq_true c33
           clear c33
           by_cases c34 : 0 ≤ x4_3
           ·
            rw [if_pos c34] at H
            have c34b0 : decide (0 ≤ x4_3) = true := decide_eq_true c34
            clear c34
            have HC35 := As0.mk H
            clear H
            have hcz36_0 : wr.cell? ⟨gb197, 0, none⟩ = some (.int .i64 a0_0) := (bkc BK197.out 0).trans rfl
            have hcz36_1 : wr.cell? ⟨gb197, 1, none⟩ = some (.int .i64 a0_1) := (bkc BK197.out 1).trans rfl
            have hcz36_2 : wr.cell? ⟨gb197, 2, none⟩ = some (.int .i64 a0_2) := (bkc BK197.out 2).trans rfl
            have hcz36_3 : wr.cell? ⟨gb197, 3, none⟩ = some (.int .i64 a0_3) := (bkc BK197.out 3).trans rfl
            have hcz36_4 : wr.cell? ⟨gb197, 4, none⟩ = some (.int .i64 a0_4) := (bkc BK197.out 4).trans rfl
            have hcz36_5 : wr.cell? ⟨gb197, 5, none⟩ = some (.slice A0_5 l0_5.length c0_5) := (bkc BK197.out 5).trans rfl
            have hcz36_6 : wr.cell? ⟨gb197, 6, none⟩ = some (.slice A0_6 l0_6.length c0_6) := (bkc BK197.out 6).trans rfl
            have hfz36_0 := bkf BK197.out 0
            have hfz36_1 := bkf BK197.out 1
            have hfz36_2 := bkf BK197.out 2
            have hfz36_3 := bkf BK197.out 3
            have hfz36_4 := bkf BK197.out 4
            have hfz36_5 := bkf BK197.out 5
            have hfz36_6 := bkf BK197.out 6
            have p199 : 0 ≤ (x4_3 : Int) := of_decide_eq_true (by first | (with_reducible assumption) | assumption)
            have q199 : x4_3 < (l0_6.length : Int) := of_decide_eq_true (by first | (with_reducible assumption) | assumption)
            obtain ⟨ad199, e199, hx199_0, hx199_1, hx199_2⟩ := at_T41 HR0_6.out x4_3 p199 q199
            cases e199
            replace hx199_0 := (HB.out.cell (World.block_lt_of_cell? w _ hx199_0)).trans hx199_0
            replace hx199_1 := (HB.out.cell (World.block_lt_of_cell? w _ hx199_1)).trans hx199_1
            replace hx199_2 := (HB.out.cell (World.block_lt_of_cell? w _ hx199_2)).trans hx199_2
            replace p199 := eq_true p199
            replace q199 := eq_true q199
            go_upto_region 12 with (first | ((with_reducible refine gate_dst (N := 5) rfl ?_); (try (refine gate_guard (by rfl) ?_; dsimp only)); refine box_event ?hg (N := 5) ?hd (cs := #[.int .i64 0, .int .i64 0, .int .u64 0]) (t := 41) ?hr ?_; (case hd => rfl); (case hg => rfl); (case hr => first | (go_simp; done) | (go_simp; rfl)); intro gb200 hg w37 hbox hb; have n0_ := As0.mk (blk_below (g := gb197) (o := .cells #[.int .i64 a0_0, .int .i64 a0_1, .int .i64 a0_2, .int .i64 a0_3, .int .i64 a0_4, .slice A0_5 l0_5.length c0_5, .slice (some ad199) l0_6.length c0_6] 25 (0, 0)) (by (with_reducible repeat (first | refine bkn ?_ _ | refine bkd ?_ | refine bka ?_ _)); exact BK197.out) hb); have n1_ := As0.mk (below_step (by repeat (first | (with_reducible first | exact HB.out | apply bla | apply bln | apply bld | refine bls ?_ GE197.out) | exact HB.out)) hb); have n2_ := As0.mk (hbox); have n3_ := As0.mk ((by rw [hg]; exact (below_size (by repeat (first | (with_reducible first | exact HB.out | apply bla | apply bln | apply bld | refine bls ?_ GE197.out) | exact HB.out))) : w.heap.size ≤ gb200)); have n4_ := As0.mk ((by rw [hg]; exact (below_size (by repeat (first | (with_reducible first | exact HB.out | apply bla | apply bln | apply bld | refine bls ?_ GE197.out) | exact HB.out))) : w.heap.size ≤ gb200)); have n5_ := As0.mk ((by rw [hg]; exact Nat.ne_of_lt (blk_lt (g := gb197) (o := .cells #[.int .i64 a0_0, .int .i64 a0_1, .int .i64 a0_2, .int .i64 a0_3, .int .i64 a0_4, .slice A0_5 l0_5.length c0_5, .slice (some ad199) l0_6.length c0_6] 25 (0, 0)) (by (with_reducible repeat (first | refine bkn ?_ _ | refine bkd ?_ | refine bka ?_ _)); exact BK197.out)) : gb197 ≠ gb200)); have n6_ := As0.mk ((by rw [hg]; exact Nat.ne_of_gt (blk_lt (g := gb197) (o := .cells #[.int .i64 a0_0, .int .i64 a0_1, .int .i64 a0_2, .int .i64 a0_3, .int .i64 a0_4, .slice A0_5 l0_5.length c0_5, .slice (some ad199) l0_6.length c0_6] 25 (0, 0)) (by (with_reducible repeat (first | refine bkn ?_ _ | refine bkd ?_ | refine bka ?_ _)); exact BK197.out)) : gb200 ≠ gb197)); clear BK197; clear HB; have BK197 := n0_; have HB := n1_; have BK200 := n2_; have GW200 := n3_; have GE200 := n4_; have NB197_200 := n5_; have NB200_197 := n6_; clear n0_ n1_ n2_ n3_ n4_ n5_ n6_; clear hb hbox hg; have hnb38 := NB200_197.out; have hnc38 := NB197_200.out; have hcz39_0 : w37.cell? ⟨gb200, 0, none⟩ = some (.int .i64 0) := (bkc BK200.out 0).trans rfl; have hcz39_1 : w37.cell? ⟨gb200, 1, none⟩ = some (.int .i64 0) := (bkc BK200.out 1).trans rfl; have hcz39_2 : w37.cell? ⟨gb200, 2, none⟩ = some (.int .u64 0) := (bkc BK200.out 2).trans rfl; have hfz39_0 := bkf BK200.out 0; have hfz39_1 := bkf BK200.out 1; have hfz39_2 := bkf BK200.out 2))
            (try simp only [Act.put, List.setIfInBounds_toArray, List.set_cons_zero, List.set_cons_succ])
            go_cut [100] (fun v100 wc => ∃ (kq : Nat) (x100_34 : Bool), v100 = .bool x100_34 ∧ As0 (sr14_Check.j3 kq x4_3 x100_34 a0_0 a0_1 a0_2 a0_3 a0_4 l0_5 l0_6 ((rd_T41 l0_6 x4_3).f0) ((rd_T41 l0_6 x4_3).f1) ((rd_T41 l0_6 x4_3).f2) = some r) ∧ As0 (kq ≤ k3) ∧ As0 (wc.heap[gb197]? = some (.cells #[.int .i64 a0_0, .int .i64 a0_1, .int .i64 a0_2, .int .i64 a0_3, .int .i64 a0_4, (.slice A0_5 l0_5.length c0_5), (.slice (some ad199) l0_6.length c0_6)] 25 (0, 0))) ∧ As0 (wc.heap[gb200]? = some (.cells #[.int .i64 ((rd_T41 l0_6 x4_3).f0), .int .i64 ((rd_T41 l0_6 x4_3).f1), .int .u64 ((rd_T41 l0_6 x4_3).f2)] 41 (0, 0))) ∧ As0 (Below w.heap.size w wc))
            case first =>
             have H := HC35.out
             clear HC35
             by_cases c40 : ((rd_T41 l0_6 x4_3).f0) < 1
             ·
              rw [if_pos c40] at H
              have c40b0 : decide (((rd_T41 l0_6 x4_3).f0) < 1) = true := decide_eq_true c40
              clear c40
              (first | rw [c40b0] | (simp only [i64_w, i32_w]; rw [c40b0]) | skip)
              have H' := As0.mk H
              clear H
              have hnb41 := NB200_197.out
              have hnc41 := NB197_200.out
              have hcz42_0 : w37.cell? ⟨gb200, 0, none⟩ = some (.int .i64 0) := (bkc BK200.out 0).trans rfl
              have hcz42_1 : w37.cell? ⟨gb200, 1, none⟩ = some (.int .i64 0) := (bkc BK200.out 1).trans rfl
              have hcz42_2 : w37.cell? ⟨gb200, 2, none⟩ = some (.int .u64 0) := (bkc BK200.out 2).trans rfl
              have hfz42_0 := bkf BK200.out 0
              have hfz42_1 := bkf BK200.out 1
              have hfz42_2 := bkf BK200.out 2
              go_wp2
              go_meet
              case rel => exact ⟨_, (true), (by first | rfl | (simp; done) | (simp [*]; done)), H', ⟨by have := HJ1.out; have := HJ25.out; have := HK3.out; first | omega | exact Nat.le_refl _⟩, ⟨by (with_reducible repeat (first | refine bkn ?_ _ | refine bkd ?_ | refine bka ?_ _)); refine blk_far ?_ NB197_200.out _; (with_reducible repeat (first | refine bkn ?_ _ | refine bkd ?_ | refine bka ?_ _)); refine blk_far ?_ NB197_200.out _; (with_reducible repeat (first | refine bkn ?_ _ | refine bkd ?_ | refine bka ?_ _)); refine blk_far ?_ NB197_200.out _; (with_reducible repeat (first | refine bkn ?_ _ | refine bkd ?_ | refine bka ?_ _)); exact BK197.out⟩, ⟨by (with_reducible repeat (first | refine bkn ?_ _ | refine bkd ?_ | refine bka ?_ _)); refine blk_put (cs := #[.int .i64 ((rd_T41 l0_6 x4_3).f0), .int .i64 ((rd_T41 l0_6 x4_3).f1), .int .u64 0]) ?_ 2 _ rfl; (with_reducible repeat (first | refine bkn ?_ _ | refine bkd ?_ | refine bka ?_ _)); refine blk_put (cs := #[.int .i64 ((rd_T41 l0_6 x4_3).f0), .int .i64 0, .int .u64 0]) ?_ 1 _ rfl; (with_reducible repeat (first | refine bkn ?_ _ | refine bkd ?_ | refine bka ?_ _)); refine blk_put (cs := #[.int .i64 0, .int .i64 0, .int .u64 0]) ?_ 0 _ rfl; (with_reducible repeat (first | refine bkn ?_ _ | refine bkd ?_ | refine bka ?_ _)); exact BK200.out⟩, ⟨by repeat (first | (with_reducible first | exact HB.out | apply bla | apply bln | apply bld | refine bls ?_ GE197.out | refine bls ?_ GE200.out) | exact HB.out)⟩⟩
             ·
              rw [if_neg c40] at H
              have c40b0 : decide (((rd_T41 l0_6 x4_3).f0) < 1) = false := decide_eq_false c40
              clear c40
              (first | rw [c40b0] | (simp only [i64_w, i32_w]; rw [c40b0]) | skip)
              by_cases c43 : ((rd_T41 l0_6 x4_3).f0) > 255
              ·
               rw [if_pos c43] at H
               have c43b0 : decide (255 < ((rd_T41 l0_6 x4_3).f0)) = true := decide_eq_true c43
               clear c43
               have H' := As0.mk H
               clear H
               have hnb44 := NB200_197.out
               have hnc44 := NB197_200.out
               have hcz45_0 : w37.cell? ⟨gb200, 0, none⟩ = some (.int .i64 0) := (bkc BK200.out 0).trans rfl
               have hcz45_1 : w37.cell? ⟨gb200, 1, none⟩ = some (.int .i64 0) := (bkc BK200.out 1).trans rfl
               have hcz45_2 : w37.cell? ⟨gb200, 2, none⟩ = some (.int .u64 0) := (bkc BK200.out 2).trans rfl
               have hfz45_0 := bkf BK200.out 0
               have hfz45_1 := bkf BK200.out 1
               have hfz45_2 := bkf BK200.out 2
               go_wp2
               go_meet
               case rel => exact ⟨_, (true), (by first | rfl | (simp; done) | (simp [*]; done)), H', ⟨by have := HJ1.out; have := HJ25.out; have := HK3.out; first | omega | exact Nat.le_refl _⟩, ⟨by (with_reducible repeat (first | refine bkn ?_ _ | refine bkd ?_ | refine bka ?_ _)); refine blk_far ?_ NB197_200.out _; (with_reducible repeat (first | refine bkn ?_ _ | refine bkd ?_ | refine bka ?_ _)); refine blk_far ?_ NB197_200.out _; (with_reducible repeat (first | refine bkn ?_ _ | refine bkd ?_ | refine bka ?_ _)); refine blk_far ?_ NB197_200.out _; (with_reducible repeat (first | refine bkn ?_ _ | refine bkd ?_ | refine bka ?_ _)); exact BK197.out⟩, ⟨by (with_reducible repeat (first | refine bkn ?_ _ | refine bkd ?_ | refine bka ?_ _)); refine blk_put (cs := #[.int .i64 ((rd_T41 l0_6 x4_3).f0), .int .i64 ((rd_T41 l0_6 x4_3).f1), .int .u64 0]) ?_ 2 _ rfl; (with_reducible repeat (first | refine bkn ?_ _ | refine bkd ?_ | refine bka ?_ _)); refine blk_put (cs := #[.int .i64 ((rd_T41 l0_6 x4_3).f0), .int .i64 0, .int .u64 0]) ?_ 1 _ rfl; (with_reducible repeat (first | refine bkn ?_ _ | refine bkd ?_ | refine bka ?_ _)); refine blk_put (cs := #[.int .i64 0, .int .i64 0, .int .u64 0]) ?_ 0 _ rfl; (with_reducible repeat (first | refine bkn ?_ _ | refine bkd ?_ | refine bka ?_ _)); exact BK200.out⟩, ⟨by repeat (first | (with_reducible first | exact HB.out | apply bla | apply bln | apply bld | refine bls ?_ GE197.out | refine bls ?_ GE200.out) | exact HB.out)⟩⟩
              ·
               rw [if_neg c43] at H
               have c43b0 : decide (255 < ((rd_T41 l0_6 x4_3).f0)) = false := decide_eq_false c43
               clear c43
               by_cases c46 : ((rd_T41 l0_6 x4_3).f1) < 1
               ·
                rw [if_pos c46] at H
                have c46b0 : decide (((rd_T41 l0_6 x4_3).f1) < 1) = true := decide_eq_true c46
                clear c46
                have H' := As0.mk H
                clear H
                have hnb47 := NB200_197.out
                have hnc47 := NB197_200.out
                have hcz48_0 : w37.cell? ⟨gb200, 0, none⟩ = some (.int .i64 0) := (bkc BK200.out 0).trans rfl
                have hcz48_1 : w37.cell? ⟨gb200, 1, none⟩ = some (.int .i64 0) := (bkc BK200.out 1).trans rfl
                have hcz48_2 : w37.cell? ⟨gb200, 2, none⟩ = some (.int .u64 0) := (bkc BK200.out 2).trans rfl
                have hfz48_0 := bkf BK200.out 0
                have hfz48_1 := bkf BK200.out 1
                have hfz48_2 := bkf BK200.out 2
                go_wp2
                go_meet
                case rel => exact ⟨_, (true), (by first | rfl | (simp; done) | (simp [*]; done)), H', ⟨by have := HJ1.out; have := HJ25.out; have := HK3.out; first | omega | exact Nat.le_refl _⟩, ⟨by (with_reducible repeat (first | refine bkn ?_ _ | refine bkd ?_ | refine bka ?_ _)); refine blk_far ?_ NB197_200.out _; (with_reducible repeat (first | refine bkn ?_ _ | refine bkd ?_ | refine bka ?_ _)); refine blk_far ?_ NB197_200.out _; (with_reducible repeat (first | refine bkn ?_ _ | refine bkd ?_ | refine bka ?_ _)); refine blk_far ?_ NB197_200.out _; (with_reducible repeat (first | refine bkn ?_ _ | refine bkd ?_ | refine bka ?_ _)); exact BK197.out⟩, ⟨by (with_reducible repeat (first | refine bkn ?_ _ | refine bkd ?_ | refine bka ?_ _)); refine blk_put (cs := #[.int .i64 ((rd_T41 l0_6 x4_3).f0), .int .i64 ((rd_T41 l0_6 x4_3).f1), .int .u64 0]) ?_ 2 _ rfl; (with_reducible repeat (first | refine bkn ?_ _ | refine bkd ?_ | refine bka ?_ _)); refine blk_put (cs := #[.int .i64 ((rd_T41 l0_6 x4_3).f0), .int .i64 0, .int .u64 0]) ?_ 1 _ rfl; (with_reducible repeat (first | refine bkn ?_ _ | refine bkd ?_ | refine bka ?_ _)); refine blk_put (cs := #[.int .i64 0, .int .i64 0, .int .u64 0]) ?_ 0 _ rfl; (with_reducible repeat (first | refine bkn ?_ _ | refine bkd ?_ | refine bka ?_ _)); exact BK200.out⟩, ⟨by repeat (first | (with_reducible first | exact HB.out | apply bla | apply bln | apply bld | refine bls ?_ GE197.out | refine bls ?_ GE200.out) | exact HB.out)⟩⟩
               ·
                rw [if_neg c46] at H
                have c46b0 : decide (((rd_T41 l0_6 x4_3).f1) < 1) = false := decide_eq_false c46
                clear c46
                have H' := As0.mk H
                clear H
                have hnb49 := NB200_197.out
                have hnc49 := NB197_200.out
                have hcz50_0 : w37.cell? ⟨gb200, 0, none⟩ = some (.int .i64 0) := (bkc BK200.out 0).trans rfl
                have hcz50_1 : w37.cell? ⟨gb200, 1, none⟩ = some (.int .i64 0) := (bkc BK200.out 1).trans rfl
                have hcz50_2 : w37.cell? ⟨gb200, 2, none⟩ = some (.int .u64 0) := (bkc BK200.out 2).trans rfl
                have hfz50_0 := bkf BK200.out 0
                have hfz50_1 := bkf BK200.out 1
                have hfz50_2 := bkf BK200.out 2
                go_wp2
                go_meet
                case rel => exact ⟨_, (decide (((rd_T41 l0_6 x4_3).f1) > 64)), (by first | rfl | (simp; done) | (simp [*]; done)), H', ⟨by have := HJ1.out; have := HJ25.out; have := HK3.out; first | omega | exact Nat.le_refl _⟩, ⟨by (with_reducible repeat (first | refine bkn ?_ _ | refine bkd ?_ | refine bka ?_ _)); refine blk_far ?_ NB197_200.out _; (with_reducible repeat (first | refine bkn ?_ _ | refine bkd ?_ | refine bka ?_ _)); refine blk_far ?_ NB197_200.out _; (with_reducible repeat (first | refine bkn ?_ _ | refine bkd ?_ | refine bka ?_ _)); refine blk_far ?_ NB197_200.out _; (with_reducible repeat (first | refine bkn ?_ _ | refine bkd ?_ | refine bka ?_ _)); exact BK197.out⟩, ⟨by (with_reducible repeat (first | refine bkn ?_ _ | refine bkd ?_ | refine bka ?_ _)); refine blk_put (cs := #[.int .i64 ((rd_T41 l0_6 x4_3).f0), .int .i64 ((rd_T41 l0_6 x4_3).f1), .int .u64 0]) ?_ 2 _ rfl; (with_reducible repeat (first | refine bkn ?_ _ | refine bkd ?_ | refine bka ?_ _)); refine blk_put (cs := #[.int .i64 ((rd_T41 l0_6 x4_3).f0), .int .i64 0, .int .u64 0]) ?_ 1 _ rfl; (with_reducible repeat (first | refine bkn ?_ _ | refine bkd ?_ | refine bka ?_ _)); refine blk_put (cs := #[.int .i64 0, .int .i64 0, .int .u64 0]) ?_ 0 _ rfl; (with_reducible repeat (first | refine bkn ?_ _ | refine bkd ?_ | refine bka ?_ _)); exact BK200.out⟩, ⟨by repeat (first | (with_reducible first | exact HB.out | apply bla | apply bln | apply bld | refine bls ?_ GE197.out | refine bls ?_ GE200.out) | exact HB.out)⟩⟩
            case rest =>
             clear HC35
             try clear c1
             try clear p1
             try clear q1
             try clear hx1
             try clear c2
             try clear p2
             try clear c3
             try clear c4
             try clear c4b0
             try clear c6
             try clear c6b0
             try clear c8
             try clear c8b0
             try clear c10
             try clear c10b0
             try clear c12
             try clear c12b0
             try clear c14
             try clear c14b0
             try clear c16
             try clear c16b0
             try clear c18
             try clear c18b0
             try clear c19
             try clear p19
             try clear q19
             try clear hx19
             try clear c20
             try clear c20b0
             try clear c23
             try clear c25
             try clear c25b0
             try clear c25b1
             try clear c29
             try clear c29b0
             try clear c29b1
             try clear c32
             try clear c33
             try clear c33b0
             try clear c34
             try clear c34b0
             try clear c38
             try clear c40
             try clear c40b0
             try clear c41
             try clear c43
             try clear c43b0
             try clear c44
             try clear c46
             try clear c46b0
             try clear c47
             try clear c49
             try clear hcz11_0
             try clear hcz11_1
             try clear hcz11_2
             try clear hcz11_3
             try clear hcz11_4
             try clear hcz11_5
             try clear hcz11_6
             try clear hcz13_0
             try clear hcz13_1
             try clear hcz13_2
             try clear hcz13_3
             try clear hcz13_4
             try clear hcz13_5
             try clear hcz13_6
             try clear hcz15_0
             try clear hcz15_1
             try clear hcz15_2
             try clear hcz15_3
             try clear hcz15_4
             try clear hcz15_5
             try clear hcz15_6
             try clear hcz17_0
             try clear hcz17_1
             try clear hcz17_2
             try clear hcz17_3
             try clear hcz17_4
             try clear hcz17_5
             try clear hcz17_6
             try clear hcz19_0
             try clear hcz19_1
             try clear hcz19_2
             try clear hcz19_3
             try clear hcz19_4
             try clear hcz19_5
             try clear hcz19_6
             try clear hcz21_0
             try clear hcz21_1
             try clear hcz21_2
             try clear hcz21_3
             try clear hcz21_4
             try clear hcz21_5
             try clear hcz21_6
             try clear hcz22_0
             try clear hcz22_1
             try clear hcz22_2
             try clear hcz22_3
             try clear hcz22_4
             try clear hcz22_5
             try clear hcz22_6
             try clear hcz27_0
             try clear hcz27_1
             try clear hcz27_2
             try clear hcz27_3
             try clear hcz27_4
             try clear hcz27_5
             try clear hcz27_6
             try clear hcz30_0
             try clear hcz30_1
             try clear hcz30_2
             try clear hcz30_3
             try clear hcz30_4
             try clear hcz30_5
             try clear hcz30_6
             try clear hcz31_0
             try clear hcz31_1
             try clear hcz31_2
             try clear hcz31_3
             try clear hcz31_4
             try clear hcz31_5
             try clear hcz31_6
             try clear hcz36_0
             try clear hcz36_1
             try clear hcz36_2
             try clear hcz36_3
             try clear hcz36_4
             try clear hcz36_5
             try clear hcz36_6
             try clear hcz39_0
             try clear hcz39_1
             try clear hcz39_2
             try clear hcz42_0
             try clear hcz42_1
             try clear hcz42_2
             try clear hcz45_0
             try clear hcz45_1
             try clear hcz45_2
             try clear hcz48_0
             try clear hcz48_1
             try clear hcz48_2
             try clear hcz50_0
             try clear hcz50_1
             try clear hcz50_2
             try clear hcz5_0
             try clear hcz5_1
             try clear hcz5_2
             try clear hcz5_3
             try clear hcz5_4
             try clear hcz5_5
             try clear hcz5_6
             try clear hcz7_0
             try clear hcz7_1
             try clear hcz7_2
             try clear hcz7_3
             try clear hcz7_4
             try clear hcz7_5
             try clear hcz7_6
             try clear hcz9_0
             try clear hcz9_1
             try clear hcz9_2
             try clear hcz9_3
             try clear hcz9_4
             try clear hcz9_5
             try clear hcz9_6
             try clear hfz11_0
             try clear hfz11_1
             try clear hfz11_2
             try clear hfz11_3
             try clear hfz11_4
             try clear hfz11_5
             try clear hfz11_6
             try clear hfz13_0
             try clear hfz13_1
             try clear hfz13_2
             try clear hfz13_3
             try clear hfz13_4
             try clear hfz13_5
             try clear hfz13_6
             try clear hfz15_0
             try clear hfz15_1
             try clear hfz15_2
             try clear hfz15_3
             try clear hfz15_4
             try clear hfz15_5
             try clear hfz15_6
             try clear hfz17_0
             try clear hfz17_1
             try clear hfz17_2
             try clear hfz17_3
             try clear hfz17_4
             try clear hfz17_5
             try clear hfz17_6
             try clear hfz19_0
             try clear hfz19_1
             try clear hfz19_2
             try clear hfz19_3
             try clear hfz19_4
             try clear hfz19_5
             try clear hfz19_6
             try clear hfz21_0
             try clear hfz21_1
             try clear hfz21_2
             try clear hfz21_3
             try clear hfz21_4
             try clear hfz21_5
             try clear hfz21_6
             try clear hfz22_0
             try clear hfz22_1
             try clear hfz22_2
             try clear hfz22_3
             try clear hfz22_4
             try clear hfz22_5
             try clear hfz22_6
             try clear hfz27_0
             try clear hfz27_1
             try clear hfz27_2
             try clear hfz27_3
             try clear hfz27_4
             try clear hfz27_5
             try clear hfz27_6
             try clear hfz30_0
             try clear hfz30_1
             try clear hfz30_2
             try clear hfz30_3
             try clear hfz30_4
             try clear hfz30_5
             try clear hfz30_6
             try clear hfz31_0
             try clear hfz31_1
             try clear hfz31_2
             try clear hfz31_3
             try clear hfz31_4
             try clear hfz31_5
             try clear hfz31_6
             try clear hfz36_0
             try clear hfz36_1
             try clear hfz36_2
             try clear hfz36_3
             try clear hfz36_4
             try clear hfz36_5
             try clear hfz36_6
             try clear hfz39_0
             try clear hfz39_1
             try clear hfz39_2
             try clear hfz42_0
             try clear hfz42_1
             try clear hfz42_2
             try clear hfz45_0
             try clear hfz45_1
             try clear hfz45_2
             try clear hfz48_0
             try clear hfz48_1
             try clear hfz48_2
             try clear hfz50_0
             try clear hfz50_1
             try clear hfz50_2
             try clear hfz5_0
             try clear hfz5_1
             try clear hfz5_2
             try clear hfz5_3
             try clear hfz5_4
             try clear hfz5_5
             try clear hfz5_6
             try clear hfz7_0
             try clear hfz7_1
             try clear hfz7_2
             try clear hfz7_3
             try clear hfz7_4
             try clear hfz7_5
             try clear hfz7_6
             try clear hfz9_0
             try clear hfz9_1
             try clear hfz9_2
             try clear hfz9_3
             try clear hfz9_4
             try clear hfz9_5
             try clear hfz9_6
             try clear hx199_0
             try clear hx199_1
             try clear hx199_2
             try clear p199
             try clear p2
             try clear q199
             obtain ⟨kq, x100_34, rfl, HA, HJ34, BK197, BK200, HB⟩ := hcut
             cases kq with
             | zero => exact absurd HA.out (by simp [sr14_Check.j3])
             | succ kj34 =>
              have H := HA.out
              clear HA
              simp only [sr14_Check.j3] at H
              by_cases c51 : x100_34 = true
              ·
               subst c51
               have H1 : (some 1) = some r := by rw [if_pos rfl] at H; exact H
               clear H
               have H := H1
               clear H1
               obtain rfl := Option.some.inj H
               go_wp2
               go_ret
               exact ⟨by first | rfl | (simp [errW_none, errW_some] <;> rfl) | (simp [*, errW_none, errW_some] <;> rfl), by repeat (first | (with_reducible first | exact HB.out | apply bla | apply bln | apply bld | refine bls ?_ GE197.out | refine bls ?_ GE200.out) | exact HB.out)⟩
              ·
               replace c51 := Bool.eq_false_iff.mpr c51
               subst c51
               have H1 : (sr14_Check.l1 kj34 x4_3 (l0_5.length : Int) a0_0 a0_1 a0_2 a0_3 a0_4 l0_5 l0_6 ((rd_T41 l0_6 x4_3).f0) ((rd_T41 l0_6 x4_3).f1) ((rd_T41 l0_6 x4_3).f2)) = some r := by rw [if_neg (show ¬ (false = true) by decide)] at H; exact H
               clear H
               have H := H1
               clear H1
               have H' := As0.mk H
               clear H
               have hnb52 := NB197_200.out
               have hnc52 := NB200_197.out
               have hcz53_0 : wc.cell? ⟨gb197, 0, none⟩ = some (.int .i64 a0_0) := (bkc BK197.out 0).trans rfl
               have hcz53_1 : wc.cell? ⟨gb197, 1, none⟩ = some (.int .i64 a0_1) := (bkc BK197.out 1).trans rfl
               have hcz53_2 : wc.cell? ⟨gb197, 2, none⟩ = some (.int .i64 a0_2) := (bkc BK197.out 2).trans rfl
               have hcz53_3 : wc.cell? ⟨gb197, 3, none⟩ = some (.int .i64 a0_3) := (bkc BK197.out 3).trans rfl
               have hcz53_4 : wc.cell? ⟨gb197, 4, none⟩ = some (.int .i64 a0_4) := (bkc BK197.out 4).trans rfl
               have hcz53_5 : wc.cell? ⟨gb197, 5, none⟩ = some (.slice A0_5 l0_5.length c0_5) := (bkc BK197.out 5).trans rfl
               have hcz53_6 : wc.cell? ⟨gb197, 6, none⟩ = some (.slice (some ad199) l0_6.length c0_6) := (bkc BK197.out 6).trans rfl
               have hfz53_0 := bkf BK197.out 0
               have hfz53_1 := bkf BK197.out 1
               have hfz53_2 := bkf BK197.out 2
               have hfz53_3 := bkf BK197.out 3
               have hfz53_4 := bkf BK197.out 4
               have hfz53_5 := bkf BK197.out 5
               have hfz53_6 := bkf BK197.out 6
               go_wp2
               go_loopg [6] kj34 (fun kq v6 w' => ∃ (x6_5 : Int), v6 = .int .i64 x6_5 ∧ As0 (sr14_Check.l1 kq x4_3 x6_5 a0_0 a0_1 a0_2 a0_3 a0_4 l0_5 l0_6 ((rd_T41 l0_6 x4_3).f0) ((rd_T41 l0_6 x4_3).f1) ((rd_T41 l0_6 x4_3).f2) = some r) ∧ As0 (kq ≤ kj34) ∧ As0 (w'.heap[gb197]? = some (.cells #[.int .i64 a0_0, .int .i64 a0_1, .int .i64 a0_2, .int .i64 a0_3, .int .i64 a0_4, (.slice A0_5 l0_5.length c0_5), (.slice (some ad199) l0_6.length c0_6)] 25 (0, 0))) ∧ As0 (w'.heap[gb200]? = some (.cells #[.int .i64 ((rd_T41 l0_6 x4_3).f0), .int .i64 ((rd_T41 l0_6 x4_3).f1), .int .u64 ((rd_T41 l0_6 x4_3).f2)] 41 (0, 0))) ∧ As0 (Below w.heap.size w w'))
               case atStart => exact ⟨((l0_5.length : Int)), (by first | rfl | (simp; done) | (simp [*]; done)), H', ⟨Nat.le_refl _⟩, ⟨by (with_reducible repeat (first | refine bkn ?_ _ | refine bkd ?_ | refine bka ?_ _)); exact BK197.out⟩, ⟨by (with_reducible repeat (first | refine bkn ?_ _ | refine bkd ?_ | refine bka ?_ _)); exact BK200.out⟩, ⟨by repeat (first | (with_reducible first | exact HB.out | apply bla | apply bln | apply bld | refine bls ?_ GE197.out | refine bls ?_ GE200.out) | exact HB.out)⟩⟩
               case round =>
                clear H'
                try clear c1
                try clear p1
                try clear q1
                try clear hx1
                try clear c2
                try clear p2
                try clear c3
                try clear c4
                try clear c4b0
                try clear c5
                try clear c6
                try clear c6b0
                try clear c8
                try clear c8b0
                try clear c10
                try clear c10b0
                try clear c12
                try clear c12b0
                try clear c14
                try clear c14b0
                try clear c16
                try clear c16b0
                try clear c18
                try clear c18b0
                try clear c19
                try clear p19
                try clear q19
                try clear hx19
                try clear c20
                try clear c20b0
                try clear c23
                try clear c25
                try clear c25b0
                try clear c25b1
                try clear c29
                try clear c29b0
                try clear c29b1
                try clear c32
                try clear c33
                try clear c33b0
                try clear c34
                try clear c34b0
                try clear c38
                try clear c40
                try clear c40b0
                try clear c41
                try clear c43
                try clear c43b0
                try clear c44
                try clear c46
                try clear c46b0
                try clear c47
                try clear c49
                try clear c51
                try clear c52
                try clear hcz11_0
                try clear hcz11_1
                try clear hcz11_2
                try clear hcz11_3
                try clear hcz11_4
                try clear hcz11_5
                try clear hcz11_6
                try clear hcz13_0
                try clear hcz13_1
                try clear hcz13_2
                try clear hcz13_3
                try clear hcz13_4
                try clear hcz13_5
                try clear hcz13_6
                try clear hcz15_0
                try clear hcz15_1
                try clear hcz15_2
                try clear hcz15_3
                try clear hcz15_4
                try clear hcz15_5
                try clear hcz15_6
                try clear hcz17_0
                try clear hcz17_1
                try clear hcz17_2
                try clear hcz17_3
                try clear hcz17_4
                try clear hcz17_5
                try clear hcz17_6
                try clear hcz19_0
                try clear hcz19_1
                try clear hcz19_2
                try clear hcz19_3
                try clear hcz19_4
                try clear hcz19_5
                try clear hcz19_6
                try clear hcz21_0
                try clear hcz21_1
                try clear hcz21_2
                try clear hcz21_3
                try clear hcz21_4
                try clear hcz21_5
                try clear hcz21_6
                try clear hcz22_0
                try clear hcz22_1
                try clear hcz22_2
                try clear hcz22_3
                try clear hcz22_4
                try clear hcz22_5
                try clear hcz22_6
                try clear hcz27_0
                try clear hcz27_1
                try clear hcz27_2
                try clear hcz27_3
                try clear hcz27_4
                try clear hcz27_5
                try clear hcz27_6
                try clear hcz30_0
                try clear hcz30_1
                try clear hcz30_2
                try clear hcz30_3
                try clear hcz30_4
                try clear hcz30_5
                try clear hcz30_6
                try clear hcz31_0
                try clear hcz31_1
                try clear hcz31_2
                try clear hcz31_3
                try clear hcz31_4
                try clear hcz31_5
                try clear hcz31_6
                try clear hcz36_0
                try clear hcz36_1
                try clear hcz36_2
                try clear hcz36_3
                try clear hcz36_4
                try clear hcz36_5
                try clear hcz36_6
                try clear hcz39_0
                try clear hcz39_1
                try clear hcz39_2
                try clear hcz42_0
                try clear hcz42_1
                try clear hcz42_2
                try clear hcz45_0
                try clear hcz45_1
                try clear hcz45_2
                try clear hcz48_0
                try clear hcz48_1
                try clear hcz48_2
                try clear hcz50_0
                try clear hcz50_1
                try clear hcz50_2
                try clear hcz53_0
                try clear hcz53_1
                try clear hcz53_2
                try clear hcz53_3
                try clear hcz53_4
                try clear hcz53_5
                try clear hcz53_6
                try clear hcz5_0
                try clear hcz5_1
                try clear hcz5_2
                try clear hcz5_3
                try clear hcz5_4
                try clear hcz5_5
                try clear hcz5_6
                try clear hcz7_0
                try clear hcz7_1
                try clear hcz7_2
                try clear hcz7_3
                try clear hcz7_4
                try clear hcz7_5
                try clear hcz7_6
                try clear hcz9_0
                try clear hcz9_1
                try clear hcz9_2
                try clear hcz9_3
                try clear hcz9_4
                try clear hcz9_5
                try clear hcz9_6
                try clear hfz11_0
                try clear hfz11_1
                try clear hfz11_2
                try clear hfz11_3
                try clear hfz11_4
                try clear hfz11_5
                try clear hfz11_6
                try clear hfz13_0
                try clear hfz13_1
                try clear hfz13_2
                try clear hfz13_3
                try clear hfz13_4
                try clear hfz13_5
                try clear hfz13_6
                try clear hfz15_0
                try clear hfz15_1
                try clear hfz15_2
                try clear hfz15_3
                try clear hfz15_4
                try clear hfz15_5
                try clear hfz15_6
                try clear hfz17_0
                try clear hfz17_1
                try clear hfz17_2
                try clear hfz17_3
                try clear hfz17_4
                try clear hfz17_5
                try clear hfz17_6
                try clear hfz19_0
                try clear hfz19_1
                try clear hfz19_2
                try clear hfz19_3
                try clear hfz19_4
                try clear hfz19_5
                try clear hfz19_6
                try clear hfz21_0
                try clear hfz21_1
                try clear hfz21_2
                try clear hfz21_3
                try clear hfz21_4
                try clear hfz21_5
                try clear hfz21_6
                try clear hfz22_0
                try clear hfz22_1
                try clear hfz22_2
                try clear hfz22_3
                try clear hfz22_4
                try clear hfz22_5
                try clear hfz22_6
                try clear hfz27_0
                try clear hfz27_1
                try clear hfz27_2
                try clear hfz27_3
                try clear hfz27_4
                try clear hfz27_5
                try clear hfz27_6
                try clear hfz30_0
                try clear hfz30_1
                try clear hfz30_2
                try clear hfz30_3
                try clear hfz30_4
                try clear hfz30_5
                try clear hfz30_6
                try clear hfz31_0
                try clear hfz31_1
                try clear hfz31_2
                try clear hfz31_3
                try clear hfz31_4
                try clear hfz31_5
                try clear hfz31_6
                try clear hfz36_0
                try clear hfz36_1
                try clear hfz36_2
                try clear hfz36_3
                try clear hfz36_4
                try clear hfz36_5
                try clear hfz36_6
                try clear hfz39_0
                try clear hfz39_1
                try clear hfz39_2
                try clear hfz42_0
                try clear hfz42_1
                try clear hfz42_2
                try clear hfz45_0
                try clear hfz45_1
                try clear hfz45_2
                try clear hfz48_0
                try clear hfz48_1
                try clear hfz48_2
                try clear hfz50_0
                try clear hfz50_1
                try clear hfz50_2
                try clear hfz53_0
                try clear hfz53_1
                try clear hfz53_2
                try clear hfz53_3
                try clear hfz53_4
                try clear hfz53_5
                try clear hfz53_6
                try clear hfz5_0
                try clear hfz5_1
                try clear hfz5_2
                try clear hfz5_3
                try clear hfz5_4
                try clear hfz5_5
                try clear hfz5_6
                try clear hfz7_0
                try clear hfz7_1
                try clear hfz7_2
                try clear hfz7_3
                try clear hfz7_4
                try clear hfz7_5
                try clear hfz7_6
                try clear hfz9_0
                try clear hfz9_1
                try clear hfz9_2
                try clear hfz9_3
                try clear hfz9_4
                try clear hfz9_5
                try clear hfz9_6
                try clear hx199_0
                try clear hx199_1
                try clear hx199_2
                try clear p1
                try clear p19
                try clear p199
                try clear p2
                try clear q1
                try clear q19
                try clear q199
                obtain ⟨x6_5, rfl, HA, HK5, BK197, BK200, HB⟩ := hrel
                cases gk with
                | zero => exact absurd HA.out (by simp [sr14_Check.l1])
                | succ k5 =>
                 have H := HA.out
                 clear HA
                 simp only [sr14_Check.l1] at H
                 by_cases c54 : x6_5 < 64
                 ·
                  rw [if_pos c54] at H
                  have c54b0 : decide (x6_5 < 64) = true := decide_eq_true c54
                  clear c54
                  replace H := Option.bind_eq_some_iff.mp H
                  obtain ⟨t201, A550, H⟩ := H
                  replace H : (if t201 = true then (some 1) else (sr14_Check.l1 k5 x4_3 (wrap64 (x6_5 + 1)) a0_0 a0_1 a0_2 a0_3 a0_4 l0_5 l0_6 ((rd_T41 l0_6 x4_3).f0) ((rd_T41 l0_6 x4_3).f1) ((rd_T41 l0_6 x4_3).f2))) = some r := H
                  have A55 := As0.mk A550
                  clear A550
                  by_cases c56 : t201 = true
                  ·
                   subst c56
                   have H1 : (some 1) = some r := by rw [if_pos rfl] at H; exact H
                   clear H
                   have H := H1
                   clear H1
                   obtain rfl := Option.some.inj H
                   have hnb57 := NB200_197.out
                   have hnc57 := NB197_200.out
                   have hcz58_0 : wr.cell? ⟨gb200, 0, none⟩ = some (.int .i64 ((rd_T41 l0_6 x4_3).f0)) := (bkc BK200.out 0).trans rfl
                   have hcz58_1 : wr.cell? ⟨gb200, 1, none⟩ = some (.int .i64 ((rd_T41 l0_6 x4_3).f1)) := (bkc BK200.out 1).trans rfl
                   have hcz58_2 : wr.cell? ⟨gb200, 2, none⟩ = some (.int .u64 ((rd_T41 l0_6 x4_3).f2)) := (bkc BK200.out 2).trans rfl
                   have hfz58_0 := bkf BK200.out 0
                   have hfz58_1 := bkf BK200.out 1
                   have hfz58_2 := bkf BK200.out 2
                   go_wp2_with (first | ((with_reducible refine gate_callee (f := 20) rfl ?_); refine goesL_ (some 111) rfl rfl Tryz.func20 (by kernel_rfl) rfl #[.int .u64 ((rd_T41 l0_6 x4_3).f2), .int .i64 x6_5] rfl (by (try simp only [List.map_toArray, List.map_cons, List.map_nil]); first | done | rfl | (simp only [List.length_drop, List.length_take]; rfl)) ?_; (with_reducible refine (sr05_Has.calls k5 ((rd_T41 l0_6 x4_3).f2) x6_5 true _ A55.out).mono ?_); rintro e w' ⟨rfl, ⟨nd, rfl⟩⟩; refine ⟨_, rfl, ?_⟩))
                   go_ret
                   exact ⟨by first | rfl | (simp [errW_none, errW_some] <;> rfl) | (simp [*, errW_none, errW_some] <;> rfl), by repeat (first | (with_reducible first | exact HB.out | apply bla | apply bln | apply bld | refine bls ?_ GE197.out | refine bls ?_ GE200.out) | exact HB.out)⟩
                  ·
                   replace c56 := Bool.eq_false_iff.mpr c56
                   subst c56
                   have H1 : (sr14_Check.l1 k5 x4_3 (wrap64 (x6_5 + 1)) a0_0 a0_1 a0_2 a0_3 a0_4 l0_5 l0_6 ((rd_T41 l0_6 x4_3).f0) ((rd_T41 l0_6 x4_3).f1) ((rd_T41 l0_6 x4_3).f2)) = some r := by rw [if_neg (show ¬ (false = true) by decide)] at H; exact H
                   clear H
                   have H := H1
                   clear H1
                   have H' := As0.mk H
                   clear H
                   have hnb59 := NB200_197.out
                   have hnc59 := NB197_200.out
                   have hcz60_0 : wr.cell? ⟨gb200, 0, none⟩ = some (.int .i64 ((rd_T41 l0_6 x4_3).f0)) := (bkc BK200.out 0).trans rfl
                   have hcz60_1 : wr.cell? ⟨gb200, 1, none⟩ = some (.int .i64 ((rd_T41 l0_6 x4_3).f1)) := (bkc BK200.out 1).trans rfl
                   have hcz60_2 : wr.cell? ⟨gb200, 2, none⟩ = some (.int .u64 ((rd_T41 l0_6 x4_3).f2)) := (bkc BK200.out 2).trans rfl
                   have hfz60_0 := bkf BK200.out 0
                   have hfz60_1 := bkf BK200.out 1
                   have hfz60_2 := bkf BK200.out 2
                   go_wp2_with (first | ((with_reducible refine gate_callee (f := 20) rfl ?_); refine goesL_ (some 111) rfl rfl Tryz.func20 (by kernel_rfl) rfl #[.int .u64 ((rd_T41 l0_6 x4_3).f2), .int .i64 x6_5] rfl (by (try simp only [List.map_toArray, List.map_cons, List.map_nil]); first | done | rfl | (simp only [List.length_drop, List.length_take]; rfl)) ?_; (with_reducible refine (sr05_Has.calls k5 ((rd_T41 l0_6 x4_3).f2) x6_5 false _ A55.out).mono ?_); rintro e w' ⟨rfl, ⟨nd, rfl⟩⟩; refine ⟨_, rfl, ?_⟩))
                   go_roundg k5
                   case measure => have := HJ1.out; have := HJ25.out; have := HK3.out; have := HJ34.out; have := HK5.out; omega
                   case rel => exact ⟨(wrap64 (x6_5 + 1)), (by first | rfl | (simp; done) | (simp [*]; done)), H', ⟨by have := HJ1.out; have := HJ25.out; have := HK3.out; have := HJ34.out; have := HK5.out; omega⟩, ⟨by (with_reducible repeat (first | refine bkn ?_ _ | refine bkd ?_ | refine bka ?_ _)); exact BK197.out⟩, ⟨by (with_reducible repeat (first | refine bkn ?_ _ | refine bkd ?_ | refine bka ?_ _)); exact BK200.out⟩, ⟨by repeat (first | (with_reducible first | exact HB.out | apply bla | apply bln | apply bld | refine bls ?_ GE197.out | refine bls ?_ GE200.out) | exact HB.out)⟩⟩
                 ·
                  rw [if_neg c54] at H
                  have c54b0 : decide (x6_5 < 64) = false := decide_eq_false c54
                  clear c54
                  have H' := As0.mk H
                  clear H
                  go_wp2
                  go_roundg k5
                  case measure => have := HJ1.out; have := HJ25.out; have := HK3.out; have := HJ34.out; have := HK5.out; omega
                  case rel => exact ⟨(wrap64 (x4_3 + 1)), (by first | rfl | (simp; done) | (simp [*]; done)), H', ⟨by have := HJ1.out; have := HJ25.out; have := HK3.out; have := HJ34.out; have := HK5.out; omega⟩, ⟨by (with_reducible repeat (first | refine bkn ?_ _ | refine bkd ?_ | refine bka ?_ _)); exact BK197.out⟩, ⟨by repeat (first | (with_reducible first | exact HB.out | apply bla | apply bln | apply bld | refine bls ?_ GE197.out | refine bls ?_ GE200.out) | exact HB.out)⟩⟩
           ·
            rw [if_neg c34] at H
            exact absurd H (by simp)
          ·
           rw [if_neg c33] at H
           have c33b0 : decide (x4_3 < (l0_6.length : Int)) = false := decide_eq_false c33
           clear c33
           obtain rfl := Option.some.inj H
           have hcz61_0 : wr.cell? ⟨gb197, 0, none⟩ = some (.int .i64 a0_0) := (bkc BK197.out 0).trans rfl
           have hcz61_1 : wr.cell? ⟨gb197, 1, none⟩ = some (.int .i64 a0_1) := (bkc BK197.out 1).trans rfl
           have hcz61_2 : wr.cell? ⟨gb197, 2, none⟩ = some (.int .i64 a0_2) := (bkc BK197.out 2).trans rfl
           have hcz61_3 : wr.cell? ⟨gb197, 3, none⟩ = some (.int .i64 a0_3) := (bkc BK197.out 3).trans rfl
           have hcz61_4 : wr.cell? ⟨gb197, 4, none⟩ = some (.int .i64 a0_4) := (bkc BK197.out 4).trans rfl
           have hcz61_5 : wr.cell? ⟨gb197, 5, none⟩ = some (.slice A0_5 l0_5.length c0_5) := (bkc BK197.out 5).trans rfl
           have hcz61_6 : wr.cell? ⟨gb197, 6, none⟩ = some (.slice A0_6 l0_6.length c0_6) := (bkc BK197.out 6).trans rfl
           have hfz61_0 := bkf BK197.out 0
           have hfz61_1 := bkf BK197.out 1
           have hfz61_2 := bkf BK197.out 2
           have hfz61_3 := bkf BK197.out 3
           have hfz61_4 := bkf BK197.out 4
           have hfz61_5 := bkf BK197.out 5
           have hfz61_6 := bkf BK197.out 6
           go_wp2
           go_ret
           exact ⟨by first | rfl | (simp [errW_none, errW_some] <;> rfl) | (simp [*, errW_none, errW_some] <;> rfl), by repeat (first | (with_reducible first | exact HB.out | apply bla | apply bln | apply bld | refine bls ?_ GE197.out) | exact HB.out)⟩
    ·
     rw [if_neg c25] at H
     have c25b0 : (t198 == 0) = false := beq_eq_false_iff_ne.mpr c25
     have c25b1 : (t198 != 0) = true := bne_iff_ne.mpr c25
     obtain rfl := Option.some.inj H
     have hcz62_0 : wc.cell? ⟨gb197, 0, none⟩ = some (.int .i64 a0_0) := (bkc BK197.out 0).trans rfl
     have hcz62_1 : wc.cell? ⟨gb197, 1, none⟩ = some (.int .i64 a0_1) := (bkc BK197.out 1).trans rfl
     have hcz62_2 : wc.cell? ⟨gb197, 2, none⟩ = some (.int .i64 a0_2) := (bkc BK197.out 2).trans rfl
     have hcz62_3 : wc.cell? ⟨gb197, 3, none⟩ = some (.int .i64 a0_3) := (bkc BK197.out 3).trans rfl
     have hcz62_4 : wc.cell? ⟨gb197, 4, none⟩ = some (.int .i64 a0_4) := (bkc BK197.out 4).trans rfl
     have hcz62_5 : wc.cell? ⟨gb197, 5, none⟩ = some (.slice A0_5 l0_5.length c0_5) := (bkc BK197.out 5).trans rfl
     have hcz62_6 : wc.cell? ⟨gb197, 6, none⟩ = some (.slice A0_6 l0_6.length c0_6) := (bkc BK197.out 6).trans rfl
     have hfz62_0 := bkf BK197.out 0
     have hfz62_1 := bkf BK197.out 1
     have hfz62_2 := bkf BK197.out 2
     have hfz62_3 := bkf BK197.out 3
     have hfz62_4 := bkf BK197.out 4
     have hfz62_5 := bkf BK197.out 5
     have hfz62_6 := bkf BK197.out 6
     go_wp2_with (first | ((with_reducible refine gate_callee (f := 19) rfl ?_); refine goesL_ (some 57) rfl rfl Tryz.func19 (by kernel_rfl) rfl #[.slice A0_5 l0_5.length c0_5] rfl (by (try simp only [List.map_toArray, List.map_cons, List.map_nil]); first | done | rfl | (simp only [List.length_drop, List.length_take]; rfl)) ?_; (with_reducible refine (sr05_Check.calls kj1 _ _ l0_5 t198 _ ?side1 ?side2 A24.out).mono ?_); (case side1 => repeat (first | exact (Kd.C_below HR0_5.out HB.out) | (with_reducible refine Kd.C_alloc ?_ _) | (with_reducible refine Kd.C_drewN ?_ _) | (with_reducible refine Kd.C_drew ?_))); (case side2 => exact HC0_5.out); rintro e w63 ⟨rfl, hb⟩; refine ⟨_, rfl, ?_⟩; have n0_ := As0.mk (blk_below (g := gb197) (o := .cells #[.int .i64 a0_0, .int .i64 a0_1, .int .i64 a0_2, .int .i64 a0_3, .int .i64 a0_4, .slice A0_5 l0_5.length c0_5, .slice A0_6 l0_6.length c0_6] 25 (0, 0)) (by (with_reducible repeat (first | refine bkn ?_ _ | refine bkd ?_ | refine bka ?_ _)); exact BK197.out) hb); have n1_ := As0.mk (below_step (by repeat (first | (with_reducible first | exact HB.out | apply bla | apply bln | apply bld | refine bls ?_ GE197.out) | exact HB.out)) hb); clear BK197; clear HB; have BK197 := n0_; have HB := n1_; clear n0_ n1_; (try clear hb); (try clear hb2); (try clear hk); (try clear hi)))
     go_ret
     exact ⟨by first | rfl | (simp [errW_none, errW_some] <;> rfl) | (simp [*, errW_none, errW_some] <;> rfl), by repeat (first | (with_reducible first | exact HB.out | apply bla | apply bln | apply bld | refine bls ?_ GE197.out) | exact HB.out)⟩
end Go.Proofs.YtmppkcdphgelcaaGreatDoor.PConf
namespace Go.Proofs.YtmppkcdphgelcaaGreatDoor.PConf
open Go.RowKit Go.Proofs.YtmppkcdphgelcaaGreatDoor.W.PrintWords Go.Proofs.YtmppkcdphgelcaaGreatDoor.W.PrintLast Go.Proofs.YtmppkcdphgelcaaGreatDoor.W.PrintMore
attribute [local go_sem] max2_int min2_int max_two min_two max_three min_three max_four min_four   -- for this text's walks alone
set_option linter.unusedVariables false
set_option linter.unusedSimpArgs false
def sr14_Number.f (a0 : Int) : Option (ByteArray) :=
 if -9223372036854775808 ≤ a0 ∧ a0 ≤ 9223372036854775807 then some ⟨(Lib.itoa a0).toArray⟩ else none
theorem sr14_Number.len (u : Nat) : (Lib.decDigits u).length ≤ u / 2 + 1 := by
 induction u using Nat.strongRecOn with
 | _ u ih =>
  rw [Lib.decDigits]
  split
  ·
   simp
  ·
   have := ih (u / 10) (by omega)
   rw [List.length_append, List.length_singleton]
   omega
structure sr14_Number.Inv (u m : Nat) (s : ByteArray) : Prop where
 zero : m = 0 → s.data.toList = Lib.decDigits u
 pos : 0 < m → Lib.decDigits m ++ s.data.toList = Lib.decDigits u
theorem sr14_Number.Inv.size {u m : Nat} {s : ByteArray} (h : sr14_Number.Inv u m s) : s.size ≤ u / 2 + 1 := by
 have hl := sr14_Number.len u
 rw [← data_length]
 rcases Nat.eq_zero_or_pos m with h0 | h0
 ·
  rw [h.zero h0]; exact hl
 ·
  rw [← h.pos h0, List.length_append] at hl; omega
theorem sr14_Number.Inv.step {u m : Nat} {s : ByteArray} (h : sr14_Number.Inv u m s) (h0 : 0 < m) : sr14_Number.Inv u (m / 10) (strOfNums [((48 + (m % 10 : Nat)) : Int)] ++ s) := by
 have hd : (strOfNums [((48 + (m % 10 : Nat)) : Int)] ++ s).data.toList = UInt8.ofNat (48 + m % 10) :: s.data.toList := by
  rw [ByteArray.data_append, Array.toList_append]
  rfl
 refine ⟨fun hz => ?_, fun hp => ?_⟩
 ·
  have hlt : m < 10 := by omega
  have := h.pos h0
  rw [Lib.decDigits_one hlt] at this
  rw [hd, ← this, Nat.mod_eq_of_lt hlt]; rfl
 ·
  have hge : ¬ m < 10 := by omega
  have := h.pos h0
  rw [Lib.decDigits, dif_neg hge] at this
  rw [hd, ← this, List.append_assoc]; rfl
theorem sr14_Number.conv (d : Nat) (hd : d ≤ 9) : ∀ W : World, (convert 76 9 (.slice (some ⟨W.heap.size, 0, none⟩) 1 1)).run Tryz.prog (W.alloc (.cells #[.int .u8 (48 + (d : Int))] 5)) = .ok (.string (strOfNums [(48 + (d : Int))])) (W.alloc (.cells #[.int .u8 (48 + (d : Int))] 5)) := by
 intro W
 refine run_convert_bytes_arg _ 76 5 Tryz.underlying76 Tryz.underlying5 W.heap.size 0 1 1 [48 + (d : Int)] rfl (fun i hi => ?_) 9 Tryz.underlying9
 obtain rfl : i = 0 := by simp at hi; omega
 rw [World.cell?_alloc_at _ _ _ _ rfl]
 rfl
theorem sr14_Number.fin {t : ByteArray} {l : List UInt8} (h : t.data.toList = l) : (⟨#[45]⟩ : ByteArray) ++ t = ⟨(45 :: l).toArray⟩ := by
 subst h
 apply ByteArray.ext
 rw [ByteArray.data_append]
 apply Array.ext'
 rw [Array.toList_append]
 rfl
set_option maxHeartbeats 3200000 in
theorem sr14_Number.neg (u : Nat) (h1 : 1 ≤ u) (h2 : u ≤ 9223372036854775808) (w : World) :
  Calls Tryz.prog 40 #[.int .i64 (-(u : Int))] w fun e w' => e = .returned (.string ⟨(45 :: Lib.decDigits u).toArray⟩) ∧ Below w.heap.size w w' := by
 have hz : ((-(u : Int)) == 0) = false := beq_eq_false_iff_ne.mpr (by omega)
 have hn : decide ((-(u : Int)) < 0) = true := decide_eq_true (by omega)
 have hI : sr14_Number.Inv u u ⟨#[]⟩ := ⟨fun h => by omega, fun _ => by simp⟩
 have HI := As0.mk hI
 have HB := As0.mk (Below.refl w.heap.size w)
 clear hI
 go_enter Tryz.func40, Tryz.ntmps40
 go_wp2
 go_loopw [0, 3, 5] (fun n s d wr => ∃ (m : Nat) (t : ByteArray), n = .int .i64 (-(m : Int)) ∧ s = .string t ∧ m ≤ u ∧ As0 (sr14_Number.Inv u m t) ∧ As0 (Below w.heap.size w wr)) (fun n _ _ _ => (-(intOf n)).toNat)
 case atStart => exact ⟨u, ⟨#[]⟩, rfl, rfl, Nat.le_refl _, HI, HB⟩
 case round =>
  clear HI
  obtain ⟨m, t, rfl, rfl, hm, HI, HBw⟩ := hrel
  have hsz := HI.out.size
  by_cases h0 : 0 < m
  ·
   have hm0 : ((-(m : Int)) == 0) = false := beq_eq_false_iff_ne.mpr (by omega)
   have hm1 : ((-(m : Int)) != 0) = true := bne_iff_ne.mpr (by omega)
   have ht : Int.tmod (-(m : Int)) 10 = -((m % 10 : Nat) : Int) := by rw [Int.neg_tmod, Int.tmod_eq_emod_of_nonneg (by omega)]; omega
   have hq : Int.tdiv (-(m : Int)) 10 = -((m / 10 : Nat) : Int) := by rw [Int.neg_tdiv, Int.tdiv_eq_ediv_of_nonneg (by omega)]; omega
   have HS := As0.mk (HI.out.step h0)
   obtain ⟨d, hd⟩ : ∃ d, d = m % 10 := ⟨_, rfl⟩
   rw [← hd] at ht HS
   have hd9 : d ≤ 9 := by omega
   have hcv : ∀ W : World, (convert 76 9 (.slice (some ⟨W.heap.size, 0, none⟩) 1 1)).run Tryz.prog (W.alloc (.cells #[.int .u8 (48 + (d : Int))] 5)) = .ok (.string (strOfNums [(48 + (d : Int))])) (W.alloc (.cells #[.int .u8 (48 + (d : Int))] 5)) := sr14_Number.conv d hd9
   have hsz2 : (strOfNums [(48 + (d : Int))]).size + t.size ≤ 9223372036854775807 := by rw [strOfNums_size]; simp; omega
   have hu8 : (48 + (d : Int)) % 256 = 48 + (d : Int) := by omega
   clear hd
   rcases Nat.eq_zero_or_pos d with hd0 | hd0
   ·
    subst hd0
    have ht0 : Int.tmod (-(m : Int)) 10 = 0 := ht
    have hcv0 : ∀ W : World, (convert 76 9 (.slice (some ⟨W.heap.size, 0, none⟩) 1 1)).run Tryz.prog (W.alloc (.cells #[.int .u8 48] 5)) = .ok (.string (strOfNums [48])) (W.alloc (.cells #[.int .u8 48] 5)) := hcv
    have hsz3 : (strOfNums [48]).size + t.size ≤ 9223372036854775807 := hsz2
    have HS0 : As0 (sr14_Number.Inv u (m / 10) (strOfNums [48] ++ t)) := HS
    clear ht hcv hsz2 hu8 HS hd9
    go_wp2
    go_roundw
    case rel => exact ⟨m / 10, strOfNums [48] ++ t, by go_num, rfl, by omega, HS0, ⟨bla HBw.out _⟩⟩
    case measure => simp [intOf]; omega
   ·
    have hneg : decide (-(d : Int) < 0) = true := decide_eq_true (by omega)
    go_wp2
    go_roundw
    case rel => exact ⟨m / 10, strOfNums [(48 + (d : Int))] ++ t, by go_num, rfl, by omega, HS, ⟨bla HBw.out _⟩⟩
    case measure => simp [intOf]; omega
  ·
   obtain rfl : m = 0 := by omega
   have HF := As0.mk (HI.out.zero rfl)
   clear HI h0 hm
   have hsz2 : 1 + t.size ≤ 9223372036854775807 := by omega
   go_wp2
   go_ret
   refine ⟨?_, HBw.out⟩
   exact congrArg (fun z => Ending.returned (.string z)) (sr14_Number.fin HF.out)
set_option maxHeartbeats 3200000 in
theorem sr14_Number.plus (u : Nat) (h1 : 1 ≤ u) (h2 : u ≤ 9223372036854775807) (w : World) :
  Calls Tryz.prog 40 #[.int .i64 (u : Int)] w fun e w' => e = .returned (.string ⟨(Lib.decDigits u).toArray⟩) ∧ Below w.heap.size w w' := by
 have hz : ((u : Int) == 0) = false := beq_eq_false_iff_ne.mpr (by omega)
 have hn : decide ((u : Int) < 0) = false := decide_eq_false (by omega)
 have hI : sr14_Number.Inv u u ⟨#[]⟩ := ⟨fun h => by omega, fun _ => by simp⟩
 have HI := As0.mk hI
 have HB := As0.mk (Below.refl w.heap.size w)
 clear hI
 go_enter Tryz.func40, Tryz.ntmps40
 go_wp2
 go_loopw [0, 3, 5] (fun n s d wr => ∃ (m : Nat) (t : ByteArray), n = .int .i64 (m : Int) ∧ s = .string t ∧ m ≤ u ∧ As0 (sr14_Number.Inv u m t) ∧ As0 (Below w.heap.size w wr)) (fun n _ _ _ => (intOf n).toNat)
 case atStart => exact ⟨u, ⟨#[]⟩, rfl, rfl, Nat.le_refl _, HI, HB⟩
 case round =>
  clear HI
  obtain ⟨m, t, rfl, rfl, hm, HI, HBw⟩ := hrel
  have hsz := HI.out.size
  by_cases h0 : 0 < m
  ·
   have hm0 : ((m : Int) == 0) = false := beq_eq_false_iff_ne.mpr (by omega)
   have hm1 : ((m : Int) != 0) = true := bne_iff_ne.mpr (by omega)
   have HS := As0.mk (HI.out.step h0)
   have hd9 : m % 10 ≤ 9 := by omega
   have hcv := sr14_Number.conv (m % 10) hd9
   have hmc : ((m % 10 : Nat) : Int) = (m : Int) % 10 := by omega
   rw [hmc] at HS hcv
   have hsz2 : (strOfNums [(48 + (m : Int) % 10)]).size + t.size ≤ 9223372036854775807 := by rw [strOfNums_size]; simp; omega
   have hu8 : (48 + (m : Int) % 10) % 256 = 48 + (m : Int) % 10 := by omega
   have hneg : decide ((m : Int) % 10 < 0) = false := decide_eq_false (by omega)
   clear hmc
   go_wp2
   go_roundw
   case rel => exact ⟨m / 10, strOfNums [(48 + (m : Int) % 10)] ++ t, by go_num, rfl, by omega, HS, ⟨bla HBw.out _⟩⟩
   case measure => simp [intOf]; omega
  ·
   obtain rfl : m = 0 := by omega
   have HF := As0.mk (HI.out.zero rfl)
   clear HI h0 hm
   go_wp2
   go_ret
   refine ⟨?_, HBw.out⟩
   exact congrArg (fun z => Ending.returned (.string z)) (ByteArray.ext (Array.ext' HF.out))
theorem sr14_Number.calls (a0 : Int) (r : ByteArray) (w : World) (h : sr14_Number.f a0 = some r) :
  Calls Tryz.prog 40 #[.int .i64 a0] w fun e w' => e = .returned (.string r) ∧ Below w.heap.size w w' := by
 unfold sr14_Number.f at h
 by_cases hs : -9223372036854775808 ≤ a0 ∧ a0 ≤ 9223372036854775807
 ·
  rw [if_pos hs] at h
  obtain rfl := Option.some.inj h
  by_cases h0 : a0 = 0
  ·
   subst h0
   have HV := As0.mk (show (⟨#[48]⟩ : ByteArray) = ⟨(Lib.itoa 0).toArray⟩ by rw [Lib.itoa, if_neg (by omega), show Int.toNat 0 = 0 from rfl, Lib.decDigits_one (by omega)]; rfl)
   go_enter Tryz.func40, Tryz.ntmps40
   go_wp2
   go_ret
   exact ⟨congrArg (fun z => Ending.returned (.string z)) HV.out, Below.refl _ _⟩
  ·
   by_cases hneg : a0 < 0
   ·
    obtain ⟨u, rfl⟩ : ∃ u : Nat, a0 = -(u : Int) := ⟨a0.natAbs, by omega⟩
    rw [Lib.itoa, if_pos hneg, show (-(u : Int)).natAbs = u by omega]
    exact sr14_Number.neg u (by omega) (by omega) w
   ·
    obtain ⟨u, rfl⟩ := Int.eq_ofNat_of_zero_le (show 0 ≤ a0 by omega)
    rw [Lib.itoa, if_neg hneg, Int.toNat_natCast]
    exact sr14_Number.plus u (by omega) (by omega) w
 ·
  rw [if_neg hs] at h
  cases h
end Go.Proofs.YtmppkcdphgelcaaGreatDoor.PConf
namespace Go.Proofs.YtmppkcdphgelcaaGreatDoor.PConf
open Go.RowKit Go.Proofs.YtmppkcdphgelcaaGreatDoor.W.PrintWords Go.Proofs.YtmppkcdphgelcaaGreatDoor.W.PrintLast Go.Proofs.YtmppkcdphgelcaaGreatDoor.W.PrintMore
attribute [local go_sem] max2_int min2_int max_two min_two max_three min_three max_four min_four   -- for this text's walks alone
set_option linter.unusedVariables false
set_option linter.unusedSimpArgs false
def sr14_Head.f (a0_0 : Int) (a0_1 : Int) (a0_2 : Int) (a0_3 : Int) (a0_4 : Int) (l0_5 : List ByteArray) (l0_6 : List (S41)) : Option (ByteArray) := (sr14_Number.f a0_0).bind fun t203 => (if 8 + t203.size ≤ 9223372036854775807 then (if ((⟨#[99, 108, 117, 115, 116, 101, 114, 32]⟩ : ByteArray) ++ t203).size + 1 ≤ 9223372036854775807 then ((sr14_Number.f a0_1).bind fun t204 => (if (((⟨#[99, 108, 117, 115, 116, 101, 114, 32]⟩ : ByteArray) ++ t203) ++ (⟨#[32]⟩ : ByteArray)).size + t204.size ≤ 9223372036854775807 then (if ((((⟨#[99, 108, 117, 115, 116, 101, 114, 32]⟩ : ByteArray) ++ t203) ++ (⟨#[32]⟩ : ByteArray)) ++ t204).size + 1 ≤ 9223372036854775807 then ((sr14_Number.f a0_2).bind fun t205 => (if (((((⟨#[99, 108, 117, 115, 116, 101, 114, 32]⟩ : ByteArray) ++ t203) ++ (⟨#[32]⟩ : ByteArray)) ++ t204) ++ (⟨#[32]⟩ : ByteArray)).size + t205.size ≤ 9223372036854775807 then (if ((((((⟨#[99, 108, 117, 115, 116, 101, 114, 32]⟩ : ByteArray) ++ t203) ++ (⟨#[32]⟩ : ByteArray)) ++ t204) ++ (⟨#[32]⟩ : ByteArray)) ++ t205).size + 1 ≤ 9223372036854775807 then ((sr14_Number.f a0_3).bind fun t206 => (if (((((((⟨#[99, 108, 117, 115, 116, 101, 114, 32]⟩ : ByteArray) ++ t203) ++ (⟨#[32]⟩ : ByteArray)) ++ t204) ++ (⟨#[32]⟩ : ByteArray)) ++ t205) ++ (⟨#[32]⟩ : ByteArray)).size + t206.size ≤ 9223372036854775807 then (if ((((((((⟨#[99, 108, 117, 115, 116, 101, 114, 32]⟩ : ByteArray) ++ t203) ++ (⟨#[32]⟩ : ByteArray)) ++ t204) ++ (⟨#[32]⟩ : ByteArray)) ++ t205) ++ (⟨#[32]⟩ : ByteArray)) ++ t206).size + 1 ≤ 9223372036854775807 then ((sr14_Number.f a0_4).bind fun t207 => (if (((((((((⟨#[99, 108, 117, 115, 116, 101, 114, 32]⟩ : ByteArray) ++ t203) ++ (⟨#[32]⟩ : ByteArray)) ++ t204) ++ (⟨#[32]⟩ : ByteArray)) ++ t205) ++ (⟨#[32]⟩ : ByteArray)) ++ t206) ++ (⟨#[32]⟩ : ByteArray)).size + t207.size ≤ 9223372036854775807 then (if ((((((((((⟨#[99, 108, 117, 115, 116, 101, 114, 32]⟩ : ByteArray) ++ t203) ++ (⟨#[32]⟩ : ByteArray)) ++ t204) ++ (⟨#[32]⟩ : ByteArray)) ++ t205) ++ (⟨#[32]⟩ : ByteArray)) ++ t206) ++ (⟨#[32]⟩ : ByteArray)) ++ t207).size + 1 ≤ 9223372036854775807 then (some (((((((((((⟨#[99, 108, 117, 115, 116, 101, 114, 32]⟩ : ByteArray) ++ t203) ++ (⟨#[32]⟩ : ByteArray)) ++ t204) ++ (⟨#[32]⟩ : ByteArray)) ++ t205) ++ (⟨#[32]⟩ : ByteArray)) ++ t206) ++ (⟨#[32]⟩ : ByteArray)) ++ t207) ++ (⟨#[10]⟩ : ByteArray))) else (none)) else (none))) else (none)) else (none))) else (none)) else (none))) else (none)) else (none))) else (none)) else (none))
def sr14_Head.T1 : Bool × List (List Nat × List Nat) := (true, [([], []), ([0], [0]), ([1], [1]), ([2], [2]), ([3], [3]), ([], []), ([5], [5]), ([6, 2], [6]), ([4, 7], [4, 7]), ([8], [8]), ([], []), ([10], [10]), ([11, 7], [11]), ([9, 12], [9, 12]), ([13], [13]), ([], []), ([15], [15]), ([16, 12], [16]), ([14, 17], [14, 17]), ([18], [18]), ([], []), ([20], [20]), ([21, 17], [21]), ([19, 22], [19, 22]), ([23], [23]), ([24, 22, 0, 1, 2, 3, 4, 5, 6, 7, 8, 9, 10, 11, 12, 13, 14, 15, 16, 17, 18, 19, 20, 21, 22, 23, 24], [24])])
def sr14_Head.B1 : List Nat := [0, 1, 3, 7, 15, 0, 32, 103, 255, 511, 0, 1024, 3303, 8191, 16383, 0, 32768, 105703, 262143, 524287, 0, 1048576, 3382503, 8388607, 16777215, 33554431]
theorem sr14_Head.tab1 : rtab .any (opsOf Tryz.f24 1) = sr14_Head.T1 := by kernel_rfl
theorem sr14_Head.bits1 : waitsOk sr14_Head.T1.2 sr14_Head.B1 = true := by kernel_rfl
set_option maxHeartbeats 8000000 in
set_option maxRecDepth 100000 in
theorem sr14_Head.calls (a0_0 : Int) (a0_1 : Int) (a0_2 : Int) (a0_3 : Int) (a0_4 : Int) (A0_5 : Option Addr) (c0_5 : Nat) (l0_5 : List ByteArray) (A0_6 : Option Addr) (c0_6 : Nat) (l0_6 : List (S41)) (r : ByteArray) (w : World) (hr0_5 : Kd.C Kd.string w A0_5 l0_5.length l0_5) (hc0_5 : l0_5.length ≤ c0_5) (hr0_6 : Kd.C k41 w A0_6 l0_6.length l0_6) (hc0_6 : l0_6.length ≤ c0_6) (h : sr14_Head.f a0_0 a0_1 a0_2 a0_3 a0_4 l0_5 l0_6 = some r) :
  Calls Tryz.prog 24 #[.agg #[.int .i64 a0_0, .int .i64 a0_1, .int .i64 a0_2, .int .i64 a0_3, .int .i64 a0_4, .slice A0_5 l0_5.length c0_5, .slice A0_6 l0_6.length c0_6]] w fun e w' => e = .returned (.string r) ∧ Below w.heap.size w w' := by
 have hu25 := Tryz.underlying25
 have HR0_5 := As0.mk hr0_5
 have HC0_5 := As0.mk hc0_5
 clear hr0_5 hc0_5
 have HR0_6 := As0.mk hr0_6
 have HC0_6 := As0.mk hc0_6
 clear hr0_6 hc0_6
 have HB := As0.mk (Below.refl w.heap.size w)
 have H : ((sr14_Number.f a0_0).bind fun t203 => (if 8 + t203.size ≤ 9223372036854775807 then (if ((⟨#[99, 108, 117, 115, 116, 101, 114, 32]⟩ : ByteArray) ++ t203).size + 1 ≤ 9223372036854775807 then ((sr14_Number.f a0_1).bind fun t204 => (if (((⟨#[99, 108, 117, 115, 116, 101, 114, 32]⟩ : ByteArray) ++ t203) ++ (⟨#[32]⟩ : ByteArray)).size + t204.size ≤ 9223372036854775807 then (if ((((⟨#[99, 108, 117, 115, 116, 101, 114, 32]⟩ : ByteArray) ++ t203) ++ (⟨#[32]⟩ : ByteArray)) ++ t204).size + 1 ≤ 9223372036854775807 then ((sr14_Number.f a0_2).bind fun t205 => (if (((((⟨#[99, 108, 117, 115, 116, 101, 114, 32]⟩ : ByteArray) ++ t203) ++ (⟨#[32]⟩ : ByteArray)) ++ t204) ++ (⟨#[32]⟩ : ByteArray)).size + t205.size ≤ 9223372036854775807 then (if ((((((⟨#[99, 108, 117, 115, 116, 101, 114, 32]⟩ : ByteArray) ++ t203) ++ (⟨#[32]⟩ : ByteArray)) ++ t204) ++ (⟨#[32]⟩ : ByteArray)) ++ t205).size + 1 ≤ 9223372036854775807 then ((sr14_Number.f a0_3).bind fun t206 => (if (((((((⟨#[99, 108, 117, 115, 116, 101, 114, 32]⟩ : ByteArray) ++ t203) ++ (⟨#[32]⟩ : ByteArray)) ++ t204) ++ (⟨#[32]⟩ : ByteArray)) ++ t205) ++ (⟨#[32]⟩ : ByteArray)).size + t206.size ≤ 9223372036854775807 then (if ((((((((⟨#[99, 108, 117, 115, 116, 101, 114, 32]⟩ : ByteArray) ++ t203) ++ (⟨#[32]⟩ : ByteArray)) ++ t204) ++ (⟨#[32]⟩ : ByteArray)) ++ t205) ++ (⟨#[32]⟩ : ByteArray)) ++ t206).size + 1 ≤ 9223372036854775807 then ((sr14_Number.f a0_4).bind fun t207 => (if (((((((((⟨#[99, 108, 117, 115, 116, 101, 114, 32]⟩ : ByteArray) ++ t203) ++ (⟨#[32]⟩ : ByteArray)) ++ t204) ++ (⟨#[32]⟩ : ByteArray)) ++ t205) ++ (⟨#[32]⟩ : ByteArray)) ++ t206) ++ (⟨#[32]⟩ : ByteArray)).size + t207.size ≤ 9223372036854775807 then (if ((((((((((⟨#[99, 108, 117, 115, 116, 101, 114, 32]⟩ : ByteArray) ++ t203) ++ (⟨#[32]⟩ : ByteArray)) ++ t204) ++ (⟨#[32]⟩ : ByteArray)) ++ t205) ++ (⟨#[32]⟩ : ByteArray)) ++ t206) ++ (⟨#[32]⟩ : ByteArray)) ++ t207).size + 1 ≤ 9223372036854775807 then (some (((((((((((⟨#[99, 108, 117, 115, 116, 101, 114, 32]⟩ : ByteArray) ++ t203) ++ (⟨#[32]⟩ : ByteArray)) ++ t204) ++ (⟨#[32]⟩ : ByteArray)) ++ t205) ++ (⟨#[32]⟩ : ByteArray)) ++ t206) ++ (⟨#[32]⟩ : ByteArray)) ++ t207) ++ (⟨#[10]⟩ : ByteArray))) else (none)) else (none))) else (none)) else (none))) else (none)) else (none))) else (none)) else (none))) else (none)) else (none))) = some r := h
 clear h
 replace H := Option.bind_eq_some_iff.mp H
 obtain ⟨t203, A20, H⟩ := H
 replace H : (if 8 + t203.size ≤ 9223372036854775807 then (if ((⟨#[99, 108, 117, 115, 116, 101, 114, 32]⟩ : ByteArray) ++ t203).size + 1 ≤ 9223372036854775807 then ((sr14_Number.f a0_1).bind fun t204 => (if (((⟨#[99, 108, 117, 115, 116, 101, 114, 32]⟩ : ByteArray) ++ t203) ++ (⟨#[32]⟩ : ByteArray)).size + t204.size ≤ 9223372036854775807 then (if ((((⟨#[99, 108, 117, 115, 116, 101, 114, 32]⟩ : ByteArray) ++ t203) ++ (⟨#[32]⟩ : ByteArray)) ++ t204).size + 1 ≤ 9223372036854775807 then ((sr14_Number.f a0_2).bind fun t205 => (if (((((⟨#[99, 108, 117, 115, 116, 101, 114, 32]⟩ : ByteArray) ++ t203) ++ (⟨#[32]⟩ : ByteArray)) ++ t204) ++ (⟨#[32]⟩ : ByteArray)).size + t205.size ≤ 9223372036854775807 then (if ((((((⟨#[99, 108, 117, 115, 116, 101, 114, 32]⟩ : ByteArray) ++ t203) ++ (⟨#[32]⟩ : ByteArray)) ++ t204) ++ (⟨#[32]⟩ : ByteArray)) ++ t205).size + 1 ≤ 9223372036854775807 then ((sr14_Number.f a0_3).bind fun t206 => (if (((((((⟨#[99, 108, 117, 115, 116, 101, 114, 32]⟩ : ByteArray) ++ t203) ++ (⟨#[32]⟩ : ByteArray)) ++ t204) ++ (⟨#[32]⟩ : ByteArray)) ++ t205) ++ (⟨#[32]⟩ : ByteArray)).size + t206.size ≤ 9223372036854775807 then (if ((((((((⟨#[99, 108, 117, 115, 116, 101, 114, 32]⟩ : ByteArray) ++ t203) ++ (⟨#[32]⟩ : ByteArray)) ++ t204) ++ (⟨#[32]⟩ : ByteArray)) ++ t205) ++ (⟨#[32]⟩ : ByteArray)) ++ t206).size + 1 ≤ 9223372036854775807 then ((sr14_Number.f a0_4).bind fun t207 => (if (((((((((⟨#[99, 108, 117, 115, 116, 101, 114, 32]⟩ : ByteArray) ++ t203) ++ (⟨#[32]⟩ : ByteArray)) ++ t204) ++ (⟨#[32]⟩ : ByteArray)) ++ t205) ++ (⟨#[32]⟩ : ByteArray)) ++ t206) ++ (⟨#[32]⟩ : ByteArray)).size + t207.size ≤ 9223372036854775807 then (if ((((((((((⟨#[99, 108, 117, 115, 116, 101, 114, 32]⟩ : ByteArray) ++ t203) ++ (⟨#[32]⟩ : ByteArray)) ++ t204) ++ (⟨#[32]⟩ : ByteArray)) ++ t205) ++ (⟨#[32]⟩ : ByteArray)) ++ t206) ++ (⟨#[32]⟩ : ByteArray)) ++ t207).size + 1 ≤ 9223372036854775807 then (some (((((((((((⟨#[99, 108, 117, 115, 116, 101, 114, 32]⟩ : ByteArray) ++ t203) ++ (⟨#[32]⟩ : ByteArray)) ++ t204) ++ (⟨#[32]⟩ : ByteArray)) ++ t205) ++ (⟨#[32]⟩ : ByteArray)) ++ t206) ++ (⟨#[32]⟩ : ByteArray)) ++ t207) ++ (⟨#[10]⟩ : ByteArray))) else (none)) else (none))) else (none)) else (none))) else (none)) else (none))) else (none)) else (none))) else (none)) else (none)) = some r := H
 have A2 := As0.mk A20
 clear A20
 by_cases c3 : 8 + t203.size ≤ 9223372036854775807
 ·
  rw [if_pos c3] at H
  have c3b0 := eq_true c3
  have c3b1 : decide (8 + t203.size ≤ 9223372036854775807) = true := decide_eq_true c3
  try have c3b2 : (9223372036854775807 < 8 + t203.size) = False := eq_false (Nat.not_lt.2 c3)
  by_cases c4 : ((⟨#[99, 108, 117, 115, 116, 101, 114, 32]⟩ : ByteArray) ++ t203).size + 1 ≤ 9223372036854775807
  ·
   rw [if_pos c4] at H
   have c4b0 := eq_true c4
   have c4n : (9223372036854775807 < 8 + t203.size + 1) = False := eq_false (Nat.not_lt.2 (by have h_ := c4; simp only [ByteArray.size_append] at h_; exact h_))
   have c4b1 : decide (((⟨#[99, 108, 117, 115, 116, 101, 114, 32]⟩ : ByteArray) ++ t203).size + 1 ≤ 9223372036854775807) = true := decide_eq_true c4
   try have c4b2 : (9223372036854775807 < ((⟨#[99, 108, 117, 115, 116, 101, 114, 32]⟩ : ByteArray) ++ t203).size + 1) = False := eq_false (Nat.not_lt.2 c4)
   replace H := Option.bind_eq_some_iff.mp H
   obtain ⟨t204, A50, H⟩ := H
   replace H : (if (((⟨#[99, 108, 117, 115, 116, 101, 114, 32]⟩ : ByteArray) ++ t203) ++ (⟨#[32]⟩ : ByteArray)).size + t204.size ≤ 9223372036854775807 then (if ((((⟨#[99, 108, 117, 115, 116, 101, 114, 32]⟩ : ByteArray) ++ t203) ++ (⟨#[32]⟩ : ByteArray)) ++ t204).size + 1 ≤ 9223372036854775807 then ((sr14_Number.f a0_2).bind fun t205 => (if (((((⟨#[99, 108, 117, 115, 116, 101, 114, 32]⟩ : ByteArray) ++ t203) ++ (⟨#[32]⟩ : ByteArray)) ++ t204) ++ (⟨#[32]⟩ : ByteArray)).size + t205.size ≤ 9223372036854775807 then (if ((((((⟨#[99, 108, 117, 115, 116, 101, 114, 32]⟩ : ByteArray) ++ t203) ++ (⟨#[32]⟩ : ByteArray)) ++ t204) ++ (⟨#[32]⟩ : ByteArray)) ++ t205).size + 1 ≤ 9223372036854775807 then ((sr14_Number.f a0_3).bind fun t206 => (if (((((((⟨#[99, 108, 117, 115, 116, 101, 114, 32]⟩ : ByteArray) ++ t203) ++ (⟨#[32]⟩ : ByteArray)) ++ t204) ++ (⟨#[32]⟩ : ByteArray)) ++ t205) ++ (⟨#[32]⟩ : ByteArray)).size + t206.size ≤ 9223372036854775807 then (if ((((((((⟨#[99, 108, 117, 115, 116, 101, 114, 32]⟩ : ByteArray) ++ t203) ++ (⟨#[32]⟩ : ByteArray)) ++ t204) ++ (⟨#[32]⟩ : ByteArray)) ++ t205) ++ (⟨#[32]⟩ : ByteArray)) ++ t206).size + 1 ≤ 9223372036854775807 then ((sr14_Number.f a0_4).bind fun t207 => (if (((((((((⟨#[99, 108, 117, 115, 116, 101, 114, 32]⟩ : ByteArray) ++ t203) ++ (⟨#[32]⟩ : ByteArray)) ++ t204) ++ (⟨#[32]⟩ : ByteArray)) ++ t205) ++ (⟨#[32]⟩ : ByteArray)) ++ t206) ++ (⟨#[32]⟩ : ByteArray)).size + t207.size ≤ 9223372036854775807 then (if ((((((((((⟨#[99, 108, 117, 115, 116, 101, 114, 32]⟩ : ByteArray) ++ t203) ++ (⟨#[32]⟩ : ByteArray)) ++ t204) ++ (⟨#[32]⟩ : ByteArray)) ++ t205) ++ (⟨#[32]⟩ : ByteArray)) ++ t206) ++ (⟨#[32]⟩ : ByteArray)) ++ t207).size + 1 ≤ 9223372036854775807 then (some (((((((((((⟨#[99, 108, 117, 115, 116, 101, 114, 32]⟩ : ByteArray) ++ t203) ++ (⟨#[32]⟩ : ByteArray)) ++ t204) ++ (⟨#[32]⟩ : ByteArray)) ++ t205) ++ (⟨#[32]⟩ : ByteArray)) ++ t206) ++ (⟨#[32]⟩ : ByteArray)) ++ t207) ++ (⟨#[10]⟩ : ByteArray))) else (none)) else (none))) else (none)) else (none))) else (none)) else (none))) else (none)) else (none)) = some r := H
   have A5 := As0.mk A50
   clear A50
   by_cases c6 : (((⟨#[99, 108, 117, 115, 116, 101, 114, 32]⟩ : ByteArray) ++ t203) ++ (⟨#[32]⟩ : ByteArray)).size + t204.size ≤ 9223372036854775807
   ·
    rw [if_pos c6] at H
    have c6b0 := eq_true c6
    have c6n : (9223372036854775807 < 8 + t203.size + 1 + t204.size) = False := eq_false (Nat.not_lt.2 (by have h_ := c6; simp only [ByteArray.size_append] at h_; exact h_))
    have c6b1 : decide ((((⟨#[99, 108, 117, 115, 116, 101, 114, 32]⟩ : ByteArray) ++ t203) ++ (⟨#[32]⟩ : ByteArray)).size + t204.size ≤ 9223372036854775807) = true := decide_eq_true c6
    try have c6b2 : (9223372036854775807 < (((⟨#[99, 108, 117, 115, 116, 101, 114, 32]⟩ : ByteArray) ++ t203) ++ (⟨#[32]⟩ : ByteArray)).size + t204.size) = False := eq_false (Nat.not_lt.2 c6)
    by_cases c7 : ((((⟨#[99, 108, 117, 115, 116, 101, 114, 32]⟩ : ByteArray) ++ t203) ++ (⟨#[32]⟩ : ByteArray)) ++ t204).size + 1 ≤ 9223372036854775807
    ·
     rw [if_pos c7] at H
     have c7b0 := eq_true c7
     have c7n : (9223372036854775807 < 8 + t203.size + 1 + t204.size + 1) = False := eq_false (Nat.not_lt.2 (by have h_ := c7; simp only [ByteArray.size_append] at h_; exact h_))
     have c7b1 : decide (((((⟨#[99, 108, 117, 115, 116, 101, 114, 32]⟩ : ByteArray) ++ t203) ++ (⟨#[32]⟩ : ByteArray)) ++ t204).size + 1 ≤ 9223372036854775807) = true := decide_eq_true c7
     try have c7b2 : (9223372036854775807 < ((((⟨#[99, 108, 117, 115, 116, 101, 114, 32]⟩ : ByteArray) ++ t203) ++ (⟨#[32]⟩ : ByteArray)) ++ t204).size + 1) = False := eq_false (Nat.not_lt.2 c7)
     replace H := Option.bind_eq_some_iff.mp H
     obtain ⟨t205, A80, H⟩ := H
     replace H : (if (((((⟨#[99, 108, 117, 115, 116, 101, 114, 32]⟩ : ByteArray) ++ t203) ++ (⟨#[32]⟩ : ByteArray)) ++ t204) ++ (⟨#[32]⟩ : ByteArray)).size + t205.size ≤ 9223372036854775807 then (if ((((((⟨#[99, 108, 117, 115, 116, 101, 114, 32]⟩ : ByteArray) ++ t203) ++ (⟨#[32]⟩ : ByteArray)) ++ t204) ++ (⟨#[32]⟩ : ByteArray)) ++ t205).size + 1 ≤ 9223372036854775807 then ((sr14_Number.f a0_3).bind fun t206 => (if (((((((⟨#[99, 108, 117, 115, 116, 101, 114, 32]⟩ : ByteArray) ++ t203) ++ (⟨#[32]⟩ : ByteArray)) ++ t204) ++ (⟨#[32]⟩ : ByteArray)) ++ t205) ++ (⟨#[32]⟩ : ByteArray)).size + t206.size ≤ 9223372036854775807 then (if ((((((((⟨#[99, 108, 117, 115, 116, 101, 114, 32]⟩ : ByteArray) ++ t203) ++ (⟨#[32]⟩ : ByteArray)) ++ t204) ++ (⟨#[32]⟩ : ByteArray)) ++ t205) ++ (⟨#[32]⟩ : ByteArray)) ++ t206).size + 1 ≤ 9223372036854775807 then ((sr14_Number.f a0_4).bind fun t207 => (if (((((((((⟨#[99, 108, 117, 115, 116, 101, 114, 32]⟩ : ByteArray) ++ t203) ++ (⟨#[32]⟩ : ByteArray)) ++ t204) ++ (⟨#[32]⟩ : ByteArray)) ++ t205) ++ (⟨#[32]⟩ : ByteArray)) ++ t206) ++ (⟨#[32]⟩ : ByteArray)).size + t207.size ≤ 9223372036854775807 then (if ((((((((((⟨#[99, 108, 117, 115, 116, 101, 114, 32]⟩ : ByteArray) ++ t203) ++ (⟨#[32]⟩ : ByteArray)) ++ t204) ++ (⟨#[32]⟩ : ByteArray)) ++ t205) ++ (⟨#[32]⟩ : ByteArray)) ++ t206) ++ (⟨#[32]⟩ : ByteArray)) ++ t207).size + 1 ≤ 9223372036854775807 then (some (((((((((((⟨#[99, 108, 117, 115, 116, 101, 114, 32]⟩ : ByteArray) ++ t203) ++ (⟨#[32]⟩ : ByteArray)) ++ t204) ++ (⟨#[32]⟩ : ByteArray)) ++ t205) ++ (⟨#[32]⟩ : ByteArray)) ++ t206) ++ (⟨#[32]⟩ : ByteArray)) ++ t207) ++ (⟨#[10]⟩ : ByteArray))) else (none)) else (none))) else (none)) else (none))) else (none)) else (none)) = some r := H
     have A8 := As0.mk A80
     clear A80
     by_cases c9 : (((((⟨#[99, 108, 117, 115, 116, 101, 114, 32]⟩ : ByteArray) ++ t203) ++ (⟨#[32]⟩ : ByteArray)) ++ t204) ++ (⟨#[32]⟩ : ByteArray)).size + t205.size ≤ 9223372036854775807
     ·
      rw [if_pos c9] at H
      have c9b0 := eq_true c9
      have c9n : (9223372036854775807 < 8 + t203.size + 1 + t204.size + 1 + t205.size) = False := eq_false (Nat.not_lt.2 (by have h_ := c9; simp only [ByteArray.size_append] at h_; exact h_))
      have c9b1 : decide ((((((⟨#[99, 108, 117, 115, 116, 101, 114, 32]⟩ : ByteArray) ++ t203) ++ (⟨#[32]⟩ : ByteArray)) ++ t204) ++ (⟨#[32]⟩ : ByteArray)).size + t205.size ≤ 9223372036854775807) = true := decide_eq_true c9
      try have c9b2 : (9223372036854775807 < (((((⟨#[99, 108, 117, 115, 116, 101, 114, 32]⟩ : ByteArray) ++ t203) ++ (⟨#[32]⟩ : ByteArray)) ++ t204) ++ (⟨#[32]⟩ : ByteArray)).size + t205.size) = False := eq_false (Nat.not_lt.2 c9)
      by_cases c10 : ((((((⟨#[99, 108, 117, 115, 116, 101, 114, 32]⟩ : ByteArray) ++ t203) ++ (⟨#[32]⟩ : ByteArray)) ++ t204) ++ (⟨#[32]⟩ : ByteArray)) ++ t205).size + 1 ≤ 9223372036854775807
      ·
       rw [if_pos c10] at H
       have c10b0 := eq_true c10
       have c10n : (9223372036854775807 < 8 + t203.size + 1 + t204.size + 1 + t205.size + 1) = False := eq_false (Nat.not_lt.2 (by have h_ := c10; simp only [ByteArray.size_append] at h_; exact h_))
       have c10b1 : decide (((((((⟨#[99, 108, 117, 115, 116, 101, 114, 32]⟩ : ByteArray) ++ t203) ++ (⟨#[32]⟩ : ByteArray)) ++ t204) ++ (⟨#[32]⟩ : ByteArray)) ++ t205).size + 1 ≤ 9223372036854775807) = true := decide_eq_true c10
       try have c10b2 : (9223372036854775807 < ((((((⟨#[99, 108, 117, 115, 116, 101, 114, 32]⟩ : ByteArray) ++ t203) ++ (⟨#[32]⟩ : ByteArray)) ++ t204) ++ (⟨#[32]⟩ : ByteArray)) ++ t205).size + 1) = False := eq_false (Nat.not_lt.2 c10)
       replace H := Option.bind_eq_some_iff.mp H
       obtain ⟨t206, A110, H⟩ := H
       replace H : (if (((((((⟨#[99, 108, 117, 115, 116, 101, 114, 32]⟩ : ByteArray) ++ t203) ++ (⟨#[32]⟩ : ByteArray)) ++ t204) ++ (⟨#[32]⟩ : ByteArray)) ++ t205) ++ (⟨#[32]⟩ : ByteArray)).size + t206.size ≤ 9223372036854775807 then (if ((((((((⟨#[99, 108, 117, 115, 116, 101, 114, 32]⟩ : ByteArray) ++ t203) ++ (⟨#[32]⟩ : ByteArray)) ++ t204) ++ (⟨#[32]⟩ : ByteArray)) ++ t205) ++ (⟨#[32]⟩ : ByteArray)) ++ t206).size + 1 ≤ 9223372036854775807 then ((sr14_Number.f a0_4).bind fun t207 => (if (((((((((⟨#[99, 108, 117, 115, 116, 101, 114, 32]⟩ : ByteArray) ++ t203) ++ (⟨#[32]⟩ : ByteArray)) ++ t204) ++ (⟨#[32]⟩ : ByteArray)) ++ t205) ++ (⟨#[32]⟩ : ByteArray)) ++ t206) ++ (⟨#[32]⟩ : ByteArray)).size + t207.size ≤ 9223372036854775807 then (if ((((((((((⟨#[99, 108, 117, 115, 116, 101, 114, 32]⟩ : ByteArray) ++ t203) ++ (⟨#[32]⟩ : ByteArray)) ++ t204) ++ (⟨#[32]⟩ : ByteArray)) ++ t205) ++ (⟨#[32]⟩ : ByteArray)) ++ t206) ++ (⟨#[32]⟩ : ByteArray)) ++ t207).size + 1 ≤ 9223372036854775807 then (some (((((((((((⟨#[99, 108, 117, 115, 116, 101, 114, 32]⟩ : ByteArray) ++ t203) ++ (⟨#[32]⟩ : ByteArray)) ++ t204) ++ (⟨#[32]⟩ : ByteArray)) ++ t205) ++ (⟨#[32]⟩ : ByteArray)) ++ t206) ++ (⟨#[32]⟩ : ByteArray)) ++ t207) ++ (⟨#[10]⟩ : ByteArray))) else (none)) else (none))) else (none)) else (none)) = some r := H
       have A11 := As0.mk A110
       clear A110
       by_cases c12 : (((((((⟨#[99, 108, 117, 115, 116, 101, 114, 32]⟩ : ByteArray) ++ t203) ++ (⟨#[32]⟩ : ByteArray)) ++ t204) ++ (⟨#[32]⟩ : ByteArray)) ++ t205) ++ (⟨#[32]⟩ : ByteArray)).size + t206.size ≤ 9223372036854775807
       ·
        rw [if_pos c12] at H
        have c12b0 := eq_true c12
        have c12n : (9223372036854775807 < 8 + t203.size + 1 + t204.size + 1 + t205.size + 1 + t206.size) = False := eq_false (Nat.not_lt.2 (by have h_ := c12; simp only [ByteArray.size_append] at h_; exact h_))
        have c12b1 : decide ((((((((⟨#[99, 108, 117, 115, 116, 101, 114, 32]⟩ : ByteArray) ++ t203) ++ (⟨#[32]⟩ : ByteArray)) ++ t204) ++ (⟨#[32]⟩ : ByteArray)) ++ t205) ++ (⟨#[32]⟩ : ByteArray)).size + t206.size ≤ 9223372036854775807) = true := decide_eq_true c12
        try have c12b2 : (9223372036854775807 < (((((((⟨#[99, 108, 117, 115, 116, 101, 114, 32]⟩ : ByteArray) ++ t203) ++ (⟨#[32]⟩ : ByteArray)) ++ t204) ++ (⟨#[32]⟩ : ByteArray)) ++ t205) ++ (⟨#[32]⟩ : ByteArray)).size + t206.size) = False := eq_false (Nat.not_lt.2 c12)
        by_cases c13 : ((((((((⟨#[99, 108, 117, 115, 116, 101, 114, 32]⟩ : ByteArray) ++ t203) ++ (⟨#[32]⟩ : ByteArray)) ++ t204) ++ (⟨#[32]⟩ : ByteArray)) ++ t205) ++ (⟨#[32]⟩ : ByteArray)) ++ t206).size + 1 ≤ 9223372036854775807
        ·
         rw [if_pos c13] at H
         have c13b0 := eq_true c13
         have c13n : (9223372036854775807 < 8 + t203.size + 1 + t204.size + 1 + t205.size + 1 + t206.size + 1) = False := eq_false (Nat.not_lt.2 (by have h_ := c13; simp only [ByteArray.size_append] at h_; exact h_))
         have c13b1 : decide (((((((((⟨#[99, 108, 117, 115, 116, 101, 114, 32]⟩ : ByteArray) ++ t203) ++ (⟨#[32]⟩ : ByteArray)) ++ t204) ++ (⟨#[32]⟩ : ByteArray)) ++ t205) ++ (⟨#[32]⟩ : ByteArray)) ++ t206).size + 1 ≤ 9223372036854775807) = true := decide_eq_true c13
         try have c13b2 : (9223372036854775807 < ((((((((⟨#[99, 108, 117, 115, 116, 101, 114, 32]⟩ : ByteArray) ++ t203) ++ (⟨#[32]⟩ : ByteArray)) ++ t204) ++ (⟨#[32]⟩ : ByteArray)) ++ t205) ++ (⟨#[32]⟩ : ByteArray)) ++ t206).size + 1) = False := eq_false (Nat.not_lt.2 c13)
         replace H := Option.bind_eq_some_iff.mp H
         obtain ⟨t207, A140, H⟩ := H
         replace H : (if (((((((((⟨#[99, 108, 117, 115, 116, 101, 114, 32]⟩ : ByteArray) ++ t203) ++ (⟨#[32]⟩ : ByteArray)) ++ t204) ++ (⟨#[32]⟩ : ByteArray)) ++ t205) ++ (⟨#[32]⟩ : ByteArray)) ++ t206) ++ (⟨#[32]⟩ : ByteArray)).size + t207.size ≤ 9223372036854775807 then (if ((((((((((⟨#[99, 108, 117, 115, 116, 101, 114, 32]⟩ : ByteArray) ++ t203) ++ (⟨#[32]⟩ : ByteArray)) ++ t204) ++ (⟨#[32]⟩ : ByteArray)) ++ t205) ++ (⟨#[32]⟩ : ByteArray)) ++ t206) ++ (⟨#[32]⟩ : ByteArray)) ++ t207).size + 1 ≤ 9223372036854775807 then (some (((((((((((⟨#[99, 108, 117, 115, 116, 101, 114, 32]⟩ : ByteArray) ++ t203) ++ (⟨#[32]⟩ : ByteArray)) ++ t204) ++ (⟨#[32]⟩ : ByteArray)) ++ t205) ++ (⟨#[32]⟩ : ByteArray)) ++ t206) ++ (⟨#[32]⟩ : ByteArray)) ++ t207) ++ (⟨#[10]⟩ : ByteArray))) else (none)) else (none)) = some r := H
         have A14 := As0.mk A140
         clear A140
         by_cases c15 : (((((((((⟨#[99, 108, 117, 115, 116, 101, 114, 32]⟩ : ByteArray) ++ t203) ++ (⟨#[32]⟩ : ByteArray)) ++ t204) ++ (⟨#[32]⟩ : ByteArray)) ++ t205) ++ (⟨#[32]⟩ : ByteArray)) ++ t206) ++ (⟨#[32]⟩ : ByteArray)).size + t207.size ≤ 9223372036854775807
         ·
          rw [if_pos c15] at H
          have c15b0 := eq_true c15
          have c15n : (9223372036854775807 < 8 + t203.size + 1 + t204.size + 1 + t205.size + 1 + t206.size + 1 + t207.size) = False := eq_false (Nat.not_lt.2 (by have h_ := c15; simp only [ByteArray.size_append] at h_; exact h_))
          have c15b1 : decide ((((((((((⟨#[99, 108, 117, 115, 116, 101, 114, 32]⟩ : ByteArray) ++ t203) ++ (⟨#[32]⟩ : ByteArray)) ++ t204) ++ (⟨#[32]⟩ : ByteArray)) ++ t205) ++ (⟨#[32]⟩ : ByteArray)) ++ t206) ++ (⟨#[32]⟩ : ByteArray)).size + t207.size ≤ 9223372036854775807) = true := decide_eq_true c15
          try have c15b2 : (9223372036854775807 < (((((((((⟨#[99, 108, 117, 115, 116, 101, 114, 32]⟩ : ByteArray) ++ t203) ++ (⟨#[32]⟩ : ByteArray)) ++ t204) ++ (⟨#[32]⟩ : ByteArray)) ++ t205) ++ (⟨#[32]⟩ : ByteArray)) ++ t206) ++ (⟨#[32]⟩ : ByteArray)).size + t207.size) = False := eq_false (Nat.not_lt.2 c15)
          by_cases c16 : ((((((((((⟨#[99, 108, 117, 115, 116, 101, 114, 32]⟩ : ByteArray) ++ t203) ++ (⟨#[32]⟩ : ByteArray)) ++ t204) ++ (⟨#[32]⟩ : ByteArray)) ++ t205) ++ (⟨#[32]⟩ : ByteArray)) ++ t206) ++ (⟨#[32]⟩ : ByteArray)) ++ t207).size + 1 ≤ 9223372036854775807
          ·
           rw [if_pos c16] at H
           have c16b0 := eq_true c16
           have c16n : (9223372036854775807 < 8 + t203.size + 1 + t204.size + 1 + t205.size + 1 + t206.size + 1 + t207.size + 1) = False := eq_false (Nat.not_lt.2 (by have h_ := c16; simp only [ByteArray.size_append] at h_; exact h_))
           have c16b1 : decide (((((((((((⟨#[99, 108, 117, 115, 116, 101, 114, 32]⟩ : ByteArray) ++ t203) ++ (⟨#[32]⟩ : ByteArray)) ++ t204) ++ (⟨#[32]⟩ : ByteArray)) ++ t205) ++ (⟨#[32]⟩ : ByteArray)) ++ t206) ++ (⟨#[32]⟩ : ByteArray)) ++ t207).size + 1 ≤ 9223372036854775807) = true := decide_eq_true c16
           try have c16b2 : (9223372036854775807 < ((((((((((⟨#[99, 108, 117, 115, 116, 101, 114, 32]⟩ : ByteArray) ++ t203) ++ (⟨#[32]⟩ : ByteArray)) ++ t204) ++ (⟨#[32]⟩ : ByteArray)) ++ t205) ++ (⟨#[32]⟩ : ByteArray)) ++ t206) ++ (⟨#[32]⟩ : ByteArray)) ++ t207).size + 1) = False := eq_false (Nat.not_lt.2 c16)
           obtain rfl := Option.some.inj H
           go_enter Tryz.func24, Tryz.ntmps24
           try go_wp2_with (first | ((with_reducible refine gate_dst (N := 1) rfl ?_); refine box_event ?hg (N := 1) ?hd (cs := #[.int .i64 a0_0, .int .i64 a0_1, .int .i64 a0_2, .int .i64 a0_3, .int .i64 a0_4, .slice A0_5 l0_5.length c0_5, .slice A0_6 l0_6.length c0_6]) (t := 25) ?hr ?_; (case hd => rfl); (case hg => rfl); (case hr => first | (go_simp; done) | (go_simp; rfl)); intro gb202 hg w17 hbox hb; have n0_ := As0.mk (below_step (by repeat (first | (with_reducible first | exact HB.out | apply bla | apply bln | apply bld) | exact HB.out)) hb); have n1_ := As0.mk (hbox); have n2_ := As0.mk ((by rw [hg]; exact (below_size (by repeat (first | (with_reducible first | exact HB.out | apply bla | apply bln | apply bld) | exact HB.out))) : w.heap.size ≤ gb202)); have n3_ := As0.mk ((by rw [hg]; exact (below_size (by repeat (first | (with_reducible first | exact HB.out | apply bla | apply bln | apply bld) | exact HB.out))) : w.heap.size ≤ gb202)); clear HB; have HB := n0_; have BK202 := n1_; have GW202 := n2_; have GE202 := n3_; clear n0_ n1_ n2_ n3_; clear hb hbox hg))
           have n0_ := As0.mk (bkd BK202.out)
           have n1_ := As0.mk (bld HB.out)
           clear BK202
           clear HB
           have BK202 := n0_
           have HB := n1_
           clear n0_ n1_
           refine start_ (n := 26) (S := fun w' => w'.cell? ⟨gb202, 0, none⟩ = some (.int .i64 a0_0) ∧ w'.cell? ⟨gb202, 1, none⟩ = some (.int .i64 a0_1) ∧ w'.cell? ⟨gb202, 2, none⟩ = some (.int .i64 a0_2) ∧ w'.cell? ⟨gb202, 3, none⟩ = some (.int .i64 a0_3) ∧ w'.cell? ⟨gb202, 4, none⟩ = some (.int .i64 a0_4) ∧ w'.cell? ⟨gb202, 5, none⟩ = some (.slice A0_5 l0_5.length c0_5) ∧ w'.cell? ⟨gb202, 6, none⟩ = some (.slice A0_6 l0_6.length c0_6)) (ds := []) #[false, false, false, false, false, false, false, false, false, false, false, false, false, false, false, false, false, false, false, false, false, false, false, false, false, false] (by kernel_rfl) rfl rfl ⟨(bkc BK202.out 0).trans rfl, (bkc BK202.out 1).trans rfl, (bkc BK202.out 2).trans rfl, (bkc BK202.out 3).trans rfl, (bkc BK202.out 4).trans rfl, (bkc BK202.out 5).trans rfl, (bkc BK202.out 6).trans rfl⟩ (fun hHeld => ?_); refine with_tabW sr14_Head.tab1 sr14_Head.bits1 (fun HT_ HW_ => ?_)
           generalize w17.drew = w18 at BK202 HB hHeld ⊢
           refine pure_ (i := 0) (N := some 3) (v := ?_) (a' := ?_) #[true, false, false, false, false, false, false, false, false, false, false, false, false, false, false, false, false, false, false, false, false, false, false, false, false, false] rfl rfl (any_of HT_.out (by kernel_rfl)) (fun _ _ _ h => h) (Or.inl ⟨by rfl, ?_⟩) ?_ ?_
           rotate_left
           ·
            intro w'
            go_simp
            with_reducible rfl
           rotate_left
           ·
            simp only [Act.put, List.setIfInBounds_toArray, List.set_cons_zero, List.set_cons_succ, i64_w, i32_w]
            rfl
           refine pure_ (i := 5) (N := some 8) (v := ?_) (a' := ?_) #[true, false, false, false, false, true, false, false, false, false, false, false, false, false, false, false, false, false, false, false, false, false, false, false, false, false] rfl rfl (any_of HT_.out (by kernel_rfl)) (fun _ _ _ h => h) (Or.inl ⟨by rfl, ?_⟩) ?_ ?_
           rotate_left
           ·
            intro w'
            go_simp
            with_reducible rfl
           rotate_left
           ·
            simp only [Act.put, List.setIfInBounds_toArray, List.set_cons_zero, List.set_cons_succ, i64_w, i32_w]
            rfl
           refine pure_ (i := 10) (N := some 13) (v := ?_) (a' := ?_) #[true, false, false, false, false, true, false, false, false, false, true, false, false, false, false, false, false, false, false, false, false, false, false, false, false, false] rfl rfl (any_of HT_.out (by kernel_rfl)) (fun _ _ _ h => h) (Or.inl ⟨by rfl, ?_⟩) ?_ ?_
           rotate_left
           ·
            intro w'
            go_simp
            with_reducible rfl
           rotate_left
           ·
            simp only [Act.put, List.setIfInBounds_toArray, List.set_cons_zero, List.set_cons_succ, i64_w, i32_w]
            rfl
           refine pure_ (i := 15) (N := some 18) (v := ?_) (a' := ?_) #[true, false, false, false, false, true, false, false, false, false, true, false, false, false, false, true, false, false, false, false, false, false, false, false, false, false] rfl rfl (any_of HT_.out (by kernel_rfl)) (fun _ _ _ h => h) (Or.inl ⟨by rfl, ?_⟩) ?_ ?_
           rotate_left
           ·
            intro w'
            go_simp
            with_reducible rfl
           rotate_left
           ·
            simp only [Act.put, List.setIfInBounds_toArray, List.set_cons_zero, List.set_cons_succ, i64_w, i32_w]
            rfl
           refine pure_ (i := 20) (N := some 23) (v := ?_) (a' := ?_) #[true, false, false, false, false, true, false, false, false, false, true, false, false, false, false, true, false, false, false, false, true, false, false, false, false, false] rfl rfl (any_of HT_.out (by kernel_rfl)) (fun _ _ _ h => h) (Or.inl ⟨by rfl, ?_⟩) ?_ ?_
           rotate_left
           ·
            intro w'
            go_simp
            with_reducible rfl
           rotate_left
           ·
            simp only [Act.put, List.setIfInBounds_toArray, List.set_cons_zero, List.set_cons_succ, i64_w, i32_w]
            rfl
           refine take_ (i := 1) (N := some 4) (v := ?_) (a' := ?_) #[true, true, false, false, false, true, false, false, false, false, true, false, false, false, false, true, false, false, false, false, true, false, false, false, false, false] rfl rfl (take_ofW HT_.out HW_.out (by kernel_rfl)) (fun _ _ _ h => h) (Or.inl ⟨by rfl, ?_⟩) hHeld ?_ ?_
           rotate_left
           ·
            rintro w' ⟨s0, s1, s2, s3, s4, s5, s6⟩
            go_simp
            with_reducible rfl
           rotate_left
           ·
            simp only [Act.put, List.setIfInBounds_toArray, List.set_cons_zero, List.set_cons_succ, i64_w, i32_w]
            rfl
           refine take_ (i := 6) (N := some 9) (v := ?_) (a' := ?_) #[true, true, false, false, false, true, true, false, false, false, true, false, false, false, false, true, false, false, false, false, true, false, false, false, false, false] rfl rfl (take_ofW HT_.out HW_.out (by kernel_rfl)) (fun _ _ _ h => h) (Or.inl ⟨by rfl, ?_⟩) hHeld ?_ ?_
           rotate_left
           ·
            rintro w' ⟨s0, s1, s2, s3, s4, s5, s6⟩
            go_simp
            with_reducible rfl
           rotate_left
           ·
            simp only [Act.put, List.setIfInBounds_toArray, List.set_cons_zero, List.set_cons_succ, i64_w, i32_w]
            rfl
           refine take_ (i := 11) (N := some 14) (v := ?_) (a' := ?_) #[true, true, false, false, false, true, true, false, false, false, true, true, false, false, false, true, false, false, false, false, true, false, false, false, false, false] rfl rfl (take_ofW HT_.out HW_.out (by kernel_rfl)) (fun _ _ _ h => h) (Or.inl ⟨by rfl, ?_⟩) hHeld ?_ ?_
           rotate_left
           ·
            rintro w' ⟨s0, s1, s2, s3, s4, s5, s6⟩
            go_simp
            with_reducible rfl
           rotate_left
           ·
            simp only [Act.put, List.setIfInBounds_toArray, List.set_cons_zero, List.set_cons_succ, i64_w, i32_w]
            rfl
           refine take_ (i := 16) (N := some 19) (v := ?_) (a' := ?_) #[true, true, false, false, false, true, true, false, false, false, true, true, false, false, false, true, true, false, false, false, true, false, false, false, false, false] rfl rfl (take_ofW HT_.out HW_.out (by kernel_rfl)) (fun _ _ _ h => h) (Or.inl ⟨by rfl, ?_⟩) hHeld ?_ ?_
           rotate_left
           ·
            rintro w' ⟨s0, s1, s2, s3, s4, s5, s6⟩
            go_simp
            with_reducible rfl
           rotate_left
           ·
            simp only [Act.put, List.setIfInBounds_toArray, List.set_cons_zero, List.set_cons_succ, i64_w, i32_w]
            rfl
           refine take_ (i := 21) (N := some 24) (v := ?_) (a' := ?_) #[true, true, false, false, false, true, true, false, false, false, true, true, false, false, false, true, true, false, false, false, true, true, false, false, false, false] rfl rfl (take_ofW HT_.out HW_.out (by kernel_rfl)) (fun _ _ _ h => h) (Or.inl ⟨by rfl, ?_⟩) hHeld ?_ ?_
           rotate_left
           ·
            rintro w' ⟨s0, s1, s2, s3, s4, s5, s6⟩
            go_simp
            with_reducible rfl
           rotate_left
           ·
            simp only [Act.put, List.setIfInBounds_toArray, List.set_cons_zero, List.set_cons_succ, i64_w, i32_w]
            rfl
           refine one_ (i := 2) (N := some 5) #[true, true, true, false, false, true, true, false, false, false, true, true, false, false, false, true, true, false, false, false, true, true, false, false, false, false] rfl rfl (one_of HT_.out (by kernel_rfl)) (by decide) (fun K hK => ?_)
           refine goes_ Tryz.func40 (by kernel_rfl) rfl #[.int .i64 a0_0] (by rfl) rfl rfl (by (try simp only [List.map_toArray, List.map_cons, List.map_nil]); first | done | rfl | (simp only [List.length_drop, List.length_take]; rfl)) ?_
           with_reducible refine (sr14_Number.calls a0_0 t203 _ A2.out).mono ?_
           rintro e w19 ⟨rfl, hb⟩
           refine ⟨_, rfl, ?_⟩
           have n0_ := As0.mk (blk_below (g := gb202) (o := .cells #[.int .i64 a0_0, .int .i64 a0_1, .int .i64 a0_2, .int .i64 a0_3, .int .i64 a0_4, .slice A0_5 l0_5.length c0_5, .slice A0_6 l0_6.length c0_6] 25 (0, 0)) (by (with_reducible repeat (first | refine bkn ?_ _ | refine bkd ?_ | refine bka ?_ _)); exact BK202.out) hb)
           have n1_ := As0.mk (below_step (by repeat (first | (with_reducible first | exact HB.out | apply bla | apply bln | apply bld | refine bls ?_ GE202.out) | exact HB.out)) hb)
           clear BK202
           clear HB
           have BK202 := n0_
           have HB := n1_
           clear n0_ n1_
           (try clear hb)
           (try clear hb2)
           (try clear hk)
           (try clear hi)
           refine hK.out _ _ ⟨(bkc BK202.out 0).trans rfl, (bkc BK202.out 1).trans rfl, (bkc BK202.out 2).trans rfl, (bkc BK202.out 3).trans rfl, (bkc BK202.out 4).trans rfl, (bkc BK202.out 5).trans rfl, (bkc BK202.out 6).trans rfl⟩ (fun hHeld => ?_)
           clear hK K
           refine norm_ (a' := ?_) ?_ ?_
           rotate_left
           ·
            show Act.put _ (some 5) _ = _
            simp only [Act.put, List.setIfInBounds_toArray, List.set_cons_zero, List.set_cons_succ, i64_w, i32_w]
            rfl
           refine pure_ (i := 3) (N := some 6) (v := ?_) (a' := ?_) #[true, true, true, true, false, true, true, false, false, false, true, true, false, false, false, true, true, false, false, false, true, true, false, false, false, false] rfl rfl (any_of HT_.out (by kernel_rfl)) (fun _ _ _ h => h) (Or.inl ⟨by rfl, ?_⟩) ?_ ?_
           rotate_left
           ·
            intro w'
            go_simp
            with_reducible rfl
           rotate_left
           ·
            simp only [Act.put, List.setIfInBounds_toArray, List.set_cons_zero, List.set_cons_succ, i64_w, i32_w]
            rfl
           refine pure_ (i := 4) (N := some 7) (v := ?_) (a' := ?_) #[true, true, true, true, true, true, true, false, false, false, true, true, false, false, false, true, true, false, false, false, true, true, false, false, false, false] rfl rfl (any_of HT_.out (by kernel_rfl)) (fun _ _ _ h => h) (Or.inl ⟨by rfl, ?_⟩) ?_ ?_
           rotate_left
           ·
            intro w'
            go_simp
            with_reducible rfl
           rotate_left
           ·
            simp only [Act.put, List.setIfInBounds_toArray, List.set_cons_zero, List.set_cons_succ, i64_w, i32_w]
            rfl
           refine one_ (i := 7) (N := some 10) #[true, true, true, true, true, true, true, true, false, false, true, true, false, false, false, true, true, false, false, false, true, true, false, false, false, false] rfl rfl (one_of HT_.out (by kernel_rfl)) (by decide) (fun K hK => ?_)
           refine goes_ Tryz.func40 (by kernel_rfl) rfl #[.int .i64 a0_1] (by rfl) rfl rfl (by (try simp only [List.map_toArray, List.map_cons, List.map_nil]); first | done | rfl | (simp only [List.length_drop, List.length_take]; rfl)) ?_
           with_reducible refine (sr14_Number.calls a0_1 t204 _ A5.out).mono ?_
           rintro e w20 ⟨rfl, hb⟩
           refine ⟨_, rfl, ?_⟩
           have n0_ := As0.mk (blk_below (g := gb202) (o := .cells #[.int .i64 a0_0, .int .i64 a0_1, .int .i64 a0_2, .int .i64 a0_3, .int .i64 a0_4, .slice A0_5 l0_5.length c0_5, .slice A0_6 l0_6.length c0_6] 25 (0, 0)) (by (with_reducible repeat (first | refine bkn ?_ _ | refine bkd ?_ | refine bka ?_ _)); exact BK202.out) hb)
           have n1_ := As0.mk (below_step (by repeat (first | (with_reducible first | exact HB.out | apply bla | apply bln | apply bld | refine bls ?_ GE202.out) | exact HB.out)) hb)
           clear BK202
           clear HB
           have BK202 := n0_
           have HB := n1_
           clear n0_ n1_
           (try clear hb)
           (try clear hb2)
           (try clear hk)
           (try clear hi)
           refine hK.out _ _ ⟨(bkc BK202.out 0).trans rfl, (bkc BK202.out 1).trans rfl, (bkc BK202.out 2).trans rfl, (bkc BK202.out 3).trans rfl, (bkc BK202.out 4).trans rfl, (bkc BK202.out 5).trans rfl, (bkc BK202.out 6).trans rfl⟩ (fun hHeld => ?_)
           clear hK K
           refine norm_ (a' := ?_) ?_ ?_
           rotate_left
           ·
            show Act.put _ (some 10) _ = _
            simp only [Act.put, List.setIfInBounds_toArray, List.set_cons_zero, List.set_cons_succ, i64_w, i32_w]
            rfl
           refine pure_ (i := 8) (N := some 11) (v := ?_) (a' := ?_) #[true, true, true, true, true, true, true, true, true, false, true, true, false, false, false, true, true, false, false, false, true, true, false, false, false, false] rfl rfl (any_of HT_.out (by kernel_rfl)) (fun _ _ _ h => h) (Or.inl ⟨by rfl, ?_⟩) ?_ ?_
           rotate_left
           ·
            intro w'
            go_simp
            with_reducible rfl
           rotate_left
           ·
            simp only [Act.put, List.setIfInBounds_toArray, List.set_cons_zero, List.set_cons_succ, i64_w, i32_w]
            rfl
           refine pure_ (i := 9) (N := some 12) (v := ?_) (a' := ?_) #[true, true, true, true, true, true, true, true, true, true, true, true, false, false, false, true, true, false, false, false, true, true, false, false, false, false] rfl rfl (any_of HT_.out (by kernel_rfl)) (fun _ _ _ h => h) (Or.inl ⟨by rfl, ?_⟩) ?_ ?_
           rotate_left
           ·
            intro w'
            go_simp
            with_reducible rfl
           rotate_left
           ·
            simp only [Act.put, List.setIfInBounds_toArray, List.set_cons_zero, List.set_cons_succ, i64_w, i32_w]
            rfl
           refine one_ (i := 12) (N := some 15) #[true, true, true, true, true, true, true, true, true, true, true, true, true, false, false, true, true, false, false, false, true, true, false, false, false, false] rfl rfl (one_of HT_.out (by kernel_rfl)) (by decide) (fun K hK => ?_)
           refine goes_ Tryz.func40 (by kernel_rfl) rfl #[.int .i64 a0_2] (by rfl) rfl rfl (by (try simp only [List.map_toArray, List.map_cons, List.map_nil]); first | done | rfl | (simp only [List.length_drop, List.length_take]; rfl)) ?_
           with_reducible refine (sr14_Number.calls a0_2 t205 _ A8.out).mono ?_
           rintro e w21 ⟨rfl, hb⟩
           refine ⟨_, rfl, ?_⟩
           have n0_ := As0.mk (blk_below (g := gb202) (o := .cells #[.int .i64 a0_0, .int .i64 a0_1, .int .i64 a0_2, .int .i64 a0_3, .int .i64 a0_4, .slice A0_5 l0_5.length c0_5, .slice A0_6 l0_6.length c0_6] 25 (0, 0)) (by (with_reducible repeat (first | refine bkn ?_ _ | refine bkd ?_ | refine bka ?_ _)); exact BK202.out) hb)
           have n1_ := As0.mk (below_step (by repeat (first | (with_reducible first | exact HB.out | apply bla | apply bln | apply bld | refine bls ?_ GE202.out) | exact HB.out)) hb)
           clear BK202
           clear HB
           have BK202 := n0_
           have HB := n1_
           clear n0_ n1_
           (try clear hb)
           (try clear hb2)
           (try clear hk)
           (try clear hi)
           refine hK.out _ _ ⟨(bkc BK202.out 0).trans rfl, (bkc BK202.out 1).trans rfl, (bkc BK202.out 2).trans rfl, (bkc BK202.out 3).trans rfl, (bkc BK202.out 4).trans rfl, (bkc BK202.out 5).trans rfl, (bkc BK202.out 6).trans rfl⟩ (fun hHeld => ?_)
           clear hK K
           refine norm_ (a' := ?_) ?_ ?_
           rotate_left
           ·
            show Act.put _ (some 15) _ = _
            simp only [Act.put, List.setIfInBounds_toArray, List.set_cons_zero, List.set_cons_succ, i64_w, i32_w]
            rfl
           refine pure_ (i := 13) (N := some 16) (v := ?_) (a' := ?_) #[true, true, true, true, true, true, true, true, true, true, true, true, true, true, false, true, true, false, false, false, true, true, false, false, false, false] rfl rfl (any_of HT_.out (by kernel_rfl)) (fun _ _ _ h => h) (Or.inl ⟨by rfl, ?_⟩) ?_ ?_
           rotate_left
           ·
            intro w'
            go_simp
            with_reducible rfl
           rotate_left
           ·
            simp only [Act.put, List.setIfInBounds_toArray, List.set_cons_zero, List.set_cons_succ, i64_w, i32_w]
            rfl
           refine pure_ (i := 14) (N := some 17) (v := ?_) (a' := ?_) #[true, true, true, true, true, true, true, true, true, true, true, true, true, true, true, true, true, false, false, false, true, true, false, false, false, false] rfl rfl (any_of HT_.out (by kernel_rfl)) (fun _ _ _ h => h) (Or.inl ⟨by rfl, ?_⟩) ?_ ?_
           rotate_left
           ·
            intro w'
            go_simp
            with_reducible rfl
           rotate_left
           ·
            simp only [Act.put, List.setIfInBounds_toArray, List.set_cons_zero, List.set_cons_succ, i64_w, i32_w]
            rfl
           refine one_ (i := 17) (N := some 20) #[true, true, true, true, true, true, true, true, true, true, true, true, true, true, true, true, true, true, false, false, true, true, false, false, false, false] rfl rfl (one_of HT_.out (by kernel_rfl)) (by decide) (fun K hK => ?_)
           refine goes_ Tryz.func40 (by kernel_rfl) rfl #[.int .i64 a0_3] (by rfl) rfl rfl (by (try simp only [List.map_toArray, List.map_cons, List.map_nil]); first | done | rfl | (simp only [List.length_drop, List.length_take]; rfl)) ?_
           with_reducible refine (sr14_Number.calls a0_3 t206 _ A11.out).mono ?_
           rintro e w22 ⟨rfl, hb⟩
           refine ⟨_, rfl, ?_⟩
           have n0_ := As0.mk (blk_below (g := gb202) (o := .cells #[.int .i64 a0_0, .int .i64 a0_1, .int .i64 a0_2, .int .i64 a0_3, .int .i64 a0_4, .slice A0_5 l0_5.length c0_5, .slice A0_6 l0_6.length c0_6] 25 (0, 0)) (by (with_reducible repeat (first | refine bkn ?_ _ | refine bkd ?_ | refine bka ?_ _)); exact BK202.out) hb)
           have n1_ := As0.mk (below_step (by repeat (first | (with_reducible first | exact HB.out | apply bla | apply bln | apply bld | refine bls ?_ GE202.out) | exact HB.out)) hb)
           clear BK202
           clear HB
           have BK202 := n0_
           have HB := n1_
           clear n0_ n1_
           (try clear hb)
           (try clear hb2)
           (try clear hk)
           (try clear hi)
           refine hK.out _ _ ⟨(bkc BK202.out 0).trans rfl, (bkc BK202.out 1).trans rfl, (bkc BK202.out 2).trans rfl, (bkc BK202.out 3).trans rfl, (bkc BK202.out 4).trans rfl, (bkc BK202.out 5).trans rfl, (bkc BK202.out 6).trans rfl⟩ (fun hHeld => ?_)
           clear hK K
           refine norm_ (a' := ?_) ?_ ?_
           rotate_left
           ·
            show Act.put _ (some 20) _ = _
            simp only [Act.put, List.setIfInBounds_toArray, List.set_cons_zero, List.set_cons_succ, i64_w, i32_w]
            rfl
           refine pure_ (i := 18) (N := some 21) (v := ?_) (a' := ?_) #[true, true, true, true, true, true, true, true, true, true, true, true, true, true, true, true, true, true, true, false, true, true, false, false, false, false] rfl rfl (any_of HT_.out (by kernel_rfl)) (fun _ _ _ h => h) (Or.inl ⟨by rfl, ?_⟩) ?_ ?_
           rotate_left
           ·
            intro w'
            go_simp
            with_reducible rfl
           rotate_left
           ·
            simp only [Act.put, List.setIfInBounds_toArray, List.set_cons_zero, List.set_cons_succ, i64_w, i32_w]
            rfl
           refine pure_ (i := 19) (N := some 22) (v := ?_) (a' := ?_) #[true, true, true, true, true, true, true, true, true, true, true, true, true, true, true, true, true, true, true, true, true, true, false, false, false, false] rfl rfl (any_of HT_.out (by kernel_rfl)) (fun _ _ _ h => h) (Or.inl ⟨by rfl, ?_⟩) ?_ ?_
           rotate_left
           ·
            intro w'
            go_simp
            with_reducible rfl
           rotate_left
           ·
            simp only [Act.put, List.setIfInBounds_toArray, List.set_cons_zero, List.set_cons_succ, i64_w, i32_w]
            rfl
           refine one_ (i := 22) (N := some 25) #[true, true, true, true, true, true, true, true, true, true, true, true, true, true, true, true, true, true, true, true, true, true, true, false, false, false] rfl rfl (one_of HT_.out (by kernel_rfl)) (by decide) (fun K hK => ?_)
           refine goes_ Tryz.func40 (by kernel_rfl) rfl #[.int .i64 a0_4] (by rfl) rfl rfl (by (try simp only [List.map_toArray, List.map_cons, List.map_nil]); first | done | rfl | (simp only [List.length_drop, List.length_take]; rfl)) ?_
           with_reducible refine (sr14_Number.calls a0_4 t207 _ A14.out).mono ?_
           rintro e w23 ⟨rfl, hb⟩
           refine ⟨_, rfl, ?_⟩
           have n0_ := As0.mk (blk_below (g := gb202) (o := .cells #[.int .i64 a0_0, .int .i64 a0_1, .int .i64 a0_2, .int .i64 a0_3, .int .i64 a0_4, .slice A0_5 l0_5.length c0_5, .slice A0_6 l0_6.length c0_6] 25 (0, 0)) (by (with_reducible repeat (first | refine bkn ?_ _ | refine bkd ?_ | refine bka ?_ _)); exact BK202.out) hb)
           have n1_ := As0.mk (below_step (by repeat (first | (with_reducible first | exact HB.out | apply bla | apply bln | apply bld | refine bls ?_ GE202.out) | exact HB.out)) hb)
           clear BK202
           clear HB
           have BK202 := n0_
           have HB := n1_
           clear n0_ n1_
           (try clear hb)
           (try clear hb2)
           (try clear hk)
           (try clear hi)
           refine hK.out _ _ ⟨(bkc BK202.out 0).trans rfl, (bkc BK202.out 1).trans rfl, (bkc BK202.out 2).trans rfl, (bkc BK202.out 3).trans rfl, (bkc BK202.out 4).trans rfl, (bkc BK202.out 5).trans rfl, (bkc BK202.out 6).trans rfl⟩ (fun hHeld => ?_)
           clear hK K
           refine norm_ (a' := ?_) ?_ ?_
           rotate_left
           ·
            show Act.put _ (some 25) _ = _
            simp only [Act.put, List.setIfInBounds_toArray, List.set_cons_zero, List.set_cons_succ, i64_w, i32_w]
            rfl
           refine pure_ (i := 23) (N := some 26) (v := ?_) (a' := ?_) #[true, true, true, true, true, true, true, true, true, true, true, true, true, true, true, true, true, true, true, true, true, true, true, true, false, false] rfl rfl (any_of HT_.out (by kernel_rfl)) (fun _ _ _ h => h) (Or.inl ⟨by rfl, ?_⟩) ?_ ?_
           rotate_left
           ·
            intro w'
            go_simp
            with_reducible rfl
           rotate_left
           ·
            simp only [Act.put, List.setIfInBounds_toArray, List.set_cons_zero, List.set_cons_succ, i64_w, i32_w]
            rfl
           refine pure_ (i := 24) (N := some 27) (v := ?_) (a' := ?_) #[true, true, true, true, true, true, true, true, true, true, true, true, true, true, true, true, true, true, true, true, true, true, true, true, true, false] rfl rfl (any_of HT_.out (by kernel_rfl)) (fun _ _ _ h => h) (Or.inl ⟨by rfl, ?_⟩) ?_ ?_
           rotate_left
           ·
            intro w'
            go_simp
            with_reducible rfl
           rotate_left
           ·
            simp only [Act.put, List.setIfInBounds_toArray, List.set_cons_zero, List.set_cons_succ, i64_w, i32_w]
            rfl
           refine pure_ (i := 25) (N := some 2) (v := ?_) (a' := ?_) #[true, true, true, true, true, true, true, true, true, true, true, true, true, true, true, true, true, true, true, true, true, true, true, true, true, true] rfl rfl (any_of HT_.out (by kernel_rfl)) (fun _ _ _ h => h) (Or.inl ⟨by rfl, ?_⟩) ?_ ?_
           rotate_left
           ·
            intro w'
            go_simp
            with_reducible rfl
           rotate_left
           ·
            simp only [Act.put, List.setIfInBounds_toArray, List.set_cons_zero, List.set_cons_succ, i64_w, i32_w]
            rfl
           refine done_ (done_of HT_.out (by kernel_rfl)) ?_
           try go_wp2
           go_ret
           exact ⟨by first | rfl | (simp [errW_none, errW_some] <;> rfl) | (simp [*, errW_none, errW_some] <;> rfl), by repeat (first | (with_reducible first | exact HB.out | apply bla | apply bln | apply bld | refine bls ?_ GE202.out) | exact HB.out)⟩
          ·
           rw [if_neg c16] at H
           exact absurd H (by simp)
         ·
          rw [if_neg c15] at H
          exact absurd H (by simp)
        ·
         rw [if_neg c13] at H
         exact absurd H (by simp)
       ·
        rw [if_neg c12] at H
        exact absurd H (by simp)
      ·
       rw [if_neg c10] at H
       exact absurd H (by simp)
     ·
      rw [if_neg c9] at H
      exact absurd H (by simp)
    ·
     rw [if_neg c7] at H
     exact absurd H (by simp)
   ·
    rw [if_neg c6] at H
    exact absurd H (by simp)
  ·
   rw [if_neg c4] at H
   exact absurd H (by simp)
 ·
  rw [if_neg c3] at H
  exact absurd H (by simp)
end Go.Proofs.YtmppkcdphgelcaaGreatDoor.PConf
namespace Go.Proofs.YtmppkcdphgelcaaGreatDoor.PConf
open Go.RowKit Go.Proofs.YtmppkcdphgelcaaGreatDoor.W.PrintWords Go.Proofs.YtmppkcdphgelcaaGreatDoor.W.PrintLast Go.Proofs.YtmppkcdphgelcaaGreatDoor.W.PrintMore
attribute [local go_sem] max2_int min2_int max_two min_two max_three min_three max_four min_four   -- for this text's walks alone
set_option linter.unusedVariables false
set_option linter.unusedSimpArgs false
def sr14_Behind.l0 : Nat → List ByteArray → ByteArray → Int → Option (ByteArray)
 | 0, _, _, _ => none
 | k + 1, x0, x3, x4 => if x4 < (x0.length : Int) then (if x3.size + 1 ≤ 9223372036854775807 then (if 0 ≤ x4 then (if (x3 ++ (⟨#[32]⟩ : ByteArray)).size + (rdOf ByteArray.empty x0 x4).size ≤ 9223372036854775807 then (sr14_Behind.l0 k x0 ((x3 ++ (⟨#[32]⟩ : ByteArray)) ++ (rdOf ByteArray.empty x0 x4)) (wrap64 (x4 + 1))) else (none)) else (none)) else (none)) else (if x3.size + 1 ≤ 9223372036854775807 then (some (x3 ++ (⟨#[10]⟩ : ByteArray))) else (none))
def sr14_Behind.f (k : Nat) (l0 : List ByteArray) : Option (ByteArray) := sr14_Behind.l0 k l0 (⟨#[]⟩ : ByteArray) 0
set_option maxHeartbeats 8000000 in
set_option maxRecDepth 100000 in
theorem sr14_Behind.calls (k : Nat) (A0 : Option Addr) (c0 : Nat) (l0 : List ByteArray) (r : ByteArray) (w : World) (hr0 : Kd.C Kd.string w A0 l0.length l0) (hc0 : l0.length ≤ c0) (h : sr14_Behind.f k l0 = some r) :
  Calls Tryz.prog 25 #[.slice A0 l0.length c0] w fun e w' => e = .returned (.string r) ∧ Drawn0 w w' := by
 have HR0 := As0.mk hr0
 have HC0 := As0.mk hc0
 clear hr0 hc0
 have H : (sr14_Behind.l0 k l0 (⟨#[]⟩ : ByteArray) 0) = some r := h
 clear h
 have H' := As0.mk H
 clear H
 go_enter Tryz.func25, Tryz.ntmps25
 go_wp2
 go_loopg [3, 4] k (fun kq v3 v4 w' => ∃ (x3_1 : ByteArray) (x4_1 : Int), v3 = .string x3_1 ∧ v4 = .int .i64 x4_1 ∧ As0 (sr14_Behind.l0 kq l0 x3_1 x4_1 = some r) ∧ As0 (kq ≤ k) ∧ Drawn0 w w')
 case atStart => exact ⟨((⟨#[]⟩ : ByteArray)), (0), (by first | rfl | (simp; done) | (simp [*]; done)), (by first | rfl | (simp; done) | (simp [*]; done)), H', ⟨Nat.le_refl _⟩, by repeat (first | exact Drawn0.refl _ | apply Drawn0.step)⟩
 case round =>
  clear H'
  obtain ⟨x3_1, x4_1, rfl, rfl, HA, HK1, ⟨m1, rfl⟩⟩ := hrel
  cases gk with
  | zero => exact absurd HA.out (by simp [sr14_Behind.l0])
  | succ k1 =>
   have H := HA.out
   clear HA
   simp only [sr14_Behind.l0] at H
   by_cases c2 : x4_1 < (l0.length : Int)
   ·
    rw [if_pos c2] at H
    have c2b0 : decide (x4_1 < (l0.length : Int)) = true := decide_eq_true c2
    clear c2
    by_cases c3 : x3_1.size + 1 ≤ 9223372036854775807
    ·
     rw [if_pos c3] at H
     have c3b0 := eq_true c3
     have c3b1 : decide (x3_1.size + 1 ≤ 9223372036854775807) = true := decide_eq_true c3
     try have c3b2 : (9223372036854775807 < x3_1.size + 1) = False := eq_false (Nat.not_lt.2 c3)
     by_cases c4 : 0 ≤ x4_1
     ·
      rw [if_pos c4] at H
      have c4b0 : decide (0 ≤ x4_1) = true := decide_eq_true c4
      clear c4
      by_cases c5 : (x3_1 ++ (⟨#[32]⟩ : ByteArray)).size + (rdOf ByteArray.empty l0 x4_1).size ≤ 9223372036854775807
      ·
       rw [if_pos c5] at H
       have c5b0 := eq_true c5
       have c5n : (9223372036854775807 < x3_1.size + 1 + (rdOf ByteArray.empty l0 x4_1).size) = False := eq_false (Nat.not_lt.2 (by have h_ := c5; simp only [ByteArray.size_append] at h_; exact h_))
       have c5b1 : decide ((x3_1 ++ (⟨#[32]⟩ : ByteArray)).size + (rdOf ByteArray.empty l0 x4_1).size ≤ 9223372036854775807) = true := decide_eq_true c5
       try have c5b2 : (9223372036854775807 < (x3_1 ++ (⟨#[32]⟩ : ByteArray)).size + (rdOf ByteArray.empty l0 x4_1).size) = False := eq_false (Nat.not_lt.2 c5)
       have H' := As0.mk H
       clear H
       have p208 : 0 ≤ (x4_1 : Int) := of_decide_eq_true (by first | (with_reducible assumption) | assumption)
       have q208 : x4_1 < (l0.length : Int) := of_decide_eq_true (by first | (with_reducible assumption) | assumption)
       obtain ⟨ad208, e208, hx208_0⟩ := Kd.at_string HR0.out x4_1 p208 q208
       cases e208
       replace p208 := eq_true p208
       replace q208 := eq_true q208
       go_wp2
       go_roundg k1
       case measure => have := HK1.out; omega
       case rel => exact ⟨((x3_1 ++ (⟨#[32]⟩ : ByteArray)) ++ (rdOf ByteArray.empty l0 x4_1)), (wrap64 (x4_1 + 1)), (by first | rfl | (simp; done) | (simp [*]; done)), (by first | rfl | (simp; done) | (simp [*]; done)), H', ⟨by have := HK1.out; omega⟩, by repeat (first | exact Drawn0.refl _ | apply Drawn0.step)⟩
      ·
       rw [if_neg c5] at H
       exact absurd H (by simp)
     ·
      rw [if_neg c4] at H
      exact absurd H (by simp)
    ·
     rw [if_neg c3] at H
     exact absurd H (by simp)
   ·
    rw [if_neg c2] at H
    have c2b0 : decide (x4_1 < (l0.length : Int)) = false := decide_eq_false c2
    clear c2
    by_cases c6 : x3_1.size + 1 ≤ 9223372036854775807
    ·
     rw [if_pos c6] at H
     have c6b0 := eq_true c6
     have c6b1 : decide (x3_1.size + 1 ≤ 9223372036854775807) = true := decide_eq_true c6
     try have c6b2 : (9223372036854775807 < x3_1.size + 1) = False := eq_false (Nat.not_lt.2 c6)
     obtain rfl := Option.some.inj H
     go_wp2
     go_ret
     exact ⟨by first | rfl | (simp; done) | (simp [*]; done), by repeat (first | exact Drawn0.refl _ | apply Drawn0.step)⟩
    ·
     rw [if_neg c6] at H
     exact absurd H (by simp)
end Go.Proofs.YtmppkcdphgelcaaGreatDoor.PConf
namespace Go.Proofs.YtmppkcdphgelcaaGreatDoor.PConf
open Go.RowKit Go.Proofs.YtmppkcdphgelcaaGreatDoor.W.PrintWords Go.Proofs.YtmppkcdphgelcaaGreatDoor.W.PrintLast Go.Proofs.YtmppkcdphgelcaaGreatDoor.W.PrintMore
attribute [local go_sem] max2_int min2_int max_two min_two max_three min_three max_four min_four   -- for this text's walks alone
set_option linter.unusedVariables false
set_option linter.unusedSimpArgs false
def sr05_Tell.l0 : Nat → List ByteArray → Int → List ByteArray → Int → Option (List ByteArray)
 | 0, _, _, _, _ => none
 | k + 1, x0, x1, x5, x6 => if x6 < (x0.length : Int) then ((sr05_Has.f k x1 x6).bind fun t209 => (if t209 = true then (if 0 ≤ x6 then (if x5.length < 8796093022208 then (sr05_Tell.l0 k x0 x1 (x5 ++ [rdOf ByteArray.empty x0 x6]) (wrap64 (x6 + 1))) else (none)) else (none)) else (sr05_Tell.l0 k x0 x1 x5 (wrap64 (x6 + 1))))) else (some x5)
def sr05_Tell.f (k : Nat) (l0 : List ByteArray) (a1 : Int) : Option (List ByteArray) := sr05_Tell.l0 k l0 a1 ([] : List ByteArray) 0
set_option maxHeartbeats 8000000 in
set_option maxRecDepth 100000 in
theorem sr05_Tell.calls (k : Nat) (A0 : Option Addr) (c0 : Nat) (l0 : List ByteArray) (a1 : Int) (r : List ByteArray) (w : World) (hr0 : Kd.C Kd.string w A0 l0.length l0) (hc0 : l0.length ≤ c0) (h : sr05_Tell.f k l0 a1 = some r) :
  Calls Tryz.prog 41 #[.slice A0 l0.length c0, .int .u64 a1] w fun e w' => ∃ v0_ : Value, e = .returned (v0_) ∧ Kd.R Kd.string 9 w' w.heap.size (fun _ => True) v0_ r ∧ Below w.heap.size w w' := by
 have HR0 := As0.mk hr0
 have HC0 := As0.mk hc0
 clear hr0 hc0
 have HB := As0.mk (Below.refl w.heap.size w)
 have H : (sr05_Tell.l0 k l0 a1 ([] : List ByteArray) 0) = some r := h
 clear h
 have H' := As0.mk H
 clear H
 go_enter Tryz.func41, Tryz.ntmps41
 go_wp2
 go_loopg [5, 6] k (fun kq v5 v6 w' => ∃ (x5_1 : List ByteArray) (x6_1 : Int), v6 = .int .i64 x6_1 ∧ As0 (sr05_Tell.l0 kq l0 a1 x5_1 x6_1 = some r) ∧ As0 (kq ≤ k) ∧ As0 (Kd.R Kd.string 9 w' w.heap.size (fun _ => True) v5 x5_1) ∧ As0 (Below w.heap.size w w'))
 case atStart => exact ⟨(([] : List ByteArray)), (0), (by first | rfl | (simp; done) | (simp [*]; done)), H', ⟨Nat.le_refl _⟩, ⟨by first | exact Kd.R_nil _ _ _ _ _ | exact Kd.N_nil _ _ _ _ _ | exact Kd.V_nil _ _ _ _ _ | exact Kd.Q_nil _ _ _ _ _ | exact Kd.S_nil _ _ _ _ _⟩, ⟨by repeat (first | (with_reducible first | exact HB.out | apply bla | apply bln | apply bld) | exact HB.out)⟩⟩
 case round =>
  clear H'
  try clear p2
  obtain ⟨x5_1, x6_1, rfl, HA, HK1, HO_5, HB⟩ := hrel
  cases gk with
  | zero => exact absurd HA.out (by simp [sr05_Tell.l0])
  | succ k1 =>
   have H := HA.out
   clear HA
   simp only [sr05_Tell.l0] at H
   by_cases c3 : x6_1 < (l0.length : Int)
   ·
    rw [if_pos c3] at H
    have c3b0 : decide (x6_1 < (l0.length : Int)) = true := decide_eq_true c3
    clear c3
    replace H := Option.bind_eq_some_iff.mp H
    obtain ⟨t209, A40, H⟩ := H
    replace H : (if t209 = true then (if 0 ≤ x6_1 then (if x5_1.length < 8796093022208 then (sr05_Tell.l0 k1 l0 a1 (x5_1 ++ [rdOf ByteArray.empty l0 x6_1]) (wrap64 (x6_1 + 1))) else (none)) else (none)) else (sr05_Tell.l0 k1 l0 a1 x5_1 (wrap64 (x6_1 + 1)))) = some r := H
    have A4 := As0.mk A40
    clear A40
    by_cases c5 : t209 = true
    ·
     subst c5
     have H1 : (if 0 ≤ x6_1 then (if x5_1.length < 8796093022208 then (sr05_Tell.l0 k1 l0 a1 (x5_1 ++ [rdOf ByteArray.empty l0 x6_1]) (wrap64 (x6_1 + 1))) else (none)) else (none)) = some r := by rw [if_pos rfl] at H; exact H
     clear H
     have H := H1
     clear H1
     by_cases c6 : 0 ≤ x6_1
     ·
      rw [if_pos c6] at H
      have c6b0 : decide (0 ≤ x6_1) = true := decide_eq_true c6
      clear c6
      by_cases c7 : x5_1.length < 8796093022208
      ·
       rw [if_pos c7] at H
       have LMc7 := As0.mk c7
       clear c7
       obtain ⟨y211, hy211⟩ : ∃ y_ : List ByteArray, y_ = (x5_1 ++ [rdOf ByteArray.empty l0 x6_1]) := ⟨_, rfl⟩
       replace H : (sr05_Tell.l0 k1 l0 a1 y211 (wrap64 (x6_1 + 1))) = some r := by first | (rw [hy211]; with_reducible exact H) | (have H2_ := (Option.bind_some _ _).symm.trans H; rw [hy211]; with_reducible exact H2_) | (have H2_ := (Option.bind_some _ _).symm.trans H; with_reducible exact H2_) | with_reducible exact H | (rw [hy211]; exact H) | exact H
       have Ny211 := As0.mk hy211
       clear hy211
       have H' := As0.mk H
       clear H
       go_wp2_with (first | ((with_reducible refine gate_callee (f := 20) rfl ?_); refine goesL_ (some 15) rfl rfl Tryz.func20 (by kernel_rfl) rfl #[.int .u64 a1, .int .i64 x6_1] rfl (by (try simp only [List.map_toArray, List.map_cons, List.map_nil]); first | done | rfl | (simp only [List.length_drop, List.length_take]; rfl)) ?_; (with_reducible refine (sr05_Has.calls k1 a1 x6_1 true _ A4.out).mono ?_); rintro e w' ⟨rfl, ⟨nd, rfl⟩⟩; refine ⟨_, rfl, ?_⟩; have p210 : 0 ≤ (x6_1 : Int) := of_decide_eq_true (by first | (with_reducible assumption) | assumption); have q210 : x6_1 < (l0.length : Int) := of_decide_eq_true (by first | (with_reducible assumption) | assumption); obtain ⟨ad210, e210, hx210_0⟩ := Kd.at_string HR0.out x6_1 p210 q210; cases e210; replace hx210_0 := (HB.out.cell (World.block_lt_of_cell? w _ hx210_0)).trans hx210_0; replace p210 := eq_true p210; replace q210 := eq_true q210) | ((with_reducible refine gate_builtin (b := .append) (xs := #[.tmp 16, .tmp 21]) rfl ?_); at_builtin; refine Kd.R_append Kd.string (w0 := w) w.heap.size rfl (.tmp 16) (.tmp 21) 22 9 (.string ⟨#[]⟩) 16 rfl Tryz.underlying22 info9 rfl (by decide) (by omega) u5 x5_1 (rdOf ByteArray.empty l0 x6_1) [.string (rdOf ByteArray.empty l0 x6_1)] (fun _ => True) (fun _ => False) rfl rfl ?aP (fun _ hk => hk.elim) ?aF ?aO ?aB ?aS ?aL ?_; (case aP => exact rfl); (case aB => exact (by repeat (first | (with_reducible first | exact HB.out | apply bla | apply bln | apply bld) | exact HB.out))); (case aF => exact (fun _ _ => trivial)); (case aO => exact (by (with_reducible repeat (first | apply Kd.R_alloc | apply Kd.R_drewN | apply Kd.R_drew)); exact HO_5.out)); (case aS => exact (below_size (by repeat (first | (with_reducible first | exact HB.out | apply bla | apply bln | apply bld) | exact HB.out)))); (case aL => have := LMc7.out; omega); intro v212 w8 ho hb hg hat; rw [← Ny211.out] at ho; have n0_ := As0.mk (hb); have n1_ := As0.mk (ho); clear HB; clear HO_5; have HB := n0_; have HO213 := n1_; clear n0_ n1_; clear ho hb hg hat))
       go_roundg k1
       case measure => have := HK1.out; omega
       case rel => exact ⟨(y211), (wrap64 (x6_1 + 1)), (by first | rfl | (simp; done) | (simp [*]; done)), H', ⟨by have := HK1.out; omega⟩, ⟨by (with_reducible repeat (first | apply Kd.R_alloc | apply Kd.R_drewN | apply Kd.R_drew)); exact HO213.out⟩, ⟨by repeat (first | (with_reducible first | exact HB.out | apply bla | apply bln | apply bld) | exact HB.out)⟩⟩
      ·
       rw [if_neg c7] at H
       exact absurd H (by simp)
     ·
      rw [if_neg c6] at H
      exact absurd H (by simp)
    ·
     replace c5 := Bool.eq_false_iff.mpr c5
     subst c5
     have H1 : (sr05_Tell.l0 k1 l0 a1 x5_1 (wrap64 (x6_1 + 1))) = some r := by rw [if_neg (show ¬ (false = true) by decide)] at H; exact H
     clear H
     have H := H1
     clear H1
     have H' := As0.mk H
     clear H
     go_wp2_with (first | ((with_reducible refine gate_callee (f := 20) rfl ?_); refine goesL_ (some 15) rfl rfl Tryz.func20 (by kernel_rfl) rfl #[.int .u64 a1, .int .i64 x6_1] rfl (by (try simp only [List.map_toArray, List.map_cons, List.map_nil]); first | done | rfl | (simp only [List.length_drop, List.length_take]; rfl)) ?_; (with_reducible refine (sr05_Has.calls k1 a1 x6_1 false _ A4.out).mono ?_); rintro e w' ⟨rfl, ⟨nd, rfl⟩⟩; refine ⟨_, rfl, ?_⟩))
     go_roundg k1
     case measure => have := HK1.out; omega
     case rel => exact ⟨(x5_1), (wrap64 (x6_1 + 1)), (by first | rfl | (simp; done) | (simp [*]; done)), H', ⟨by have := HK1.out; omega⟩, ⟨by (with_reducible repeat (first | apply Kd.R_alloc | apply Kd.R_drewN | apply Kd.R_drew)); exact HO_5.out⟩, ⟨by repeat (first | (with_reducible first | exact HB.out | apply bla | apply bln | apply bld) | exact HB.out)⟩⟩
   ·
    rw [if_neg c3] at H
    have c3b0 : decide (x6_1 < (l0.length : Int)) = false := decide_eq_false c3
    clear c3
    obtain rfl := Option.some.inj H
    go_wp2
    go_ret
    exact ⟨_, by first | rfl | (simp [errW_none, errW_some] <;> rfl) | (simp [*, errW_none, errW_some] <;> rfl), by (with_reducible repeat (first | apply Kd.R_alloc | apply Kd.R_drewN | apply Kd.R_drew)); exact HO_5.out, by repeat (first | (with_reducible first | exact HB.out | apply bla | apply bln | apply bld) | exact HB.out)⟩
end Go.Proofs.YtmppkcdphgelcaaGreatDoor.PConf
namespace Go.Proofs.YtmppkcdphgelcaaGreatDoor.PConf
open Go.RowKit Go.Proofs.YtmppkcdphgelcaaGreatDoor.W.PrintWords Go.Proofs.YtmppkcdphgelcaaGreatDoor.W.PrintLast Go.Proofs.YtmppkcdphgelcaaGreatDoor.W.PrintMore
attribute [local go_sem] max2_int min2_int max_two min_two max_three min_three max_four min_four   -- for this text's walks alone
set_option linter.unusedVariables false
set_option linter.unusedSimpArgs false
def sr14_Line.f (k : Nat) (a0_0 : Int) (a0_1 : Int) (a0_2 : Int) (a0_3 : Int) (a0_4 : Int) (l0_5 : List ByteArray) (l0_6 : List (S41)) (a1_0 : Int) (a1_1 : Int) (a1_2 : Int) : Option (ByteArray) := (sr14_Number.f a1_0).bind fun t216 => (if 7 + t216.size ≤ 9223372036854775807 then (if ((⟨#[119, 111, 114, 107, 101, 114, 32]⟩ : ByteArray) ++ t216).size + 1 ≤ 9223372036854775807 then ((sr14_Number.f a1_1).bind fun t217 => (if (((⟨#[119, 111, 114, 107, 101, 114, 32]⟩ : ByteArray) ++ t216) ++ (⟨#[32]⟩ : ByteArray)).size + t217.size ≤ 9223372036854775807 then ((sr05_Tell.f k l0_5 a1_2).bind fun t218 => ((sr14_Behind.f k t218).bind fun t221 => (if ((((⟨#[119, 111, 114, 107, 101, 114, 32]⟩ : ByteArray) ++ t216) ++ (⟨#[32]⟩ : ByteArray)) ++ t217).size + t221.size ≤ 9223372036854775807 then (some (((((⟨#[119, 111, 114, 107, 101, 114, 32]⟩ : ByteArray) ++ t216) ++ (⟨#[32]⟩ : ByteArray)) ++ t217) ++ t221)) else (none)))) else (none))) else (none)) else (none))
def sr14_Line.T1 : Bool × List (List Nat × List Nat) := (true, [([], []), ([0], [0]), ([1], [1]), ([2], [2]), ([3], [3]), ([], []), ([5], [5]), ([6, 2], [6]), ([4, 7], [4, 7]), ([], []), ([9], [9]), ([], []), ([11], [11]), ([10, 12, 7], [10, 12]), ([13, 13], [13]), ([8, 14], [8, 14]), ([15, 14, 0, 1, 2, 3, 4, 5, 6, 7, 8, 9, 10, 11, 12, 13, 14, 15], [15])])
def sr14_Line.B1 : List Nat := [0, 1, 3, 7, 15, 0, 32, 103, 255, 0, 512, 0, 2048, 7911, 16103, 32767, 65535]
theorem sr14_Line.tab1 : rtab .any (opsOf Tryz.f26 1) = sr14_Line.T1 := by kernel_rfl
theorem sr14_Line.bits1 : waitsOk sr14_Line.T1.2 sr14_Line.B1 = true := by kernel_rfl
set_option maxHeartbeats 8000000 in
set_option maxRecDepth 100000 in
theorem sr14_Line.calls (k : Nat) (a0_0 : Int) (a0_1 : Int) (a0_2 : Int) (a0_3 : Int) (a0_4 : Int) (A0_5 : Option Addr) (c0_5 : Nat) (l0_5 : List ByteArray) (A0_6 : Option Addr) (c0_6 : Nat) (l0_6 : List (S41)) (a1_0 : Int) (a1_1 : Int) (a1_2 : Int) (r : ByteArray) (w : World) (hr0_5 : Kd.C Kd.string w A0_5 l0_5.length l0_5) (hc0_5 : l0_5.length ≤ c0_5) (hr0_6 : Kd.C k41 w A0_6 l0_6.length l0_6) (hc0_6 : l0_6.length ≤ c0_6) (h : sr14_Line.f k a0_0 a0_1 a0_2 a0_3 a0_4 l0_5 l0_6 a1_0 a1_1 a1_2 = some r) :
  Calls Tryz.prog 26 #[.agg #[.int .i64 a0_0, .int .i64 a0_1, .int .i64 a0_2, .int .i64 a0_3, .int .i64 a0_4, .slice A0_5 l0_5.length c0_5, .slice A0_6 l0_6.length c0_6], .agg #[.int .i64 a1_0, .int .i64 a1_1, .int .u64 a1_2]] w fun e w' => e = .returned (.string r) ∧ Below w.heap.size w w' := by
 have hu25 := Tryz.underlying25
 have hu41 := Tryz.underlying41
 have HR0_5 := As0.mk hr0_5
 have HC0_5 := As0.mk hc0_5
 clear hr0_5 hc0_5
 have HR0_6 := As0.mk hr0_6
 have HC0_6 := As0.mk hc0_6
 clear hr0_6 hc0_6
 have HB := As0.mk (Below.refl w.heap.size w)
 have H : ((sr14_Number.f a1_0).bind fun t216 => (if 7 + t216.size ≤ 9223372036854775807 then (if ((⟨#[119, 111, 114, 107, 101, 114, 32]⟩ : ByteArray) ++ t216).size + 1 ≤ 9223372036854775807 then ((sr14_Number.f a1_1).bind fun t217 => (if (((⟨#[119, 111, 114, 107, 101, 114, 32]⟩ : ByteArray) ++ t216) ++ (⟨#[32]⟩ : ByteArray)).size + t217.size ≤ 9223372036854775807 then ((sr05_Tell.f k l0_5 a1_2).bind fun t218 => ((sr14_Behind.f k t218).bind fun t221 => (if ((((⟨#[119, 111, 114, 107, 101, 114, 32]⟩ : ByteArray) ++ t216) ++ (⟨#[32]⟩ : ByteArray)) ++ t217).size + t221.size ≤ 9223372036854775807 then (some (((((⟨#[119, 111, 114, 107, 101, 114, 32]⟩ : ByteArray) ++ t216) ++ (⟨#[32]⟩ : ByteArray)) ++ t217) ++ t221)) else (none)))) else (none))) else (none)) else (none))) = some r := h
 clear h
 replace H := Option.bind_eq_some_iff.mp H
 obtain ⟨t216, A30, H⟩ := H
 replace H : (if 7 + t216.size ≤ 9223372036854775807 then (if ((⟨#[119, 111, 114, 107, 101, 114, 32]⟩ : ByteArray) ++ t216).size + 1 ≤ 9223372036854775807 then ((sr14_Number.f a1_1).bind fun t217 => (if (((⟨#[119, 111, 114, 107, 101, 114, 32]⟩ : ByteArray) ++ t216) ++ (⟨#[32]⟩ : ByteArray)).size + t217.size ≤ 9223372036854775807 then ((sr05_Tell.f k l0_5 a1_2).bind fun t218 => ((sr14_Behind.f k t218).bind fun t221 => (if ((((⟨#[119, 111, 114, 107, 101, 114, 32]⟩ : ByteArray) ++ t216) ++ (⟨#[32]⟩ : ByteArray)) ++ t217).size + t221.size ≤ 9223372036854775807 then (some (((((⟨#[119, 111, 114, 107, 101, 114, 32]⟩ : ByteArray) ++ t216) ++ (⟨#[32]⟩ : ByteArray)) ++ t217) ++ t221)) else (none)))) else (none))) else (none)) else (none)) = some r := H
 have A3 := As0.mk A30
 clear A30
 by_cases c4 : 7 + t216.size ≤ 9223372036854775807
 ·
  rw [if_pos c4] at H
  have c4b0 := eq_true c4
  have c4b1 : decide (7 + t216.size ≤ 9223372036854775807) = true := decide_eq_true c4
  try have c4b2 : (9223372036854775807 < 7 + t216.size) = False := eq_false (Nat.not_lt.2 c4)
  by_cases c5 : ((⟨#[119, 111, 114, 107, 101, 114, 32]⟩ : ByteArray) ++ t216).size + 1 ≤ 9223372036854775807
  ·
   rw [if_pos c5] at H
   have c5b0 := eq_true c5
   have c5n : (9223372036854775807 < 7 + t216.size + 1) = False := eq_false (Nat.not_lt.2 (by have h_ := c5; simp only [ByteArray.size_append] at h_; exact h_))
   have c5b1 : decide (((⟨#[119, 111, 114, 107, 101, 114, 32]⟩ : ByteArray) ++ t216).size + 1 ≤ 9223372036854775807) = true := decide_eq_true c5
   try have c5b2 : (9223372036854775807 < ((⟨#[119, 111, 114, 107, 101, 114, 32]⟩ : ByteArray) ++ t216).size + 1) = False := eq_false (Nat.not_lt.2 c5)
   replace H := Option.bind_eq_some_iff.mp H
   obtain ⟨t217, A60, H⟩ := H
   replace H : (if (((⟨#[119, 111, 114, 107, 101, 114, 32]⟩ : ByteArray) ++ t216) ++ (⟨#[32]⟩ : ByteArray)).size + t217.size ≤ 9223372036854775807 then ((sr05_Tell.f k l0_5 a1_2).bind fun t218 => ((sr14_Behind.f k t218).bind fun t221 => (if ((((⟨#[119, 111, 114, 107, 101, 114, 32]⟩ : ByteArray) ++ t216) ++ (⟨#[32]⟩ : ByteArray)) ++ t217).size + t221.size ≤ 9223372036854775807 then (some (((((⟨#[119, 111, 114, 107, 101, 114, 32]⟩ : ByteArray) ++ t216) ++ (⟨#[32]⟩ : ByteArray)) ++ t217) ++ t221)) else (none)))) else (none)) = some r := H
   have A6 := As0.mk A60
   clear A60
   by_cases c7 : (((⟨#[119, 111, 114, 107, 101, 114, 32]⟩ : ByteArray) ++ t216) ++ (⟨#[32]⟩ : ByteArray)).size + t217.size ≤ 9223372036854775807
   ·
    rw [if_pos c7] at H
    have c7b0 := eq_true c7
    have c7n : (9223372036854775807 < 7 + t216.size + 1 + t217.size) = False := eq_false (Nat.not_lt.2 (by have h_ := c7; simp only [ByteArray.size_append] at h_; exact h_))
    have c7b1 : decide ((((⟨#[119, 111, 114, 107, 101, 114, 32]⟩ : ByteArray) ++ t216) ++ (⟨#[32]⟩ : ByteArray)).size + t217.size ≤ 9223372036854775807) = true := decide_eq_true c7
    try have c7b2 : (9223372036854775807 < (((⟨#[119, 111, 114, 107, 101, 114, 32]⟩ : ByteArray) ++ t216) ++ (⟨#[32]⟩ : ByteArray)).size + t217.size) = False := eq_false (Nat.not_lt.2 c7)
    replace H := Option.bind_eq_some_iff.mp H
    obtain ⟨t218, A80, H⟩ := H
    replace H : ((sr14_Behind.f k t218).bind fun t221 => (if ((((⟨#[119, 111, 114, 107, 101, 114, 32]⟩ : ByteArray) ++ t216) ++ (⟨#[32]⟩ : ByteArray)) ++ t217).size + t221.size ≤ 9223372036854775807 then (some (((((⟨#[119, 111, 114, 107, 101, 114, 32]⟩ : ByteArray) ++ t216) ++ (⟨#[32]⟩ : ByteArray)) ++ t217) ++ t221)) else (none))) = some r := H
    have A8 := As0.mk A80
    clear A80
    replace H := Option.bind_eq_some_iff.mp H
    obtain ⟨t221, A90, H⟩ := H
    replace H : (if ((((⟨#[119, 111, 114, 107, 101, 114, 32]⟩ : ByteArray) ++ t216) ++ (⟨#[32]⟩ : ByteArray)) ++ t217).size + t221.size ≤ 9223372036854775807 then (some (((((⟨#[119, 111, 114, 107, 101, 114, 32]⟩ : ByteArray) ++ t216) ++ (⟨#[32]⟩ : ByteArray)) ++ t217) ++ t221)) else (none)) = some r := H
    have A9 := As0.mk A90
    clear A90
    by_cases c10 : ((((⟨#[119, 111, 114, 107, 101, 114, 32]⟩ : ByteArray) ++ t216) ++ (⟨#[32]⟩ : ByteArray)) ++ t217).size + t221.size ≤ 9223372036854775807
    ·
     rw [if_pos c10] at H
     have c10b0 := eq_true c10
     have c10n : (9223372036854775807 < 7 + t216.size + 1 + t217.size + t221.size) = False := eq_false (Nat.not_lt.2 (by have h_ := c10; simp only [ByteArray.size_append] at h_; exact h_))
     have c10b1 : decide (((((⟨#[119, 111, 114, 107, 101, 114, 32]⟩ : ByteArray) ++ t216) ++ (⟨#[32]⟩ : ByteArray)) ++ t217).size + t221.size ≤ 9223372036854775807) = true := decide_eq_true c10
     try have c10b2 : (9223372036854775807 < ((((⟨#[119, 111, 114, 107, 101, 114, 32]⟩ : ByteArray) ++ t216) ++ (⟨#[32]⟩ : ByteArray)) ++ t217).size + t221.size) = False := eq_false (Nat.not_lt.2 c10)
     obtain rfl := Option.some.inj H
     go_enter Tryz.func26, Tryz.ntmps26
     try go_wp2_with (first | ((with_reducible refine gate_dst (N := 2) rfl ?_); refine box_event ?hg (N := 2) ?hd (cs := #[.int .i64 a0_0, .int .i64 a0_1, .int .i64 a0_2, .int .i64 a0_3, .int .i64 a0_4, .slice A0_5 l0_5.length c0_5, .slice A0_6 l0_6.length c0_6]) (t := 25) ?hr ?_; (case hd => rfl); (case hg => rfl); (case hr => first | (go_simp; done) | (go_simp; rfl)); intro gb214 hg w11 hbox hb; have n0_ := As0.mk (below_step (by repeat (first | (with_reducible first | exact HB.out | apply bla | apply bln | apply bld) | exact HB.out)) hb); have n1_ := As0.mk (hbox); have n2_ := As0.mk ((by rw [hg]; exact (below_size (by repeat (first | (with_reducible first | exact HB.out | apply bla | apply bln | apply bld) | exact HB.out))) : w.heap.size ≤ gb214)); have n3_ := As0.mk ((by rw [hg]; exact (below_size (by repeat (first | (with_reducible first | exact HB.out | apply bla | apply bln | apply bld) | exact HB.out))) : w.heap.size ≤ gb214)); clear HB; have HB := n0_; have BK214 := n1_; have GW214 := n2_; have GE214 := n3_; clear n0_ n1_ n2_ n3_; clear hb hbox hg) | ((with_reducible refine gate_dst (N := 3) rfl ?_); refine box_event ?hg (N := 3) ?hd (cs := #[.int .i64 a1_0, .int .i64 a1_1, .int .u64 a1_2]) (t := 41) ?hr ?_; (case hd => rfl); (case hg => rfl); (case hr => first | (go_simp; done) | (go_simp; rfl)); intro gb215 hg w12 hbox hb; have n0_ := As0.mk (blk_below (g := gb214) (o := .cells #[.int .i64 a0_0, .int .i64 a0_1, .int .i64 a0_2, .int .i64 a0_3, .int .i64 a0_4, .slice A0_5 l0_5.length c0_5, .slice A0_6 l0_6.length c0_6] 25 (0, 0)) (by (with_reducible repeat (first | refine bkn ?_ _ | refine bkd ?_ | refine bka ?_ _)); exact BK214.out) hb); have n1_ := As0.mk (below_step (by repeat (first | (with_reducible first | exact HB.out | apply bla | apply bln | apply bld | refine bls ?_ GE214.out) | exact HB.out)) hb); have n2_ := As0.mk (hbox); have n3_ := As0.mk ((by rw [hg]; exact (below_size (by repeat (first | (with_reducible first | exact HB.out | apply bla | apply bln | apply bld | refine bls ?_ GE214.out) | exact HB.out))) : w.heap.size ≤ gb215)); have n4_ := As0.mk ((by rw [hg]; exact (below_size (by repeat (first | (with_reducible first | exact HB.out | apply bla | apply bln | apply bld | refine bls ?_ GE214.out) | exact HB.out))) : w.heap.size ≤ gb215)); have n5_ := As0.mk ((by rw [hg]; exact Nat.ne_of_lt (blk_lt (g := gb214) (o := .cells #[.int .i64 a0_0, .int .i64 a0_1, .int .i64 a0_2, .int .i64 a0_3, .int .i64 a0_4, .slice A0_5 l0_5.length c0_5, .slice A0_6 l0_6.length c0_6] 25 (0, 0)) (by (with_reducible repeat (first | refine bkn ?_ _ | refine bkd ?_ | refine bka ?_ _)); exact BK214.out)) : gb214 ≠ gb215)); have n6_ := As0.mk ((by rw [hg]; exact Nat.ne_of_gt (blk_lt (g := gb214) (o := .cells #[.int .i64 a0_0, .int .i64 a0_1, .int .i64 a0_2, .int .i64 a0_3, .int .i64 a0_4, .slice A0_5 l0_5.length c0_5, .slice A0_6 l0_6.length c0_6] 25 (0, 0)) (by (with_reducible repeat (first | refine bkn ?_ _ | refine bkd ?_ | refine bka ?_ _)); exact BK214.out)) : gb215 ≠ gb214)); clear BK214; clear HB; have BK214 := n0_; have HB := n1_; have BK215 := n2_; have GW215 := n3_; have GE215 := n4_; have NB214_215 := n5_; have NB215_214 := n6_; clear n0_ n1_ n2_ n3_ n4_ n5_ n6_; clear hb hbox hg))
     have n0_ := As0.mk (bkd BK214.out)
     have n1_ := As0.mk (bkd BK215.out)
     have n2_ := As0.mk (bld HB.out)
     clear BK214
     clear BK215
     clear HB
     have BK214 := n0_
     have BK215 := n1_
     have HB := n2_
     clear n0_ n1_ n2_
     refine start_ (n := 17) (S := fun w' => w'.cell? ⟨gb215, 0, none⟩ = some (.int .i64 a1_0) ∧ w'.cell? ⟨gb215, 1, none⟩ = some (.int .i64 a1_1) ∧ w'.cell? ⟨gb215, 2, none⟩ = some (.int .u64 a1_2) ∧ w'.cell? ⟨gb214, 0, none⟩ = some (.int .i64 a0_0) ∧ w'.cell? ⟨gb214, 1, none⟩ = some (.int .i64 a0_1) ∧ w'.cell? ⟨gb214, 2, none⟩ = some (.int .i64 a0_2) ∧ w'.cell? ⟨gb214, 3, none⟩ = some (.int .i64 a0_3) ∧ w'.cell? ⟨gb214, 4, none⟩ = some (.int .i64 a0_4) ∧ w'.cell? ⟨gb214, 5, none⟩ = some (.slice A0_5 l0_5.length c0_5) ∧ w'.cell? ⟨gb214, 6, none⟩ = some (.slice A0_6 l0_6.length c0_6)) (ds := []) #[false, false, false, false, false, false, false, false, false, false, false, false, false, false, false, false, false] (by kernel_rfl) rfl rfl ⟨(bkc BK215.out 0).trans rfl, (bkc BK215.out 1).trans rfl, (bkc BK215.out 2).trans rfl, (bkc BK214.out 0).trans rfl, (bkc BK214.out 1).trans rfl, (bkc BK214.out 2).trans rfl, (bkc BK214.out 3).trans rfl, (bkc BK214.out 4).trans rfl, (bkc BK214.out 5).trans rfl, (bkc BK214.out 6).trans rfl⟩ (fun hHeld => ?_); refine with_tabW sr14_Line.tab1 sr14_Line.bits1 (fun HT_ HW_ => ?_)
     generalize w12.drew = w13 at BK214 BK215 HB hHeld ⊢
     refine pure_ (i := 0) (N := some 5) (v := ?_) (a' := ?_) #[true, false, false, false, false, false, false, false, false, false, false, false, false, false, false, false, false] rfl rfl (any_of HT_.out (by kernel_rfl)) (fun _ _ _ h => h) (Or.inl ⟨by rfl, ?_⟩) ?_ ?_
     rotate_left
     ·
      intro w'
      go_simp
      with_reducible rfl
     rotate_left
     ·
      simp only [Act.put, List.setIfInBounds_toArray, List.set_cons_zero, List.set_cons_succ, i64_w, i32_w]
      rfl
     refine pure_ (i := 5) (N := some 10) (v := ?_) (a' := ?_) #[true, false, false, false, false, true, false, false, false, false, false, false, false, false, false, false, false] rfl rfl (any_of HT_.out (by kernel_rfl)) (fun _ _ _ h => h) (Or.inl ⟨by rfl, ?_⟩) ?_ ?_
     rotate_left
     ·
      intro w'
      go_simp
      with_reducible rfl
     rotate_left
     ·
      simp only [Act.put, List.setIfInBounds_toArray, List.set_cons_zero, List.set_cons_succ, i64_w, i32_w]
      rfl
     refine pure_ (i := 9) (N := some 14) (v := ?_) (a' := ?_) #[true, false, false, false, false, true, false, false, false, true, false, false, false, false, false, false, false] rfl rfl (any_of HT_.out (by kernel_rfl)) (fun _ _ _ h => h) (Or.inl ⟨by rfl, ?_⟩) ?_ ?_
     rotate_left
     ·
      intro w'
      go_simp
      with_reducible rfl
     rotate_left
     ·
      simp only [Act.put, List.setIfInBounds_toArray, List.set_cons_zero, List.set_cons_succ, i64_w, i32_w]
      rfl
     refine pure_ (i := 11) (N := some 16) (v := ?_) (a' := ?_) #[true, false, false, false, false, true, false, false, false, true, false, true, false, false, false, false, false] rfl rfl (any_of HT_.out (by kernel_rfl)) (fun _ _ _ h => h) (Or.inl ⟨by rfl, ?_⟩) ?_ ?_
     rotate_left
     ·
      intro w'
      go_simp
      with_reducible rfl
     rotate_left
     ·
      simp only [Act.put, List.setIfInBounds_toArray, List.set_cons_zero, List.set_cons_succ, i64_w, i32_w]
      rfl
     refine take_ (i := 1) (N := some 6) (v := ?_) (a' := ?_) #[true, true, false, false, false, true, false, false, false, true, false, true, false, false, false, false, false] rfl rfl (take_ofW HT_.out HW_.out (by kernel_rfl)) (fun _ _ _ h => h) (Or.inl ⟨by rfl, ?_⟩) hHeld ?_ ?_
     rotate_left
     ·
      rintro w' ⟨s0, s1, s2, s3, s4, s5, s6, s7, s8, s9⟩
      go_simp
      with_reducible rfl
     rotate_left
     ·
      simp only [Act.put, List.setIfInBounds_toArray, List.set_cons_zero, List.set_cons_succ, i64_w, i32_w]
      rfl
     refine take_ (i := 6) (N := some 11) (v := ?_) (a' := ?_) #[true, true, false, false, false, true, true, false, false, true, false, true, false, false, false, false, false] rfl rfl (take_ofW HT_.out HW_.out (by kernel_rfl)) (fun _ _ _ h => h) (Or.inl ⟨by rfl, ?_⟩) hHeld ?_ ?_
     rotate_left
     ·
      rintro w' ⟨s0, s1, s2, s3, s4, s5, s6, s7, s8, s9⟩
      go_simp
      with_reducible rfl
     rotate_left
     ·
      simp only [Act.put, List.setIfInBounds_toArray, List.set_cons_zero, List.set_cons_succ, i64_w, i32_w]
      rfl
     refine take_ (i := 10) (N := some 15) (v := ?_) (a' := ?_) #[true, true, false, false, false, true, true, false, false, true, true, true, false, false, false, false, false] rfl rfl (take_ofW HT_.out HW_.out (by kernel_rfl)) (fun _ _ _ h => h) (Or.inl ⟨by rfl, ?_⟩) hHeld ?_ ?_
     rotate_left
     ·
      rintro w' ⟨s0, s1, s2, s3, s4, s5, s6, s7, s8, s9⟩
      go_simp
      with_reducible rfl
     rotate_left
     ·
      simp only [Act.put, List.setIfInBounds_toArray, List.set_cons_zero, List.set_cons_succ, i64_w, i32_w]
      rfl
     refine take_ (i := 12) (N := some 17) (v := ?_) (a' := ?_) #[true, true, false, false, false, true, true, false, false, true, true, true, true, false, false, false, false] rfl rfl (take_ofW HT_.out HW_.out (by kernel_rfl)) (fun _ _ _ h => h) (Or.inl ⟨by rfl, ?_⟩) hHeld ?_ ?_
     rotate_left
     ·
      rintro w' ⟨s0, s1, s2, s3, s4, s5, s6, s7, s8, s9⟩
      go_simp
      with_reducible rfl
     rotate_left
     ·
      simp only [Act.put, List.setIfInBounds_toArray, List.set_cons_zero, List.set_cons_succ, i64_w, i32_w]
      rfl
     refine one_ (i := 2) (N := some 7) #[true, true, true, false, false, true, true, false, false, true, true, true, true, false, false, false, false] rfl rfl (one_of HT_.out (by kernel_rfl)) (by decide) (fun K hK => ?_)
     refine goes_ Tryz.func40 (by kernel_rfl) rfl #[.int .i64 a1_0] (by rfl) rfl rfl (by (try simp only [List.map_toArray, List.map_cons, List.map_nil]); first | done | rfl | (simp only [List.length_drop, List.length_take]; rfl)) ?_
     with_reducible refine (sr14_Number.calls a1_0 t216 _ A3.out).mono ?_
     rintro e w14 ⟨rfl, hb⟩
     refine ⟨_, rfl, ?_⟩
     have n0_ := As0.mk (blk_below (g := gb214) (o := .cells #[.int .i64 a0_0, .int .i64 a0_1, .int .i64 a0_2, .int .i64 a0_3, .int .i64 a0_4, .slice A0_5 l0_5.length c0_5, .slice A0_6 l0_6.length c0_6] 25 (0, 0)) (by (with_reducible repeat (first | refine bkn ?_ _ | refine bkd ?_ | refine bka ?_ _)); exact BK214.out) hb)
     have n1_ := As0.mk (blk_below (g := gb215) (o := .cells #[.int .i64 a1_0, .int .i64 a1_1, .int .u64 a1_2] 41 (0, 0)) (by (with_reducible repeat (first | refine bkn ?_ _ | refine bkd ?_ | refine bka ?_ _)); exact BK215.out) hb)
     have n2_ := As0.mk (below_step (by repeat (first | (with_reducible first | exact HB.out | apply bla | apply bln | apply bld | refine bls ?_ GE214.out | refine bls ?_ GE215.out) | exact HB.out)) hb)
     clear BK214
     clear BK215
     clear HB
     have BK214 := n0_
     have BK215 := n1_
     have HB := n2_
     clear n0_ n1_ n2_
     (try clear hb)
     (try clear hb2)
     (try clear hk)
     (try clear hi)
     refine hK.out _ _ ⟨(bkc BK215.out 0).trans rfl, (bkc BK215.out 1).trans rfl, (bkc BK215.out 2).trans rfl, (bkc BK214.out 0).trans rfl, (bkc BK214.out 1).trans rfl, (bkc BK214.out 2).trans rfl, (bkc BK214.out 3).trans rfl, (bkc BK214.out 4).trans rfl, (bkc BK214.out 5).trans rfl, (bkc BK214.out 6).trans rfl⟩ (fun hHeld => ?_)
     clear hK K
     refine norm_ (a' := ?_) ?_ ?_
     rotate_left
     ·
      show Act.put _ (some 7) _ = _
      simp only [Act.put, List.setIfInBounds_toArray, List.set_cons_zero, List.set_cons_succ, i64_w, i32_w]
      rfl
     refine pure_ (i := 3) (N := some 8) (v := ?_) (a' := ?_) #[true, true, true, true, false, true, true, false, false, true, true, true, true, false, false, false, false] rfl rfl (any_of HT_.out (by kernel_rfl)) (fun _ _ _ h => h) (Or.inl ⟨by rfl, ?_⟩) ?_ ?_
     rotate_left
     ·
      intro w'
      go_simp
      with_reducible rfl
     rotate_left
     ·
      simp only [Act.put, List.setIfInBounds_toArray, List.set_cons_zero, List.set_cons_succ, i64_w, i32_w]
      rfl
     refine pure_ (i := 4) (N := some 9) (v := ?_) (a' := ?_) #[true, true, true, true, true, true, true, false, false, true, true, true, true, false, false, false, false] rfl rfl (any_of HT_.out (by kernel_rfl)) (fun _ _ _ h => h) (Or.inl ⟨by rfl, ?_⟩) ?_ ?_
     rotate_left
     ·
      intro w'
      go_simp
      with_reducible rfl
     rotate_left
     ·
      simp only [Act.put, List.setIfInBounds_toArray, List.set_cons_zero, List.set_cons_succ, i64_w, i32_w]
      rfl
     refine one_ (i := 7) (N := some 12) #[true, true, true, true, true, true, true, true, false, true, true, true, true, false, false, false, false] rfl rfl (one_of HT_.out (by kernel_rfl)) (by decide) (fun K hK => ?_)
     refine goes_ Tryz.func40 (by kernel_rfl) rfl #[.int .i64 a1_1] (by rfl) rfl rfl (by (try simp only [List.map_toArray, List.map_cons, List.map_nil]); first | done | rfl | (simp only [List.length_drop, List.length_take]; rfl)) ?_
     with_reducible refine (sr14_Number.calls a1_1 t217 _ A6.out).mono ?_
     rintro e w15 ⟨rfl, hb⟩
     refine ⟨_, rfl, ?_⟩
     have n0_ := As0.mk (blk_below (g := gb214) (o := .cells #[.int .i64 a0_0, .int .i64 a0_1, .int .i64 a0_2, .int .i64 a0_3, .int .i64 a0_4, .slice A0_5 l0_5.length c0_5, .slice A0_6 l0_6.length c0_6] 25 (0, 0)) (by (with_reducible repeat (first | refine bkn ?_ _ | refine bkd ?_ | refine bka ?_ _)); exact BK214.out) hb)
     have n1_ := As0.mk (blk_below (g := gb215) (o := .cells #[.int .i64 a1_0, .int .i64 a1_1, .int .u64 a1_2] 41 (0, 0)) (by (with_reducible repeat (first | refine bkn ?_ _ | refine bkd ?_ | refine bka ?_ _)); exact BK215.out) hb)
     have n2_ := As0.mk (below_step (by repeat (first | (with_reducible first | exact HB.out | apply bla | apply bln | apply bld | refine bls ?_ GE214.out | refine bls ?_ GE215.out) | exact HB.out)) hb)
     clear BK214
     clear BK215
     clear HB
     have BK214 := n0_
     have BK215 := n1_
     have HB := n2_
     clear n0_ n1_ n2_
     (try clear hb)
     (try clear hb2)
     (try clear hk)
     (try clear hi)
     refine hK.out _ _ ⟨(bkc BK215.out 0).trans rfl, (bkc BK215.out 1).trans rfl, (bkc BK215.out 2).trans rfl, (bkc BK214.out 0).trans rfl, (bkc BK214.out 1).trans rfl, (bkc BK214.out 2).trans rfl, (bkc BK214.out 3).trans rfl, (bkc BK214.out 4).trans rfl, (bkc BK214.out 5).trans rfl, (bkc BK214.out 6).trans rfl⟩ (fun hHeld => ?_)
     clear hK K
     refine norm_ (a' := ?_) ?_ ?_
     rotate_left
     ·
      show Act.put _ (some 12) _ = _
      simp only [Act.put, List.setIfInBounds_toArray, List.set_cons_zero, List.set_cons_succ, i64_w, i32_w]
      rfl
     refine pure_ (i := 8) (N := some 13) (v := ?_) (a' := ?_) #[true, true, true, true, true, true, true, true, true, true, true, true, true, false, false, false, false] rfl rfl (any_of HT_.out (by kernel_rfl)) (fun _ _ _ h => h) (Or.inl ⟨by rfl, ?_⟩) ?_ ?_
     rotate_left
     ·
      intro w'
      go_simp
      with_reducible rfl
     rotate_left
     ·
      simp only [Act.put, List.setIfInBounds_toArray, List.set_cons_zero, List.set_cons_succ, i64_w, i32_w]
      rfl
     refine one_ (i := 13) (N := some 18) #[true, true, true, true, true, true, true, true, true, true, true, true, true, true, false, false, false] rfl rfl (one_of HT_.out (by kernel_rfl)) (by decide) (fun K hK => ?_)
     refine goes_ Tryz.func41 (by kernel_rfl) rfl #[.slice A0_5 l0_5.length c0_5, .int .u64 a1_2] (by rfl) rfl rfl (by (try simp only [List.map_toArray, List.map_cons, List.map_nil]); first | done | rfl | (simp only [List.length_drop, List.length_take]; rfl)) ?_
     with_reducible refine (sr05_Tell.calls k _ _ l0_5 a1_2 t218 _ ?side1 ?side2 A8.out).mono ?_
     (case side1 => repeat (first | exact (Kd.C_below HR0_5.out HB.out) | (with_reducible refine Kd.C_alloc ?_ _) | (with_reducible refine Kd.C_drewN ?_ _) | (with_reducible refine Kd.C_drew ?_)))
     (case side2 => exact HC0_5.out)
     rintro e w16 ⟨v219, rfl, ho0, hb⟩
     refine ⟨_, rfl, ?_⟩
     have n0_ := As0.mk (Kd.R_lower ho0 (below_size (by repeat (first | (with_reducible first | exact HB.out | apply bla | apply bln | apply bld | refine bls ?_ GE214.out | refine bls ?_ GE215.out) | exact HB.out))))
     have n1_ := As0.mk (blk_below (g := gb214) (o := .cells #[.int .i64 a0_0, .int .i64 a0_1, .int .i64 a0_2, .int .i64 a0_3, .int .i64 a0_4, .slice A0_5 l0_5.length c0_5, .slice A0_6 l0_6.length c0_6] 25 (0, 0)) (by (with_reducible repeat (first | refine bkn ?_ _ | refine bkd ?_ | refine bka ?_ _)); exact BK214.out) hb)
     have n2_ := As0.mk (blk_below (g := gb215) (o := .cells #[.int .i64 a1_0, .int .i64 a1_1, .int .u64 a1_2] 41 (0, 0)) (by (with_reducible repeat (first | refine bkn ?_ _ | refine bkd ?_ | refine bka ?_ _)); exact BK215.out) hb)
     have n3_ := As0.mk (below_step (by repeat (first | (with_reducible first | exact HB.out | apply bla | apply bln | apply bld | refine bls ?_ GE214.out | refine bls ?_ GE215.out) | exact HB.out)) hb)
     clear BK214
     clear BK215
     clear HB
     have HO220 := n0_
     have BK214 := n1_
     have BK215 := n2_
     have HB := n3_
     clear n0_ n1_ n2_ n3_
     (try clear hb)
     (try clear hb2)
     (try clear hk)
     (try clear hi)
     (try clear ho0)
     obtain ⟨Ao17, co17, eo17⟩ := Kd.R_slice HO220.out
     (first | subst eo17 | (injection eo17 with f1_ f2_ f3_; have f4_ := f1_.symm; have f5_ := f3_.symm; clear f1_ f2_ f3_; subst f4_; subst f5_))
     refine hK.out _ _ ⟨(bkc BK215.out 0).trans rfl, (bkc BK215.out 1).trans rfl, (bkc BK215.out 2).trans rfl, (bkc BK214.out 0).trans rfl, (bkc BK214.out 1).trans rfl, (bkc BK214.out 2).trans rfl, (bkc BK214.out 3).trans rfl, (bkc BK214.out 4).trans rfl, (bkc BK214.out 5).trans rfl, (bkc BK214.out 6).trans rfl⟩ (fun hHeld => ?_)
     clear hK K
     refine norm_ (a' := ?_) ?_ ?_
     rotate_left
     ·
      show Act.put _ (some 18) _ = _
      simp only [Act.put, List.setIfInBounds_toArray, List.set_cons_zero, List.set_cons_succ, i64_w, i32_w]
      rfl
     refine one_ (i := 14) (N := some 19) #[true, true, true, true, true, true, true, true, true, true, true, true, true, true, true, false, false] rfl rfl (one_of HT_.out (by kernel_rfl)) (by decide) (fun K hK => ?_)
     refine goes_ Tryz.func25 (by kernel_rfl) rfl #[.slice Ao17 t218.length co17] (by rfl) rfl rfl (by (try simp only [List.map_toArray, List.map_cons, List.map_nil]); first | done | rfl | (simp only [List.length_drop, List.length_take]; rfl)) ?_
     with_reducible refine (sr14_Behind.calls k _ _ t218 t221 _ ?side1 ?side2 A9.out).mono ?_
     (case side1 => repeat (first | exact (Kd.R_reads' HO220.out).2.2 | (with_reducible refine Kd.C_alloc ?_ _) | (with_reducible refine Kd.C_drewN ?_ _) | (with_reducible refine Kd.C_drew ?_)))
     (case side2 => exact (Kd.R_reads' HO220.out).2.1)
     rintro e w' ⟨rfl, ⟨nd, rfl⟩⟩
     refine ⟨_, rfl, ?_⟩
     refine hK.out _ _ ⟨(bkc BK215.out 0).trans rfl, (bkc BK215.out 1).trans rfl, (bkc BK215.out 2).trans rfl, (bkc BK214.out 0).trans rfl, (bkc BK214.out 1).trans rfl, (bkc BK214.out 2).trans rfl, (bkc BK214.out 3).trans rfl, (bkc BK214.out 4).trans rfl, (bkc BK214.out 5).trans rfl, (bkc BK214.out 6).trans rfl⟩ (fun hHeld => ?_)
     clear hK K
     refine norm_ (a' := ?_) ?_ ?_
     rotate_left
     ·
      show Act.put _ (some 19) _ = _
      simp only [Act.put, List.setIfInBounds_toArray, List.set_cons_zero, List.set_cons_succ, i64_w, i32_w]
      rfl
     refine pure_ (i := 15) (N := some 20) (v := ?_) (a' := ?_) #[true, true, true, true, true, true, true, true, true, true, true, true, true, true, true, true, false] rfl rfl (any_of HT_.out (by kernel_rfl)) (fun _ _ _ h => h) (Or.inl ⟨by rfl, ?_⟩) ?_ ?_
     rotate_left
     ·
      intro w'
      go_simp
      with_reducible rfl
     rotate_left
     ·
      simp only [Act.put, List.setIfInBounds_toArray, List.set_cons_zero, List.set_cons_succ, i64_w, i32_w]
      rfl
     refine pure_ (i := 16) (N := some 4) (v := ?_) (a' := ?_) #[true, true, true, true, true, true, true, true, true, true, true, true, true, true, true, true, true] rfl rfl (any_of HT_.out (by kernel_rfl)) (fun _ _ _ h => h) (Or.inl ⟨by rfl, ?_⟩) ?_ ?_
     rotate_left
     ·
      intro w'
      go_simp
      with_reducible rfl
     rotate_left
     ·
      simp only [Act.put, List.setIfInBounds_toArray, List.set_cons_zero, List.set_cons_succ, i64_w, i32_w]
      rfl
     refine done_ (done_of HT_.out (by kernel_rfl)) ?_
     try go_wp2
     go_ret
     exact ⟨by first | rfl | (simp [errW_none, errW_some] <;> rfl) | (simp [*, errW_none, errW_some] <;> rfl), by repeat (first | (with_reducible first | exact HB.out | apply bla | apply bln | apply bld | refine bls ?_ GE214.out | refine bls ?_ GE215.out) | exact HB.out)⟩
    ·
     rw [if_neg c10] at H
     exact absurd H (by simp)
   ·
    rw [if_neg c7] at H
    exact absurd H (by simp)
  ·
   rw [if_neg c5] at H
   exact absurd H (by simp)
 ·
  rw [if_neg c4] at H
  exact absurd H (by simp)
end Go.Proofs.YtmppkcdphgelcaaGreatDoor.PConf
namespace Go.Proofs.YtmppkcdphgelcaaGreatDoor.PConf
open Go.RowKit Go.Proofs.YtmppkcdphgelcaaGreatDoor.W.PrintWords Go.Proofs.YtmppkcdphgelcaaGreatDoor.W.PrintLast Go.Proofs.YtmppkcdphgelcaaGreatDoor.W.PrintMore
attribute [local go_sem] max2_int min2_int max_two min_two max_three min_three max_four min_four   -- for this text's walks alone
set_option linter.unusedVariables false
set_option linter.unusedSimpArgs false
def sr14_Text.l0 : Nat → ByteArray → Int → Int → Int → Int → Int → Int → List ByteArray → List (S41) → Option (ByteArray)
 | 0, _, _, _, _, _, _, _, _, _ => none
 | k + 1, x3, x4, x223000, x223001, x223002, x223003, x223004, x223005, x223006 => if x4 < (x223006.length : Int) then (if 0 ≤ x4 then ((sr14_Line.f k x223000 x223001 x223002 x223003 x223004 x223005 x223006 ((rd_T41 x223006 x4).f0) ((rd_T41 x223006 x4).f1) ((rd_T41 x223006 x4).f2)).bind fun t227 => (if x3.size + t227.size ≤ 9223372036854775807 then (sr14_Text.l0 k (x3 ++ t227) (wrap64 (x4 + 1)) x223000 x223001 x223002 x223003 x223004 x223005 x223006) else (none))) else (none)) else (some x3)
def sr14_Text.f (k : Nat) (a0_0 : Int) (a0_1 : Int) (a0_2 : Int) (a0_3 : Int) (a0_4 : Int) (l0_5 : List ByteArray) (l0_6 : List (S41)) : Option (ByteArray) := (sr14_Check.f k a0_0 a0_1 a0_2 a0_3 a0_4 l0_5 l0_6).bind fun t223 => (if t223 = 0 then ((sr14_Head.f a0_0 a0_1 a0_2 a0_3 a0_4 l0_5 l0_6).bind fun t224 => (if t224.size + 5 ≤ 9223372036854775807 then ((sr14_Behind.f k l0_5).bind fun t225 => (if (t224 ++ (⟨#[110, 97, 109, 101, 115]⟩ : ByteArray)).size + t225.size ≤ 9223372036854775807 then (sr14_Text.l0 k ((t224 ++ (⟨#[110, 97, 109, 101, 115]⟩ : ByteArray)) ++ t225) 0 a0_0 a0_1 a0_2 a0_3 a0_4 l0_5 l0_6) else (none))) else (none))) else (some (⟨#[]⟩ : ByteArray)))
def sr14_Text.T3 : Bool × List (List Nat × List Nat) := (true, [([], []), ([0], [0]), ([1], [1]), ([], []), ([3], [3]), ([4, 1], [4]), ([2, 5], [2, 5]), ([6, 5, 0, 1, 2, 3, 4, 5, 6], [6])])
def sr14_Text.B3 : List Nat := [0, 1, 3, 0, 8, 27, 63, 127]
theorem sr14_Text.tab3 : rtab .any (opsOf Tryz.f10 3) = sr14_Text.T3 := by kernel_rfl
theorem sr14_Text.bits3 : waitsOk sr14_Text.T3.2 sr14_Text.B3 = true := by kernel_rfl
def sr14_Text.T7 : Bool × List (List Nat × List Nat) := (true, [([], []), ([], []), ([], []), ([2], [2]), ([], []), ([3, 4], [3, 4]), ([5], [5]), ([1, 6], [1, 6]), ([0, 7], [0, 7]), ([8, 7, 0, 1, 2, 3, 4, 5, 6, 7, 8], [0, 8])])
def sr14_Text.B7 : List Nat := [0, 0, 0, 4, 0, 28, 60, 126, 255, 511]
theorem sr14_Text.tab7 : rtab .any (opsOf Tryz.f10 7) = sr14_Text.T7 := by kernel_rfl
theorem sr14_Text.bits7 : waitsOk sr14_Text.T7.2 sr14_Text.B7 = true := by kernel_rfl
set_option maxHeartbeats 8000000 in
set_option maxRecDepth 100000 in
theorem sr14_Text.calls (k : Nat) (a0_0 : Int) (a0_1 : Int) (a0_2 : Int) (a0_3 : Int) (a0_4 : Int) (A0_5 : Option Addr) (c0_5 : Nat) (l0_5 : List ByteArray) (A0_6 : Option Addr) (c0_6 : Nat) (l0_6 : List (S41)) (r : ByteArray) (w : World) (hr0_5 : Kd.C Kd.string w A0_5 l0_5.length l0_5) (hc0_5 : l0_5.length ≤ c0_5) (hr0_6 : Kd.C k41 w A0_6 l0_6.length l0_6) (hc0_6 : l0_6.length ≤ c0_6) (h : sr14_Text.f k a0_0 a0_1 a0_2 a0_3 a0_4 l0_5 l0_6 = some r) :
  Calls Tryz.prog 10 #[.agg #[.int .i64 a0_0, .int .i64 a0_1, .int .i64 a0_2, .int .i64 a0_3, .int .i64 a0_4, .slice A0_5 l0_5.length c0_5, .slice A0_6 l0_6.length c0_6]] w fun e w' => e = .returned (.string r) ∧ Below w.heap.size w w' := by
 have hu25 := Tryz.underlying25
 have hu41 := Tryz.underlying41
 have HR0_5 := As0.mk hr0_5
 have HC0_5 := As0.mk hc0_5
 clear hr0_5 hc0_5
 have HR0_6 := As0.mk hr0_6
 have HC0_6 := As0.mk hc0_6
 clear hr0_6 hc0_6
 have HB := As0.mk (Below.refl w.heap.size w)
 have H : ((sr14_Check.f k a0_0 a0_1 a0_2 a0_3 a0_4 l0_5 l0_6).bind fun t223 => (if t223 = 0 then ((sr14_Head.f a0_0 a0_1 a0_2 a0_3 a0_4 l0_5 l0_6).bind fun t224 => (if t224.size + 5 ≤ 9223372036854775807 then ((sr14_Behind.f k l0_5).bind fun t225 => (if (t224 ++ (⟨#[110, 97, 109, 101, 115]⟩ : ByteArray)).size + t225.size ≤ 9223372036854775807 then (sr14_Text.l0 k ((t224 ++ (⟨#[110, 97, 109, 101, 115]⟩ : ByteArray)) ++ t225) 0 a0_0 a0_1 a0_2 a0_3 a0_4 l0_5 l0_6) else (none))) else (none))) else (some (⟨#[]⟩ : ByteArray)))) = some r := h
 clear h
 replace H := Option.bind_eq_some_iff.mp H
 obtain ⟨t223, A20, H⟩ := H
 replace H : (if t223 = 0 then ((sr14_Head.f a0_0 a0_1 a0_2 a0_3 a0_4 l0_5 l0_6).bind fun t224 => (if t224.size + 5 ≤ 9223372036854775807 then ((sr14_Behind.f k l0_5).bind fun t225 => (if (t224 ++ (⟨#[110, 97, 109, 101, 115]⟩ : ByteArray)).size + t225.size ≤ 9223372036854775807 then (sr14_Text.l0 k ((t224 ++ (⟨#[110, 97, 109, 101, 115]⟩ : ByteArray)) ++ t225) 0 a0_0 a0_1 a0_2 a0_3 a0_4 l0_5 l0_6) else (none))) else (none))) else (some (⟨#[]⟩ : ByteArray))) = some r := H
 have A2 := As0.mk A20
 clear A20
 by_cases c3 : t223 = 0
 ·
  rw [if_pos c3] at H
  have c3b0 : (t223 == 0) = true := beq_iff_eq.mpr c3
  have c3b1 : (t223 != 0) = false := bne_eq_false_iff_eq.mpr c3
  clear c3
  replace H := Option.bind_eq_some_iff.mp H
  obtain ⟨t224, A40, H⟩ := H
  replace H : (if t224.size + 5 ≤ 9223372036854775807 then ((sr14_Behind.f k l0_5).bind fun t225 => (if (t224 ++ (⟨#[110, 97, 109, 101, 115]⟩ : ByteArray)).size + t225.size ≤ 9223372036854775807 then (sr14_Text.l0 k ((t224 ++ (⟨#[110, 97, 109, 101, 115]⟩ : ByteArray)) ++ t225) 0 a0_0 a0_1 a0_2 a0_3 a0_4 l0_5 l0_6) else (none))) else (none)) = some r := H
  have A4 := As0.mk A40
  clear A40
  by_cases c5 : t224.size + 5 ≤ 9223372036854775807
  ·
   rw [if_pos c5] at H
   have c5b0 := eq_true c5
   have c5b1 : decide (t224.size + 5 ≤ 9223372036854775807) = true := decide_eq_true c5
   try have c5b2 : (9223372036854775807 < t224.size + 5) = False := eq_false (Nat.not_lt.2 c5)
   replace H := Option.bind_eq_some_iff.mp H
   obtain ⟨t225, A60, H⟩ := H
   replace H : (if (t224 ++ (⟨#[110, 97, 109, 101, 115]⟩ : ByteArray)).size + t225.size ≤ 9223372036854775807 then (sr14_Text.l0 k ((t224 ++ (⟨#[110, 97, 109, 101, 115]⟩ : ByteArray)) ++ t225) 0 a0_0 a0_1 a0_2 a0_3 a0_4 l0_5 l0_6) else (none)) = some r := H
   have A6 := As0.mk A60
   clear A60
   by_cases c7 : (t224 ++ (⟨#[110, 97, 109, 101, 115]⟩ : ByteArray)).size + t225.size ≤ 9223372036854775807
   ·
    rw [if_pos c7] at H
    have c7b0 := eq_true c7
    have c7n : (9223372036854775807 < t224.size + 5 + t225.size) = False := eq_false (Nat.not_lt.2 (by have h_ := c7; simp only [ByteArray.size_append] at h_; exact h_))
    have c7b1 : decide ((t224 ++ (⟨#[110, 97, 109, 101, 115]⟩ : ByteArray)).size + t225.size ≤ 9223372036854775807) = true := decide_eq_true c7
    try have c7b2 : (9223372036854775807 < (t224 ++ (⟨#[110, 97, 109, 101, 115]⟩ : ByteArray)).size + t225.size) = False := eq_false (Nat.not_lt.2 c7)
    have H' := As0.mk H
    clear H
    go_enter Tryz.func10, Tryz.ntmps10
    try go_wp2_with (first | ((with_reducible refine gate_dst (N := 1) rfl ?_); refine box_event ?hg (N := 1) ?hd (cs := #[.int .i64 a0_0, .int .i64 a0_1, .int .i64 a0_2, .int .i64 a0_3, .int .i64 a0_4, .slice A0_5 l0_5.length c0_5, .slice A0_6 l0_6.length c0_6]) (t := 25) ?hr ?_; (case hd => rfl); (case hg => rfl); (case hr => first | (go_simp; done) | (go_simp; rfl)); intro gb222 hg w8 hbox hb; have n0_ := As0.mk (below_step (by repeat (first | (with_reducible first | exact HB.out | apply bla | apply bln | apply bld) | exact HB.out)) hb); have n1_ := As0.mk (hbox); have n2_ := As0.mk ((by rw [hg]; exact (below_size (by repeat (first | (with_reducible first | exact HB.out | apply bla | apply bln | apply bld) | exact HB.out))) : w.heap.size ≤ gb222)); have n3_ := As0.mk ((by rw [hg]; exact (below_size (by repeat (first | (with_reducible first | exact HB.out | apply bla | apply bln | apply bld) | exact HB.out))) : w.heap.size ≤ gb222)); clear HB; have HB := n0_; have BK222 := n1_; have GW222 := n2_; have GE222 := n3_; clear n0_ n1_ n2_ n3_; clear hb hbox hg; have hcz9_0 : w8.cell? ⟨gb222, 0, none⟩ = some (.int .i64 a0_0) := (bkc BK222.out 0).trans rfl; have hcz9_1 : w8.cell? ⟨gb222, 1, none⟩ = some (.int .i64 a0_1) := (bkc BK222.out 1).trans rfl; have hcz9_2 : w8.cell? ⟨gb222, 2, none⟩ = some (.int .i64 a0_2) := (bkc BK222.out 2).trans rfl; have hcz9_3 : w8.cell? ⟨gb222, 3, none⟩ = some (.int .i64 a0_3) := (bkc BK222.out 3).trans rfl; have hcz9_4 : w8.cell? ⟨gb222, 4, none⟩ = some (.int .i64 a0_4) := (bkc BK222.out 4).trans rfl; have hcz9_5 : w8.cell? ⟨gb222, 5, none⟩ = some (.slice A0_5 l0_5.length c0_5) := (bkc BK222.out 5).trans rfl; have hcz9_6 : w8.cell? ⟨gb222, 6, none⟩ = some (.slice A0_6 l0_6.length c0_6) := (bkc BK222.out 6).trans rfl; have hfz9_0 := bkf BK222.out 0; have hfz9_1 := bkf BK222.out 1; have hfz9_2 := bkf BK222.out 2; have hfz9_3 := bkf BK222.out 3; have hfz9_4 := bkf BK222.out 4; have hfz9_5 := bkf BK222.out 5; have hfz9_6 := bkf BK222.out 6) | ((with_reducible refine gate_callee (f := 8) rfl ?_); refine goesL_ (some 6) rfl rfl Tryz.func8 (by kernel_rfl) rfl #[.agg #[.int .i64 a0_0, .int .i64 a0_1, .int .i64 a0_2, .int .i64 a0_3, .int .i64 a0_4, .slice A0_5 l0_5.length c0_5, .slice A0_6 l0_6.length c0_6]] rfl (by (try simp only [List.map_toArray, List.map_cons, List.map_nil]); first | done | rfl | (simp only [List.length_drop, List.length_take]; rfl)) ?_; (with_reducible refine (sr14_Check.calls k a0_0 a0_1 a0_2 a0_3 a0_4 _ _ l0_5 _ _ l0_6 t223 _ ?side1 ?side2 ?side3 ?side4 A2.out).mono ?_); (case side1 => repeat (first | exact (Kd.C_below HR0_5.out HB.out) | (with_reducible refine Kd.C_alloc ?_ _) | (with_reducible refine Kd.C_drewN ?_ _) | (with_reducible refine Kd.C_drew ?_))); (case side2 => exact HC0_5.out); (case side3 => repeat (first | exact (Kd.C_below HR0_6.out HB.out) | (with_reducible refine Kd.C_alloc ?_ _) | (with_reducible refine Kd.C_drewN ?_ _) | (with_reducible refine Kd.C_drew ?_))); (case side4 => exact HC0_6.out); rintro e w10 ⟨rfl, hb⟩; refine ⟨_, rfl, ?_⟩; have n0_ := As0.mk (blk_below (g := gb222) (o := .cells #[.int .i64 a0_0, .int .i64 a0_1, .int .i64 a0_2, .int .i64 a0_3, .int .i64 a0_4, .slice A0_5 l0_5.length c0_5, .slice A0_6 l0_6.length c0_6] 25 (0, 0)) (by (with_reducible repeat (first | refine bkn ?_ _ | refine bkd ?_ | refine bka ?_ _)); exact BK222.out) hb); have n1_ := As0.mk (below_step (by repeat (first | (with_reducible first | exact HB.out | apply bla | apply bln | apply bld | refine bls ?_ GE222.out) | exact HB.out)) hb); clear BK222; clear HB; have BK222 := n0_; have HB := n1_; clear n0_ n1_; (try clear hb); (try clear hb2); (try clear hk); (try clear hi)))
    have n0_ := As0.mk (bkd BK222.out)
    have n1_ := As0.mk (bld HB.out)
    clear BK222
    clear HB
    have BK222 := n0_
    have HB := n1_
    clear n0_ n1_
    refine start_ (n := 8) (S := fun w' => w'.cell? ⟨gb222, 0, none⟩ = some (.int .i64 a0_0) ∧ w'.cell? ⟨gb222, 1, none⟩ = some (.int .i64 a0_1) ∧ w'.cell? ⟨gb222, 2, none⟩ = some (.int .i64 a0_2) ∧ w'.cell? ⟨gb222, 3, none⟩ = some (.int .i64 a0_3) ∧ w'.cell? ⟨gb222, 4, none⟩ = some (.int .i64 a0_4) ∧ w'.cell? ⟨gb222, 5, none⟩ = some (.slice A0_5 l0_5.length c0_5) ∧ w'.cell? ⟨gb222, 6, none⟩ = some (.slice A0_6 l0_6.length c0_6)) (ds := []) #[false, false, false, false, false, false, false, false] (by kernel_rfl) rfl rfl ⟨(bkc BK222.out 0).trans rfl, (bkc BK222.out 1).trans rfl, (bkc BK222.out 2).trans rfl, (bkc BK222.out 3).trans rfl, (bkc BK222.out 4).trans rfl, (bkc BK222.out 5).trans rfl, (bkc BK222.out 6).trans rfl⟩ (fun hHeld => ?_); refine with_tabW sr14_Text.tab3 sr14_Text.bits3 (fun HT_ HW_ => ?_)
    generalize w10.drew = w11 at BK222 HB hHeld ⊢
    refine pure_ (i := 3) (N := some 11) (v := ?_) (a' := ?_) #[false, false, false, true, false, false, false, false] rfl rfl (any_of HT_.out (by kernel_rfl)) (fun _ _ _ h => h) (Or.inl ⟨by rfl, ?_⟩) ?_ ?_
    rotate_left
    ·
     intro w'
     go_simp
     with_reducible rfl
    rotate_left
    ·
     simp only [Act.put, List.setIfInBounds_toArray, List.set_cons_zero, List.set_cons_succ, i64_w, i32_w]
     rfl
    refine take_ (i := 0) (N := some 8) (v := ?_) (a' := ?_) #[true, false, false, true, false, false, false, false] rfl rfl (take_ofW HT_.out HW_.out (by kernel_rfl)) (fun _ _ _ h => h) (Or.inl ⟨by rfl, ?_⟩) hHeld ?_ ?_
    rotate_left
    ·
     rintro w' ⟨s0, s1, s2, s3, s4, s5, s6⟩
     go_simp
     with_reducible rfl
    rotate_left
    ·
     simp only [Act.put, List.setIfInBounds_toArray, List.set_cons_zero, List.set_cons_succ, i64_w, i32_w]
     rfl
    refine take_ (i := 4) (N := some 12) (v := ?_) (a' := ?_) #[true, false, false, true, true, false, false, false] rfl rfl (take_ofW HT_.out HW_.out (by kernel_rfl)) (fun _ _ _ h => h) (Or.inl ⟨by rfl, ?_⟩) hHeld ?_ ?_
    rotate_left
    ·
     rintro w' ⟨s0, s1, s2, s3, s4, s5, s6⟩
     go_simp
     with_reducible rfl
    rotate_left
    ·
     simp only [Act.put, List.setIfInBounds_toArray, List.set_cons_zero, List.set_cons_succ, i64_w, i32_w]
     rfl
    refine one_ (i := 1) (N := some 9) #[true, true, false, true, true, false, false, false] rfl rfl (one_of HT_.out (by kernel_rfl)) (by decide) (fun K hK => ?_)
    refine goes_ Tryz.func24 (by kernel_rfl) rfl #[.agg #[.int .i64 a0_0, .int .i64 a0_1, .int .i64 a0_2, .int .i64 a0_3, .int .i64 a0_4, .slice A0_5 l0_5.length c0_5, .slice A0_6 l0_6.length c0_6]] (by rfl) rfl rfl (by (try simp only [List.map_toArray, List.map_cons, List.map_nil]); first | done | rfl | (simp only [List.length_drop, List.length_take]; rfl)) ?_
    with_reducible refine (sr14_Head.calls a0_0 a0_1 a0_2 a0_3 a0_4 _ _ l0_5 _ _ l0_6 t224 _ ?side1 ?side2 ?side3 ?side4 A4.out).mono ?_
    (case side1 => repeat (first | exact (Kd.C_below HR0_5.out HB.out) | (with_reducible refine Kd.C_alloc ?_ _) | (with_reducible refine Kd.C_drewN ?_ _) | (with_reducible refine Kd.C_drew ?_)))
    (case side2 => exact HC0_5.out)
    (case side3 => repeat (first | exact (Kd.C_below HR0_6.out HB.out) | (with_reducible refine Kd.C_alloc ?_ _) | (with_reducible refine Kd.C_drewN ?_ _) | (with_reducible refine Kd.C_drew ?_)))
    (case side4 => exact HC0_6.out)
    rintro e w12 ⟨rfl, hb⟩
    refine ⟨_, rfl, ?_⟩
    have n0_ := As0.mk (blk_below (g := gb222) (o := .cells #[.int .i64 a0_0, .int .i64 a0_1, .int .i64 a0_2, .int .i64 a0_3, .int .i64 a0_4, .slice A0_5 l0_5.length c0_5, .slice A0_6 l0_6.length c0_6] 25 (0, 0)) (by (with_reducible repeat (first | refine bkn ?_ _ | refine bkd ?_ | refine bka ?_ _)); exact BK222.out) hb)
    have n1_ := As0.mk (below_step (by repeat (first | (with_reducible first | exact HB.out | apply bla | apply bln | apply bld | refine bls ?_ GE222.out) | exact HB.out)) hb)
    clear BK222
    clear HB
    have BK222 := n0_
    have HB := n1_
    clear n0_ n1_
    (try clear hb)
    (try clear hb2)
    (try clear hk)
    (try clear hi)
    refine hK.out _ _ ⟨(bkc BK222.out 0).trans rfl, (bkc BK222.out 1).trans rfl, (bkc BK222.out 2).trans rfl, (bkc BK222.out 3).trans rfl, (bkc BK222.out 4).trans rfl, (bkc BK222.out 5).trans rfl, (bkc BK222.out 6).trans rfl⟩ (fun hHeld => ?_)
    clear hK K
    refine norm_ (a' := ?_) ?_ ?_
    rotate_left
    ·
     show Act.put _ (some 9) _ = _
     simp only [Act.put, List.setIfInBounds_toArray, List.set_cons_zero, List.set_cons_succ, i64_w, i32_w]
     rfl
    refine pure_ (i := 2) (N := some 10) (v := ?_) (a' := ?_) #[true, true, true, true, true, false, false, false] rfl rfl (any_of HT_.out (by kernel_rfl)) (fun _ _ _ h => h) (Or.inl ⟨by rfl, ?_⟩) ?_ ?_
    rotate_left
    ·
     intro w'
     go_simp
     with_reducible rfl
    rotate_left
    ·
     simp only [Act.put, List.setIfInBounds_toArray, List.set_cons_zero, List.set_cons_succ, i64_w, i32_w]
     rfl
    refine one_ (i := 5) (N := some 13) #[true, true, true, true, true, true, false, false] rfl rfl (one_of HT_.out (by kernel_rfl)) (by decide) (fun K hK => ?_)
    refine goes_ Tryz.func25 (by kernel_rfl) rfl #[.slice A0_5 l0_5.length c0_5] (by rfl) rfl rfl (by (try simp only [List.map_toArray, List.map_cons, List.map_nil]); first | done | rfl | (simp only [List.length_drop, List.length_take]; rfl)) ?_
    with_reducible refine (sr14_Behind.calls k _ _ l0_5 t225 _ ?side1 ?side2 A6.out).mono ?_
    (case side1 => repeat (first | exact (Kd.C_below HR0_5.out HB.out) | (with_reducible refine Kd.C_alloc ?_ _) | (with_reducible refine Kd.C_drewN ?_ _) | (with_reducible refine Kd.C_drew ?_)))
    (case side2 => exact HC0_5.out)
    rintro e w' ⟨rfl, ⟨nd, rfl⟩⟩
    refine ⟨_, rfl, ?_⟩
    refine hK.out _ _ ⟨(bkc BK222.out 0).trans rfl, (bkc BK222.out 1).trans rfl, (bkc BK222.out 2).trans rfl, (bkc BK222.out 3).trans rfl, (bkc BK222.out 4).trans rfl, (bkc BK222.out 5).trans rfl, (bkc BK222.out 6).trans rfl⟩ (fun hHeld => ?_)
    clear hK K
    refine norm_ (a' := ?_) ?_ ?_
    rotate_left
    ·
     show Act.put _ (some 13) _ = _
     simp only [Act.put, List.setIfInBounds_toArray, List.set_cons_zero, List.set_cons_succ, i64_w, i32_w]
     rfl
    refine pure_ (i := 6) (N := some 14) (v := ?_) (a' := ?_) #[true, true, true, true, true, true, true, false] rfl rfl (any_of HT_.out (by kernel_rfl)) (fun _ _ _ h => h) (Or.inl ⟨by rfl, ?_⟩) ?_ ?_
    rotate_left
    ·
     intro w'
     go_simp
     with_reducible rfl
    rotate_left
    ·
     simp only [Act.put, List.setIfInBounds_toArray, List.set_cons_zero, List.set_cons_succ, i64_w, i32_w]
     rfl
    refine pure_ (i := 7) (N := some 3) (v := ?_) (a' := ?_) #[true, true, true, true, true, true, true, true] rfl rfl (any_of HT_.out (by kernel_rfl)) (fun _ _ _ h => h) (Or.inl ⟨by rfl, ?_⟩) ?_ ?_
    rotate_left
    ·
     intro w'
     go_simp
     with_reducible rfl
    rotate_left
    ·
     simp only [Act.put, List.setIfInBounds_toArray, List.set_cons_zero, List.set_cons_succ, i64_w, i32_w]
     rfl
    refine done_ (done_of HT_.out (by kernel_rfl)) ?_
    try go_wp2
    go_loopg [3, 4] k (fun kq v3 v4 w' => ∃ (x3_1 : ByteArray) (x4_1 : Int), v3 = .string x3_1 ∧ v4 = .int .i64 x4_1 ∧ As0 (sr14_Text.l0 kq x3_1 x4_1 a0_0 a0_1 a0_2 a0_3 a0_4 l0_5 l0_6 = some r) ∧ As0 (kq ≤ k) ∧ As0 (w'.heap[gb222]? = some (.cells #[.int .i64 a0_0, .int .i64 a0_1, .int .i64 a0_2, .int .i64 a0_3, .int .i64 a0_4, (.slice A0_5 l0_5.length c0_5), (.slice A0_6 l0_6.length c0_6)] 25 (0, 0))) ∧ As0 (Below w.heap.size w w'))
    case atStart => exact ⟨((t224 ++ (⟨#[110, 97, 109, 101, 115]⟩ : ByteArray)) ++ t225), (0), (by first | rfl | (simp; done) | (simp [*]; done)), (by first | rfl | (simp; done) | (simp [*]; done)), H', ⟨Nat.le_refl _⟩, ⟨by (with_reducible repeat (first | refine bkn ?_ _ | refine bkd ?_ | refine bka ?_ _)); exact BK222.out⟩, ⟨by repeat (first | (with_reducible first | exact HB.out | apply bla | apply bln | apply bld | refine bls ?_ GE222.out) | exact HB.out)⟩⟩
    case round =>
     clear H'
     try clear c1
     try clear c2
     try clear p2
     try clear c3
     try clear c3b0
     try clear c3b1
     try clear c5
     try clear c5b0
     try clear c5b1
     try clear c5b2
     try clear c7
     try clear c7b0
     try clear c7b1
     try clear c7b2
     try clear c8
     try clear c10
     try clear hcz9_0
     try clear hcz9_1
     try clear hcz9_2
     try clear hcz9_3
     try clear hcz9_4
     try clear hcz9_5
     try clear hcz9_6
     try clear hfz9_0
     try clear hfz9_1
     try clear hfz9_2
     try clear hfz9_3
     try clear hfz9_4
     try clear hfz9_5
     try clear hfz9_6
     obtain ⟨x3_1, x4_1, rfl, rfl, HA, HK1, BK222, HB⟩ := hrel
     cases gk with
     | zero => exact absurd HA.out (by simp [sr14_Text.l0])
     | succ k1 =>
      have H := HA.out
      clear HA
      simp only [sr14_Text.l0] at H
      by_cases c13 : x4_1 < (l0_6.length : Int)
      ·
       rw [if_pos c13] at H
       have c13b0 : decide (x4_1 < (l0_6.length : Int)) = true := decide_eq_true c13
       clear c13
       by_cases c14 : 0 ≤ x4_1
       ·
        rw [if_pos c14] at H
        have c14b0 : decide (0 ≤ x4_1) = true := decide_eq_true c14
        clear c14
        replace H := Option.bind_eq_some_iff.mp H
        obtain ⟨t227, A150, H⟩ := H
        replace H : (if x3_1.size + t227.size ≤ 9223372036854775807 then (sr14_Text.l0 k1 (x3_1 ++ t227) (wrap64 (x4_1 + 1)) a0_0 a0_1 a0_2 a0_3 a0_4 l0_5 l0_6) else (none)) = some r := H
        have A15 := As0.mk A150
        clear A150
        by_cases c16 : x3_1.size + t227.size ≤ 9223372036854775807
        ·
         rw [if_pos c16] at H
         have c16b0 := eq_true c16
         have c16b1 : decide (x3_1.size + t227.size ≤ 9223372036854775807) = true := decide_eq_true c16
         try have c16b2 : (9223372036854775807 < x3_1.size + t227.size) = False := eq_false (Nat.not_lt.2 c16)
         have H' := As0.mk H
         clear H
         have hcz17_0 : wr.cell? ⟨gb222, 0, none⟩ = some (.int .i64 a0_0) := (bkc BK222.out 0).trans rfl
         have hcz17_1 : wr.cell? ⟨gb222, 1, none⟩ = some (.int .i64 a0_1) := (bkc BK222.out 1).trans rfl
         have hcz17_2 : wr.cell? ⟨gb222, 2, none⟩ = some (.int .i64 a0_2) := (bkc BK222.out 2).trans rfl
         have hcz17_3 : wr.cell? ⟨gb222, 3, none⟩ = some (.int .i64 a0_3) := (bkc BK222.out 3).trans rfl
         have hcz17_4 : wr.cell? ⟨gb222, 4, none⟩ = some (.int .i64 a0_4) := (bkc BK222.out 4).trans rfl
         have hcz17_5 : wr.cell? ⟨gb222, 5, none⟩ = some (.slice A0_5 l0_5.length c0_5) := (bkc BK222.out 5).trans rfl
         have hcz17_6 : wr.cell? ⟨gb222, 6, none⟩ = some (.slice A0_6 l0_6.length c0_6) := (bkc BK222.out 6).trans rfl
         have hfz17_0 := bkf BK222.out 0
         have hfz17_1 := bkf BK222.out 1
         have hfz17_2 := bkf BK222.out 2
         have hfz17_3 := bkf BK222.out 3
         have hfz17_4 := bkf BK222.out 4
         have hfz17_5 := bkf BK222.out 5
         have hfz17_6 := bkf BK222.out 6
         try go_wp2
         have n0_ := As0.mk (bkd BK222.out)
         have n1_ := As0.mk (bld HB.out)
         clear BK222
         clear HB
         have BK222 := n0_
         have HB := n1_
         clear n0_ n1_
         have p226 : 0 ≤ (x4_1 : Int) := of_decide_eq_true (by first | (with_reducible assumption) | assumption)
         have q226 : x4_1 < (l0_6.length : Int) := of_decide_eq_true (by first | (with_reducible assumption) | assumption)
         obtain ⟨ad226, e226, hx226_0, hx226_1, hx226_2⟩ := at_T41 HR0_6.out x4_1 p226 q226
         have hw226_2 := hx226_2
         have hw226_1 := hx226_1
         have hw226_0 := hx226_0
         cases e226
         replace hx226_0 := (HB.out.cell (World.block_lt_of_cell? w _ hx226_0)).trans hx226_0
         replace hx226_1 := (HB.out.cell (World.block_lt_of_cell? w _ hx226_1)).trans hx226_1
         replace hx226_2 := (HB.out.cell (World.block_lt_of_cell? w _ hx226_2)).trans hx226_2
         replace p226 := eq_true p226
         replace q226 := eq_true q226
         refine start_ (n := 10) (S := fun w' => w'.cell? ⟨gb222, 0, none⟩ = some (.int .i64 a0_0) ∧ w'.cell? ⟨gb222, 1, none⟩ = some (.int .i64 a0_1) ∧ w'.cell? ⟨gb222, 2, none⟩ = some (.int .i64 a0_2) ∧ w'.cell? ⟨gb222, 3, none⟩ = some (.int .i64 a0_3) ∧ w'.cell? ⟨gb222, 4, none⟩ = some (.int .i64 a0_4) ∧ w'.cell? ⟨gb222, 5, none⟩ = some (.slice A0_5 l0_5.length c0_5) ∧ w'.cell? ⟨gb222, 6, none⟩ = some (.slice (some ad226) l0_6.length c0_6) ∧ w'.cell? (ad226.add ((x4_1).toNat * 3)) = some (.int .i64 ((rd_T41 l0_6 x4_1).f0)) ∧ w'.cell? ⟨(ad226.add ((x4_1).toNat * 3)).block, (ad226.add ((x4_1).toNat * 3)).off + 1, none⟩ = some (.int .i64 ((rd_T41 l0_6 x4_1).f1)) ∧ w'.cell? ⟨(ad226.add ((x4_1).toNat * 3)).block, (ad226.add ((x4_1).toNat * 3)).off + 2, none⟩ = some (.int .u64 ((rd_T41 l0_6 x4_1).f2))) (ds := []) #[false, false, false, false, false, false, false, false, false, false] (by kernel_rfl) rfl rfl ⟨(bkc BK222.out 0).trans rfl, (bkc BK222.out 1).trans rfl, (bkc BK222.out 2).trans rfl, (bkc BK222.out 3).trans rfl, (bkc BK222.out 4).trans rfl, (bkc BK222.out 5).trans rfl, (bkc BK222.out 6).trans rfl, ((HB.out.cell (World.block_lt_of_cell? w _ hw226_0)).trans hw226_0), ((HB.out.cell (World.block_lt_of_cell? w _ hw226_1)).trans hw226_1), ((HB.out.cell (World.block_lt_of_cell? w _ hw226_2)).trans hw226_2)⟩ (fun hHeld => ?_); refine with_tabW sr14_Text.tab7 sr14_Text.bits7 (fun HT_ HW_ => ?_)
         generalize wr.drew = w18 at BK222 HB hx226_0 hx226_1 hx226_2 hHeld ⊢
         refine pure_ (i := 0) (N := some 22) (v := ?_) (a' := ?_) #[true, false, false, false, false, false, false, false, false, false] rfl rfl (any_of HT_.out (by kernel_rfl)) (fun _ _ _ h => h) (Or.inl ⟨by rfl, ?_⟩) ?_ ?_
         rotate_left
         ·
          intro w'
          go_simp
          with_reducible rfl
         rotate_left
         ·
          simp only [Act.put, List.setIfInBounds_toArray, List.set_cons_zero, List.set_cons_succ, i64_w, i32_w]
          rfl
         refine pure_ (i := 2) (N := some 24) (v := ?_) (a' := ?_) #[true, false, true, false, false, false, false, false, false, false] rfl rfl (any_of HT_.out (by kernel_rfl)) (fun _ _ _ h => h) (Or.inl ⟨by rfl, ?_⟩) ?_ ?_
         rotate_left
         ·
          intro w'
          go_simp
          with_reducible rfl
         rotate_left
         ·
          simp only [Act.put, List.setIfInBounds_toArray, List.set_cons_zero, List.set_cons_succ, i64_w, i32_w]
          rfl
         refine pure_ (i := 4) (N := some 26) (v := ?_) (a' := ?_) #[true, false, true, false, true, false, false, false, false, false] rfl rfl (any_of HT_.out (by kernel_rfl)) (fun _ _ _ h => h) (Or.inl ⟨by rfl, ?_⟩) ?_ ?_
         rotate_left
         ·
          intro w'
          go_simp
          with_reducible rfl
         rotate_left
         ·
          simp only [Act.put, List.setIfInBounds_toArray, List.set_cons_zero, List.set_cons_succ, i64_w, i32_w]
          rfl
         refine take_ (i := 1) (N := some 23) (v := ?_) (a' := ?_) #[true, true, true, false, true, false, false, false, false, false] rfl rfl (take_ofW HT_.out HW_.out (by kernel_rfl)) (fun _ _ _ h => h) (Or.inl ⟨by rfl, ?_⟩) hHeld ?_ ?_
         rotate_left
         ·
          rintro w' ⟨s0, s1, s2, s3, s4, s5, s6, s7, s8, s9⟩
          go_simp
          with_reducible rfl
         rotate_left
         ·
          simp only [Act.put, List.setIfInBounds_toArray, List.set_cons_zero, List.set_cons_succ, i64_w, i32_w]
          rfl
         refine take_ (i := 3) (N := some 25) (v := ?_) (a' := ?_) #[true, true, true, true, true, false, false, false, false, false] rfl rfl (take_ofW HT_.out HW_.out (by kernel_rfl)) (fun _ _ _ h => h) (Or.inl ⟨by rfl, ?_⟩) hHeld ?_ ?_
         rotate_left
         ·
          rintro w' ⟨s0, s1, s2, s3, s4, s5, s6, s7, s8, s9⟩
          go_simp
          with_reducible rfl
         rotate_left
         ·
          simp only [Act.put, List.setIfInBounds_toArray, List.set_cons_zero, List.set_cons_succ, i64_w, i32_w]
          rfl
         refine pure_ (i := 5) (N := some 27) (v := ?_) (a' := ?_) #[true, true, true, true, true, true, false, false, false, false] rfl rfl (any_of HT_.out (by kernel_rfl)) (fun _ _ _ h => h) (Or.inl ⟨by rfl, ?_⟩) ?_ ?_
         rotate_left
         ·
          intro w'
          go_simp
          with_reducible rfl
         rotate_left
         ·
          simp only [Act.put, List.setIfInBounds_toArray, List.set_cons_zero, List.set_cons_succ, i64_w, i32_w]
          rfl
         refine take_ (i := 6) (N := some 28) (v := ?_) (a' := ?_) #[true, true, true, true, true, true, true, false, false, false] rfl rfl (take_ofW HT_.out HW_.out (by kernel_rfl)) (fun _ _ _ h => h) (Or.inl ⟨by rfl, ?_⟩) hHeld ?_ ?_
         rotate_left
         ·
          rintro w' ⟨s0, s1, s2, s3, s4, s5, s6, s7, s8, s9⟩
          go_simp
          with_reducible rfl
         rotate_left
         ·
          simp only [Act.put, List.setIfInBounds_toArray, List.set_cons_zero, List.set_cons_succ, i64_w, i32_w]
          rfl
         refine one_ (i := 7) (N := some 29) #[true, true, true, true, true, true, true, true, false, false] rfl rfl (one_of HT_.out (by kernel_rfl)) (by decide) (fun K hK => ?_)
         refine goes_ Tryz.func26 (by kernel_rfl) rfl #[.agg #[.int .i64 a0_0, .int .i64 a0_1, .int .i64 a0_2, .int .i64 a0_3, .int .i64 a0_4, .slice A0_5 l0_5.length c0_5, .slice (some ad226) l0_6.length c0_6], .agg #[.int .i64 ((rd_T41 l0_6 x4_1).f0), .int .i64 ((rd_T41 l0_6 x4_1).f1), .int .u64 ((rd_T41 l0_6 x4_1).f2)]] (by rfl) rfl rfl (by (try simp only [List.map_toArray, List.map_cons, List.map_nil]); first | done | rfl | (simp only [List.length_drop, List.length_take]; rfl)) ?_
         with_reducible refine (sr14_Line.calls k1 a0_0 a0_1 a0_2 a0_3 a0_4 _ _ l0_5 _ _ l0_6 ((rd_T41 l0_6 x4_1).f0) ((rd_T41 l0_6 x4_1).f1) ((rd_T41 l0_6 x4_1).f2) t227 _ ?side1 ?side2 ?side3 ?side4 A15.out).mono ?_
         (case side1 => repeat (first | exact (Kd.C_below HR0_5.out HB.out) | (with_reducible refine Kd.C_alloc ?_ _) | (with_reducible refine Kd.C_drewN ?_ _) | (with_reducible refine Kd.C_drew ?_)))
         (case side2 => exact HC0_5.out)
         (case side3 => repeat (first | exact (Kd.C_below HR0_6.out HB.out) | (with_reducible refine Kd.C_alloc ?_ _) | (with_reducible refine Kd.C_drewN ?_ _) | (with_reducible refine Kd.C_drew ?_)))
         (case side4 => exact HC0_6.out)
         rintro e w19 ⟨rfl, hb⟩
         refine ⟨_, rfl, ?_⟩
         have n0_ := As0.mk (blk_below (g := gb222) (o := .cells #[.int .i64 a0_0, .int .i64 a0_1, .int .i64 a0_2, .int .i64 a0_3, .int .i64 a0_4, .slice A0_5 l0_5.length c0_5, .slice (some ad226) l0_6.length c0_6] 25 (0, 0)) (by (with_reducible repeat (first | refine bkn ?_ _ | refine bkd ?_ | refine bka ?_ _)); exact BK222.out) hb)
         have n1_ := As0.mk (below_step (by repeat (first | (with_reducible first | exact HB.out | apply bla | apply bln | apply bld | refine bls ?_ GE222.out) | exact HB.out)) hb)
         clear BK222
         clear HB
         have BK222 := n0_
         have HB := n1_
         clear n0_ n1_
         (try clear hb)
         (try clear hb2)
         (try clear hk)
         (try clear hi)
         refine hK.out _ _ ⟨(bkc BK222.out 0).trans rfl, (bkc BK222.out 1).trans rfl, (bkc BK222.out 2).trans rfl, (bkc BK222.out 3).trans rfl, (bkc BK222.out 4).trans rfl, (bkc BK222.out 5).trans rfl, (bkc BK222.out 6).trans rfl, ((HB.out.cell (World.block_lt_of_cell? w _ hw226_0)).trans hw226_0), ((HB.out.cell (World.block_lt_of_cell? w _ hw226_1)).trans hw226_1), ((HB.out.cell (World.block_lt_of_cell? w _ hw226_2)).trans hw226_2)⟩ (fun hHeld => ?_)
         clear hK K
         refine norm_ (a' := ?_) ?_ ?_
         rotate_left
         ·
          show Act.put _ (some 29) _ = _
          simp only [Act.put, List.setIfInBounds_toArray, List.set_cons_zero, List.set_cons_succ, i64_w, i32_w]
          rfl
         refine pure_ (i := 8) (N := some 30) (v := ?_) (a' := ?_) #[true, true, true, true, true, true, true, true, true, false] rfl rfl (any_of HT_.out (by kernel_rfl)) (fun _ _ _ h => h) (Or.inl ⟨by rfl, ?_⟩) ?_ ?_
         rotate_left
         ·
          intro w'
          go_simp
          with_reducible rfl
         rotate_left
         ·
          simp only [Act.put, List.setIfInBounds_toArray, List.set_cons_zero, List.set_cons_succ, i64_w, i32_w]
          rfl
         refine pure_ (i := 9) (N := some 3) (v := ?_) (a' := ?_) #[true, true, true, true, true, true, true, true, true, true] rfl rfl (any_of HT_.out (by kernel_rfl)) (fun _ _ _ h => h) (Or.inl ⟨by rfl, ?_⟩) ?_ ?_
         rotate_left
         ·
          intro w'
          go_simp
          with_reducible rfl
         rotate_left
         ·
          simp only [Act.put, List.setIfInBounds_toArray, List.set_cons_zero, List.set_cons_succ, i64_w, i32_w]
          rfl
         refine done_ (done_of HT_.out (by kernel_rfl)) ?_
         try go_wp2
         go_roundg k1
         case measure => have := HK1.out; omega
         case rel => exact ⟨(x3_1 ++ t227), (wrap64 (x4_1 + 1)), (by first | rfl | (simp; done) | (simp [*]; done)), (by first | rfl | (simp; done) | (simp [*]; done)), H', ⟨by have := HK1.out; omega⟩, ⟨by (with_reducible repeat (first | refine bkn ?_ _ | refine bkd ?_ | refine bka ?_ _)); exact BK222.out⟩, ⟨by repeat (first | (with_reducible first | exact HB.out | apply bla | apply bln | apply bld | refine bls ?_ GE222.out) | exact HB.out)⟩⟩
        ·
         rw [if_neg c16] at H
         exact absurd H (by simp)
       ·
        rw [if_neg c14] at H
        exact absurd H (by simp)
      ·
       rw [if_neg c13] at H
       have c13b0 : decide (x4_1 < (l0_6.length : Int)) = false := decide_eq_false c13
       clear c13
       obtain rfl := Option.some.inj H
       have hcz20_0 : wr.cell? ⟨gb222, 0, none⟩ = some (.int .i64 a0_0) := (bkc BK222.out 0).trans rfl
       have hcz20_1 : wr.cell? ⟨gb222, 1, none⟩ = some (.int .i64 a0_1) := (bkc BK222.out 1).trans rfl
       have hcz20_2 : wr.cell? ⟨gb222, 2, none⟩ = some (.int .i64 a0_2) := (bkc BK222.out 2).trans rfl
       have hcz20_3 : wr.cell? ⟨gb222, 3, none⟩ = some (.int .i64 a0_3) := (bkc BK222.out 3).trans rfl
       have hcz20_4 : wr.cell? ⟨gb222, 4, none⟩ = some (.int .i64 a0_4) := (bkc BK222.out 4).trans rfl
       have hcz20_5 : wr.cell? ⟨gb222, 5, none⟩ = some (.slice A0_5 l0_5.length c0_5) := (bkc BK222.out 5).trans rfl
       have hcz20_6 : wr.cell? ⟨gb222, 6, none⟩ = some (.slice A0_6 l0_6.length c0_6) := (bkc BK222.out 6).trans rfl
       have hfz20_0 := bkf BK222.out 0
       have hfz20_1 := bkf BK222.out 1
       have hfz20_2 := bkf BK222.out 2
       have hfz20_3 := bkf BK222.out 3
       have hfz20_4 := bkf BK222.out 4
       have hfz20_5 := bkf BK222.out 5
       have hfz20_6 := bkf BK222.out 6
       go_wp2
       go_ret
       exact ⟨by first | rfl | (simp [errW_none, errW_some] <;> rfl) | (simp [*, errW_none, errW_some] <;> rfl), by repeat (first | (with_reducible first | exact HB.out | apply bla | apply bln | apply bld | refine bls ?_ GE222.out) | exact HB.out)⟩
   ·
    rw [if_neg c7] at H
    exact absurd H (by simp)
  ·
   rw [if_neg c5] at H
   exact absurd H (by simp)
 ·
  rw [if_neg c3] at H
  have c3b0 : (t223 == 0) = false := beq_eq_false_iff_ne.mpr c3
  have c3b1 : (t223 != 0) = true := bne_iff_ne.mpr c3
  obtain rfl := Option.some.inj H
  go_enter Tryz.func10, Tryz.ntmps10
  go_wp2_with (first | ((with_reducible refine gate_dst (N := 1) rfl ?_); refine box_event ?hg (N := 1) ?hd (cs := #[.int .i64 a0_0, .int .i64 a0_1, .int .i64 a0_2, .int .i64 a0_3, .int .i64 a0_4, .slice A0_5 l0_5.length c0_5, .slice A0_6 l0_6.length c0_6]) (t := 25) ?hr ?_; (case hd => rfl); (case hg => rfl); (case hr => first | (go_simp; done) | (go_simp; rfl)); intro gb222 hg w21 hbox hb; have n0_ := As0.mk (below_step (by repeat (first | (with_reducible first | exact HB.out | apply bla | apply bln | apply bld) | exact HB.out)) hb); have n1_ := As0.mk (hbox); have n2_ := As0.mk ((by rw [hg]; exact (below_size (by repeat (first | (with_reducible first | exact HB.out | apply bla | apply bln | apply bld) | exact HB.out))) : w.heap.size ≤ gb222)); have n3_ := As0.mk ((by rw [hg]; exact (below_size (by repeat (first | (with_reducible first | exact HB.out | apply bla | apply bln | apply bld) | exact HB.out))) : w.heap.size ≤ gb222)); clear HB; have HB := n0_; have BK222 := n1_; have GW222 := n2_; have GE222 := n3_; clear n0_ n1_ n2_ n3_; clear hb hbox hg; have hcz22_0 : w21.cell? ⟨gb222, 0, none⟩ = some (.int .i64 a0_0) := (bkc BK222.out 0).trans rfl; have hcz22_1 : w21.cell? ⟨gb222, 1, none⟩ = some (.int .i64 a0_1) := (bkc BK222.out 1).trans rfl; have hcz22_2 : w21.cell? ⟨gb222, 2, none⟩ = some (.int .i64 a0_2) := (bkc BK222.out 2).trans rfl; have hcz22_3 : w21.cell? ⟨gb222, 3, none⟩ = some (.int .i64 a0_3) := (bkc BK222.out 3).trans rfl; have hcz22_4 : w21.cell? ⟨gb222, 4, none⟩ = some (.int .i64 a0_4) := (bkc BK222.out 4).trans rfl; have hcz22_5 : w21.cell? ⟨gb222, 5, none⟩ = some (.slice A0_5 l0_5.length c0_5) := (bkc BK222.out 5).trans rfl; have hcz22_6 : w21.cell? ⟨gb222, 6, none⟩ = some (.slice A0_6 l0_6.length c0_6) := (bkc BK222.out 6).trans rfl; have hfz22_0 := bkf BK222.out 0; have hfz22_1 := bkf BK222.out 1; have hfz22_2 := bkf BK222.out 2; have hfz22_3 := bkf BK222.out 3; have hfz22_4 := bkf BK222.out 4; have hfz22_5 := bkf BK222.out 5; have hfz22_6 := bkf BK222.out 6) | ((with_reducible refine gate_callee (f := 8) rfl ?_); refine goesL_ (some 6) rfl rfl Tryz.func8 (by kernel_rfl) rfl #[.agg #[.int .i64 a0_0, .int .i64 a0_1, .int .i64 a0_2, .int .i64 a0_3, .int .i64 a0_4, .slice A0_5 l0_5.length c0_5, .slice A0_6 l0_6.length c0_6]] rfl (by (try simp only [List.map_toArray, List.map_cons, List.map_nil]); first | done | rfl | (simp only [List.length_drop, List.length_take]; rfl)) ?_; (with_reducible refine (sr14_Check.calls k a0_0 a0_1 a0_2 a0_3 a0_4 _ _ l0_5 _ _ l0_6 t223 _ ?side1 ?side2 ?side3 ?side4 A2.out).mono ?_); (case side1 => repeat (first | exact (Kd.C_below HR0_5.out HB.out) | (with_reducible refine Kd.C_alloc ?_ _) | (with_reducible refine Kd.C_drewN ?_ _) | (with_reducible refine Kd.C_drew ?_))); (case side2 => exact HC0_5.out); (case side3 => repeat (first | exact (Kd.C_below HR0_6.out HB.out) | (with_reducible refine Kd.C_alloc ?_ _) | (with_reducible refine Kd.C_drewN ?_ _) | (with_reducible refine Kd.C_drew ?_))); (case side4 => exact HC0_6.out); rintro e w23 ⟨rfl, hb⟩; refine ⟨_, rfl, ?_⟩; have n0_ := As0.mk (blk_below (g := gb222) (o := .cells #[.int .i64 a0_0, .int .i64 a0_1, .int .i64 a0_2, .int .i64 a0_3, .int .i64 a0_4, .slice A0_5 l0_5.length c0_5, .slice A0_6 l0_6.length c0_6] 25 (0, 0)) (by (with_reducible repeat (first | refine bkn ?_ _ | refine bkd ?_ | refine bka ?_ _)); exact BK222.out) hb); have n1_ := As0.mk (below_step (by repeat (first | (with_reducible first | exact HB.out | apply bla | apply bln | apply bld | refine bls ?_ GE222.out) | exact HB.out)) hb); clear BK222; clear HB; have BK222 := n0_; have HB := n1_; clear n0_ n1_; (try clear hb); (try clear hb2); (try clear hk); (try clear hi)))
  go_ret
  exact ⟨by first | rfl | (simp [errW_none, errW_some] <;> rfl) | (simp [*, errW_none, errW_some] <;> rfl), by repeat (first | (with_reducible first | exact HB.out | apply bla | apply bln | apply bld | refine bls ?_ GE222.out) | exact HB.out)⟩
end Go.Proofs.YtmppkcdphgelcaaGreatDoor.PConf
namespace Go.Proofs.YtmppkcdphgelcaaGreatDoor.PConf
open Go.RowKit Go.Proofs.YtmppkcdphgelcaaGreatDoor.W.PrintWords Go.Proofs.YtmppkcdphgelcaaGreatDoor.W.PrintLast Go.Proofs.YtmppkcdphgelcaaGreatDoor.W.PrintMore
attribute [local go_sem] max2_int min2_int max_two min_two max_three min_three max_four min_four   -- for this text's walks alone
set_option linter.unusedVariables false
set_option linter.unusedSimpArgs false
def names_Same.f (l0 : List ByteArray) (l1 : List ByteArray) : Option (Bool) :=
 if l0.length ≤ 9223372036854775807 then some (if l0.length = l1.length then decide (firstN (fun i => !((l0.getD i ByteArray.empty).toList == (l1.getD i ByteArray.empty).toList)) l0.length 0 < 0) else false) else none
set_option maxHeartbeats 1000000 in
theorem names_Same.asks (A0 : Option Addr) (c0 : Nat) (l0 : List ByteArray) (A1 : Option Addr) (c1 : Nat) (l1 : List ByteArray) (W : World) (B1 B2 : Nat) (hB1 : W.cell? ⟨B1, 0, none⟩ = some (.slice A0 l0.length c0)) (hB2 : W.cell? ⟨B2, 0, none⟩ = some (.slice A1 l1.length c1))
  (hr0 : Kd.C Kd.string W A0 l0.length l0) (hc0 : l0.length ≤ c0) (hr1 : Kd.C Kd.string W A1 l1.length l1) (hc1 : l1.length ≤ c1) (hn : l0.length ≤ 9223372036854775807) (i : Nat) (hi : i < l0.length) (hj : i < l1.length) :
  Calls Tryz.prog 42 #[.int .i64 i, .pointer (some ⟨B1, 0, none⟩), .pointer (some ⟨B2, 0, none⟩)] W fun e w' => e = .returned (.bool (!((l0.getD i ByteArray.empty).toList == (l1.getD i ByteArray.empty).toList))) ∧ ∃ q, w' = W.drewN q := by
 obtain ⟨ad, rfl, hx⟩ := Kd.at_string hr0 i (by omega) (by omega)
 obtain ⟨ad1, rfl, hy⟩ := Kd.at_string hr1 i (by omega) (by omega)
 have e1 : ((i : Int)).toNat = i := rfl
 rw [e1] at hx hy
 have e2 : ∀ l, rdOf ByteArray.empty l (i : Int) = l.getD i ByteArray.empty := fun _ => rfl
 rw [e2] at hx hy
 clear e1 e2 hr0 hr1
 obtain ⟨x, hx0⟩ : ∃ x, x = l0.getD i ByteArray.empty := ⟨_, rfl⟩
 obtain ⟨y, hy0⟩ : ∃ x, x = l1.getD i ByteArray.empty := ⟨_, rfl⟩
 rw [← hx0] at hx ⊢
 rw [← hy0] at hy ⊢
 clear hx0 hy0
 have h0 : 0 ≤ (i : Int) := by omega
 have h1 : (i : Int) < (l0.length : Int) := by omega
 have h2 : (i : Int) < (l1.length : Int) := by omega
 go_enter Tryz.func42, Tryz.ntmps42
 go_wp2
 go_quiet (fail)
 go_wp2
 go_ret
 exact ⟨rfl, _, rfl⟩
set_option maxHeartbeats 1000000 in
theorem names_Same.calls (A0 : Option Addr) (c0 : Nat) (l0 : List ByteArray) (A1 : Option Addr) (c1 : Nat) (l1 : List ByteArray) (r : Bool) (w : World) (hr0 : Kd.C Kd.string w A0 l0.length l0) (hc0 : l0.length ≤ c0) (hr1 : Kd.C Kd.string w A1 l1.length l1) (hc1 : l1.length ≤ c1) (h : names_Same.f l0 l1 = some r) :
  Calls Tryz.prog 27 #[.slice A0 l0.length c0, .slice A1 l1.length c1] w fun e w' => e = .returned (.bool r) ∧ Below w.heap.size w w' := by
 unfold names_Same.f at h
 by_cases hs : l0.length ≤ 9223372036854775807
 ·
  rw [if_pos hs] at h
  have hmf : ∀ (fn : Fn) (first cap : Array Value) (w : World), (Instr.makeFunc fn first cap).run Tryz.prog w = .ok (.func fn first cap) w := fun _ _ _ _ => rfl
  have HB := As0.mk (bla (bla (Below.refl w.heap.size w) (.cells #[.slice A0 l0.length c0] 22)) (.cells #[.slice A1 l1.length c1] 22))
  by_cases hl : l0.length = l1.length
  ·
   have H := As0.mk (Option.some.inj h)
   clear h
   have hM1 : ((w.alloc (.cells #[.slice A0 l0.length c0] 22)).alloc (.cells #[.slice A1 l1.length c1] 22)).cell? ⟨w.heap.size, 0, none⟩ = some (.slice A0 l0.length c0) := by
    rw [World.cell?_alloc_past _ _ _ (by simp), World.cell?_alloc_at _ _ _ _ rfl]; rfl
   have hM2 : ((w.alloc (.cells #[.slice A0 l0.length c0] 22)).alloc (.cells #[.slice A1 l1.length c1] 22)).cell? ⟨w.heap.size + 1, 0, none⟩ = some (.slice A1 l1.length c1) := by
    rw [World.cell?_alloc_at _ _ _ _ (by simp)]; rfl
   have HC := As0.mk (first_any 42 #[.pointer (some ⟨w.heap.size, 0, none⟩), .pointer (some ⟨w.heap.size + 1, 0, none⟩)] (fun i => !((l0.getD i ByteArray.empty).toList == (l1.getD i ByteArray.empty).toList)) l0.length
    ((w.alloc (.cells #[.slice A0 l0.length c0] 22)).alloc (.cells #[.slice A1 l1.length c1] 22)) (by omega) (enters_of Tryz.func42 (by kernel_rfl) rfl)
    (fun i hi m => names_Same.asks A0 c0 l0 A1 c1 l1 (((w.alloc (.cells #[.slice A0 l0.length c0] 22)).alloc (.cells #[.slice A1 l1.length c1] 22)).drewN m) w.heap.size (w.heap.size + 1)
     hM1 hM2 (Kd.C_drewN (Kd.C_alloc (Kd.C_alloc hr0 _) _) m) hc0 (Kd.C_drewN (Kd.C_alloc (Kd.C_alloc hr1 _) _) m) hc1 hs i (by omega) (by omega)))
   have hl1 : ((l0.length : Int) == (l1.length : Int)) = true := by simp [hl]
   have hl2 : (l0.length == l1.length) = true := by simp [hl]
   have HL := As0.mk hl
   clear hr0 hc0 hM1 hM2 hr1 hc1 hl
   go_enter Tryz.func27, Tryz.ntmps27
   go_wp2_with (go_at_call 33; refine HC.out.mono ?_; rintro e w' ⟨rfl, q, rfl⟩)
   go_ret
   refine ⟨?_, bln HB.out q⟩
   rw [← H.out, if_pos HL.out]
   rfl
  ·
   rw [if_neg hl] at h
   have H := As0.mk (Option.some.inj h)
   have hl1 : ((l0.length : Int) == (l1.length : Int)) = false := by simp; omega
   have hl2 : (l0.length == l1.length) = false := by simp [hl]
   clear hr0 hc0 hr1 hc1 hl h
   go_enter Tryz.func27, Tryz.ntmps27
   go_wp2
   go_ret
   refine ⟨?_, HB.out⟩
   rw [← H.out]
   rfl
 ·
  rw [if_neg hs] at h
  cases h
end Go.Proofs.YtmppkcdphgelcaaGreatDoor.PConf
