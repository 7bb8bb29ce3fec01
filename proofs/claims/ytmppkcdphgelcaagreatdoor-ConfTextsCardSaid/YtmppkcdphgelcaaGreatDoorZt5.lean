/- A part of the proof: texts of this seat, joined. -/

import Derived.Test.YtmppkcdphgelcaaGreatDoorZt1
import Derived.Test.YtmppkcdphgelcaaGreatDoorZt2
import Derived.Test.YtmppkcdphgelcaaGreatDoorZt3
import Derived.Test.YtmppkcdphgelcaaGreatDoorZt4
namespace Go.Proofs.YtmppkcdphgelcaaGreatDoor.PConf
open Go.RowKit Go.Proofs.YtmppkcdphgelcaaGreatDoor.W.PrintWords Go.Proofs.YtmppkcdphgelcaaGreatDoor.W.PrintLast Go.Proofs.YtmppkcdphgelcaaGreatDoor.W.PrintMore
attribute [local go_sem] max2_int min2_int max_two min_two max_three min_three max_four min_four   -- for this text's walks alone
set_option linter.unusedVariables false
set_option linter.unusedSimpArgs false
mutual
def sr04_Size.j0 : Nat → ByteArray → Int → Int → Bool → Option (Int)
 | 0, _, _, _, _ => none
 | k + 1, x0, x3, x4, x17 => if x17 = true then (sr04_Size.j1 k x0 x3 2) else (sr04_Size.j1 k x0 x3 x4)
def sr04_Size.j1 : Nat → ByteArray → Int → Int → Option (Int)
 | 0, _, _, _ => none
 | k + 1, x0, x3, x4 => if x3 ≥ 224 then (sr04_Size.j2 k x0 x3 x4 (decide (x3 < 240))) else (sr04_Size.j2 k x0 x3 x4 false)
def sr04_Size.j2 : Nat → ByteArray → Int → Int → Bool → Option (Int)
 | 0, _, _, _, _ => none
 | k + 1, x0, x3, x4, x23 => if x23 = true then (sr04_Size.j3 k x0 x3 3) else (sr04_Size.j3 k x0 x3 x4)
def sr04_Size.j3 : Nat → ByteArray → Int → Int → Option (Int)
 | 0, _, _, _ => none
 | k + 1, x0, x3, x4 => if x3 ≥ 240 then (sr04_Size.j4 k x0 x3 x4 (decide (x3 < 245))) else (sr04_Size.j4 k x0 x3 x4 false)
def sr04_Size.j4 : Nat → ByteArray → Int → Int → Bool → Option (Int)
 | 0, _, _, _, _ => none
 | k + 1, x0, x3, x4, x29 => if x29 = true then (sr04_Size.j5 k x0 x3 4) else (sr04_Size.j5 k x0 x3 x4)
def sr04_Size.j5 : Nat → ByteArray → Int → Int → Option (Int)
 | 0, _, _, _ => none
 | k + 1, x0, x3, x4 => if x4 > (x0.size : Int) then (some 0) else (sr04_Size.l0 k x0 x3 x4 1)
def sr04_Size.l0 : Nat → ByteArray → Int → Int → Int → Option (Int)
 | 0, _, _, _, _ => none
 | k + 1, x0, x3, x4, x5 => if x5 < x4 then (if 0 ≤ x5 then (if x5 < (x0.size : Int) then (if (bt x0 x5) < 128 then (some 0) else (if (bt x0 x5) > 191 then (some 0) else (sr04_Size.l0 k x0 x3 x4 (wrap64 (x5 + 1))))) else (none)) else (none)) else (if x4 > 2 then (if 1 < (x0.size : Int) then (if x3 = 224 then (if (wrap64 (bt x0 1)) < 160 then (some 0) else (if x3 = 237 then (if (wrap64 (bt x0 1)) > 159 then (some 0) else (if x3 = 240 then (if (wrap64 (bt x0 1)) < 144 then (some 0) else (if x3 = 244 then (if (wrap64 (bt x0 1)) > 143 then (some 0) else (some x4)) else (some x4))) else (if x3 = 244 then (if (wrap64 (bt x0 1)) > 143 then (some 0) else (some x4)) else (some x4)))) else (if x3 = 240 then (if (wrap64 (bt x0 1)) < 144 then (some 0) else (if x3 = 244 then (if (wrap64 (bt x0 1)) > 143 then (some 0) else (some x4)) else (some x4))) else (if x3 = 244 then (if (wrap64 (bt x0 1)) > 143 then (some 0) else (some x4)) else (some x4))))) else (if x3 = 237 then (if (wrap64 (bt x0 1)) > 159 then (some 0) else (if x3 = 240 then (if (wrap64 (bt x0 1)) < 144 then (some 0) else (if x3 = 244 then (if (wrap64 (bt x0 1)) > 143 then (some 0) else (some x4)) else (some x4))) else (if x3 = 244 then (if (wrap64 (bt x0 1)) > 143 then (some 0) else (some x4)) else (some x4)))) else (if x3 = 240 then (if (wrap64 (bt x0 1)) < 144 then (some 0) else (if x3 = 244 then (if (wrap64 (bt x0 1)) > 143 then (some 0) else (some x4)) else (some x4))) else (if x3 = 244 then (if (wrap64 (bt x0 1)) > 143 then (some 0) else (some x4)) else (some x4))))) else (none)) else (some x4))
end
def sr04_Size.f (k : Nat) (a0 : ByteArray) : Option (Int) := if 0 < (a0.size : Int) then (if (wrap64 (bt a0 0)) < 128 then (some 1) else (if (wrap64 (bt a0 0)) ≥ 194 then (sr04_Size.j0 k a0 (wrap64 (bt a0 0)) 0 (decide ((wrap64 (bt a0 0)) < 224))) else (sr04_Size.j0 k a0 (wrap64 (bt a0 0)) 0 false))) else (none)
set_option maxHeartbeats 8000000 in
set_option maxRecDepth 100000 in
theorem sr04_Size.calls (k : Nat) (a0 : ByteArray) (r : Int) (w : World) (h : sr04_Size.f k a0 = some r) :
  Calls Tryz.prog 66 #[.string a0] w fun e w' => e = .returned (.int .i64 r) ∧ Drawn0 w w' := by
 have H : (if 0 < (a0.size : Int) then (if (wrap64 (bt a0 0)) < 128 then (some 1) else (if (wrap64 (bt a0 0)) ≥ 194 then (sr04_Size.j0 k a0 (wrap64 (bt a0 0)) 0 (decide ((wrap64 (bt a0 0)) < 224))) else (sr04_Size.j0 k a0 (wrap64 (bt a0 0)) 0 false))) else (none)) = some r := h
 clear h
 by_cases c2 : 0 < (a0.size : Int)
 ·
  rw [if_pos c2] at H
  have c2b0 : decide (0 < (a0.size : Int)) = true := decide_eq_true c2
  have c2b1 : decide (0 < a0.size) = true := decide_eq_true (by omega)
  clear c2
  by_cases c4 : (wrap64 (bt a0 0)) < 128
  ·
   rw [if_pos c4] at H
   have c4b0 : decide ((wrap64 (bt a0 0)) < 128) = true := decide_eq_true c4
   clear c4
   obtain rfl := Option.some.inj H
   have p3 : 0 ≤ (0 : Int) := (by omega)
   have q3 : 0 < a0.size := (by have : (0 : Int) < (a0.size : Int) := of_decide_eq_true (by first | (with_reducible assumption) | assumption); omega)
   have hx3 : ∀ h : 0 < a0.size, ((a0[0]'h).toNat : Int) = bt a0 0 := bt_at a0 0
   clear p3
   have qi3 : (0 < (a0.size : Int)) = True := eq_true (of_decide_eq_true (by first | (with_reducible assumption) | assumption))
   replace q3 := eq_true q3
   go_enter Tryz.func66, Tryz.ntmps66
   go_wp2
   go_ret
   exact ⟨by first | rfl | (simp; done) | (simp [*]; done), by repeat (first | exact Drawn0.refl _ | apply Drawn0.step)⟩
  ·
   rw [if_neg c4] at H
   have c4b0 : decide ((wrap64 (bt a0 0)) < 128) = false := decide_eq_false c4
   clear c4
   have HC5 := As0.mk H
   clear H
   have p3 : 0 ≤ (0 : Int) := (by omega)
   have q3 : 0 < a0.size := (by have : (0 : Int) < (a0.size : Int) := of_decide_eq_true (by first | (with_reducible assumption) | assumption); omega)
   have hx3 : ∀ h : 0 < a0.size, ((a0[0]'h).toNat : Int) = bt a0 0 := bt_at a0 0
   clear p3
   have qi3 : (0 < (a0.size : Int)) = True := eq_true (of_decide_eq_true (by first | (with_reducible assumption) | assumption))
   replace q3 := eq_true q3
   go_enter Tryz.func66, Tryz.ntmps66
   go_upto_region 5 with (fail)
   go_cut [17] (fun v17 wc => ∃ (kq : Nat) (x17_4 : Bool), v17 = .bool x17_4 ∧ As0 (sr04_Size.j0 kq a0 (wrap64 (bt a0 0)) 0 x17_4 = some r) ∧ As0 (kq ≤ k) ∧ Drawn0 w wc)
   case first =>
    have H := HC5.out
    clear HC5
    by_cases c6 : (wrap64 (bt a0 0)) ≥ 194
    ·
     rw [if_pos c6] at H
     have c6b0 : decide (194 ≤ (wrap64 (bt a0 0))) = true := decide_eq_true c6
     clear c6
     (first | rw [c6b0] | (simp only [i64_w, i32_w]; rw [c6b0]) | skip)
     have H' := As0.mk H
     clear H
     go_wp2
     go_meet
     case rel => exact ⟨_, (decide ((wrap64 (bt a0 0)) < 224)), (by first | rfl | (simp; done) | (simp [*]; done)), H', ⟨by first | omega | exact Nat.le_refl _⟩, by repeat (first | exact Drawn0.refl _ | apply Drawn0.step)⟩
    ·
     rw [if_neg c6] at H
     have c6b0 : decide (194 ≤ (wrap64 (bt a0 0))) = false := decide_eq_false c6
     clear c6
     (first | rw [c6b0] | (simp only [i64_w, i32_w]; rw [c6b0]) | skip)
     have H' := As0.mk H
     clear H
     go_wp2
     go_meet
     case rel => exact ⟨_, (false), (by first | rfl | (simp; done) | (simp [*]; done)), H', ⟨by first | omega | exact Nat.le_refl _⟩, by repeat (first | exact Drawn0.refl _ | apply Drawn0.step)⟩
   case rest =>
    clear HC5
    try clear c2
    try clear c2b0
    try clear c2b1
    try clear p2
    try clear p3
    try clear q3
    try clear hx3
    try clear qi3
    try clear c4
    try clear c4b0
    try clear c6
    try clear c6b0
    try clear p6
    try clear p3
    try clear q3
    obtain ⟨kq, x17_4, rfl, HA, HJ4, ⟨mc4, rfl⟩⟩ := hcut
    cases kq with
    | zero => exact absurd HA.out (by simp [sr04_Size.j0])
    | succ kj4 =>
     have H := HA.out
     clear HA
     simp only [sr04_Size.j0] at H
     have HC7 := As0.mk H
     clear H
     go_upto_if 17 with (fail)
     go_cut [4] (fun v4 wc => ∃ (kq : Nat) (x4_6 : Int), v4 = .int .i64 x4_6 ∧ As0 (sr04_Size.j1 kq a0 (wrap64 (bt a0 0)) x4_6 = some r) ∧ As0 (kq ≤ kj4) ∧ Drawn0 w wc)
     case first =>
      have H := HC7.out
      clear HC7
      by_cases c8 : x17_4 = true
      ·
       subst c8
       have H1 : (sr04_Size.j1 kj4 a0 (wrap64 (bt a0 0)) 2) = some r := by rw [if_pos rfl] at H; exact H
       clear H
       have H := H1
       clear H1
       have H' := As0.mk H
       clear H
       go_wp2
       go_meet
       case rel => exact ⟨_, (2), (by first | rfl | (simp; done) | (simp [*]; done)), H', ⟨by have := HJ4.out; first | omega | exact Nat.le_refl _⟩, by repeat (first | exact Drawn0.refl _ | apply Drawn0.step)⟩
      ·
       replace c8 := Bool.eq_false_iff.mpr c8
       subst c8
       have H1 : (sr04_Size.j1 kj4 a0 (wrap64 (bt a0 0)) 0) = some r := by rw [if_neg (show ¬ (false = true) by decide)] at H; exact H
       clear H
       have H := H1
       clear H1
       have H' := As0.mk H
       clear H
       go_wp2
       go_meet
       case rel => exact ⟨_, (0), (by first | rfl | (simp; done) | (simp [*]; done)), H', ⟨by have := HJ4.out; first | omega | exact Nat.le_refl _⟩, by repeat (first | exact Drawn0.refl _ | apply Drawn0.step)⟩
     case rest =>
      clear HC7
      try clear c2
      try clear c2b0
      try clear c2b1
      try clear p2
      try clear p3
      try clear q3
      try clear hx3
      try clear qi3
      try clear c4
      try clear c4b0
      try clear c6
      try clear c6b0
      try clear p6
      try clear c8
      try clear p2
      try clear p3
      try clear p6
      try clear q3
      obtain ⟨kq, x4_6, rfl, HA, HJ6, ⟨mc6, rfl⟩⟩ := hcut
      cases kq with
      | zero => exact absurd HA.out (by simp [sr04_Size.j1])
      | succ kj6 =>
       have H := HA.out
       clear HA
       simp only [sr04_Size.j1] at H
       have HC9 := As0.mk H
       clear H
       go_upto_region 7 with (fail)
       go_cut [23] (fun v23 wc => ∃ (kq : Nat) (x23_8 : Bool), v23 = .bool x23_8 ∧ As0 (sr04_Size.j2 kq a0 (wrap64 (bt a0 0)) x4_6 x23_8 = some r) ∧ As0 (kq ≤ kj6) ∧ Drawn0 w wc)
       case first =>
        have H := HC9.out
        clear HC9
        by_cases c10 : (wrap64 (bt a0 0)) ≥ 224
        ·
         rw [if_pos c10] at H
         have c10b0 : decide (224 ≤ (wrap64 (bt a0 0))) = true := decide_eq_true c10
         clear c10
         (first | rw [c10b0] | (simp only [i64_w, i32_w]; rw [c10b0]) | skip)
         have H' := As0.mk H
         clear H
         go_wp2
         go_meet
         case rel => exact ⟨_, (decide ((wrap64 (bt a0 0)) < 240)), (by first | rfl | (simp; done) | (simp [*]; done)), H', ⟨by have := HJ4.out; have := HJ6.out; first | omega | exact Nat.le_refl _⟩, by repeat (first | exact Drawn0.refl _ | apply Drawn0.step)⟩
        ·
         rw [if_neg c10] at H
         have c10b0 : decide (224 ≤ (wrap64 (bt a0 0))) = false := decide_eq_false c10
         clear c10
         (first | rw [c10b0] | (simp only [i64_w, i32_w]; rw [c10b0]) | skip)
         have H' := As0.mk H
         clear H
         go_wp2
         go_meet
         case rel => exact ⟨_, (false), (by first | rfl | (simp; done) | (simp [*]; done)), H', ⟨by have := HJ4.out; have := HJ6.out; first | omega | exact Nat.le_refl _⟩, by repeat (first | exact Drawn0.refl _ | apply Drawn0.step)⟩
       case rest =>
        clear HC9
        try clear c1
        try clear c2
        try clear c2b0
        try clear c2b1
        try clear p2
        try clear p3
        try clear q3
        try clear hx3
        try clear qi3
        try clear c4
        try clear c4b0
        try clear c6
        try clear c6b0
        try clear p6
        try clear c8
        try clear c10
        try clear c10b0
        try clear p2
        try clear p3
        try clear p6
        try clear q3
        obtain ⟨kq, x23_8, rfl, HA, HJ8, ⟨mc8, rfl⟩⟩ := hcut
        cases kq with
        | zero => exact absurd HA.out (by simp [sr04_Size.j2])
        | succ kj8 =>
         have H := HA.out
         clear HA
         simp only [sr04_Size.j2] at H
         have HC11 := As0.mk H
         clear H
         go_upto_if 23 with (fail)
         go_cut [4] (fun v4 wc => ∃ (kq : Nat) (x4_10 : Int), v4 = .int .i64 x4_10 ∧ As0 (sr04_Size.j3 kq a0 (wrap64 (bt a0 0)) x4_10 = some r) ∧ As0 (kq ≤ kj8) ∧ Drawn0 w wc)
         case first =>
          have H := HC11.out
          clear HC11
          by_cases c12 : x23_8 = true
          ·
           subst c12
           have H1 : (sr04_Size.j3 kj8 a0 (wrap64 (bt a0 0)) 3) = some r := by rw [if_pos rfl] at H; exact H
           clear H
           have H := H1
           clear H1
           have H' := As0.mk H
           clear H
           go_wp2
           go_meet
           case rel => exact ⟨_, (3), (by first | rfl | (simp; done) | (simp [*]; done)), H', ⟨by have := HJ4.out; have := HJ6.out; have := HJ8.out; first | omega | exact Nat.le_refl _⟩, by repeat (first | exact Drawn0.refl _ | apply Drawn0.step)⟩
          ·
           replace c12 := Bool.eq_false_iff.mpr c12
           subst c12
           have H1 : (sr04_Size.j3 kj8 a0 (wrap64 (bt a0 0)) x4_6) = some r := by rw [if_neg (show ¬ (false = true) by decide)] at H; exact H
           clear H
           have H := H1
           clear H1
           have H' := As0.mk H
           clear H
           go_wp2
           go_meet
           case rel => exact ⟨_, (x4_6), (by first | rfl | (simp; done) | (simp [*]; done)), H', ⟨by have := HJ4.out; have := HJ6.out; have := HJ8.out; first | omega | exact Nat.le_refl _⟩, by repeat (first | exact Drawn0.refl _ | apply Drawn0.step)⟩
         case rest =>
          clear HC11
          try clear c1
          try clear c2
          try clear c2b0
          try clear c2b1
          try clear p2
          try clear p3
          try clear q3
          try clear hx3
          try clear qi3
          try clear c4
          try clear c4b0
          try clear c6
          try clear c6b0
          try clear p6
          try clear c8
          try clear c10
          try clear c10b0
          try clear c12
          try clear p2
          try clear p3
          try clear p6
          try clear q3
          obtain ⟨kq, x4_10, rfl, HA, HJ10, ⟨mc10, rfl⟩⟩ := hcut
          cases kq with
          | zero => exact absurd HA.out (by simp [sr04_Size.j3])
          | succ kj10 =>
           have H := HA.out
           clear HA
           simp only [sr04_Size.j3] at H
           have HC13 := As0.mk H
           clear H
           go_upto_region 9 with (fail)
           go_cut [29] (fun v29 wc => ∃ (kq : Nat) (x29_12 : Bool), v29 = .bool x29_12 ∧ As0 (sr04_Size.j4 kq a0 (wrap64 (bt a0 0)) x4_10 x29_12 = some r) ∧ As0 (kq ≤ kj10) ∧ Drawn0 w wc)
           case first =>
            have H := HC13.out
            clear HC13
            by_cases c14 : (wrap64 (bt a0 0)) ≥ 240
            ·
             rw [if_pos c14] at H
             have c14b0 : decide (240 ≤ (wrap64 (bt a0 0))) = true := decide_eq_true c14
             clear c14
             (first | rw [c14b0] | (simp only [i64_w, i32_w]; rw [c14b0]) | skip)
             have H' := As0.mk H
             clear H
             go_wp2
             go_meet
             case rel => exact ⟨_, (decide ((wrap64 (bt a0 0)) < 245)), (by first | rfl | (simp; done) | (simp [*]; done)), H', ⟨by have := HJ4.out; have := HJ6.out; have := HJ8.out; have := HJ10.out; first | omega | exact Nat.le_refl _⟩, by repeat (first | exact Drawn0.refl _ | apply Drawn0.step)⟩
            ·
             rw [if_neg c14] at H
             have c14b0 : decide (240 ≤ (wrap64 (bt a0 0))) = false := decide_eq_false c14
             clear c14
             (first | rw [c14b0] | (simp only [i64_w, i32_w]; rw [c14b0]) | skip)
             have H' := As0.mk H
             clear H
             go_wp2
             go_meet
             case rel => exact ⟨_, (false), (by first | rfl | (simp; done) | (simp [*]; done)), H', ⟨by have := HJ4.out; have := HJ6.out; have := HJ8.out; have := HJ10.out; first | omega | exact Nat.le_refl _⟩, by repeat (first | exact Drawn0.refl _ | apply Drawn0.step)⟩
           case rest =>
            clear HC13
            try clear c1
            try clear c2
            try clear c2b0
            try clear c2b1
            try clear p2
            try clear p3
            try clear q3
            try clear hx3
            try clear qi3
            try clear c4
            try clear c4b0
            try clear c6
            try clear c6b0
            try clear p6
            try clear c8
            try clear c10
            try clear c10b0
            try clear c12
            try clear c14
            try clear c14b0
            try clear p2
            try clear p3
            try clear p6
            try clear q3
            obtain ⟨kq, x29_12, rfl, HA, HJ12, ⟨mc12, rfl⟩⟩ := hcut
            cases kq with
            | zero => exact absurd HA.out (by simp [sr04_Size.j4])
            | succ kj12 =>
             have H := HA.out
             clear HA
             simp only [sr04_Size.j4] at H
             have HC15 := As0.mk H
             clear H
             go_upto_if 29 with (fail)
             go_cut [4] (fun v4 wc => ∃ (kq : Nat) (x4_14 : Int), v4 = .int .i64 x4_14 ∧ As0 (sr04_Size.j5 kq a0 (wrap64 (bt a0 0)) x4_14 = some r) ∧ As0 (kq ≤ kj12) ∧ Drawn0 w wc)
             case first =>
              have H := HC15.out
              clear HC15
              by_cases c16 : x29_12 = true
              ·
               subst c16
               have H1 : (sr04_Size.j5 kj12 a0 (wrap64 (bt a0 0)) 4) = some r := by rw [if_pos rfl] at H; exact H
               clear H
               have H := H1
               clear H1
               have H' := As0.mk H
               clear H
               go_wp2
               go_meet
               case rel => exact ⟨_, (4), (by first | rfl | (simp; done) | (simp [*]; done)), H', ⟨by have := HJ4.out; have := HJ6.out; have := HJ8.out; have := HJ10.out; have := HJ12.out; first | omega | exact Nat.le_refl _⟩, by repeat (first | exact Drawn0.refl _ | apply Drawn0.step)⟩
              ·
               replace c16 := Bool.eq_false_iff.mpr c16
               subst c16
               have H1 : (sr04_Size.j5 kj12 a0 (wrap64 (bt a0 0)) x4_10) = some r := by rw [if_neg (show ¬ (false = true) by decide)] at H; exact H
               clear H
               have H := H1
               clear H1
               have H' := As0.mk H
               clear H
               go_wp2
               go_meet
               case rel => exact ⟨_, (x4_10), (by first | rfl | (simp; done) | (simp [*]; done)), H', ⟨by have := HJ4.out; have := HJ6.out; have := HJ8.out; have := HJ10.out; have := HJ12.out; first | omega | exact Nat.le_refl _⟩, by repeat (first | exact Drawn0.refl _ | apply Drawn0.step)⟩
             case rest =>
              clear HC15
              try clear c1
              try clear c2
              try clear c2b0
              try clear c2b1
              try clear p2
              try clear p3
              try clear q3
              try clear hx3
              try clear qi3
              try clear c4
              try clear c4b0
              try clear c6
              try clear c6b0
              try clear p6
              try clear c8
              try clear c10
              try clear c10b0
              try clear c12
              try clear c14
              try clear c14b0
              try clear c16
              try clear p2
              try clear p3
              try clear p6
              try clear q3
              obtain ⟨kq, x4_14, rfl, HA, HJ14, ⟨mc14, rfl⟩⟩ := hcut
              cases kq with
              | zero => exact absurd HA.out (by simp [sr04_Size.j5])
              | succ kj14 =>
               have H := HA.out
               clear HA
               simp only [sr04_Size.j5] at H
               by_cases c17 : x4_14 > (a0.size : Int)
               ·
                rw [if_pos c17] at H
                have c17b0 : decide ((a0.size : Int) < x4_14) = true := decide_eq_true c17
                clear c17
                obtain rfl := Option.some.inj H
                go_wp2
                go_ret
                exact ⟨by first | rfl | (simp; done) | (simp [*]; done), by repeat (first | exact Drawn0.refl _ | apply Drawn0.step)⟩
               ·
                rw [if_neg c17] at H
                have c17b0 : decide ((a0.size : Int) < x4_14) = false := decide_eq_false c17
                clear c17
                have H' := As0.mk H
                clear H
                go_wp2
                go_loopg [5] kj14 (fun kq v5 w' => ∃ (x5_7 : Int), v5 = .int .i64 x5_7 ∧ As0 (sr04_Size.l0 kq a0 (wrap64 (bt a0 0)) x4_14 x5_7 = some r) ∧ As0 (kq ≤ kj14) ∧ Drawn0 w w')
                case atStart => exact ⟨(1), (by first | rfl | (simp; done) | (simp [*]; done)), H', ⟨Nat.le_refl _⟩, by repeat (first | exact Drawn0.refl _ | apply Drawn0.step)⟩
                case round =>
                 clear H'
                 try clear c1
                 try clear c2
                 try clear c2b0
                 try clear c2b1
                 try clear p2
                 try clear p3
                 try clear q3
                 try clear hx3
                 try clear qi3
                 try clear c4
                 try clear c4b0
                 try clear c6
                 try clear c6b0
                 try clear p6
                 try clear c8
                 try clear c10
                 try clear c10b0
                 try clear c12
                 try clear c14
                 try clear c14b0
                 try clear c16
                 try clear c17
                 try clear c17b0
                 try clear p2
                 try clear p3
                 try clear p6
                 try clear q3
                 obtain ⟨x5_7, rfl, HA, HK7, ⟨m7, rfl⟩⟩ := hrel
                 cases gk with
                 | zero => exact absurd HA.out (by simp [sr04_Size.l0])
                 | succ k7 =>
                  have H := HA.out
                  clear HA
                  simp only [sr04_Size.l0] at H
                  by_cases c18 : x5_7 < x4_14
                  ·
                   rw [if_pos c18] at H
                   have c18b0 : decide (x5_7 < x4_14) = true := decide_eq_true c18
                   clear c18
                   by_cases c19 : 0 ≤ x5_7
                   ·
                    rw [if_pos c19] at H
                    have c19b0 : decide (0 ≤ x5_7) = true := decide_eq_true c19
                    clear c19
                    by_cases c20 : x5_7 < (a0.size : Int)
                    ·
                     rw [if_pos c20] at H
                     have c20b0 : decide (x5_7 < (a0.size : Int)) = true := decide_eq_true c20
                     clear c20
                     by_cases c22 : (bt a0 x5_7) < 128
                     ·
                      rw [if_pos c22] at H
                      have c22b0 : decide ((bt a0 x5_7) < 128) = true := decide_eq_true c22
                      clear c22
                      obtain rfl := Option.some.inj H
                      have p21 : 0 ≤ (x5_7 : Int) := of_decide_eq_true (by first | (with_reducible assumption) | assumption)
                      have q21 : x5_7 < (a0.size : Int) := of_decide_eq_true (by first | (with_reducible assumption) | assumption)
                      have hx21 := bt_at a0 x5_7
                      replace p21 := eq_true p21
                      replace q21 := eq_true q21
                      go_wp2
                      go_ret
                      exact ⟨by first | rfl | (simp; done) | (simp [*]; done), by repeat (first | exact Drawn0.refl _ | apply Drawn0.step)⟩
                     ·
                      rw [if_neg c22] at H
                      have c22b0 : decide ((bt a0 x5_7) < 128) = false := decide_eq_false c22
                      clear c22
                      by_cases c24 : (bt a0 x5_7) > 191
                      ·
                       rw [if_pos c24] at H
                       have c24b0 : decide (191 < (bt a0 x5_7)) = true := decide_eq_true c24
                       clear c24
                       obtain rfl := Option.some.inj H
                       have p21 : 0 ≤ (x5_7 : Int) := of_decide_eq_true (by first | (with_reducible assumption) | assumption)
                       have q21 : x5_7 < (a0.size : Int) := of_decide_eq_true (by first | (with_reducible assumption) | assumption)
                       have hx21 := bt_at a0 x5_7
                       replace p21 := eq_true p21
                       replace q21 := eq_true q21
                       have p23 : 0 ≤ (x5_7 : Int) := of_decide_eq_true (by first | (with_reducible assumption) | assumption)
                       have q23 : x5_7 < (a0.size : Int) := of_decide_eq_true (by first | (with_reducible assumption) | assumption)
                       have hx23 := bt_at a0 x5_7
                       replace p23 := eq_true p23
                       replace q23 := eq_true q23
                       go_wp2
                       go_ret
                       exact ⟨by first | rfl | (simp; done) | (simp [*]; done), by repeat (first | exact Drawn0.refl _ | apply Drawn0.step)⟩
                      ·
                       rw [if_neg c24] at H
                       have c24b0 : decide (191 < (bt a0 x5_7)) = false := decide_eq_false c24
                       clear c24
                       have H' := As0.mk H
                       clear H
                       have p21 : 0 ≤ (x5_7 : Int) := of_decide_eq_true (by first | (with_reducible assumption) | assumption)
                       have q21 : x5_7 < (a0.size : Int) := of_decide_eq_true (by first | (with_reducible assumption) | assumption)
                       have hx21 := bt_at a0 x5_7
                       replace p21 := eq_true p21
                       replace q21 := eq_true q21
                       have p23 : 0 ≤ (x5_7 : Int) := of_decide_eq_true (by first | (with_reducible assumption) | assumption)
                       have q23 : x5_7 < (a0.size : Int) := of_decide_eq_true (by first | (with_reducible assumption) | assumption)
                       have hx23 := bt_at a0 x5_7
                       replace p23 := eq_true p23
                       replace q23 := eq_true q23
                       go_wp2
                       go_roundg k7
                       case measure => have := HJ4.out; have := HJ6.out; have := HJ8.out; have := HJ10.out; have := HJ12.out; have := HJ14.out; have := HK7.out; omega
                       case rel => exact ⟨(wrap64 (x5_7 + 1)), (by first | rfl | (simp; done) | (simp [*]; done)), H', ⟨by have := HJ4.out; have := HJ6.out; have := HJ8.out; have := HJ10.out; have := HJ12.out; have := HJ14.out; have := HK7.out; omega⟩, by repeat (first | exact Drawn0.refl _ | apply Drawn0.step)⟩
                    ·
                     rw [if_neg c20] at H
                     exact absurd H (by simp)
                   ·
                    rw [if_neg c19] at H
                    exact absurd H (by simp)
                  ·
                   rw [if_neg c18] at H
                   have c18b0 : decide (x5_7 < x4_14) = false := decide_eq_false c18
                   clear c18
                   by_cases c25 : x4_14 > 2
                   ·
                    rw [if_pos c25] at H
                    have c25b0 : decide (2 < x4_14) = true := decide_eq_true c25
                    clear c25
                    by_cases c26 : 1 < (a0.size : Int)
                    ·
                     rw [if_pos c26] at H
                     have c26b0 : decide (1 < (a0.size : Int)) = true := decide_eq_true c26
                     have c26b1 : decide (1 < a0.size) = true := decide_eq_true (by omega)
                     clear c26
                     by_cases c28 : (wrap64 (bt a0 0)) = 224
                     ·
                      rw [if_pos c28] at H
                      have c28b0 : ((wrap64 (bt a0 0)) == 224) = true := beq_iff_eq.mpr c28
                      have c28b1 : ((wrap64 (bt a0 0)) != 224) = false := bne_eq_false_iff_eq.mpr c28
                      clear c28
                      by_cases c29 : (wrap64 (bt a0 1)) < 160
                      ·
                       rw [if_pos c29] at H
                       have c29b0 : decide ((wrap64 (bt a0 1)) < 160) = true := decide_eq_true c29
                       clear c29
                       obtain rfl := Option.some.inj H
                       have p27 : 0 ≤ (1 : Int) := (by omega)
                       have q27 : 1 < a0.size := (by have : (1 : Int) < (a0.size : Int) := of_decide_eq_true (by first | (with_reducible assumption) | assumption); omega)
                       have hx27 : ∀ h : 1 < a0.size, ((a0[1]'h).toNat : Int) = bt a0 1 := bt_at a0 1
                       clear p27
                       have qi27 : (1 < (a0.size : Int)) = True := eq_true (of_decide_eq_true (by first | (with_reducible assumption) | assumption))
                       replace q27 := eq_true q27
                       go_wp2
                       go_ret
                       exact ⟨by first | rfl | (simp; done) | (simp [*]; done), by repeat (first | exact Drawn0.refl _ | apply Drawn0.step)⟩
                      ·
                       rw [if_neg c29] at H
                       have c29b0 : decide ((wrap64 (bt a0 1)) < 160) = false := decide_eq_false c29
                       clear c29
                       by_cases c30 : (wrap64 (bt a0 0)) = 237
                       ·
                        rw [if_pos c30] at H
                        have c30b0 : ((wrap64 (bt a0 0)) == 237) = true := beq_iff_eq.mpr c30
                        have c30b1 : ((wrap64 (bt a0 0)) != 237) = false := bne_eq_false_iff_eq.mpr c30
                        clear c30
                        by_cases c31 : (wrap64 (bt a0 1)) > 159
                        ·
                         rw [if_pos c31] at H
                         have c31b0 : decide (159 < (wrap64 (bt a0 1))) = true := decide_eq_true c31
                         clear c31
                         obtain rfl := Option.some.inj H
                         have p27 : 0 ≤ (1 : Int) := (by omega)
                         have q27 : 1 < a0.size := (by have : (1 : Int) < (a0.size : Int) := of_decide_eq_true (by first | (with_reducible assumption) | assumption); omega)
                         have hx27 : ∀ h : 1 < a0.size, ((a0[1]'h).toNat : Int) = bt a0 1 := bt_at a0 1
                         clear p27
                         have qi27 : (1 < (a0.size : Int)) = True := eq_true (of_decide_eq_true (by first | (with_reducible assumption) | assumption))
                         replace q27 := eq_true q27
                         go_wp2
                         go_ret
                         exact ⟨by first | rfl | (simp; done) | (simp [*]; done), by repeat (first | exact Drawn0.refl _ | apply Drawn0.step)⟩
                        ·
                         rw [if_neg c31] at H
                         have c31b0 : decide (159 < (wrap64 (bt a0 1))) = false := decide_eq_false c31
                         clear c31
                         by_cases c32 : (wrap64 (bt a0 0)) = 240
                         ·
                          rw [if_pos c32] at H
                          have c32b0 : ((wrap64 (bt a0 0)) == 240) = true := beq_iff_eq.mpr c32
                          have c32b1 : ((wrap64 (bt a0 0)) != 240) = false := bne_eq_false_iff_eq.mpr c32
                          clear c32
                          by_cases c33 : (wrap64 (bt a0 1)) < 144
                          ·
                           rw [if_pos c33] at H
                           have c33b0 : decide ((wrap64 (bt a0 1)) < 144) = true := decide_eq_true c33
                           clear c33
                           obtain rfl := Option.some.inj H
                           have p27 : 0 ≤ (1 : Int) := (by omega)
                           have q27 : 1 < a0.size := (by have : (1 : Int) < (a0.size : Int) := of_decide_eq_true (by first | (with_reducible assumption) | assumption); omega)
                           have hx27 : ∀ h : 1 < a0.size, ((a0[1]'h).toNat : Int) = bt a0 1 := bt_at a0 1
                           clear p27
                           have qi27 : (1 < (a0.size : Int)) = True := eq_true (of_decide_eq_true (by first | (with_reducible assumption) | assumption))
                           replace q27 := eq_true q27
                           go_wp2
                           go_ret
                           exact ⟨by first | rfl | (simp; done) | (simp [*]; done), by repeat (first | exact Drawn0.refl _ | apply Drawn0.step)⟩
                          ·
                           rw [if_neg c33] at H
                           have c33b0 : decide ((wrap64 (bt a0 1)) < 144) = false := decide_eq_false c33
                           clear c33
                           by_cases c34 : (wrap64 (bt a0 0)) = 244
                           ·
                            rw [if_pos c34] at H
                            have c34b0 : ((wrap64 (bt a0 0)) == 244) = true := beq_iff_eq.mpr c34
                            have c34b1 : ((wrap64 (bt a0 0)) != 244) = false := bne_eq_false_iff_eq.mpr c34
                            clear c34
                            by_cases c35 : (wrap64 (bt a0 1)) > 143
                            ·
                             rw [if_pos c35] at H
                             have c35b0 : decide (143 < (wrap64 (bt a0 1))) = true := decide_eq_true c35
                             clear c35
                             obtain rfl := Option.some.inj H
                             have p27 : 0 ≤ (1 : Int) := (by omega)
                             have q27 : 1 < a0.size := (by have : (1 : Int) < (a0.size : Int) := of_decide_eq_true (by first | (with_reducible assumption) | assumption); omega)
                             have hx27 : ∀ h : 1 < a0.size, ((a0[1]'h).toNat : Int) = bt a0 1 := bt_at a0 1
                             clear p27
                             have qi27 : (1 < (a0.size : Int)) = True := eq_true (of_decide_eq_true (by first | (with_reducible assumption) | assumption))
                             replace q27 := eq_true q27
                             go_wp2
                             go_ret
                             exact ⟨by first | rfl | (simp; done) | (simp [*]; done), by repeat (first | exact Drawn0.refl _ | apply Drawn0.step)⟩
                            ·
                             rw [if_neg c35] at H
                             have c35b0 : decide (143 < (wrap64 (bt a0 1))) = false := decide_eq_false c35
                             clear c35
                             obtain rfl := Option.some.inj H
                             have p27 : 0 ≤ (1 : Int) := (by omega)
                             have q27 : 1 < a0.size := (by have : (1 : Int) < (a0.size : Int) := of_decide_eq_true (by first | (with_reducible assumption) | assumption); omega)
                             have hx27 : ∀ h : 1 < a0.size, ((a0[1]'h).toNat : Int) = bt a0 1 := bt_at a0 1
                             clear p27
                             have qi27 : (1 < (a0.size : Int)) = True := eq_true (of_decide_eq_true (by first | (with_reducible assumption) | assumption))
                             replace q27 := eq_true q27
                             go_wp2
                             go_ret
                             exact ⟨by first | rfl | (simp; done) | (simp [*]; done), by repeat (first | exact Drawn0.refl _ | apply Drawn0.step)⟩
                           ·
                            rw [if_neg c34] at H
                            have c34b0 : ((wrap64 (bt a0 0)) == 244) = false := beq_eq_false_iff_ne.mpr c34
                            have c34b1 : ((wrap64 (bt a0 0)) != 244) = true := bne_iff_ne.mpr c34
                            obtain rfl := Option.some.inj H
                            have p27 : 0 ≤ (1 : Int) := (by omega)
                            have q27 : 1 < a0.size := (by have : (1 : Int) < (a0.size : Int) := of_decide_eq_true (by first | (with_reducible assumption) | assumption); omega)
                            have hx27 : ∀ h : 1 < a0.size, ((a0[1]'h).toNat : Int) = bt a0 1 := bt_at a0 1
                            clear p27
                            have qi27 : (1 < (a0.size : Int)) = True := eq_true (of_decide_eq_true (by first | (with_reducible assumption) | assumption))
                            replace q27 := eq_true q27
                            go_wp2
                            go_ret
                            exact ⟨by first | rfl | (simp; done) | (simp [*]; done), by repeat (first | exact Drawn0.refl _ | apply Drawn0.step)⟩
                         ·
                          rw [if_neg c32] at H
                          have c32b0 : ((wrap64 (bt a0 0)) == 240) = false := beq_eq_false_iff_ne.mpr c32
                          have c32b1 : ((wrap64 (bt a0 0)) != 240) = true := bne_iff_ne.mpr c32
                          by_cases c36 : (wrap64 (bt a0 0)) = 244
                          ·
                           rw [if_pos c36] at H
                           have c36b0 : ((wrap64 (bt a0 0)) == 244) = true := beq_iff_eq.mpr c36
                           have c36b1 : ((wrap64 (bt a0 0)) != 244) = false := bne_eq_false_iff_eq.mpr c36
                           clear c36
                           by_cases c37 : (wrap64 (bt a0 1)) > 143
                           ·
                            rw [if_pos c37] at H
                            have c37b0 : decide (143 < (wrap64 (bt a0 1))) = true := decide_eq_true c37
                            clear c37
                            obtain rfl := Option.some.inj H
                            have p27 : 0 ≤ (1 : Int) := (by omega)
                            have q27 : 1 < a0.size := (by have : (1 : Int) < (a0.size : Int) := of_decide_eq_true (by first | (with_reducible assumption) | assumption); omega)
                            have hx27 : ∀ h : 1 < a0.size, ((a0[1]'h).toNat : Int) = bt a0 1 := bt_at a0 1
                            clear p27
                            have qi27 : (1 < (a0.size : Int)) = True := eq_true (of_decide_eq_true (by first | (with_reducible assumption) | assumption))
                            replace q27 := eq_true q27
                            go_wp2
                            go_ret
                            exact ⟨by first | rfl | (simp; done) | (simp [*]; done), by repeat (first | exact Drawn0.refl _ | apply Drawn0.step)⟩
                           ·
                            rw [if_neg c37] at H
                            have c37b0 : decide (143 < (wrap64 (bt a0 1))) = false := decide_eq_false c37
                            clear c37
                            obtain rfl := Option.some.inj H
                            have p27 : 0 ≤ (1 : Int) := (by omega)
                            have q27 : 1 < a0.size := (by have : (1 : Int) < (a0.size : Int) := of_decide_eq_true (by first | (with_reducible assumption) | assumption); omega)
                            have hx27 : ∀ h : 1 < a0.size, ((a0[1]'h).toNat : Int) = bt a0 1 := bt_at a0 1
                            clear p27
                            have qi27 : (1 < (a0.size : Int)) = True := eq_true (of_decide_eq_true (by first | (with_reducible assumption) | assumption))
                            replace q27 := eq_true q27
                            go_wp2
                            go_ret
                            exact ⟨by first | rfl | (simp; done) | (simp [*]; done), by repeat (first | exact Drawn0.refl _ | apply Drawn0.step)⟩
                          ·
                           rw [if_neg c36] at H
                           have c36b0 : ((wrap64 (bt a0 0)) == 244) = false := beq_eq_false_iff_ne.mpr c36
                           have c36b1 : ((wrap64 (bt a0 0)) != 244) = true := bne_iff_ne.mpr c36
                           obtain rfl := Option.some.inj H
                           have p27 : 0 ≤ (1 : Int) := (by omega)
                           have q27 : 1 < a0.size := (by have : (1 : Int) < (a0.size : Int) := of_decide_eq_true (by first | (with_reducible assumption) | assumption); omega)
                           have hx27 : ∀ h : 1 < a0.size, ((a0[1]'h).toNat : Int) = bt a0 1 := bt_at a0 1
                           clear p27
                           have qi27 : (1 < (a0.size : Int)) = True := eq_true (of_decide_eq_true (by first | (with_reducible assumption) | assumption))
                           replace q27 := eq_true q27
                           go_wp2
                           go_ret
                           exact ⟨by first | rfl | (simp; done) | (simp [*]; done), by repeat (first | exact Drawn0.refl _ | apply Drawn0.step)⟩
                       ·
                        rw [if_neg c30] at H
                        have c30b0 : ((wrap64 (bt a0 0)) == 237) = false := beq_eq_false_iff_ne.mpr c30
                        have c30b1 : ((wrap64 (bt a0 0)) != 237) = true := bne_iff_ne.mpr c30
                        by_cases c38 : (wrap64 (bt a0 0)) = 240
                        ·
                         rw [if_pos c38] at H
                         have c38b0 : ((wrap64 (bt a0 0)) == 240) = true := beq_iff_eq.mpr c38
                         have c38b1 : ((wrap64 (bt a0 0)) != 240) = false := bne_eq_false_iff_eq.mpr c38
                         clear c38
                         by_cases c39 : (wrap64 (bt a0 1)) < 144
                         ·
                          rw [if_pos c39] at H
                          have c39b0 : decide ((wrap64 (bt a0 1)) < 144) = true := decide_eq_true c39
                          clear c39
                          obtain rfl := Option.some.inj H
                          have p27 : 0 ≤ (1 : Int) := (by omega)
                          have q27 : 1 < a0.size := (by have : (1 : Int) < (a0.size : Int) := of_decide_eq_true (by first | (with_reducible assumption) | assumption); omega)
                          have hx27 : ∀ h : 1 < a0.size, ((a0[1]'h).toNat : Int) = bt a0 1 := bt_at a0 1
                          clear p27
                          have qi27 : (1 < (a0.size : Int)) = True := eq_true (of_decide_eq_true (by first | (with_reducible assumption) | assumption))
                          replace q27 := eq_true q27
                          go_wp2
                          go_ret
                          exact ⟨by first | rfl | (simp; done) | (simp [*]; done), by repeat (first | exact Drawn0.refl _ | apply Drawn0.step)⟩
                         ·
                          rw [if_neg c39] at H
                          have c39b0 : decide ((wrap64 (bt a0 1)) < 144) = false := decide_eq_false c39
                          clear c39
                          by_cases c40 : (wrap64 (bt a0 0)) = 244
                          ·
                           rw [if_pos c40] at H
                           have c40b0 : ((wrap64 (bt a0 0)) == 244) = true := beq_iff_eq.mpr c40
                           have c40b1 : ((wrap64 (bt a0 0)) != 244) = false := bne_eq_false_iff_eq.mpr c40
                           clear c40
                           by_cases c41 : (wrap64 (bt a0 1)) > 143
                           ·
                            rw [if_pos c41] at H
                            have c41b0 : decide (143 < (wrap64 (bt a0 1))) = true := decide_eq_true c41
                            clear c41
                            obtain rfl := Option.some.inj H
                            have p27 : 0 ≤ (1 : Int) := (by omega)
                            have q27 : 1 < a0.size := (by have : (1 : Int) < (a0.size : Int) := of_decide_eq_true (by first | (with_reducible assumption) | assumption); omega)
                            have hx27 : ∀ h : 1 < a0.size, ((a0[1]'h).toNat : Int) = bt a0 1 := bt_at a0 1
                            clear p27
                            have qi27 : (1 < (a0.size : Int)) = True := eq_true (of_decide_eq_true (by first | (with_reducible assumption) | assumption))
                            replace q27 := eq_true q27
                            go_wp2
                            go_ret
                            exact ⟨by first | rfl | (simp; done) | (simp [*]; done), by repeat (first | exact Drawn0.refl _ | apply Drawn0.step)⟩
                           ·
                            rw [if_neg c41] at H
                            have c41b0 : decide (143 < (wrap64 (bt a0 1))) = false := decide_eq_false c41
                            clear c41
                            obtain rfl := Option.some.inj H
                            have p27 : 0 ≤ (1 : Int) := (by omega)
                            have q27 : 1 < a0.size := (by have : (1 : Int) < (a0.size : Int) := of_decide_eq_true (by first | (with_reducible assumption) | assumption); omega)
                            have hx27 : ∀ h : 1 < a0.size, ((a0[1]'h).toNat : Int) = bt a0 1 := bt_at a0 1
                            clear p27
                            have qi27 : (1 < (a0.size : Int)) = True := eq_true (of_decide_eq_true (by first | (with_reducible assumption) | assumption))
                            replace q27 := eq_true q27
                            go_wp2
                            go_ret
                            exact ⟨by first | rfl | (simp; done) | (simp [*]; done), by repeat (first | exact Drawn0.refl _ | apply Drawn0.step)⟩
                          ·
                           rw [if_neg c40] at H
                           have c40b0 : ((wrap64 (bt a0 0)) == 244) = false := beq_eq_false_iff_ne.mpr c40
                           have c40b1 : ((wrap64 (bt a0 0)) != 244) = true := bne_iff_ne.mpr c40
                           obtain rfl := Option.some.inj H
                           have p27 : 0 ≤ (1 : Int) := (by omega)
                           have q27 : 1 < a0.size := (by have : (1 : Int) < (a0.size : Int) := of_decide_eq_true (by first | (with_reducible assumption) | assumption); omega)
                           have hx27 : ∀ h : 1 < a0.size, ((a0[1]'h).toNat : Int) = bt a0 1 := bt_at a0 1
                           clear p27
                           have qi27 : (1 < (a0.size : Int)) = True := eq_true (of_decide_eq_true (by first | (with_reducible assumption) | assumption))
                           replace q27 := eq_true q27
                           go_wp2
                           go_ret
                           exact ⟨by first | rfl | (simp; done) | (simp [*]; done), by repeat (first | exact Drawn0.refl _ | apply Drawn0.step)⟩
                        ·
                         rw [if_neg c38] at H
                         have c38b0 : ((wrap64 (bt a0 0)) == 240) = false := beq_eq_false_iff_ne.mpr c38
                         have c38b1 : ((wrap64 (bt a0 0)) != 240) = true := bne_iff_ne.mpr c38
                         by_cases c42 : (wrap64 (bt a0 0)) = 244
                         ·
                          rw [if_pos c42] at H
                          have c42b0 : ((wrap64 (bt a0 0)) == 244) = true := beq_iff_eq.mpr c42
                          have c42b1 : ((wrap64 (bt a0 0)) != 244) = false := bne_eq_false_iff_eq.mpr c42
                          clear c42
                          by_cases c43 : (wrap64 (bt a0 1)) > 143
                          ·
                           rw [if_pos c43] at H
                           have c43b0 : decide (143 < (wrap64 (bt a0 1))) = true := decide_eq_true c43
                           clear c43
                           obtain rfl := Option.some.inj H
                           have p27 : 0 ≤ (1 : Int) := (by omega)
                           have q27 : 1 < a0.size := (by have : (1 : Int) < (a0.size : Int) := of_decide_eq_true (by first | (with_reducible assumption) | assumption); omega)
                           have hx27 : ∀ h : 1 < a0.size, ((a0[1]'h).toNat : Int) = bt a0 1 := bt_at a0 1
                           clear p27
                           have qi27 : (1 < (a0.size : Int)) = True := eq_true (of_decide_eq_true (by first | (with_reducible assumption) | assumption))
                           replace q27 := eq_true q27
                           go_wp2
                           go_ret
                           exact ⟨by first | rfl | (simp; done) | (simp [*]; done), by repeat (first | exact Drawn0.refl _ | apply Drawn0.step)⟩
                          ·
                           rw [if_neg c43] at H
                           have c43b0 : decide (143 < (wrap64 (bt a0 1))) = false := decide_eq_false c43
                           clear c43
                           obtain rfl := Option.some.inj H
                           have p27 : 0 ≤ (1 : Int) := (by omega)
                           have q27 : 1 < a0.size := (by have : (1 : Int) < (a0.size : Int) := of_decide_eq_true (by first | (with_reducible assumption) | assumption); omega)
                           have hx27 : ∀ h : 1 < a0.size, ((a0[1]'h).toNat : Int) = bt a0 1 := bt_at a0 1
                           clear p27
                           have qi27 : (1 < (a0.size : Int)) = True := eq_true (of_decide_eq_true (by first | (with_reducible assumption) | assumption))
                           replace q27 := eq_true q27
                           go_wp2
                           go_ret
                           exact ⟨by first | rfl | (simp; done) | (simp [*]; done), by repeat (first | exact Drawn0.refl _ | apply Drawn0.step)⟩
                         ·
                          rw [if_neg c42] at H
                          have c42b0 : ((wrap64 (bt a0 0)) == 244) = false := beq_eq_false_iff_ne.mpr c42
                          have c42b1 : ((wrap64 (bt a0 0)) != 244) = true := bne_iff_ne.mpr c42
                          obtain rfl := Option.some.inj H
                          have p27 : 0 ≤ (1 : Int) := (by omega)
                          have q27 : 1 < a0.size := (by have : (1 : Int) < (a0.size : Int) := of_decide_eq_true (by first | (with_reducible assumption) | assumption); omega)
                          have hx27 : ∀ h : 1 < a0.size, ((a0[1]'h).toNat : Int) = bt a0 1 := bt_at a0 1
                          clear p27
                          have qi27 : (1 < (a0.size : Int)) = True := eq_true (of_decide_eq_true (by first | (with_reducible assumption) | assumption))
                          replace q27 := eq_true q27
                          go_wp2
                          go_ret
                          exact ⟨by first | rfl | (simp; done) | (simp [*]; done), by repeat (first | exact Drawn0.refl _ | apply Drawn0.step)⟩
                     ·
                      rw [if_neg c28] at H
                      have c28b0 : ((wrap64 (bt a0 0)) == 224) = false := beq_eq_false_iff_ne.mpr c28
                      have c28b1 : ((wrap64 (bt a0 0)) != 224) = true := bne_iff_ne.mpr c28
                      by_cases c44 : (wrap64 (bt a0 0)) = 237
                      ·
                       rw [if_pos c44] at H
                       have c44b0 : ((wrap64 (bt a0 0)) == 237) = true := beq_iff_eq.mpr c44
                       have c44b1 : ((wrap64 (bt a0 0)) != 237) = false := bne_eq_false_iff_eq.mpr c44
                       clear c44
                       by_cases c45 : (wrap64 (bt a0 1)) > 159
                       ·
                        rw [if_pos c45] at H
                        have c45b0 : decide (159 < (wrap64 (bt a0 1))) = true := decide_eq_true c45
                        clear c45
                        obtain rfl := Option.some.inj H
                        have p27 : 0 ≤ (1 : Int) := (by omega)
                        have q27 : 1 < a0.size := (by have : (1 : Int) < (a0.size : Int) := of_decide_eq_true (by first | (with_reducible assumption) | assumption); omega)
                        have hx27 : ∀ h : 1 < a0.size, ((a0[1]'h).toNat : Int) = bt a0 1 := bt_at a0 1
                        clear p27
                        have qi27 : (1 < (a0.size : Int)) = True := eq_true (of_decide_eq_true (by first | (with_reducible assumption) | assumption))
                        replace q27 := eq_true q27
                        go_wp2
                        go_ret
                        exact ⟨by first | rfl | (simp; done) | (simp [*]; done), by repeat (first | exact Drawn0.refl _ | apply Drawn0.step)⟩
                       ·
                        rw [if_neg c45] at H
                        have c45b0 : decide (159 < (wrap64 (bt a0 1))) = false := decide_eq_false c45
                        clear c45
                        by_cases c46 : (wrap64 (bt a0 0)) = 240
                        ·
                         rw [if_pos c46] at H
                         have c46b0 : ((wrap64 (bt a0 0)) == 240) = true := beq_iff_eq.mpr c46
                         have c46b1 : ((wrap64 (bt a0 0)) != 240) = false := bne_eq_false_iff_eq.mpr c46
                         clear c46
                         by_cases c47 : (wrap64 (bt a0 1)) < 144
                         ·
                          rw [if_pos c47] at H
                          have c47b0 : decide ((wrap64 (bt a0 1)) < 144) = true := decide_eq_true c47
                          clear c47
                          obtain rfl := Option.some.inj H
                          have p27 : 0 ≤ (1 : Int) := (by omega)
                          have q27 : 1 < a0.size := (by have : (1 : Int) < (a0.size : Int) := of_decide_eq_true (by first | (with_reducible assumption) | assumption); omega)
                          have hx27 : ∀ h : 1 < a0.size, ((a0[1]'h).toNat : Int) = bt a0 1 := bt_at a0 1
                          clear p27
                          have qi27 : (1 < (a0.size : Int)) = True := eq_true (of_decide_eq_true (by first | (with_reducible assumption) | assumption))
                          replace q27 := eq_true q27
                          go_wp2
                          go_ret
                          exact ⟨by first | rfl | (simp; done) | (simp [*]; done), by repeat (first | exact Drawn0.refl _ | apply Drawn0.step)⟩
                         ·
                          rw [if_neg c47] at H
                          have c47b0 : decide ((wrap64 (bt a0 1)) < 144) = false := decide_eq_false c47
                          clear c47
                          by_cases c48 : (wrap64 (bt a0 0)) = 244
                          ·
                           rw [if_pos c48] at H
                           have c48b0 : ((wrap64 (bt a0 0)) == 244) = true := beq_iff_eq.mpr c48
                           have c48b1 : ((wrap64 (bt a0 0)) != 244) = false := bne_eq_false_iff_eq.mpr c48
                           clear c48
                           by_cases c49 : (wrap64 (bt a0 1)) > 143
                           ·
                            rw [if_pos c49] at H
                            have c49b0 : decide (143 < (wrap64 (bt a0 1))) = true := decide_eq_true c49
                            clear c49
                            obtain rfl := Option.some.inj H
                            have p27 : 0 ≤ (1 : Int) := (by omega)
                            have q27 : 1 < a0.size := (by have : (1 : Int) < (a0.size : Int) := of_decide_eq_true (by first | (with_reducible assumption) | assumption); omega)
                            have hx27 : ∀ h : 1 < a0.size, ((a0[1]'h).toNat : Int) = bt a0 1 := bt_at a0 1
                            clear p27
                            have qi27 : (1 < (a0.size : Int)) = True := eq_true (of_decide_eq_true (by first | (with_reducible assumption) | assumption))
                            replace q27 := eq_true q27
                            go_wp2
                            go_ret
                            exact ⟨by first | rfl | (simp; done) | (simp [*]; done), by repeat (first | exact Drawn0.refl _ | apply Drawn0.step)⟩
                           ·
                            rw [if_neg c49] at H
                            have c49b0 : decide (143 < (wrap64 (bt a0 1))) = false := decide_eq_false c49
                            clear c49
                            obtain rfl := Option.some.inj H
                            have p27 : 0 ≤ (1 : Int) := (by omega)
                            have q27 : 1 < a0.size := (by have : (1 : Int) < (a0.size : Int) := of_decide_eq_true (by first | (with_reducible assumption) | assumption); omega)
                            have hx27 : ∀ h : 1 < a0.size, ((a0[1]'h).toNat : Int) = bt a0 1 := bt_at a0 1
                            clear p27
                            have qi27 : (1 < (a0.size : Int)) = True := eq_true (of_decide_eq_true (by first | (with_reducible assumption) | assumption))
                            replace q27 := eq_true q27
                            go_wp2
                            go_ret
                            exact ⟨by first | rfl | (simp; done) | (simp [*]; done), by repeat (first | exact Drawn0.refl _ | apply Drawn0.step)⟩
                          ·
                           rw [if_neg c48] at H
                           have c48b0 : ((wrap64 (bt a0 0)) == 244) = false := beq_eq_false_iff_ne.mpr c48
                           have c48b1 : ((wrap64 (bt a0 0)) != 244) = true := bne_iff_ne.mpr c48
                           obtain rfl := Option.some.inj H
                           have p27 : 0 ≤ (1 : Int) := (by omega)
                           have q27 : 1 < a0.size := (by have : (1 : Int) < (a0.size : Int) := of_decide_eq_true (by first | (with_reducible assumption) | assumption); omega)
                           have hx27 : ∀ h : 1 < a0.size, ((a0[1]'h).toNat : Int) = bt a0 1 := bt_at a0 1
                           clear p27
                           have qi27 : (1 < (a0.size : Int)) = True := eq_true (of_decide_eq_true (by first | (with_reducible assumption) | assumption))
                           replace q27 := eq_true q27
                           go_wp2
                           go_ret
                           exact ⟨by first | rfl | (simp; done) | (simp [*]; done), by repeat (first | exact Drawn0.refl _ | apply Drawn0.step)⟩
                        ·
                         rw [if_neg c46] at H
                         have c46b0 : ((wrap64 (bt a0 0)) == 240) = false := beq_eq_false_iff_ne.mpr c46
                         have c46b1 : ((wrap64 (bt a0 0)) != 240) = true := bne_iff_ne.mpr c46
                         by_cases c50 : (wrap64 (bt a0 0)) = 244
                         ·
                          rw [if_pos c50] at H
                          have c50b0 : ((wrap64 (bt a0 0)) == 244) = true := beq_iff_eq.mpr c50
                          have c50b1 : ((wrap64 (bt a0 0)) != 244) = false := bne_eq_false_iff_eq.mpr c50
                          clear c50
                          by_cases c51 : (wrap64 (bt a0 1)) > 143
                          ·
                           rw [if_pos c51] at H
                           have c51b0 : decide (143 < (wrap64 (bt a0 1))) = true := decide_eq_true c51
                           clear c51
                           obtain rfl := Option.some.inj H
                           have p27 : 0 ≤ (1 : Int) := (by omega)
                           have q27 : 1 < a0.size := (by have : (1 : Int) < (a0.size : Int) := of_decide_eq_true (by first | (with_reducible assumption) | assumption); omega)
                           have hx27 : ∀ h : 1 < a0.size, ((a0[1]'h).toNat : Int) = bt a0 1 := bt_at a0 1
                           clear p27
                           have qi27 : (1 < (a0.size : Int)) = True := eq_true (of_decide_eq_true (by first | (with_reducible assumption) | assumption))
                           replace q27 := eq_true q27
                           go_wp2
                           go_ret
                           exact ⟨by first | rfl | (simp; done) | (simp [*]; done), by repeat (first | exact Drawn0.refl _ | apply Drawn0.step)⟩
                          ·
                           rw [if_neg c51] at H
                           have c51b0 : decide (143 < (wrap64 (bt a0 1))) = false := decide_eq_false c51
                           clear c51
                           obtain rfl := Option.some.inj H
                           have p27 : 0 ≤ (1 : Int) := (by omega)
                           have q27 : 1 < a0.size := (by have : (1 : Int) < (a0.size : Int) := of_decide_eq_true (by first | (with_reducible assumption) | assumption); omega)
                           have hx27 : ∀ h : 1 < a0.size, ((a0[1]'h).toNat : Int) = bt a0 1 := bt_at a0 1
                           clear p27
                           have qi27 : (1 < (a0.size : Int)) = True := eq_true (of_decide_eq_true (by first | (with_reducible assumption) | assumption))
                           replace q27 := eq_true q27
                           go_wp2
                           go_ret
                           exact ⟨by first | rfl | (simp; done) | (simp [*]; done), by repeat (first | exact Drawn0.refl _ | apply Drawn0.step)⟩
                         ·
                          rw [if_neg c50] at H
                          have c50b0 : ((wrap64 (bt a0 0)) == 244) = false := beq_eq_false_iff_ne.mpr c50
                          have c50b1 : ((wrap64 (bt a0 0)) != 244) = true := bne_iff_ne.mpr c50
                          obtain rfl := Option.some.inj H
                          have p27 : 0 ≤ (1 : Int) := (by omega)
                          have q27 : 1 < a0.size := (by have : (1 : Int) < (a0.size : Int) := of_decide_eq_true (by first | (with_reducible assumption) | assumption); omega)
                          have hx27 : ∀ h : 1 < a0.size, ((a0[1]'h).toNat : Int) = bt a0 1 := bt_at a0 1
                          clear p27
                          have qi27 : (1 < (a0.size : Int)) = True := eq_true (of_decide_eq_true (by first | (with_reducible assumption) | assumption))
                          replace q27 := eq_true q27
                          go_wp2
                          go_ret
                          exact ⟨by first | rfl | (simp; done) | (simp [*]; done), by repeat (first | exact Drawn0.refl _ | apply Drawn0.step)⟩
                      ·
                       rw [if_neg c44] at H
                       have c44b0 : ((wrap64 (bt a0 0)) == 237) = false := beq_eq_false_iff_ne.mpr c44
                       have c44b1 : ((wrap64 (bt a0 0)) != 237) = true := bne_iff_ne.mpr c44
                       by_cases c52 : (wrap64 (bt a0 0)) = 240
                       ·
                        rw [if_pos c52] at H
                        have c52b0 : ((wrap64 (bt a0 0)) == 240) = true := beq_iff_eq.mpr c52
                        have c52b1 : ((wrap64 (bt a0 0)) != 240) = false := bne_eq_false_iff_eq.mpr c52
                        clear c52
                        by_cases c53 : (wrap64 (bt a0 1)) < 144
                        ·
                         rw [if_pos c53] at H
                         have c53b0 : decide ((wrap64 (bt a0 1)) < 144) = true := decide_eq_true c53
                         clear c53
                         obtain rfl := Option.some.inj H
                         have p27 : 0 ≤ (1 : Int) := (by omega)
                         have q27 : 1 < a0.size := (by have : (1 : Int) < (a0.size : Int) := of_decide_eq_true (by first | (with_reducible assumption) | assumption); omega)
                         have hx27 : ∀ h : 1 < a0.size, ((a0[1]'h).toNat : Int) = bt a0 1 := bt_at a0 1
                         clear p27
                         have qi27 : (1 < (a0.size : Int)) = True := eq_true (of_decide_eq_true (by first | (with_reducible assumption) | assumption))
                         replace q27 := eq_true q27
                         go_wp2
                         go_ret
                         exact ⟨by first | rfl | (simp; done) | (simp [*]; done), by repeat (first | exact Drawn0.refl _ | apply Drawn0.step)⟩
                        ·
                         rw [if_neg c53] at H
                         have c53b0 : decide ((wrap64 (bt a0 1)) < 144) = false := decide_eq_false c53
                         clear c53
                         by_cases c54 : (wrap64 (bt a0 0)) = 244
                         ·
                          rw [if_pos c54] at H
                          have c54b0 : ((wrap64 (bt a0 0)) == 244) = true := beq_iff_eq.mpr c54
                          have c54b1 : ((wrap64 (bt a0 0)) != 244) = false := bne_eq_false_iff_eq.mpr c54
                          clear c54
                          by_cases c55 : (wrap64 (bt a0 1)) > 143
                          ·
                           rw [if_pos c55] at H
                           have c55b0 : decide (143 < (wrap64 (bt a0 1))) = true := decide_eq_true c55
                           clear c55
                           obtain rfl := Option.some.inj H
                           have p27 : 0 ≤ (1 : Int) := (by omega)
                           have q27 : 1 < a0.size := (by have : (1 : Int) < (a0.size : Int) := of_decide_eq_true (by first | (with_reducible assumption) | assumption); omega)
                           have hx27 : ∀ h : 1 < a0.size, ((a0[1]'h).toNat : Int) = bt a0 1 := bt_at a0 1
                           clear p27
                           have qi27 : (1 < (a0.size : Int)) = True := eq_true (of_decide_eq_true (by first | (with_reducible assumption) | assumption))
                           replace q27 := eq_true q27
                           go_wp2
                           go_ret
                           exact ⟨by first | rfl | (simp; done) | (simp [*]; done), by repeat (first | exact Drawn0.refl _ | apply Drawn0.step)⟩
                          ·
                           rw [if_neg c55] at H
                           have c55b0 : decide (143 < (wrap64 (bt a0 1))) = false := decide_eq_false c55
                           clear c55
                           obtain rfl := Option.some.inj H
                           have p27 : 0 ≤ (1 : Int) := (by omega)
                           have q27 : 1 < a0.size := (by have : (1 : Int) < (a0.size : Int) := of_decide_eq_true (by first | (with_reducible assumption) | assumption); omega)
                           have hx27 : ∀ h : 1 < a0.size, ((a0[1]'h).toNat : Int) = bt a0 1 := bt_at a0 1
                           clear p27
                           have qi27 : (1 < (a0.size : Int)) = True := eq_true (of_decide_eq_true (by first | (with_reducible assumption) | assumption))
                           replace q27 := eq_true q27
                           go_wp2
                           go_ret
                           exact ⟨by first | rfl | (simp; done) | (simp [*]; done), by repeat (first | exact Drawn0.refl _ | apply Drawn0.step)⟩
                         ·
                          rw [if_neg c54] at H
                          have c54b0 : ((wrap64 (bt a0 0)) == 244) = false := beq_eq_false_iff_ne.mpr c54
                          have c54b1 : ((wrap64 (bt a0 0)) != 244) = true := bne_iff_ne.mpr c54
                          obtain rfl := Option.some.inj H
                          have p27 : 0 ≤ (1 : Int) := (by omega)
                          have q27 : 1 < a0.size := (by have : (1 : Int) < (a0.size : Int) := of_decide_eq_true (by first | (with_reducible assumption) | assumption); omega)
                          have hx27 : ∀ h : 1 < a0.size, ((a0[1]'h).toNat : Int) = bt a0 1 := bt_at a0 1
                          clear p27
                          have qi27 : (1 < (a0.size : Int)) = True := eq_true (of_decide_eq_true (by first | (with_reducible assumption) | assumption))
                          replace q27 := eq_true q27
                          go_wp2
                          go_ret
                          exact ⟨by first | rfl | (simp; done) | (simp [*]; done), by repeat (first | exact Drawn0.refl _ | apply Drawn0.step)⟩
                       ·
                        rw [if_neg c52] at H
                        have c52b0 : ((wrap64 (bt a0 0)) == 240) = false := beq_eq_false_iff_ne.mpr c52
                        have c52b1 : ((wrap64 (bt a0 0)) != 240) = true := bne_iff_ne.mpr c52
                        by_cases c56 : (wrap64 (bt a0 0)) = 244
                        ·
                         rw [if_pos c56] at H
                         have c56b0 : ((wrap64 (bt a0 0)) == 244) = true := beq_iff_eq.mpr c56
                         have c56b1 : ((wrap64 (bt a0 0)) != 244) = false := bne_eq_false_iff_eq.mpr c56
                         clear c56
                         by_cases c57 : (wrap64 (bt a0 1)) > 143
                         ·
                          rw [if_pos c57] at H
                          have c57b0 : decide (143 < (wrap64 (bt a0 1))) = true := decide_eq_true c57
                          clear c57
                          obtain rfl := Option.some.inj H
                          have p27 : 0 ≤ (1 : Int) := (by omega)
                          have q27 : 1 < a0.size := (by have : (1 : Int) < (a0.size : Int) := of_decide_eq_true (by first | (with_reducible assumption) | assumption); omega)
                          have hx27 : ∀ h : 1 < a0.size, ((a0[1]'h).toNat : Int) = bt a0 1 := bt_at a0 1
                          clear p27
                          have qi27 : (1 < (a0.size : Int)) = True := eq_true (of_decide_eq_true (by first | (with_reducible assumption) | assumption))
                          replace q27 := eq_true q27
                          go_wp2
                          go_ret
                          exact ⟨by first | rfl | (simp; done) | (simp [*]; done), by repeat (first | exact Drawn0.refl _ | apply Drawn0.step)⟩
                         ·
                          rw [if_neg c57] at H
                          have c57b0 : decide (143 < (wrap64 (bt a0 1))) = false := decide_eq_false c57
                          clear c57
                          obtain rfl := Option.some.inj H
                          have p27 : 0 ≤ (1 : Int) := (by omega)
                          have q27 : 1 < a0.size := (by have : (1 : Int) < (a0.size : Int) := of_decide_eq_true (by first | (with_reducible assumption) | assumption); omega)
                          have hx27 : ∀ h : 1 < a0.size, ((a0[1]'h).toNat : Int) = bt a0 1 := bt_at a0 1
                          clear p27
                          have qi27 : (1 < (a0.size : Int)) = True := eq_true (of_decide_eq_true (by first | (with_reducible assumption) | assumption))
                          replace q27 := eq_true q27
                          go_wp2
                          go_ret
                          exact ⟨by first | rfl | (simp; done) | (simp [*]; done), by repeat (first | exact Drawn0.refl _ | apply Drawn0.step)⟩
                        ·
                         rw [if_neg c56] at H
                         have c56b0 : ((wrap64 (bt a0 0)) == 244) = false := beq_eq_false_iff_ne.mpr c56
                         have c56b1 : ((wrap64 (bt a0 0)) != 244) = true := bne_iff_ne.mpr c56
                         obtain rfl := Option.some.inj H
                         have p27 : 0 ≤ (1 : Int) := (by omega)
                         have q27 : 1 < a0.size := (by have : (1 : Int) < (a0.size : Int) := of_decide_eq_true (by first | (with_reducible assumption) | assumption); omega)
                         have hx27 : ∀ h : 1 < a0.size, ((a0[1]'h).toNat : Int) = bt a0 1 := bt_at a0 1
                         clear p27
                         have qi27 : (1 < (a0.size : Int)) = True := eq_true (of_decide_eq_true (by first | (with_reducible assumption) | assumption))
                         replace q27 := eq_true q27
                         go_wp2
                         go_ret
                         exact ⟨by first | rfl | (simp; done) | (simp [*]; done), by repeat (first | exact Drawn0.refl _ | apply Drawn0.step)⟩
                    ·
                     rw [if_neg c26] at H
                     exact absurd H (by simp)
                   ·
                    rw [if_neg c25] at H
                    have c25b0 : decide (2 < x4_14) = false := decide_eq_false c25
                    clear c25
                    obtain rfl := Option.some.inj H
                    go_wp2
                    go_ret
                    exact ⟨by first | rfl | (simp; done) | (simp [*]; done), by repeat (first | exact Drawn0.refl _ | apply Drawn0.step)⟩
 ·
  rw [if_neg c2] at H
  exact absurd H (by simp)
end Go.Proofs.YtmppkcdphgelcaaGreatDoor.PConf
namespace Go.Proofs.YtmppkcdphgelcaaGreatDoor.PConf
open Go.RowKit Go.Proofs.YtmppkcdphgelcaaGreatDoor.W.PrintWords Go.Proofs.YtmppkcdphgelcaaGreatDoor.W.PrintLast Go.Proofs.YtmppkcdphgelcaaGreatDoor.W.PrintMore
attribute [local go_sem] max2_int min2_int max_two min_two max_three min_three max_four min_four   -- for this text's walks alone
set_option linter.unusedVariables false
set_option linter.unusedSimpArgs false
def sr04_First.f (k : Nat) (a0 : ByteArray) : Option (Int × Int) := (sr04_Size.f k a0).bind fun t178 => (if t178 = 0 then (some (65533, 1)) else (if 0 < (a0.size : Int) then (if t178 = 1 then (some (wrap64 (bt a0 0), 1)) else (if t178 = 2 then (if 1 < (a0.size : Int) then (some (wrap64 ((wrap64 ((wrap64 ((wrap64 ((wrap64 (bt a0 0)) - 192)) * 64)) + (wrap64 (bt a0 1)))) - 128), 2)) else (none)) else (if t178 = 3 then (if 1 < (a0.size : Int) then (if 2 < (a0.size : Int) then (some (wrap64 ((wrap64 ((wrap64 ((wrap64 ((wrap64 ((wrap64 (bt a0 0)) - 224)) * 4096)) + (wrap64 ((wrap64 ((wrap64 (bt a0 1)) - 128)) * 64)))) + (wrap64 (bt a0 2)))) - 128), 3)) else (none)) else (none)) else (if 1 < (a0.size : Int) then (if 2 < (a0.size : Int) then (if 3 < (a0.size : Int) then (some (wrap64 ((wrap64 ((wrap64 ((wrap64 ((wrap64 ((wrap64 ((wrap64 (bt a0 0)) - 240)) * 262144)) + (wrap64 ((wrap64 ((wrap64 (bt a0 1)) - 128)) * 4096)))) + (wrap64 ((wrap64 ((wrap64 (bt a0 2)) - 128)) * 64)))) + (wrap64 (bt a0 3)))) - 128), 4)) else (none)) else (none)) else (none))))) else (none)))
set_option maxHeartbeats 8000000 in
set_option maxRecDepth 100000 in
theorem sr04_First.calls (k : Nat) (a0 : ByteArray) (r1 : Int) (r2 : Int) (w : World) (h : sr04_First.f k a0 = some (r1, r2)) :
  Calls Tryz.prog 65 #[.string a0] w fun e w' => e = .returned (.tuple #[.int .i64 r1, .int .i64 r2]) ∧ Drawn0 w w' := by
 have H : ((sr04_Size.f k a0).bind fun t178 => (if t178 = 0 then (some (65533, 1)) else (if 0 < (a0.size : Int) then (if t178 = 1 then (some (wrap64 (bt a0 0), 1)) else (if t178 = 2 then (if 1 < (a0.size : Int) then (some (wrap64 ((wrap64 ((wrap64 ((wrap64 ((wrap64 (bt a0 0)) - 192)) * 64)) + (wrap64 (bt a0 1)))) - 128), 2)) else (none)) else (if t178 = 3 then (if 1 < (a0.size : Int) then (if 2 < (a0.size : Int) then (some (wrap64 ((wrap64 ((wrap64 ((wrap64 ((wrap64 ((wrap64 (bt a0 0)) - 224)) * 4096)) + (wrap64 ((wrap64 ((wrap64 (bt a0 1)) - 128)) * 64)))) + (wrap64 (bt a0 2)))) - 128), 3)) else (none)) else (none)) else (if 1 < (a0.size : Int) then (if 2 < (a0.size : Int) then (if 3 < (a0.size : Int) then (some (wrap64 ((wrap64 ((wrap64 ((wrap64 ((wrap64 ((wrap64 ((wrap64 (bt a0 0)) - 240)) * 262144)) + (wrap64 ((wrap64 ((wrap64 (bt a0 1)) - 128)) * 4096)))) + (wrap64 ((wrap64 ((wrap64 (bt a0 2)) - 128)) * 64)))) + (wrap64 (bt a0 3)))) - 128), 4)) else (none)) else (none)) else (none))))) else (none)))) = some (r1, r2) := h
 clear h
 replace H := Option.bind_eq_some_iff.mp H
 obtain ⟨t178, A20, H⟩ := H
 replace H : (if t178 = 0 then (some (65533, 1)) else (if 0 < (a0.size : Int) then (if t178 = 1 then (some (wrap64 (bt a0 0), 1)) else (if t178 = 2 then (if 1 < (a0.size : Int) then (some (wrap64 ((wrap64 ((wrap64 ((wrap64 ((wrap64 (bt a0 0)) - 192)) * 64)) + (wrap64 (bt a0 1)))) - 128), 2)) else (none)) else (if t178 = 3 then (if 1 < (a0.size : Int) then (if 2 < (a0.size : Int) then (some (wrap64 ((wrap64 ((wrap64 ((wrap64 ((wrap64 ((wrap64 (bt a0 0)) - 224)) * 4096)) + (wrap64 ((wrap64 ((wrap64 (bt a0 1)) - 128)) * 64)))) + (wrap64 (bt a0 2)))) - 128), 3)) else (none)) else (none)) else (if 1 < (a0.size : Int) then (if 2 < (a0.size : Int) then (if 3 < (a0.size : Int) then (some (wrap64 ((wrap64 ((wrap64 ((wrap64 ((wrap64 ((wrap64 ((wrap64 (bt a0 0)) - 240)) * 262144)) + (wrap64 ((wrap64 ((wrap64 (bt a0 1)) - 128)) * 4096)))) + (wrap64 ((wrap64 ((wrap64 (bt a0 2)) - 128)) * 64)))) + (wrap64 (bt a0 3)))) - 128), 4)) else (none)) else (none)) else (none))))) else (none))) = some (r1, r2) := H
 have A2 := As0.mk A20
 clear A20
 by_cases c3 : t178 = 0
 ·
  rw [if_pos c3] at H
  have c3b0 : (t178 == 0) = true := beq_iff_eq.mpr c3
  have c3b1 : (t178 != 0) = false := bne_eq_false_iff_eq.mpr c3
  clear c3
  simp only [Option.some.injEq, Prod.mk.injEq] at H
  obtain ⟨rfl, rfl⟩ := H
  go_enter Tryz.func65, Tryz.ntmps65
  go_wp2_with (first | (go_at_call 66; (with_reducible refine (sr04_Size.calls k a0 t178 _ A2.out).mono ?_); rintro e w' ⟨rfl, ⟨nd, rfl⟩⟩; (try first | exact ⟨rfl, _, World.drewN_drewN _ _ _⟩ | exact ⟨rfl, _, Eq.trans (World.drewN_drewN _ _ _) (congrArg (World.drewN _) (Nat.add_assoc _ _ _))⟩)))
  repeat (go_quiet (first | (go_at_call 66; (with_reducible refine (sr04_Size.calls k a0 t178 _ A2.out).mono ?_); rintro e w' ⟨rfl, ⟨nd, rfl⟩⟩; (try first | exact ⟨rfl, _, World.drewN_drewN _ _ _⟩ | exact ⟨rfl, _, Eq.trans (World.drewN_drewN _ _ _) (congrArg (World.drewN _) (Nat.add_assoc _ _ _))⟩))); try go_wp2_with (first | (go_at_call 66; (with_reducible refine (sr04_Size.calls k a0 t178 _ A2.out).mono ?_); rintro e w' ⟨rfl, ⟨nd, rfl⟩⟩; (try first | exact ⟨rfl, _, World.drewN_drewN _ _ _⟩ | exact ⟨rfl, _, Eq.trans (World.drewN_drewN _ _ _) (congrArg (World.drewN _) (Nat.add_assoc _ _ _))⟩))))
  go_ret2
  exact ⟨by first | rfl | (simp; done) | (simp [*]; done), by repeat (first | exact Drawn0.refl _ | apply Drawn0.step)⟩
 ·
  rw [if_neg c3] at H
  have c3b0 : (t178 == 0) = false := beq_eq_false_iff_ne.mpr c3
  have c3b1 : (t178 != 0) = true := bne_iff_ne.mpr c3
  by_cases c4 : 0 < (a0.size : Int)
  ·
   rw [if_pos c4] at H
   have c4b0 : decide (0 < (a0.size : Int)) = true := decide_eq_true c4
   have c4b1 : decide (0 < a0.size) = true := decide_eq_true (by omega)
   clear c4
   by_cases c6 : t178 = 1
   ·
    rw [if_pos c6] at H
    have c6b0 : (t178 == 1) = true := beq_iff_eq.mpr c6
    have c6b1 : (t178 != 1) = false := bne_eq_false_iff_eq.mpr c6
    clear c6
    simp only [Option.some.injEq, Prod.mk.injEq] at H
    obtain ⟨rfl, rfl⟩ := H
    go_enter Tryz.func65, Tryz.ntmps65
    go_wp2_with (first | (go_at_call 66; (with_reducible refine (sr04_Size.calls k a0 t178 _ A2.out).mono ?_); rintro e w' ⟨rfl, ⟨nd, rfl⟩⟩; (try first | exact ⟨rfl, _, World.drewN_drewN _ _ _⟩ | exact ⟨rfl, _, Eq.trans (World.drewN_drewN _ _ _) (congrArg (World.drewN _) (Nat.add_assoc _ _ _))⟩); have p5 : 0 ≤ (0 : Int) := (by omega); have q5 : 0 < a0.size := (by have : (0 : Int) < (a0.size : Int) := of_decide_eq_true (by first | (with_reducible assumption) | assumption); omega); have hx5 : ∀ h : 0 < a0.size, ((a0[0]'h).toNat : Int) = bt a0 0 := bt_at a0 0; clear p5; have qi5 : (0 < (a0.size : Int)) = True := eq_true (of_decide_eq_true (by first | (with_reducible assumption) | assumption)); replace q5 := eq_true q5))
    repeat (go_quiet (first | (go_at_call 66; (with_reducible refine (sr04_Size.calls k a0 t178 _ A2.out).mono ?_); rintro e w' ⟨rfl, ⟨nd, rfl⟩⟩; (try first | exact ⟨rfl, _, World.drewN_drewN _ _ _⟩ | exact ⟨rfl, _, Eq.trans (World.drewN_drewN _ _ _) (congrArg (World.drewN _) (Nat.add_assoc _ _ _))⟩); have p5 : 0 ≤ (0 : Int) := (by omega); have q5 : 0 < a0.size := (by have : (0 : Int) < (a0.size : Int) := of_decide_eq_true (by first | (with_reducible assumption) | assumption); omega); have hx5 : ∀ h : 0 < a0.size, ((a0[0]'h).toNat : Int) = bt a0 0 := bt_at a0 0; clear p5; have qi5 : (0 < (a0.size : Int)) = True := eq_true (of_decide_eq_true (by first | (with_reducible assumption) | assumption)); replace q5 := eq_true q5)); try go_wp2_with (first | (go_at_call 66; (with_reducible refine (sr04_Size.calls k a0 t178 _ A2.out).mono ?_); rintro e w' ⟨rfl, ⟨nd, rfl⟩⟩; (try first | exact ⟨rfl, _, World.drewN_drewN _ _ _⟩ | exact ⟨rfl, _, Eq.trans (World.drewN_drewN _ _ _) (congrArg (World.drewN _) (Nat.add_assoc _ _ _))⟩); have p5 : 0 ≤ (0 : Int) := (by omega); have q5 : 0 < a0.size := (by have : (0 : Int) < (a0.size : Int) := of_decide_eq_true (by first | (with_reducible assumption) | assumption); omega); have hx5 : ∀ h : 0 < a0.size, ((a0[0]'h).toNat : Int) = bt a0 0 := bt_at a0 0; clear p5; have qi5 : (0 < (a0.size : Int)) = True := eq_true (of_decide_eq_true (by first | (with_reducible assumption) | assumption)); replace q5 := eq_true q5)))
    go_ret2
    exact ⟨by first | rfl | (simp; done) | (simp [*]; done), by repeat (first | exact Drawn0.refl _ | apply Drawn0.step)⟩
   ·
    rw [if_neg c6] at H
    have c6b0 : (t178 == 1) = false := beq_eq_false_iff_ne.mpr c6
    have c6b1 : (t178 != 1) = true := bne_iff_ne.mpr c6
    by_cases c7 : t178 = 2
    ·
     rw [if_pos c7] at H
     have c7b0 : (t178 == 2) = true := beq_iff_eq.mpr c7
     have c7b1 : (t178 != 2) = false := bne_eq_false_iff_eq.mpr c7
     clear c7
     by_cases c8 : 1 < (a0.size : Int)
     ·
      rw [if_pos c8] at H
      have c8b0 : decide (1 < (a0.size : Int)) = true := decide_eq_true c8
      have c8b1 : decide (1 < a0.size) = true := decide_eq_true (by omega)
      clear c8
      simp only [Option.some.injEq, Prod.mk.injEq] at H
      obtain ⟨rfl, rfl⟩ := H
      go_enter Tryz.func65, Tryz.ntmps65
      go_wp2_with (first | (go_at_call 66; (with_reducible refine (sr04_Size.calls k a0 t178 _ A2.out).mono ?_); rintro e w' ⟨rfl, ⟨nd, rfl⟩⟩; (try first | exact ⟨rfl, _, World.drewN_drewN _ _ _⟩ | exact ⟨rfl, _, Eq.trans (World.drewN_drewN _ _ _) (congrArg (World.drewN _) (Nat.add_assoc _ _ _))⟩); have p5 : 0 ≤ (0 : Int) := (by omega); have q5 : 0 < a0.size := (by have : (0 : Int) < (a0.size : Int) := of_decide_eq_true (by first | (with_reducible assumption) | assumption); omega); have hx5 : ∀ h : 0 < a0.size, ((a0[0]'h).toNat : Int) = bt a0 0 := bt_at a0 0; clear p5; have qi5 : (0 < (a0.size : Int)) = True := eq_true (of_decide_eq_true (by first | (with_reducible assumption) | assumption)); replace q5 := eq_true q5; have p9 : 0 ≤ (1 : Int) := (by omega); have q9 : 1 < a0.size := (by have : (1 : Int) < (a0.size : Int) := of_decide_eq_true (by first | (with_reducible assumption) | assumption); omega); have hx9 : ∀ h : 1 < a0.size, ((a0[1]'h).toNat : Int) = bt a0 1 := bt_at a0 1; clear p9; have qi9 : (1 < (a0.size : Int)) = True := eq_true (of_decide_eq_true (by first | (with_reducible assumption) | assumption)); replace q9 := eq_true q9))
      repeat (go_quiet (first | (go_at_call 66; (with_reducible refine (sr04_Size.calls k a0 t178 _ A2.out).mono ?_); rintro e w' ⟨rfl, ⟨nd, rfl⟩⟩; (try first | exact ⟨rfl, _, World.drewN_drewN _ _ _⟩ | exact ⟨rfl, _, Eq.trans (World.drewN_drewN _ _ _) (congrArg (World.drewN _) (Nat.add_assoc _ _ _))⟩); have p5 : 0 ≤ (0 : Int) := (by omega); have q5 : 0 < a0.size := (by have : (0 : Int) < (a0.size : Int) := of_decide_eq_true (by first | (with_reducible assumption) | assumption); omega); have hx5 : ∀ h : 0 < a0.size, ((a0[0]'h).toNat : Int) = bt a0 0 := bt_at a0 0; clear p5; have qi5 : (0 < (a0.size : Int)) = True := eq_true (of_decide_eq_true (by first | (with_reducible assumption) | assumption)); replace q5 := eq_true q5; have p9 : 0 ≤ (1 : Int) := (by omega); have q9 : 1 < a0.size := (by have : (1 : Int) < (a0.size : Int) := of_decide_eq_true (by first | (with_reducible assumption) | assumption); omega); have hx9 : ∀ h : 1 < a0.size, ((a0[1]'h).toNat : Int) = bt a0 1 := bt_at a0 1; clear p9; have qi9 : (1 < (a0.size : Int)) = True := eq_true (of_decide_eq_true (by first | (with_reducible assumption) | assumption)); replace q9 := eq_true q9)); try go_wp2_with (first | (go_at_call 66; (with_reducible refine (sr04_Size.calls k a0 t178 _ A2.out).mono ?_); rintro e w' ⟨rfl, ⟨nd, rfl⟩⟩; (try first | exact ⟨rfl, _, World.drewN_drewN _ _ _⟩ | exact ⟨rfl, _, Eq.trans (World.drewN_drewN _ _ _) (congrArg (World.drewN _) (Nat.add_assoc _ _ _))⟩); have p5 : 0 ≤ (0 : Int) := (by omega); have q5 : 0 < a0.size := (by have : (0 : Int) < (a0.size : Int) := of_decide_eq_true (by first | (with_reducible assumption) | assumption); omega); have hx5 : ∀ h : 0 < a0.size, ((a0[0]'h).toNat : Int) = bt a0 0 := bt_at a0 0; clear p5; have qi5 : (0 < (a0.size : Int)) = True := eq_true (of_decide_eq_true (by first | (with_reducible assumption) | assumption)); replace q5 := eq_true q5; have p9 : 0 ≤ (1 : Int) := (by omega); have q9 : 1 < a0.size := (by have : (1 : Int) < (a0.size : Int) := of_decide_eq_true (by first | (with_reducible assumption) | assumption); omega); have hx9 : ∀ h : 1 < a0.size, ((a0[1]'h).toNat : Int) = bt a0 1 := bt_at a0 1; clear p9; have qi9 : (1 < (a0.size : Int)) = True := eq_true (of_decide_eq_true (by first | (with_reducible assumption) | assumption)); replace q9 := eq_true q9)))
      go_ret2
      exact ⟨by first | rfl | (simp; done) | (simp [*]; done), by repeat (first | exact Drawn0.refl _ | apply Drawn0.step)⟩
     ·
      rw [if_neg c8] at H
      exact absurd H (by simp)
    ·
     rw [if_neg c7] at H
     have c7b0 : (t178 == 2) = false := beq_eq_false_iff_ne.mpr c7
     have c7b1 : (t178 != 2) = true := bne_iff_ne.mpr c7
     by_cases c10 : t178 = 3
     ·
      rw [if_pos c10] at H
      have c10b0 : (t178 == 3) = true := beq_iff_eq.mpr c10
      have c10b1 : (t178 != 3) = false := bne_eq_false_iff_eq.mpr c10
      clear c10
      by_cases c11 : 1 < (a0.size : Int)
      ·
       rw [if_pos c11] at H
       have c11b0 : decide (1 < (a0.size : Int)) = true := decide_eq_true c11
       have c11b1 : decide (1 < a0.size) = true := decide_eq_true (by omega)
       clear c11
       by_cases c13 : 2 < (a0.size : Int)
       ·
        rw [if_pos c13] at H
        have c13b0 : decide (2 < (a0.size : Int)) = true := decide_eq_true c13
        have c13b1 : decide (2 < a0.size) = true := decide_eq_true (by omega)
        clear c13
        simp only [Option.some.injEq, Prod.mk.injEq] at H
        obtain ⟨rfl, rfl⟩ := H
        go_enter Tryz.func65, Tryz.ntmps65
        go_wp2_with (first | (go_at_call 66; (with_reducible refine (sr04_Size.calls k a0 t178 _ A2.out).mono ?_); rintro e w' ⟨rfl, ⟨nd, rfl⟩⟩; (try first | exact ⟨rfl, _, World.drewN_drewN _ _ _⟩ | exact ⟨rfl, _, Eq.trans (World.drewN_drewN _ _ _) (congrArg (World.drewN _) (Nat.add_assoc _ _ _))⟩); have p5 : 0 ≤ (0 : Int) := (by omega); have q5 : 0 < a0.size := (by have : (0 : Int) < (a0.size : Int) := of_decide_eq_true (by first | (with_reducible assumption) | assumption); omega); have hx5 : ∀ h : 0 < a0.size, ((a0[0]'h).toNat : Int) = bt a0 0 := bt_at a0 0; clear p5; have qi5 : (0 < (a0.size : Int)) = True := eq_true (of_decide_eq_true (by first | (with_reducible assumption) | assumption)); replace q5 := eq_true q5; have p12 : 0 ≤ (1 : Int) := (by omega); have q12 : 1 < a0.size := (by have : (1 : Int) < (a0.size : Int) := of_decide_eq_true (by first | (with_reducible assumption) | assumption); omega); have hx12 : ∀ h : 1 < a0.size, ((a0[1]'h).toNat : Int) = bt a0 1 := bt_at a0 1; clear p12; have qi12 : (1 < (a0.size : Int)) = True := eq_true (of_decide_eq_true (by first | (with_reducible assumption) | assumption)); replace q12 := eq_true q12; have p14 : 0 ≤ (2 : Int) := (by omega); have q14 : 2 < a0.size := (by have : (2 : Int) < (a0.size : Int) := of_decide_eq_true (by first | (with_reducible assumption) | assumption); omega); have hx14 : ∀ h : 2 < a0.size, ((a0[2]'h).toNat : Int) = bt a0 2 := bt_at a0 2; clear p14; have qi14 : (2 < (a0.size : Int)) = True := eq_true (of_decide_eq_true (by first | (with_reducible assumption) | assumption)); replace q14 := eq_true q14))
        repeat (go_quiet (first | (go_at_call 66; (with_reducible refine (sr04_Size.calls k a0 t178 _ A2.out).mono ?_); rintro e w' ⟨rfl, ⟨nd, rfl⟩⟩; (try first | exact ⟨rfl, _, World.drewN_drewN _ _ _⟩ | exact ⟨rfl, _, Eq.trans (World.drewN_drewN _ _ _) (congrArg (World.drewN _) (Nat.add_assoc _ _ _))⟩); have p5 : 0 ≤ (0 : Int) := (by omega); have q5 : 0 < a0.size := (by have : (0 : Int) < (a0.size : Int) := of_decide_eq_true (by first | (with_reducible assumption) | assumption); omega); have hx5 : ∀ h : 0 < a0.size, ((a0[0]'h).toNat : Int) = bt a0 0 := bt_at a0 0; clear p5; have qi5 : (0 < (a0.size : Int)) = True := eq_true (of_decide_eq_true (by first | (with_reducible assumption) | assumption)); replace q5 := eq_true q5; have p12 : 0 ≤ (1 : Int) := (by omega); have q12 : 1 < a0.size := (by have : (1 : Int) < (a0.size : Int) := of_decide_eq_true (by first | (with_reducible assumption) | assumption); omega); have hx12 : ∀ h : 1 < a0.size, ((a0[1]'h).toNat : Int) = bt a0 1 := bt_at a0 1; clear p12; have qi12 : (1 < (a0.size : Int)) = True := eq_true (of_decide_eq_true (by first | (with_reducible assumption) | assumption)); replace q12 := eq_true q12; have p14 : 0 ≤ (2 : Int) := (by omega); have q14 : 2 < a0.size := (by have : (2 : Int) < (a0.size : Int) := of_decide_eq_true (by first | (with_reducible assumption) | assumption); omega); have hx14 : ∀ h : 2 < a0.size, ((a0[2]'h).toNat : Int) = bt a0 2 := bt_at a0 2; clear p14; have qi14 : (2 < (a0.size : Int)) = True := eq_true (of_decide_eq_true (by first | (with_reducible assumption) | assumption)); replace q14 := eq_true q14)); try go_wp2_with (first | (go_at_call 66; (with_reducible refine (sr04_Size.calls k a0 t178 _ A2.out).mono ?_); rintro e w' ⟨rfl, ⟨nd, rfl⟩⟩; (try first | exact ⟨rfl, _, World.drewN_drewN _ _ _⟩ | exact ⟨rfl, _, Eq.trans (World.drewN_drewN _ _ _) (congrArg (World.drewN _) (Nat.add_assoc _ _ _))⟩); have p5 : 0 ≤ (0 : Int) := (by omega); have q5 : 0 < a0.size := (by have : (0 : Int) < (a0.size : Int) := of_decide_eq_true (by first | (with_reducible assumption) | assumption); omega); have hx5 : ∀ h : 0 < a0.size, ((a0[0]'h).toNat : Int) = bt a0 0 := bt_at a0 0; clear p5; have qi5 : (0 < (a0.size : Int)) = True := eq_true (of_decide_eq_true (by first | (with_reducible assumption) | assumption)); replace q5 := eq_true q5; have p12 : 0 ≤ (1 : Int) := (by omega); have q12 : 1 < a0.size := (by have : (1 : Int) < (a0.size : Int) := of_decide_eq_true (by first | (with_reducible assumption) | assumption); omega); have hx12 : ∀ h : 1 < a0.size, ((a0[1]'h).toNat : Int) = bt a0 1 := bt_at a0 1; clear p12; have qi12 : (1 < (a0.size : Int)) = True := eq_true (of_decide_eq_true (by first | (with_reducible assumption) | assumption)); replace q12 := eq_true q12; have p14 : 0 ≤ (2 : Int) := (by omega); have q14 : 2 < a0.size := (by have : (2 : Int) < (a0.size : Int) := of_decide_eq_true (by first | (with_reducible assumption) | assumption); omega); have hx14 : ∀ h : 2 < a0.size, ((a0[2]'h).toNat : Int) = bt a0 2 := bt_at a0 2; clear p14; have qi14 : (2 < (a0.size : Int)) = True := eq_true (of_decide_eq_true (by first | (with_reducible assumption) | assumption)); replace q14 := eq_true q14)))
        go_ret2
        exact ⟨by first | rfl | (simp; done) | (simp [*]; done), by repeat (first | exact Drawn0.refl _ | apply Drawn0.step)⟩
       ·
        rw [if_neg c13] at H
        exact absurd H (by simp)
      ·
       rw [if_neg c11] at H
       exact absurd H (by simp)
     ·
      rw [if_neg c10] at H
      have c10b0 : (t178 == 3) = false := beq_eq_false_iff_ne.mpr c10
      have c10b1 : (t178 != 3) = true := bne_iff_ne.mpr c10
      by_cases c15 : 1 < (a0.size : Int)
      ·
       rw [if_pos c15] at H
       have c15b0 : decide (1 < (a0.size : Int)) = true := decide_eq_true c15
       have c15b1 : decide (1 < a0.size) = true := decide_eq_true (by omega)
       clear c15
       by_cases c17 : 2 < (a0.size : Int)
       ·
        rw [if_pos c17] at H
        have c17b0 : decide (2 < (a0.size : Int)) = true := decide_eq_true c17
        have c17b1 : decide (2 < a0.size) = true := decide_eq_true (by omega)
        clear c17
        by_cases c19 : 3 < (a0.size : Int)
        ·
         rw [if_pos c19] at H
         have c19b0 : decide (3 < (a0.size : Int)) = true := decide_eq_true c19
         have c19b1 : decide (3 < a0.size) = true := decide_eq_true (by omega)
         clear c19
         simp only [Option.some.injEq, Prod.mk.injEq] at H
         obtain ⟨rfl, rfl⟩ := H
         go_enter Tryz.func65, Tryz.ntmps65
         go_wp2_with (first | (go_at_call 66; (with_reducible refine (sr04_Size.calls k a0 t178 _ A2.out).mono ?_); rintro e w' ⟨rfl, ⟨nd, rfl⟩⟩; (try first | exact ⟨rfl, _, World.drewN_drewN _ _ _⟩ | exact ⟨rfl, _, Eq.trans (World.drewN_drewN _ _ _) (congrArg (World.drewN _) (Nat.add_assoc _ _ _))⟩); have p5 : 0 ≤ (0 : Int) := (by omega); have q5 : 0 < a0.size := (by have : (0 : Int) < (a0.size : Int) := of_decide_eq_true (by first | (with_reducible assumption) | assumption); omega); have hx5 : ∀ h : 0 < a0.size, ((a0[0]'h).toNat : Int) = bt a0 0 := bt_at a0 0; clear p5; have qi5 : (0 < (a0.size : Int)) = True := eq_true (of_decide_eq_true (by first | (with_reducible assumption) | assumption)); replace q5 := eq_true q5; have p16 : 0 ≤ (1 : Int) := (by omega); have q16 : 1 < a0.size := (by have : (1 : Int) < (a0.size : Int) := of_decide_eq_true (by first | (with_reducible assumption) | assumption); omega); have hx16 : ∀ h : 1 < a0.size, ((a0[1]'h).toNat : Int) = bt a0 1 := bt_at a0 1; clear p16; have qi16 : (1 < (a0.size : Int)) = True := eq_true (of_decide_eq_true (by first | (with_reducible assumption) | assumption)); replace q16 := eq_true q16; have p18 : 0 ≤ (2 : Int) := (by omega); have q18 : 2 < a0.size := (by have : (2 : Int) < (a0.size : Int) := of_decide_eq_true (by first | (with_reducible assumption) | assumption); omega); have hx18 : ∀ h : 2 < a0.size, ((a0[2]'h).toNat : Int) = bt a0 2 := bt_at a0 2; clear p18; have qi18 : (2 < (a0.size : Int)) = True := eq_true (of_decide_eq_true (by first | (with_reducible assumption) | assumption)); replace q18 := eq_true q18; have p20 : 0 ≤ (3 : Int) := (by omega); have q20 : 3 < a0.size := (by have : (3 : Int) < (a0.size : Int) := of_decide_eq_true (by first | (with_reducible assumption) | assumption); omega); have hx20 : ∀ h : 3 < a0.size, ((a0[3]'h).toNat : Int) = bt a0 3 := bt_at a0 3; clear p20; have qi20 : (3 < (a0.size : Int)) = True := eq_true (of_decide_eq_true (by first | (with_reducible assumption) | assumption)); replace q20 := eq_true q20))
         repeat (go_quiet (first | (go_at_call 66; (with_reducible refine (sr04_Size.calls k a0 t178 _ A2.out).mono ?_); rintro e w' ⟨rfl, ⟨nd, rfl⟩⟩; (try first | exact ⟨rfl, _, World.drewN_drewN _ _ _⟩ | exact ⟨rfl, _, Eq.trans (World.drewN_drewN _ _ _) (congrArg (World.drewN _) (Nat.add_assoc _ _ _))⟩); have p5 : 0 ≤ (0 : Int) := (by omega); have q5 : 0 < a0.size := (by have : (0 : Int) < (a0.size : Int) := of_decide_eq_true (by first | (with_reducible assumption) | assumption); omega); have hx5 : ∀ h : 0 < a0.size, ((a0[0]'h).toNat : Int) = bt a0 0 := bt_at a0 0; clear p5; have qi5 : (0 < (a0.size : Int)) = True := eq_true (of_decide_eq_true (by first | (with_reducible assumption) | assumption)); replace q5 := eq_true q5; have p16 : 0 ≤ (1 : Int) := (by omega); have q16 : 1 < a0.size := (by have : (1 : Int) < (a0.size : Int) := of_decide_eq_true (by first | (with_reducible assumption) | assumption); omega); have hx16 : ∀ h : 1 < a0.size, ((a0[1]'h).toNat : Int) = bt a0 1 := bt_at a0 1; clear p16; have qi16 : (1 < (a0.size : Int)) = True := eq_true (of_decide_eq_true (by first | (with_reducible assumption) | assumption)); replace q16 := eq_true q16; have p18 : 0 ≤ (2 : Int) := (by omega); have q18 : 2 < a0.size := (by have : (2 : Int) < (a0.size : Int) := of_decide_eq_true (by first | (with_reducible assumption) | assumption); omega); have hx18 : ∀ h : 2 < a0.size, ((a0[2]'h).toNat : Int) = bt a0 2 := bt_at a0 2; clear p18; have qi18 : (2 < (a0.size : Int)) = True := eq_true (of_decide_eq_true (by first | (with_reducible assumption) | assumption)); replace q18 := eq_true q18; have p20 : 0 ≤ (3 : Int) := (by omega); have q20 : 3 < a0.size := (by have : (3 : Int) < (a0.size : Int) := of_decide_eq_true (by first | (with_reducible assumption) | assumption); omega); have hx20 : ∀ h : 3 < a0.size, ((a0[3]'h).toNat : Int) = bt a0 3 := bt_at a0 3; clear p20; have qi20 : (3 < (a0.size : Int)) = True := eq_true (of_decide_eq_true (by first | (with_reducible assumption) | assumption)); replace q20 := eq_true q20)); try go_wp2_with (first | (go_at_call 66; (with_reducible refine (sr04_Size.calls k a0 t178 _ A2.out).mono ?_); rintro e w' ⟨rfl, ⟨nd, rfl⟩⟩; (try first | exact ⟨rfl, _, World.drewN_drewN _ _ _⟩ | exact ⟨rfl, _, Eq.trans (World.drewN_drewN _ _ _) (congrArg (World.drewN _) (Nat.add_assoc _ _ _))⟩); have p5 : 0 ≤ (0 : Int) := (by omega); have q5 : 0 < a0.size := (by have : (0 : Int) < (a0.size : Int) := of_decide_eq_true (by first | (with_reducible assumption) | assumption); omega); have hx5 : ∀ h : 0 < a0.size, ((a0[0]'h).toNat : Int) = bt a0 0 := bt_at a0 0; clear p5; have qi5 : (0 < (a0.size : Int)) = True := eq_true (of_decide_eq_true (by first | (with_reducible assumption) | assumption)); replace q5 := eq_true q5; have p16 : 0 ≤ (1 : Int) := (by omega); have q16 : 1 < a0.size := (by have : (1 : Int) < (a0.size : Int) := of_decide_eq_true (by first | (with_reducible assumption) | assumption); omega); have hx16 : ∀ h : 1 < a0.size, ((a0[1]'h).toNat : Int) = bt a0 1 := bt_at a0 1; clear p16; have qi16 : (1 < (a0.size : Int)) = True := eq_true (of_decide_eq_true (by first | (with_reducible assumption) | assumption)); replace q16 := eq_true q16; have p18 : 0 ≤ (2 : Int) := (by omega); have q18 : 2 < a0.size := (by have : (2 : Int) < (a0.size : Int) := of_decide_eq_true (by first | (with_reducible assumption) | assumption); omega); have hx18 : ∀ h : 2 < a0.size, ((a0[2]'h).toNat : Int) = bt a0 2 := bt_at a0 2; clear p18; have qi18 : (2 < (a0.size : Int)) = True := eq_true (of_decide_eq_true (by first | (with_reducible assumption) | assumption)); replace q18 := eq_true q18; have p20 : 0 ≤ (3 : Int) := (by omega); have q20 : 3 < a0.size := (by have : (3 : Int) < (a0.size : Int) := of_decide_eq_true (by first | (with_reducible assumption) | assumption); omega); have hx20 : ∀ h : 3 < a0.size, ((a0[3]'h).toNat : Int) = bt a0 3 := bt_at a0 3; clear p20; have qi20 : (3 < (a0.size : Int)) = True := eq_true (of_decide_eq_true (by first | (with_reducible assumption) | assumption)); replace q20 := eq_true q20)))
         go_ret2
         exact ⟨by first | rfl | (simp; done) | (simp [*]; done), by repeat (first | exact Drawn0.refl _ | apply Drawn0.step)⟩
        ·
         rw [if_neg c19] at H
         exact absurd H (by simp)
       ·
        rw [if_neg c17] at H
        exact absurd H (by simp)
      ·
       rw [if_neg c15] at H
       exact absurd H (by simp)
  ·
   rw [if_neg c4] at H
   exact absurd H (by simp)
end Go.Proofs.YtmppkcdphgelcaaGreatDoor.PConf
namespace Go.Proofs.YtmppkcdphgelcaaGreatDoor.PConf
open Go.RowKit Go.Proofs.YtmppkcdphgelcaaGreatDoor.W.PrintWords Go.Proofs.YtmppkcdphgelcaaGreatDoor.W.PrintLast Go.Proofs.YtmppkcdphgelcaaGreatDoor.W.PrintMore
attribute [local go_sem] max2_int min2_int max_two min_two max_three min_three max_four min_four   -- for this text's walks alone
set_option linter.unusedVariables false
set_option linter.unusedSimpArgs false
def sr04_Runes.l0 : Nat → ByteArray → List (S74) → Int → Option ((List (S74)))
 | 0, _, _, _ => none
 | k + 1, x0, x3, x4 => if x4 < (x0.size : Int) then (if 0 ≤ x4 then (if x4 ≤ (x0.size : Int) then ((sr04_First.f k (x0.extract (x4 : Int).toNat x0.size)).bind fun bt179 => ((sr04_Size.f k (x0.extract (x4 : Int).toNat x0.size)).bind fun t181 => (if x3.length < 5864062014805 then (sr04_Runes.l0 k x0 (x3 ++ [(⟨x4, bt179.1, decide (t181 > 0)⟩ : S74)]) (wrap64 (x4 + bt179.2))) else (none)))) else (none)) else (none)) else (some x3)
def sr04_Runes.f (k : Nat) (a0 : ByteArray) : Option ((List (S74))) := sr04_Runes.l0 k a0 ([] : List (S74)) 0
set_option maxHeartbeats 8000000 in
set_option maxRecDepth 100000 in
theorem sr04_Runes.calls (k : Nat) (a0 : ByteArray) (r : List (S74)) (w : World) (h : sr04_Runes.f k a0 = some r) :
  Calls Tryz.prog 53 #[.string a0] w fun e w' => ∃ v0_ : Value, e = .returned (v0_) ∧ Kd.R k74 74 w' w.heap.size (fun _ => True) v0_ r ∧ Below w.heap.size w w' := by
 have hu74 := Tryz.underlying74
 have HB := As0.mk (Below.refl w.heap.size w)
 have H : (sr04_Runes.l0 k a0 ([] : List (S74)) 0) = some r := h
 clear h
 have H' := As0.mk H
 clear H
 go_enter Tryz.func53, Tryz.ntmps53
 go_wp2
 go_loopg [3, 4] k (fun kq v3 v4 w' => ∃ (x3_1 : List (S74)) (x4_1 : Int), v4 = .int .i64 x4_1 ∧ As0 (sr04_Runes.l0 kq a0 x3_1 x4_1 = some r) ∧ As0 (kq ≤ k) ∧ As0 (Kd.R k74 74 w' w.heap.size (fun _ => True) v3 x3_1) ∧ As0 (Below w.heap.size w w'))
 case atStart => exact ⟨(([] : List (S74))), (0), (by first | rfl | (simp; done) | (simp [*]; done)), H', ⟨Nat.le_refl _⟩, ⟨by first | exact Kd.R_nil _ _ _ _ _ | exact Kd.N_nil _ _ _ _ _ | exact Kd.V_nil _ _ _ _ _ | exact Kd.Q_nil _ _ _ _ _ | exact Kd.S_nil _ _ _ _ _⟩, ⟨by repeat (first | (with_reducible first | exact HB.out | apply bla | apply bln | apply bld) | exact HB.out)⟩⟩
 case round =>
  clear H'
  obtain ⟨x3_1, x4_1, rfl, HA, HK1, HO_3, HB⟩ := hrel
  cases gk with
  | zero => exact absurd HA.out (by simp [sr04_Runes.l0])
  | succ k1 =>
   have H := HA.out
   clear HA
   simp only [sr04_Runes.l0] at H
   by_cases c2 : x4_1 < (a0.size : Int)
   ·
    rw [if_pos c2] at H
    have c2b0 : decide (x4_1 < (a0.size : Int)) = true := decide_eq_true c2
    clear c2
    by_cases c3 : 0 ≤ x4_1
    ·
     rw [if_pos c3] at H
     have c3b0 := eq_true c3
     have c3b1 : decide (0 ≤ x4_1) = true := decide_eq_true c3
     clear c3
     by_cases c4 : x4_1 ≤ (a0.size : Int)
     ·
      rw [if_pos c4] at H
      have c4b0 := eq_true c4
      have c4b1 : decide (x4_1 ≤ (a0.size : Int)) = true := decide_eq_true c4
      clear c4
      replace H := Option.bind_eq_some_iff.mp H
      obtain ⟨⟨t179, t180⟩, A50, H⟩ := H
      replace H : ((sr04_Size.f k1 (a0.extract (x4_1 : Int).toNat a0.size)).bind fun t181 => (if x3_1.length < 5864062014805 then (sr04_Runes.l0 k1 a0 (x3_1 ++ [(⟨x4_1, t179, decide (t181 > 0)⟩ : S74)]) (wrap64 (x4_1 + t180))) else (none))) = some r := H
      have A5 := As0.mk A50
      clear A50
      have c6b0 := eq_true (of_decide_eq_true (by first | (with_reducible assumption) | assumption) : 0 ≤ x4_1)
      have c7b0 := eq_true (of_decide_eq_true (by first | (with_reducible assumption) | assumption) : x4_1 ≤ (a0.size : Int))
      replace H := Option.bind_eq_some_iff.mp H
      obtain ⟨t181, A80, H⟩ := H
      replace H : (if x3_1.length < 5864062014805 then (sr04_Runes.l0 k1 a0 (x3_1 ++ [(⟨x4_1, t179, decide (t181 > 0)⟩ : S74)]) (wrap64 (x4_1 + t180))) else (none)) = some r := H
      have A8 := As0.mk A80
      clear A80
      by_cases c9 : x3_1.length < 5864062014805
      ·
       rw [if_pos c9] at H
       have LMc9 := As0.mk c9
       clear c9
       obtain ⟨y182, hy182⟩ : ∃ y_ : List (S74), y_ = (x3_1 ++ [(⟨x4_1, t179, decide (t181 > 0)⟩ : S74)]) := ⟨_, rfl⟩
       replace H : (sr04_Runes.l0 k1 a0 y182 (wrap64 (x4_1 + t180))) = some r := by first | (rw [hy182]; with_reducible exact H) | (have H2_ := (Option.bind_some _ _).symm.trans H; rw [hy182]; with_reducible exact H2_) | (have H2_ := (Option.bind_some _ _).symm.trans H; with_reducible exact H2_) | with_reducible exact H | (rw [hy182]; exact H) | exact H
       have Ny182 := As0.mk hy182
       clear hy182
       have H' := As0.mk H
       clear H
       go_wp2_with (first | ((with_reducible refine gate_callee (f := 65) rfl ?_); refine goesL_ (some 15) rfl rfl Tryz.func65 (by kernel_rfl) rfl #[.string (a0.extract (x4_1 : Int).toNat a0.size)] rfl (by (try simp only [List.map_toArray, List.map_cons, List.map_nil]); first | done | rfl | (simp only [List.length_drop, List.length_take]; rfl)) ?_; (with_reducible refine (sr04_First.calls k1 (a0.extract (x4_1 : Int).toNat a0.size) t179 t180 _ A5.out).mono ?_); rintro e w' ⟨rfl, ⟨nd, rfl⟩⟩; refine ⟨_, rfl, ?_⟩) | ((with_reducible refine gate_callee (f := 66) rfl ?_); refine goesL_ (some 24) rfl rfl Tryz.func66 (by kernel_rfl) rfl #[.string (a0.extract (x4_1 : Int).toNat a0.size)] rfl (by (try simp only [List.map_toArray, List.map_cons, List.map_nil]); first | done | rfl | (simp only [List.length_drop, List.length_take]; rfl)) ?_; (with_reducible refine (sr04_Size.calls k1 (a0.extract (x4_1 : Int).toNat a0.size) t181 _ A8.out).mono ?_); rintro e w' ⟨rfl, ⟨nd, rfl⟩⟩; refine ⟨_, rfl, ?_⟩) | ((with_reducible refine gate_builtin (b := .append) (xs := #[.tmp 18, .tmp 27]) rfl ?_); at_builtin; refine Kd.R_append k74 (w0 := w) w.heap.size rfl (.tmp 18) (.tmp 27) 71 74 (.agg #[(.int .i64 0), (.int .i64 0), (.bool false)]) 24 rfl Tryz.underlying71 info74 rfl (by decide) (by omega) u3 x3_1 (⟨x4_1, t179, decide (t181 > 0)⟩ : S74) [.int .i64 x4_1, .int .i64 t179, .bool (decide (t181 > 0))] (fun _ => True) (fun _ => False) rfl rfl ?aP (fun _ hk => hk.elim) ?aF ?aO ?aB ?aS ?aL ?_; (case aP => exact k74_mkM _ _ _ (⟨x4_1, t179, decide (t181 > 0)⟩ : S74)); (case aB => exact (by repeat (first | (with_reducible first | exact HB.out | apply bla | apply bln | apply bld) | exact HB.out))); (case aF => exact (fun _ _ => trivial)); (case aO => exact (by (with_reducible repeat (first | apply Kd.R_alloc | apply Kd.R_drewN | apply Kd.R_drew)); exact HO_3.out)); (case aS => exact (below_size (by repeat (first | (with_reducible first | exact HB.out | apply bla | apply bln | apply bld) | exact HB.out)))); (case aL => have := LMc9.out; omega); intro v183 w10 ho hb hg hat; rw [← Ny182.out] at ho; have n0_ := As0.mk (hb); have n1_ := As0.mk (ho); clear HB; clear HO_3; have HB := n0_; have HO184 := n1_; clear n0_ n1_; clear ho hb hg hat))
       go_roundg k1
       case measure => have := HK1.out; omega
       case rel => exact ⟨(y182), (wrap64 (x4_1 + t180)), (by first | rfl | (simp; done) | (simp [*]; done)), H', ⟨by have := HK1.out; omega⟩, ⟨by (with_reducible repeat (first | apply Kd.R_alloc | apply Kd.R_drewN | apply Kd.R_drew)); exact HO184.out⟩, ⟨by repeat (first | (with_reducible first | exact HB.out | apply bla | apply bln | apply bld) | exact HB.out)⟩⟩
      ·
       rw [if_neg c9] at H
       exact absurd H (by simp)
     ·
      rw [if_neg c4] at H
      exact absurd H (by simp)
    ·
     rw [if_neg c3] at H
     exact absurd H (by simp)
   ·
    rw [if_neg c2] at H
    have c2b0 : decide (x4_1 < (a0.size : Int)) = false := decide_eq_false c2
    clear c2
    obtain rfl := Option.some.inj H
    go_wp2
    go_ret
    exact ⟨_, by first | rfl | (simp [errW_none, errW_some] <;> rfl) | (simp [*, errW_none, errW_some] <;> rfl), by (with_reducible repeat (first | apply Kd.R_alloc | apply Kd.R_drewN | apply Kd.R_drew)); exact HO_3.out, by repeat (first | (with_reducible first | exact HB.out | apply bla | apply bln | apply bld) | exact HB.out)⟩
end Go.Proofs.YtmppkcdphgelcaaGreatDoor.PConf
namespace Go.Proofs.YtmppkcdphgelcaaGreatDoor.PConf
open Go.RowKit Go.Proofs.YtmppkcdphgelcaaGreatDoor.W.PrintWords Go.Proofs.YtmppkcdphgelcaaGreatDoor.W.PrintLast Go.Proofs.YtmppkcdphgelcaaGreatDoor.W.PrintMore
attribute [local go_sem] max2_int min2_int max_two min_two max_three min_three max_four min_four   -- for this text's walks alone
set_option linter.unusedVariables false
set_option linter.unusedSimpArgs false
def sr04_Letter.f (a0 : Int) : Option (Bool) := if a0 ≥ 97 then (if a0 ≤ 122 then (some true) else (if a0 ≥ 48 then (if a0 ≤ 57 then (some true) else (if a0 ≥ 161 then (if a0 ≤ 1114111 then (if a0 = 65533 then (some false) else (if a0 < 55296 then (some true) else (some (decide (a0 > 57343))))) else (some false)) else (some false))) else (if a0 ≥ 161 then (if a0 ≤ 1114111 then (if a0 = 65533 then (some false) else (if a0 < 55296 then (some true) else (some (decide (a0 > 57343))))) else (some false)) else (some false)))) else (if a0 ≥ 48 then (if a0 ≤ 57 then (some true) else (if a0 ≥ 161 then (if a0 ≤ 1114111 then (if a0 = 65533 then (some false) else (if a0 < 55296 then (some true) else (some (decide (a0 > 57343))))) else (some false)) else (some false))) else (if a0 ≥ 161 then (if a0 ≤ 1114111 then (if a0 = 65533 then (some false) else (if a0 < 55296 then (some true) else (some (decide (a0 > 57343))))) else (some false)) else (some false)))
set_option maxHeartbeats 8000000 in
set_option maxRecDepth 100000 in
theorem sr04_Letter.calls (a0 : Int) (r : Bool) (w : World) (h : sr04_Letter.f a0 = some r) :
  Calls Tryz.prog 54 #[.int .i64 a0] w fun e w' => e = .returned (.bool r) ∧ Drawn0 w w' := by
 have H : (if a0 ≥ 97 then (if a0 ≤ 122 then (some true) else (if a0 ≥ 48 then (if a0 ≤ 57 then (some true) else (if a0 ≥ 161 then (if a0 ≤ 1114111 then (if a0 = 65533 then (some false) else (if a0 < 55296 then (some true) else (some (decide (a0 > 57343))))) else (some false)) else (some false))) else (if a0 ≥ 161 then (if a0 ≤ 1114111 then (if a0 = 65533 then (some false) else (if a0 < 55296 then (some true) else (some (decide (a0 > 57343))))) else (some false)) else (some false)))) else (if a0 ≥ 48 then (if a0 ≤ 57 then (some true) else (if a0 ≥ 161 then (if a0 ≤ 1114111 then (if a0 = 65533 then (some false) else (if a0 < 55296 then (some true) else (some (decide (a0 > 57343))))) else (some false)) else (some false))) else (if a0 ≥ 161 then (if a0 ≤ 1114111 then (if a0 = 65533 then (some false) else (if a0 < 55296 then (some true) else (some (decide (a0 > 57343))))) else (some false)) else (some false)))) = some r := h
 clear h
 by_cases c2 : a0 ≥ 97
 ·
  rw [if_pos c2] at H
  have c2b0 : decide (97 ≤ a0) = true := decide_eq_true c2
  clear c2
  by_cases c3 : a0 ≤ 122
  ·
   rw [if_pos c3] at H
   have c3b0 : decide (a0 ≤ 122) = true := decide_eq_true c3
   clear c3
   obtain rfl := Option.some.inj H
   go_enter Tryz.func54, Tryz.ntmps54
   go_wp2
   go_ret
   exact ⟨by first | rfl | (simp; done) | (simp [*]; done), by repeat (first | exact Drawn0.refl _ | apply Drawn0.step)⟩
  ·
   rw [if_neg c3] at H
   have c3b0 : decide (a0 ≤ 122) = false := decide_eq_false c3
   clear c3
   by_cases c4 : a0 ≥ 48
   ·
    rw [if_pos c4] at H
    have c4b0 : decide (48 ≤ a0) = true := decide_eq_true c4
    clear c4
    by_cases c5 : a0 ≤ 57
    ·
     rw [if_pos c5] at H
     have c5b0 : decide (a0 ≤ 57) = true := decide_eq_true c5
     clear c5
     obtain rfl := Option.some.inj H
     go_enter Tryz.func54, Tryz.ntmps54
     go_wp2
     go_ret
     exact ⟨by first | rfl | (simp; done) | (simp [*]; done), by repeat (first | exact Drawn0.refl _ | apply Drawn0.step)⟩
    ·
     rw [if_neg c5] at H
     have c5b0 : decide (a0 ≤ 57) = false := decide_eq_false c5
     clear c5
     by_cases c6 : a0 ≥ 161
     ·
      rw [if_pos c6] at H
      have c6b0 : decide (161 ≤ a0) = true := decide_eq_true c6
      clear c6
      by_cases c7 : a0 ≤ 1114111
      ·
       rw [if_pos c7] at H
       have c7b0 : decide (a0 ≤ 1114111) = true := decide_eq_true c7
       clear c7
       by_cases c8 : a0 = 65533
       ·
        rw [if_pos c8] at H
        have c8b0 : (a0 == 65533) = true := beq_iff_eq.mpr c8
        have c8b1 : (a0 != 65533) = false := bne_eq_false_iff_eq.mpr c8
        clear c8
        obtain rfl := Option.some.inj H
        go_enter Tryz.func54, Tryz.ntmps54
        go_wp2
        go_ret
        exact ⟨by first | rfl | (simp; done) | (simp [*]; done), by repeat (first | exact Drawn0.refl _ | apply Drawn0.step)⟩
       ·
        rw [if_neg c8] at H
        have c8b0 : (a0 == 65533) = false := beq_eq_false_iff_ne.mpr c8
        have c8b1 : (a0 != 65533) = true := bne_iff_ne.mpr c8
        by_cases c9 : a0 < 55296
        ·
         rw [if_pos c9] at H
         have c9b0 : decide (a0 < 55296) = true := decide_eq_true c9
         clear c9
         obtain rfl := Option.some.inj H
         go_enter Tryz.func54, Tryz.ntmps54
         go_wp2
         go_ret
         exact ⟨by first | rfl | (simp; done) | (simp [*]; done), by repeat (first | exact Drawn0.refl _ | apply Drawn0.step)⟩
        ·
         rw [if_neg c9] at H
         have c9b0 : decide (a0 < 55296) = false := decide_eq_false c9
         clear c9
         obtain rfl := Option.some.inj H
         go_enter Tryz.func54, Tryz.ntmps54
         go_wp2
         go_ret
         exact ⟨by first | rfl | (simp; done) | (simp [*]; done), by repeat (first | exact Drawn0.refl _ | apply Drawn0.step)⟩
      ·
       rw [if_neg c7] at H
       have c7b0 : decide (a0 ≤ 1114111) = false := decide_eq_false c7
       clear c7
       obtain rfl := Option.some.inj H
       go_enter Tryz.func54, Tryz.ntmps54
       go_wp2
       go_ret
       exact ⟨by first | rfl | (simp; done) | (simp [*]; done), by repeat (first | exact Drawn0.refl _ | apply Drawn0.step)⟩
     ·
      rw [if_neg c6] at H
      have c6b0 : decide (161 ≤ a0) = false := decide_eq_false c6
      clear c6
      obtain rfl := Option.some.inj H
      go_enter Tryz.func54, Tryz.ntmps54
      go_wp2
      go_ret
      exact ⟨by first | rfl | (simp; done) | (simp [*]; done), by repeat (first | exact Drawn0.refl _ | apply Drawn0.step)⟩
   ·
    rw [if_neg c4] at H
    have c4b0 : decide (48 ≤ a0) = false := decide_eq_false c4
    clear c4
    by_cases c10 : a0 ≥ 161
    ·
     rw [if_pos c10] at H
     have c10b0 : decide (161 ≤ a0) = true := decide_eq_true c10
     clear c10
     by_cases c11 : a0 ≤ 1114111
     ·
      rw [if_pos c11] at H
      have c11b0 : decide (a0 ≤ 1114111) = true := decide_eq_true c11
      clear c11
      by_cases c12 : a0 = 65533
      ·
       rw [if_pos c12] at H
       have c12b0 : (a0 == 65533) = true := beq_iff_eq.mpr c12
       have c12b1 : (a0 != 65533) = false := bne_eq_false_iff_eq.mpr c12
       clear c12
       obtain rfl := Option.some.inj H
       go_enter Tryz.func54, Tryz.ntmps54
       go_wp2
       go_ret
       exact ⟨by first | rfl | (simp; done) | (simp [*]; done), by repeat (first | exact Drawn0.refl _ | apply Drawn0.step)⟩
      ·
       rw [if_neg c12] at H
       have c12b0 : (a0 == 65533) = false := beq_eq_false_iff_ne.mpr c12
       have c12b1 : (a0 != 65533) = true := bne_iff_ne.mpr c12
       by_cases c13 : a0 < 55296
       ·
        rw [if_pos c13] at H
        have c13b0 : decide (a0 < 55296) = true := decide_eq_true c13
        clear c13
        obtain rfl := Option.some.inj H
        go_enter Tryz.func54, Tryz.ntmps54
        go_wp2
        go_ret
        exact ⟨by first | rfl | (simp; done) | (simp [*]; done), by repeat (first | exact Drawn0.refl _ | apply Drawn0.step)⟩
       ·
        rw [if_neg c13] at H
        have c13b0 : decide (a0 < 55296) = false := decide_eq_false c13
        clear c13
        obtain rfl := Option.some.inj H
        go_enter Tryz.func54, Tryz.ntmps54
        go_wp2
        go_ret
        exact ⟨by first | rfl | (simp; done) | (simp [*]; done), by repeat (first | exact Drawn0.refl _ | apply Drawn0.step)⟩
     ·
      rw [if_neg c11] at H
      have c11b0 : decide (a0 ≤ 1114111) = false := decide_eq_false c11
      clear c11
      obtain rfl := Option.some.inj H
      go_enter Tryz.func54, Tryz.ntmps54
      go_wp2
      go_ret
      exact ⟨by first | rfl | (simp; done) | (simp [*]; done), by repeat (first | exact Drawn0.refl _ | apply Drawn0.step)⟩
    ·
     rw [if_neg c10] at H
     have c10b0 : decide (161 ≤ a0) = false := decide_eq_false c10
     clear c10
     obtain rfl := Option.some.inj H
     go_enter Tryz.func54, Tryz.ntmps54
     go_wp2
     go_ret
     exact ⟨by first | rfl | (simp; done) | (simp [*]; done), by repeat (first | exact Drawn0.refl _ | apply Drawn0.step)⟩
 ·
  rw [if_neg c2] at H
  have c2b0 : decide (97 ≤ a0) = false := decide_eq_false c2
  clear c2
  by_cases c14 : a0 ≥ 48
  ·
   rw [if_pos c14] at H
   have c14b0 : decide (48 ≤ a0) = true := decide_eq_true c14
   clear c14
   by_cases c15 : a0 ≤ 57
   ·
    rw [if_pos c15] at H
    have c15b0 : decide (a0 ≤ 57) = true := decide_eq_true c15
    clear c15
    obtain rfl := Option.some.inj H
    go_enter Tryz.func54, Tryz.ntmps54
    go_wp2
    go_ret
    exact ⟨by first | rfl | (simp; done) | (simp [*]; done), by repeat (first | exact Drawn0.refl _ | apply Drawn0.step)⟩
   ·
    rw [if_neg c15] at H
    have c15b0 : decide (a0 ≤ 57) = false := decide_eq_false c15
    clear c15
    by_cases c16 : a0 ≥ 161
    ·
     rw [if_pos c16] at H
     have c16b0 : decide (161 ≤ a0) = true := decide_eq_true c16
     clear c16
     by_cases c17 : a0 ≤ 1114111
     ·
      rw [if_pos c17] at H
      have c17b0 : decide (a0 ≤ 1114111) = true := decide_eq_true c17
      clear c17
      by_cases c18 : a0 = 65533
      ·
       rw [if_pos c18] at H
       have c18b0 : (a0 == 65533) = true := beq_iff_eq.mpr c18
       have c18b1 : (a0 != 65533) = false := bne_eq_false_iff_eq.mpr c18
       clear c18
       obtain rfl := Option.some.inj H
       go_enter Tryz.func54, Tryz.ntmps54
       go_wp2
       go_ret
       exact ⟨by first | rfl | (simp; done) | (simp [*]; done), by repeat (first | exact Drawn0.refl _ | apply Drawn0.step)⟩
      ·
       rw [if_neg c18] at H
       have c18b0 : (a0 == 65533) = false := beq_eq_false_iff_ne.mpr c18
       have c18b1 : (a0 != 65533) = true := bne_iff_ne.mpr c18
       by_cases c19 : a0 < 55296
       ·
        rw [if_pos c19] at H
        have c19b0 : decide (a0 < 55296) = true := decide_eq_true c19
        clear c19
        obtain rfl := Option.some.inj H
        go_enter Tryz.func54, Tryz.ntmps54
        go_wp2
        go_ret
        exact ⟨by first | rfl | (simp; done) | (simp [*]; done), by repeat (first | exact Drawn0.refl _ | apply Drawn0.step)⟩
       ·
        rw [if_neg c19] at H
        have c19b0 : decide (a0 < 55296) = false := decide_eq_false c19
        clear c19
        obtain rfl := Option.some.inj H
        go_enter Tryz.func54, Tryz.ntmps54
        go_wp2
        go_ret
        exact ⟨by first | rfl | (simp; done) | (simp [*]; done), by repeat (first | exact Drawn0.refl _ | apply Drawn0.step)⟩
     ·
      rw [if_neg c17] at H
      have c17b0 : decide (a0 ≤ 1114111) = false := decide_eq_false c17
      clear c17
      obtain rfl := Option.some.inj H
      go_enter Tryz.func54, Tryz.ntmps54
      go_wp2
      go_ret
      exact ⟨by first | rfl | (simp; done) | (simp [*]; done), by repeat (first | exact Drawn0.refl _ | apply Drawn0.step)⟩
    ·
     rw [if_neg c16] at H
     have c16b0 : decide (161 ≤ a0) = false := decide_eq_false c16
     clear c16
     obtain rfl := Option.some.inj H
     go_enter Tryz.func54, Tryz.ntmps54
     go_wp2
     go_ret
     exact ⟨by first | rfl | (simp; done) | (simp [*]; done), by repeat (first | exact Drawn0.refl _ | apply Drawn0.step)⟩
  ·
   rw [if_neg c14] at H
   have c14b0 : decide (48 ≤ a0) = false := decide_eq_false c14
   clear c14
   by_cases c20 : a0 ≥ 161
   ·
    rw [if_pos c20] at H
    have c20b0 : decide (161 ≤ a0) = true := decide_eq_true c20
    clear c20
    by_cases c21 : a0 ≤ 1114111
    ·
     rw [if_pos c21] at H
     have c21b0 : decide (a0 ≤ 1114111) = true := decide_eq_true c21
     clear c21
     by_cases c22 : a0 = 65533
     ·
      rw [if_pos c22] at H
      have c22b0 : (a0 == 65533) = true := beq_iff_eq.mpr c22
      have c22b1 : (a0 != 65533) = false := bne_eq_false_iff_eq.mpr c22
      clear c22
      obtain rfl := Option.some.inj H
      go_enter Tryz.func54, Tryz.ntmps54
      go_wp2
      go_ret
      exact ⟨by first | rfl | (simp; done) | (simp [*]; done), by repeat (first | exact Drawn0.refl _ | apply Drawn0.step)⟩
     ·
      rw [if_neg c22] at H
      have c22b0 : (a0 == 65533) = false := beq_eq_false_iff_ne.mpr c22
      have c22b1 : (a0 != 65533) = true := bne_iff_ne.mpr c22
      by_cases c23 : a0 < 55296
      ·
       rw [if_pos c23] at H
       have c23b0 : decide (a0 < 55296) = true := decide_eq_true c23
       clear c23
       obtain rfl := Option.some.inj H
       go_enter Tryz.func54, Tryz.ntmps54
       go_wp2
       go_ret
       exact ⟨by first | rfl | (simp; done) | (simp [*]; done), by repeat (first | exact Drawn0.refl _ | apply Drawn0.step)⟩
      ·
       rw [if_neg c23] at H
       have c23b0 : decide (a0 < 55296) = false := decide_eq_false c23
       clear c23
       obtain rfl := Option.some.inj H
       go_enter Tryz.func54, Tryz.ntmps54
       go_wp2
       go_ret
       exact ⟨by first | rfl | (simp; done) | (simp [*]; done), by repeat (first | exact Drawn0.refl _ | apply Drawn0.step)⟩
    ·
     rw [if_neg c21] at H
     have c21b0 : decide (a0 ≤ 1114111) = false := decide_eq_false c21
     clear c21
     obtain rfl := Option.some.inj H
     go_enter Tryz.func54, Tryz.ntmps54
     go_wp2
     go_ret
     exact ⟨by first | rfl | (simp; done) | (simp [*]; done), by repeat (first | exact Drawn0.refl _ | apply Drawn0.step)⟩
   ·
    rw [if_neg c20] at H
    have c20b0 : decide (161 ≤ a0) = false := decide_eq_false c20
    clear c20
    obtain rfl := Option.some.inj H
    go_enter Tryz.func54, Tryz.ntmps54
    go_wp2
    go_ret
    exact ⟨by first | rfl | (simp; done) | (simp [*]; done), by repeat (first | exact Drawn0.refl _ | apply Drawn0.step)⟩
end Go.Proofs.YtmppkcdphgelcaaGreatDoor.PConf
namespace Go.Proofs.YtmppkcdphgelcaaGreatDoor.PConf
open Go.RowKit Go.Proofs.YtmppkcdphgelcaaGreatDoor.W.PrintWords Go.Proofs.YtmppkcdphgelcaaGreatDoor.W.PrintLast Go.Proofs.YtmppkcdphgelcaaGreatDoor.W.PrintMore
attribute [local go_sem] max2_int min2_int max_two min_two max_three min_three max_four min_four   -- for this text's walks alone
set_option linter.unusedVariables false
set_option linter.unusedSimpArgs false
def sr04_Name.l0 : Nat → List (S74) → Int → Option (Bool)
 | 0, _, _ => none
 | k + 1, x3, x4 => if x4 < (x3.length : Int) then (if 0 ≤ x4 then (if ((rd_T74 x3 x4).f2 = true) then ((sr04_Letter.f ((rd_T74 x3 x4).f1)).bind fun t190 => (if t190 = true then (sr04_Name.l0 k x3 (wrap64 (x4 + 1))) else (some false))) else (some false)) else (none)) else (if (x3.length : Int) > 0 then (if (x3.length : Int) ≤ 16 then (if 0 < (x3.length : Int) then (some (decide (((rd_T74 x3 0).f1) > 57))) else (none)) else (some false)) else (some false))
def sr04_Name.f (k : Nat) (a0 : ByteArray) : Option (Bool) := (sr04_Runes.f k a0).bind fun t185 => (sr04_Name.l0 k t185 0)
set_option maxHeartbeats 8000000 in
set_option maxRecDepth 100000 in
theorem sr04_Name.calls (k : Nat) (a0 : ByteArray) (r : Bool) (w : World) (h : sr04_Name.f k a0 = some r) :
  Calls Tryz.prog 35 #[.string a0] w fun e w' => e = .returned (.bool r) ∧ Below w.heap.size w w' := by
 have HB := As0.mk (Below.refl w.heap.size w)
 have H : ((sr04_Runes.f k a0).bind fun t185 => (sr04_Name.l0 k t185 0)) = some r := h
 clear h
 replace H := Option.bind_eq_some_iff.mp H
 obtain ⟨t185, A20, H⟩ := H
 replace H : (sr04_Name.l0 k t185 0) = some r := H
 have A2 := As0.mk A20
 clear A20
 have H' := As0.mk H
 clear H
 go_enter Tryz.func35, Tryz.ntmps35
 go_wp2_with (first | ((with_reducible refine gate_callee (f := 53) rfl ?_); refine goesL_ (some 6) rfl rfl Tryz.func53 (by kernel_rfl) rfl #[.string a0] rfl (by (try simp only [List.map_toArray, List.map_cons, List.map_nil]); first | done | rfl | (simp only [List.length_drop, List.length_take]; rfl)) ?_; (with_reducible refine (sr04_Runes.calls k a0 t185 _ A2.out).mono ?_); rintro e w3 ⟨v186, rfl, ho0, hb⟩; refine ⟨_, rfl, ?_⟩; have n0_ := As0.mk (Kd.R_lower ho0 (below_size (by repeat (first | (with_reducible first | exact HB.out | apply bla | apply bln | apply bld) | exact HB.out)))); have n1_ := As0.mk (below_step (by repeat (first | (with_reducible first | exact HB.out | apply bla | apply bln | apply bld) | exact HB.out)) hb); clear HB; have HO187 := n0_; have HB := n1_; clear n0_ n1_; (try clear hb); (try clear hb2); (try clear hk); (try clear hi); (try clear ho0)))
 go_loopg [4] k (fun kq v4 w' => ∃ (x4_1 : Int), v4 = .int .i64 x4_1 ∧ As0 (sr04_Name.l0 kq t185 x4_1 = some r) ∧ As0 (kq ≤ k) ∧ As0 (Kd.R k74 74 w' w.heap.size (fun _ => True) v186 t185) ∧ As0 (Below w.heap.size w w'))
 case atStart => exact ⟨(0), (by first | rfl | (simp; done) | (simp [*]; done)), H', ⟨Nat.le_refl _⟩, ⟨by (with_reducible repeat (first | apply Kd.R_alloc | apply Kd.R_drewN | apply Kd.R_drew)); exact HO187.out⟩, ⟨by repeat (first | (with_reducible first | exact HB.out | apply bla | apply bln | apply bld) | exact HB.out)⟩⟩
 case round =>
  clear H'
  try clear p2
  try clear c3
  obtain ⟨x4_1, rfl, HA, HK1, HO_3, HB⟩ := hrel
  cases gk with
  | zero => exact absurd HA.out (by simp [sr04_Name.l0])
  | succ k1 =>
   have H := HA.out
   clear HA
   simp only [sr04_Name.l0] at H
   by_cases c4 : x4_1 < (t185.length : Int)
   ·
    rw [if_pos c4] at H
    have c4b0 : decide (x4_1 < (t185.length : Int)) = true := decide_eq_true c4
    clear c4
    by_cases c5 : 0 ≤ x4_1
    ·
     rw [if_pos c5] at H
     have c5b0 : decide (0 ≤ x4_1) = true := decide_eq_true c5
     clear c5
     obtain ⟨bq6, hbq6⟩ : ∃ b_ : Bool, b_ = ((rd_T74 t185 x4_1).f2) := ⟨_, rfl⟩
     replace H : (if (bq6 = true) then ((sr04_Letter.f ((rd_T74 t185 x4_1).f1)).bind fun t190 => (if t190 = true then (sr04_Name.l0 k1 t185 (wrap64 (x4_1 + 1))) else (some false))) else (some false)) = some r := by rw [← hbq6] at H; exact H
     have Nbq6 := As0.mk hbq6
     clear hbq6
     by_cases c7 : (bq6 = true)
     ·
      subst c7
      have H1 : ((sr04_Letter.f ((rd_T74 t185 x4_1).f1)).bind fun t190 => (if t190 = true then (sr04_Name.l0 k1 t185 (wrap64 (x4_1 + 1))) else (some false))) = some r := by rw [if_pos rfl] at H; exact H
      clear H
      have H := H1
      clear H1
      replace H := Option.bind_eq_some_iff.mp H
      obtain ⟨t190, A80, H⟩ := H
      replace H : (if t190 = true then (sr04_Name.l0 k1 t185 (wrap64 (x4_1 + 1))) else (some false)) = some r := H
      have A8 := As0.mk A80
      clear A80
      by_cases c9 : t190 = true
      ·
       subst c9
       have H1 : (sr04_Name.l0 k1 t185 (wrap64 (x4_1 + 1))) = some r := by rw [if_pos rfl] at H; exact H
       clear H
       have H := H1
       clear H1
       have H' := As0.mk H
       clear H
       obtain ⟨Ao10, co10, eo10⟩ := Kd.R_slice HO_3.out
       subst eo10
       have p188 : 0 ≤ (x4_1 : Int) := of_decide_eq_true (by first | (with_reducible assumption) | assumption)
       have q188 : x4_1 < (t185.length : Int) := of_decide_eq_true (by first | (with_reducible assumption) | assumption)
       obtain ⟨ad188, e188, hx188_0, hx188_1, hx188_2⟩ := at_T74 (Kd.R_reads' HO_3.out).2.2 x4_1 p188 q188
       (try rw [← Nbq6.out] at hx188_2)
       cases e188
       replace p188 := eq_true p188
       replace q188 := eq_true q188
       have p189 : 0 ≤ (x4_1 : Int) := of_decide_eq_true (by first | (with_reducible assumption) | assumption)
       have q189 : x4_1 < (t185.length : Int) := of_decide_eq_true (by first | (with_reducible assumption) | assumption)
       obtain ⟨ad189, e189, hx189_0, hx189_1, hx189_2⟩ := at_T74 (Kd.R_reads' HO_3.out).2.2 x4_1 p189 q189
       (try rw [← Nbq6.out] at hx189_2)
       obtain rfl : ad188 = ad189 := (by injection e189)
       replace p189 := eq_true p189
       replace q189 := eq_true q189
       go_wp2_with (first | (go_at_call 54; (with_reducible refine (sr04_Letter.calls ((rd_T74 t185 x4_1).f1) true _ A8.out).mono ?_); rintro e w' ⟨rfl, ⟨nd, rfl⟩⟩))
       go_roundg k1
       case measure => have := HK1.out; omega
       case rel => exact ⟨(wrap64 (x4_1 + 1)), (by first | rfl | (simp; done) | (simp [*]; done)), H', ⟨by have := HK1.out; omega⟩, ⟨by (with_reducible repeat (first | apply Kd.R_alloc | apply Kd.R_drewN | apply Kd.R_drew)); exact HO_3.out⟩, ⟨by repeat (first | (with_reducible first | exact HB.out | apply bla | apply bln | apply bld) | exact HB.out)⟩⟩
      ·
       replace c9 := Bool.eq_false_iff.mpr c9
       subst c9
       have H1 : (some false) = some r := by rw [if_neg (show ¬ (false = true) by decide)] at H; exact H
       clear H
       have H := H1
       clear H1
       obtain rfl := Option.some.inj H
       obtain ⟨Ao11, co11, eo11⟩ := Kd.R_slice HO_3.out
       subst eo11
       have p188 : 0 ≤ (x4_1 : Int) := of_decide_eq_true (by first | (with_reducible assumption) | assumption)
       have q188 : x4_1 < (t185.length : Int) := of_decide_eq_true (by first | (with_reducible assumption) | assumption)
       obtain ⟨ad188, e188, hx188_0, hx188_1, hx188_2⟩ := at_T74 (Kd.R_reads' HO_3.out).2.2 x4_1 p188 q188
       (try rw [← Nbq6.out] at hx188_2)
       cases e188
       replace p188 := eq_true p188
       replace q188 := eq_true q188
       have p189 : 0 ≤ (x4_1 : Int) := of_decide_eq_true (by first | (with_reducible assumption) | assumption)
       have q189 : x4_1 < (t185.length : Int) := of_decide_eq_true (by first | (with_reducible assumption) | assumption)
       obtain ⟨ad189, e189, hx189_0, hx189_1, hx189_2⟩ := at_T74 (Kd.R_reads' HO_3.out).2.2 x4_1 p189 q189
       (try rw [← Nbq6.out] at hx189_2)
       obtain rfl : ad188 = ad189 := (by injection e189)
       replace p189 := eq_true p189
       replace q189 := eq_true q189
       go_wp2_with (first | (go_at_call 54; (with_reducible refine (sr04_Letter.calls ((rd_T74 t185 x4_1).f1) false _ A8.out).mono ?_); rintro e w' ⟨rfl, ⟨nd, rfl⟩⟩))
       go_ret
       exact ⟨by first | rfl | (simp [errW_none, errW_some] <;> rfl) | (simp [*, errW_none, errW_some] <;> rfl), by repeat (first | (with_reducible first | exact HB.out | apply bla | apply bln | apply bld) | exact HB.out)⟩
     ·
      replace c7 := Bool.eq_false_iff.mpr c7
      subst c7
      have H1 : (some false) = some r := by rw [if_neg (show ¬ (false = true) by decide)] at H; exact H
      clear H
      have H := H1
      clear H1
      obtain rfl := Option.some.inj H
      obtain ⟨Ao12, co12, eo12⟩ := Kd.R_slice HO_3.out
      subst eo12
      have p188 : 0 ≤ (x4_1 : Int) := of_decide_eq_true (by first | (with_reducible assumption) | assumption)
      have q188 : x4_1 < (t185.length : Int) := of_decide_eq_true (by first | (with_reducible assumption) | assumption)
      obtain ⟨ad188, e188, hx188_0, hx188_1, hx188_2⟩ := at_T74 (Kd.R_reads' HO_3.out).2.2 x4_1 p188 q188
      (try rw [← Nbq6.out] at hx188_2)
      cases e188
      replace p188 := eq_true p188
      replace q188 := eq_true q188
      go_wp2
      go_ret
      exact ⟨by first | rfl | (simp [errW_none, errW_some] <;> rfl) | (simp [*, errW_none, errW_some] <;> rfl), by repeat (first | (with_reducible first | exact HB.out | apply bla | apply bln | apply bld) | exact HB.out)⟩
    ·
     rw [if_neg c5] at H
     exact absurd H (by simp)
   ·
    rw [if_neg c4] at H
    have c4b0 : decide (x4_1 < (t185.length : Int)) = false := decide_eq_false c4
    clear c4
    by_cases c13 : (t185.length : Int) > 0
    ·
     rw [if_pos c13] at H
     have c13b0 : decide (0 < (t185.length : Int)) = true := decide_eq_true c13
     have c13b1 : decide (0 < t185.length) = true := decide_eq_true (by omega)
     clear c13
     by_cases c14 : (t185.length : Int) ≤ 16
     ·
      rw [if_pos c14] at H
      have c14b0 : decide ((t185.length : Int) ≤ 16) = true := decide_eq_true c14
      have c14b1 : decide (t185.length ≤ 16) = true := decide_eq_true (by omega)
      clear c14
      by_cases c15 : 0 < (t185.length : Int)
      ·
       rw [if_pos c15] at H
       have c15b0 : decide (0 < (t185.length : Int)) = true := decide_eq_true c15
       have c15b1 : decide (0 < t185.length) = true := decide_eq_true (by omega)
       clear c15
       obtain rfl := Option.some.inj H
       obtain ⟨Ao16, co16, eo16⟩ := Kd.R_slice HO_3.out
       subst eo16
       have p191 : 0 ≤ (0 : Int) := (by omega)
       have q191 : 0 < (t185.length : Int) := of_decide_eq_true (by first | (with_reducible assumption) | assumption)
       obtain ⟨ad191, e191, hx191_0, hx191_1, hx191_2⟩ := at_T74 (Kd.R_reads' HO_3.out).2.2 0 p191 q191
       cases e191
       have qi191 : (0 < t185.length) = True := eq_true (by omega)
       (try rw [show ((0 : Int)).toNat = 0 from rfl] at hx191_0)
       (try rw [show 0 * 3 = 0 from rfl] at hx191_0)
       (try rw [Addr.add_zero'] at hx191_0)
       (try rw [show ((0 : Int)).toNat = 0 from rfl] at hx191_1)
       (try rw [show 0 * 3 = 0 from rfl] at hx191_1)
       (try rw [Addr.add_zero'] at hx191_1)
       (try rw [show ((0 : Int)).toNat = 0 from rfl] at hx191_2)
       (try rw [show 0 * 3 = 0 from rfl] at hx191_2)
       (try rw [Addr.add_zero'] at hx191_2)
       replace p191 := eq_true p191
       replace q191 := eq_true q191
       go_wp2
       go_ret
       exact ⟨by first | rfl | (simp [errW_none, errW_some] <;> rfl) | (simp [*, errW_none, errW_some] <;> rfl), by repeat (first | (with_reducible first | exact HB.out | apply bla | apply bln | apply bld) | exact HB.out)⟩
      ·
       rw [if_neg c15] at H
       exact absurd H (by simp)
     ·
      rw [if_neg c14] at H
      have c14b0 : decide ((t185.length : Int) ≤ 16) = false := decide_eq_false c14
      have c14b1 : decide (t185.length ≤ 16) = false := decide_eq_false (by omega)
      clear c14
      obtain rfl := Option.some.inj H
      obtain ⟨Ao17, co17, eo17⟩ := Kd.R_slice HO_3.out
      subst eo17
      go_wp2
      go_ret
      exact ⟨by first | rfl | (simp [errW_none, errW_some] <;> rfl) | (simp [*, errW_none, errW_some] <;> rfl), by repeat (first | (with_reducible first | exact HB.out | apply bla | apply bln | apply bld) | exact HB.out)⟩
    ·
     rw [if_neg c13] at H
     have c13b0 : decide (0 < (t185.length : Int)) = false := decide_eq_false c13
     have c13b1 : decide (0 < t185.length) = false := decide_eq_false (by omega)
     clear c13
     obtain rfl := Option.some.inj H
     obtain ⟨Ao18, co18, eo18⟩ := Kd.R_slice HO_3.out
     subst eo18
     go_wp2
     go_ret
     exact ⟨by first | rfl | (simp [errW_none, errW_some] <;> rfl) | (simp [*, errW_none, errW_some] <;> rfl), by repeat (first | (with_reducible first | exact HB.out | apply bla | apply bln | apply bld) | exact HB.out)⟩
end Go.Proofs.YtmppkcdphgelcaaGreatDoor.PConf
namespace Go.Proofs.YtmppkcdphgelcaaGreatDoor.PConf
open Go.RowKit Go.Proofs.YtmppkcdphgelcaaGreatDoor.W.PrintWords Go.Proofs.YtmppkcdphgelcaaGreatDoor.W.PrintLast Go.Proofs.YtmppkcdphgelcaaGreatDoor.W.PrintMore
attribute [local go_sem] max2_int min2_int max_two min_two max_three min_three max_four min_four   -- for this text's walks alone
attribute [local go_sem] bytesLess_leq
set_option linter.unusedVariables false
set_option linter.unusedSimpArgs false
mutual
def sr05_Check.l0 : Nat → List ByteArray → Int → Option (Int)
 | 0, _, _ => none
 | k + 1, x0, x3 => if x3 < (x0.length : Int) then (if 0 ≤ x3 then ((sr04_Name.f k (rdOf ByteArray.empty x0 x3)).bind fun t193 => (if t193 = true then (sr05_Check.l0 k x0 (wrap64 (x3 + 1))) else (some 5))) else (none)) else (sr05_Check.l1 k x0 1)
def sr05_Check.l1 : Nat → List ByteArray → Int → Option (Int)
 | 0, _, _ => none
 | k + 1, x0, x4 => if x4 < (x0.length : Int) then (if 0 ≤ x4 then (if 0 ≤ (wrap64 (x4 - 1)) then (if (wrap64 (x4 - 1)) < (x0.length : Int) then (if ((Op.bytesLess ((rdOf ByteArray.empty x0 (wrap64 (x4 - 1))).toList) ((rdOf ByteArray.empty x0 x4).toList)) = true) then (sr05_Check.l1 k x0 (wrap64 (x4 + 1))) else (some 1)) else (none)) else (none)) else (none)) else (some 0)
end
def sr05_Check.f (k : Nat) (l0 : List ByteArray) : Option (Int) := if (l0.length : Int) > 16 then (some 1) else (sr05_Check.l0 k l0 0)
set_option maxHeartbeats 8000000 in
set_option maxRecDepth 100000 in
theorem sr05_Check.calls (k : Nat) (A0 : Option Addr) (c0 : Nat) (l0 : List ByteArray) (r : Int) (w : World) (hr0 : Kd.C Kd.string w A0 l0.length l0) (hc0 : l0.length ≤ c0) (h : sr05_Check.f k l0 = some r) :
  Calls Tryz.prog 19 #[.slice A0 l0.length c0] w fun e w' => e = .returned (.int .i64 r) ∧ Below w.heap.size w w' := by
 have HR0 := As0.mk hr0
 have HC0 := As0.mk hc0
 clear hr0 hc0
 have HB := As0.mk (Below.refl w.heap.size w)
 have H : (if (l0.length : Int) > 16 then (some 1) else (sr05_Check.l0 k l0 0)) = some r := h
 clear h
 by_cases c2 : (l0.length : Int) > 16
 ·
  rw [if_pos c2] at H
  have c2b0 : decide (16 < (l0.length : Int)) = true := decide_eq_true c2
  have c2b1 : decide (16 < l0.length) = true := decide_eq_true (by omega)
  clear c2
  obtain rfl := Option.some.inj H
  go_enter Tryz.func19, Tryz.ntmps19
  go_wp2
  repeat (go_quiet (fail); try go_wp2)
  go_ret
  exact ⟨by first | rfl | (simp [errW_none, errW_some] <;> rfl) | (simp [*, errW_none, errW_some] <;> rfl), by repeat (first | (with_reducible first | exact HB.out | apply bla | apply bln | apply bld) | exact HB.out)⟩
 ·
  rw [if_neg c2] at H
  have c2b0 : decide (16 < (l0.length : Int)) = false := decide_eq_false c2
  have c2b1 : decide (16 < l0.length) = false := decide_eq_false (by omega)
  clear c2
  have H' := As0.mk H
  clear H
  go_enter Tryz.func19, Tryz.ntmps19
  go_wp2
  repeat (go_quiet (fail); try go_wp2)
  go_loopg [3] k (fun kq v3 w' => ∃ (x3_1 : Int), v3 = .int .i64 x3_1 ∧ As0 (sr05_Check.l0 kq l0 x3_1 = some r) ∧ As0 (kq ≤ k) ∧ As0 (Below w.heap.size w w'))
  case atStart => exact ⟨(0), (by first | rfl | (simp; done) | (simp [*]; done)), H', ⟨Nat.le_refl _⟩, ⟨by repeat (first | (with_reducible first | exact HB.out | apply bla | apply bln | apply bld) | exact HB.out)⟩⟩
  case round =>
   clear H'
   try clear c1
   try clear c2
   try clear c2b0
   try clear c2b1
   try clear p2
   obtain ⟨x3_1, rfl, HA, HK1, HB⟩ := hrel
   cases gk with
   | zero => exact absurd HA.out (by simp [sr05_Check.l0])
   | succ k1 =>
    have H := HA.out
    clear HA
    simp only [sr05_Check.l0] at H
    by_cases c3 : x3_1 < (l0.length : Int)
    ·
     rw [if_pos c3] at H
     have c3b0 : decide (x3_1 < (l0.length : Int)) = true := decide_eq_true c3
     clear c3
     by_cases c4 : 0 ≤ x3_1
     ·
      rw [if_pos c4] at H
      have c4b0 : decide (0 ≤ x3_1) = true := decide_eq_true c4
      clear c4
      replace H := Option.bind_eq_some_iff.mp H
      obtain ⟨t193, A50, H⟩ := H
      replace H : (if t193 = true then (sr05_Check.l0 k1 l0 (wrap64 (x3_1 + 1))) else (some 5)) = some r := H
      have A5 := As0.mk A50
      clear A50
      by_cases c6 : t193 = true
      ·
       subst c6
       have H1 : (sr05_Check.l0 k1 l0 (wrap64 (x3_1 + 1))) = some r := by rw [if_pos rfl] at H; exact H
       clear H
       have H := H1
       clear H1
       have H' := As0.mk H
       clear H
       have p192 : 0 ≤ (x3_1 : Int) := of_decide_eq_true (by first | (with_reducible assumption) | assumption)
       have q192 : x3_1 < (l0.length : Int) := of_decide_eq_true (by first | (with_reducible assumption) | assumption)
       obtain ⟨ad192, e192, hx192_0⟩ := Kd.at_string HR0.out x3_1 p192 q192
       cases e192
       replace hx192_0 := (HB.out.cell (World.block_lt_of_cell? w _ hx192_0)).trans hx192_0
       replace p192 := eq_true p192
       replace q192 := eq_true q192
       go_wp2_with (first | (go_at_call 35; (with_reducible refine (sr04_Name.calls k1 (rdOf ByteArray.empty l0 x3_1) true _ A5.out).mono ?_); rintro e w7 ⟨rfl, hb⟩; have n0_ := As0.mk (below_step (by repeat (first | (with_reducible first | exact HB.out | apply bla | apply bln | apply bld) | exact HB.out)) hb); clear HB; have HB := n0_; clear n0_; (try clear hb); (try clear hb2); (try clear hk); (try clear hi)))
       repeat (go_quiet (first | (go_at_call 35; (with_reducible refine (sr04_Name.calls k1 (rdOf ByteArray.empty l0 x3_1) true _ A5.out).mono ?_); rintro e w7 ⟨rfl, hb⟩; have n0_ := As0.mk (below_step (by repeat (first | (with_reducible first | exact HB.out | apply bla | apply bln | apply bld) | exact HB.out)) hb); clear HB; have HB := n0_; clear n0_; (try clear hb); (try clear hb2); (try clear hk); (try clear hi))); try go_wp2_with (first | (go_at_call 35; (with_reducible refine (sr04_Name.calls k1 (rdOf ByteArray.empty l0 x3_1) true _ A5.out).mono ?_); rintro e w7 ⟨rfl, hb⟩; have n0_ := As0.mk (below_step (by repeat (first | (with_reducible first | exact HB.out | apply bla | apply bln | apply bld) | exact HB.out)) hb); clear HB; have HB := n0_; clear n0_; (try clear hb); (try clear hb2); (try clear hk); (try clear hi))))
       go_roundg k1
       case measure => have := HK1.out; omega
       case rel => exact ⟨(wrap64 (x3_1 + 1)), (by first | rfl | (simp; done) | (simp [*]; done)), H', ⟨by have := HK1.out; omega⟩, ⟨by repeat (first | (with_reducible first | exact HB.out | apply bla | apply bln | apply bld) | exact HB.out)⟩⟩
      ·
       replace c6 := Bool.eq_false_iff.mpr c6
       subst c6
       have H1 : (some 5) = some r := by rw [if_neg (show ¬ (false = true) by decide)] at H; exact H
       clear H
       have H := H1
       clear H1
       obtain rfl := Option.some.inj H
       have p192 : 0 ≤ (x3_1 : Int) := of_decide_eq_true (by first | (with_reducible assumption) | assumption)
       have q192 : x3_1 < (l0.length : Int) := of_decide_eq_true (by first | (with_reducible assumption) | assumption)
       obtain ⟨ad192, e192, hx192_0⟩ := Kd.at_string HR0.out x3_1 p192 q192
       cases e192
       replace hx192_0 := (HB.out.cell (World.block_lt_of_cell? w _ hx192_0)).trans hx192_0
       replace p192 := eq_true p192
       replace q192 := eq_true q192
       go_wp2_with (first | (go_at_call 35; (with_reducible refine (sr04_Name.calls k1 (rdOf ByteArray.empty l0 x3_1) false _ A5.out).mono ?_); rintro e w8 ⟨rfl, hb⟩; have n0_ := As0.mk (below_step (by repeat (first | (with_reducible first | exact HB.out | apply bla | apply bln | apply bld) | exact HB.out)) hb); clear HB; have HB := n0_; clear n0_; (try clear hb); (try clear hb2); (try clear hk); (try clear hi)))
       repeat (go_quiet (first | (go_at_call 35; (with_reducible refine (sr04_Name.calls k1 (rdOf ByteArray.empty l0 x3_1) false _ A5.out).mono ?_); rintro e w8 ⟨rfl, hb⟩; have n0_ := As0.mk (below_step (by repeat (first | (with_reducible first | exact HB.out | apply bla | apply bln | apply bld) | exact HB.out)) hb); clear HB; have HB := n0_; clear n0_; (try clear hb); (try clear hb2); (try clear hk); (try clear hi))); try go_wp2_with (first | (go_at_call 35; (with_reducible refine (sr04_Name.calls k1 (rdOf ByteArray.empty l0 x3_1) false _ A5.out).mono ?_); rintro e w8 ⟨rfl, hb⟩; have n0_ := As0.mk (below_step (by repeat (first | (with_reducible first | exact HB.out | apply bla | apply bln | apply bld) | exact HB.out)) hb); clear HB; have HB := n0_; clear n0_; (try clear hb); (try clear hb2); (try clear hk); (try clear hi))))
       go_ret
       exact ⟨by first | rfl | (simp [errW_none, errW_some] <;> rfl) | (simp [*, errW_none, errW_some] <;> rfl), by repeat (first | (with_reducible first | exact HB.out | apply bla | apply bln | apply bld) | exact HB.out)⟩
     ·
      rw [if_neg c4] at H
      exact absurd H (by simp)
    ·
     rw [if_neg c3] at H
     have c3b0 : decide (x3_1 < (l0.length : Int)) = false := decide_eq_false c3
     clear c3
     have H' := As0.mk H
     clear H
     go_wp2
     repeat (go_quiet (fail); try go_wp2)
     go_loopg [4] k1 (fun kq v4 w' => ∃ (x4_2 : Int), v4 = .int .i64 x4_2 ∧ As0 (sr05_Check.l1 kq l0 x4_2 = some r) ∧ As0 (kq ≤ k1) ∧ As0 (Below w.heap.size w w'))
     case atStart => exact ⟨(1), (by first | rfl | (simp; done) | (simp [*]; done)), H', ⟨Nat.le_refl _⟩, ⟨by repeat (first | (with_reducible first | exact HB.out | apply bla | apply bln | apply bld) | exact HB.out)⟩⟩
     case round =>
      clear H'
      try clear c1
      try clear p1
      try clear q1
      try clear hx1
      try clear c2
      try clear c2b0
      try clear c2b1
      try clear p2
      try clear c3
      try clear c3b0
      try clear c4
      try clear c4b0
      try clear c6
      try clear p6
      try clear hx192_0
      try clear p192
      try clear p2
      try clear q192
      obtain ⟨x4_2, rfl, HA, HK2, HB⟩ := hrel
      cases gk with
      | zero => exact absurd HA.out (by simp [sr05_Check.l1])
      | succ k2 =>
       have H := HA.out
       clear HA
       simp only [sr05_Check.l1] at H
       by_cases c9 : x4_2 < (l0.length : Int)
       ·
        rw [if_pos c9] at H
        have c9b0 : decide (x4_2 < (l0.length : Int)) = true := decide_eq_true c9
        clear c9
        by_cases c10 : 0 ≤ x4_2
        ·
         rw [if_pos c10] at H
         have c10b0 : decide (0 ≤ x4_2) = true := decide_eq_true c10
         clear c10
         obtain ⟨ji11, hji11⟩ : ∃ j_ : Int, (wrap64 (x4_2 - 1)) = j_ := ⟨_, rfl⟩
         replace H : (if 0 ≤ (ji11) then (if (ji11) < (l0.length : Int) then (if ((Op.bytesLess ((rdOf ByteArray.empty l0 (ji11)).toList) ((rdOf ByteArray.empty l0 x4_2).toList)) = true) then (sr05_Check.l1 k2 l0 (wrap64 (x4_2 + 1))) else (some 1)) else (none)) else (none)) = some r := by first | (rw [hji11] at H; exact H) | (simp only [hji11] at H ⊢; exact H)
         have hji11w : (IntKind.i64.wrap (x4_2 - 1)) = ji11 := (i64_w _).trans hji11
         by_cases c12 : 0 ≤ (ji11)
         ·
          rw [if_pos c12] at H
          have c12b0 : decide (0 ≤ (ji11)) = true := decide_eq_true c12
          clear c12
          by_cases c13 : (ji11) < (l0.length : Int)
          ·
           rw [if_pos c13] at H
           have c13b0 : decide ((ji11) < (l0.length : Int)) = true := decide_eq_true c13
           clear c13
           by_cases c14 : ((Op.bytesLess ((rdOf ByteArray.empty l0 (ji11)).toList) ((rdOf ByteArray.empty l0 x4_2).toList)) = true)
           ·
            rw [if_pos c14] at H
            have c14b0 : (Op.bytesLess ((rdOf ByteArray.empty l0 (ji11)).toList) ((rdOf ByteArray.empty l0 x4_2).toList)) = true := c14
            clear c14
            have H' := As0.mk H
            clear H
            have p194 : 0 ≤ (x4_2 : Int) := of_decide_eq_true (by first | (with_reducible assumption) | assumption)
            have q194 : x4_2 < (l0.length : Int) := of_decide_eq_true (by first | (with_reducible assumption) | assumption)
            obtain ⟨ad194, e194, hx194_0⟩ := Kd.at_string HR0.out x4_2 p194 q194
            cases e194
            replace hx194_0 := (HB.out.cell (World.block_lt_of_cell? w _ hx194_0)).trans hx194_0
            replace p194 := eq_true p194
            replace q194 := eq_true q194
            have p195 : 0 ≤ ((ji11) : Int) := of_decide_eq_true (by first | (with_reducible assumption) | assumption)
            have q195 : (ji11) < (l0.length : Int) := of_decide_eq_true (by first | (with_reducible assumption) | assumption)
            obtain ⟨ad195, e195, hx195_0⟩ := Kd.at_string HR0.out (ji11) p195 q195
            obtain rfl : ad194 = ad195 := (by injection e195)
            replace hx195_0 := (HB.out.cell (World.block_lt_of_cell? w _ hx195_0)).trans hx195_0
            replace p195 := eq_true p195
            replace q195 := eq_true q195
            go_wp2
            repeat (go_quiet (fail); try go_wp2)
            go_roundg k2
            case measure => have := HK1.out; have := HK2.out; omega
            case rel => exact ⟨(wrap64 (x4_2 + 1)), (by first | rfl | (simp; done) | (simp [*]; done)), H', ⟨by have := HK1.out; have := HK2.out; omega⟩, ⟨by repeat (first | (with_reducible first | exact HB.out | apply bla | apply bln | apply bld) | exact HB.out)⟩⟩
           ·
            rw [if_neg c14] at H
            have c14b0 : (Op.bytesLess ((rdOf ByteArray.empty l0 (ji11)).toList) ((rdOf ByteArray.empty l0 x4_2).toList)) = false := by simpa using c14
            clear c14
            obtain rfl := Option.some.inj H
            have p194 : 0 ≤ (x4_2 : Int) := of_decide_eq_true (by first | (with_reducible assumption) | assumption)
            have q194 : x4_2 < (l0.length : Int) := of_decide_eq_true (by first | (with_reducible assumption) | assumption)
            obtain ⟨ad194, e194, hx194_0⟩ := Kd.at_string HR0.out x4_2 p194 q194
            cases e194
            replace hx194_0 := (HB.out.cell (World.block_lt_of_cell? w _ hx194_0)).trans hx194_0
            replace p194 := eq_true p194
            replace q194 := eq_true q194
            have p195 : 0 ≤ ((ji11) : Int) := of_decide_eq_true (by first | (with_reducible assumption) | assumption)
            have q195 : (ji11) < (l0.length : Int) := of_decide_eq_true (by first | (with_reducible assumption) | assumption)
            obtain ⟨ad195, e195, hx195_0⟩ := Kd.at_string HR0.out (ji11) p195 q195
            obtain rfl : ad194 = ad195 := (by injection e195)
            replace hx195_0 := (HB.out.cell (World.block_lt_of_cell? w _ hx195_0)).trans hx195_0
            replace p195 := eq_true p195
            replace q195 := eq_true q195
            go_wp2
            repeat (go_quiet (fail); try go_wp2)
            go_ret
            exact ⟨by first | rfl | (simp [errW_none, errW_some] <;> rfl) | (simp only [← hji11]; first | rfl | (simp [errW_none, errW_some] <;> rfl)) | (simp [*, errW_none, errW_some] <;> rfl), by repeat (first | (with_reducible first | exact HB.out | apply bla | apply bln | apply bld) | exact HB.out)⟩
          ·
           rw [if_neg c13] at H
           exact absurd H (by simp)
         ·
          rw [if_neg c12] at H
          exact absurd H (by simp)
        ·
         rw [if_neg c10] at H
         exact absurd H (by simp)
       ·
        rw [if_neg c9] at H
        have c9b0 : decide (x4_2 < (l0.length : Int)) = false := decide_eq_false c9
        clear c9
        obtain rfl := Option.some.inj H
        go_wp2
        repeat (go_quiet (fail); try go_wp2)
        go_ret
        exact ⟨by first | rfl | (simp [errW_none, errW_some] <;> rfl) | (simp [*, errW_none, errW_some] <;> rfl), by repeat (first | (with_reducible first | exact HB.out | apply bla | apply bln | apply bld) | exact HB.out)⟩
end Go.Proofs.YtmppkcdphgelcaaGreatDoor.PConf
namespace Go.Proofs.YtmppkcdphgelcaaGreatDoor.PConf
open Go.RowKit Go.Proofs.YtmppkcdphgelcaaGreatDoor.W.PrintWords Go.Proofs.YtmppkcdphgelcaaGreatDoor.W.PrintLast Go.Proofs.YtmppkcdphgelcaaGreatDoor.W.PrintMore
attribute [local go_sem] max2_int min2_int max_two min_two max_three min_three max_four min_four   -- for this text's walks alone
set_option linter.unusedVariables false
set_option linter.unusedSimpArgs false
def sr05_Bit.l0 : Nat → Int → Int → Int → Option (Int)
 | 0, _, _, _ => none
 | k + 1, x0, x3, x4 => if x4 < x0 then (sr05_Bit.l0 k x0 (IntKind.u64.wrap (x3 * 2)) (wrap64 (x4 + 1))) else (some x3)
def sr05_Bit.f (k : Nat) (a0 : Int) : Option (Int) := sr05_Bit.l0 k a0 1 0
set_option maxHeartbeats 8000000 in
set_option maxRecDepth 100000 in
theorem sr05_Bit.calls (k : Nat) (a0 : Int) (r : Int) (w : World) (h : sr05_Bit.f k a0 = some r) :
  Calls Tryz.prog 36 #[.int .i64 a0] w fun e w' => e = .returned (.int .u64 r) ∧ Drawn0 w w' := by
 have H : (sr05_Bit.l0 k a0 1 0) = some r := h
 clear h
 have H' := As0.mk H
 clear H
 go_enter Tryz.func36, Tryz.ntmps36
 go_wp2
 go_loopg [3, 4] k (fun kq v3 v4 w' => ∃ (x3_1 : Int) (x4_1 : Int), v3 = .int .u64 x3_1 ∧ v4 = .int .i64 x4_1 ∧ As0 (sr05_Bit.l0 kq a0 x3_1 x4_1 = some r) ∧ As0 (kq ≤ k) ∧ Drawn0 w w')
 case atStart => exact ⟨(1), (0), (by first | rfl | (simp; done) | (simp [*]; done)), (by first | rfl | (simp; done) | (simp [*]; done)), H', ⟨Nat.le_refl _⟩, by repeat (first | exact Drawn0.refl _ | apply Drawn0.step)⟩
 case round =>
  clear H'
  obtain ⟨x3_1, x4_1, rfl, rfl, HA, HK1, ⟨m1, rfl⟩⟩ := hrel
  cases gk with
  | zero => exact absurd HA.out (by simp [sr05_Bit.l0])
  | succ k1 =>
   have H := HA.out
   clear HA
   simp only [sr05_Bit.l0] at H
   by_cases c2 : x4_1 < a0
   ·
    rw [if_pos c2] at H
    have c2b0 : decide (x4_1 < a0) = true := decide_eq_true c2
    clear c2
    have H' := As0.mk H
    clear H
    go_wp2
    go_roundg k1
    case measure => have := HK1.out; omega
    case rel => exact ⟨(IntKind.u64.wrap (x3_1 * 2)), (wrap64 (x4_1 + 1)), (by first | rfl | (simp; done) | (simp [*]; done)), (by first | rfl | (simp; done) | (simp [*]; done)), H', ⟨by have := HK1.out; omega⟩, by repeat (first | exact Drawn0.refl _ | apply Drawn0.step)⟩
   ·
    rw [if_neg c2] at H
    have c2b0 : decide (x4_1 < a0) = false := decide_eq_false c2
    clear c2
    obtain rfl := Option.some.inj H
    go_wp2
    go_ret
    exact ⟨by first | rfl | (simp; done) | (simp [*]; done), by repeat (first | exact Drawn0.refl _ | apply Drawn0.step)⟩
end Go.Proofs.YtmppkcdphgelcaaGreatDoor.PConf
namespace Go.Proofs.YtmppkcdphgelcaaGreatDoor.PConf
open Go.RowKit Go.Proofs.YtmppkcdphgelcaaGreatDoor.W.PrintWords Go.Proofs.YtmppkcdphgelcaaGreatDoor.W.PrintLast Go.Proofs.YtmppkcdphgelcaaGreatDoor.W.PrintMore
attribute [local go_sem] max2_int min2_int max_two min_two max_three min_three max_four min_four   -- for this text's walks alone
set_option linter.unusedVariables false
set_option linter.unusedSimpArgs false
def sr05_Has.f (k : Nat) (a0 : Int) (a1 : Int) : Option (Bool) := if a1 ≥ 0 then (if a1 < 64 then ((sr05_Bit.f k a1).bind fun t196 => (if t196 = 0 then (none) else (some ((Int.tmod (IntKind.u64.wrap (Int.tdiv a0 t196)) 2) == 1)))) else (some false)) else (some false)
set_option maxHeartbeats 8000000 in
set_option maxRecDepth 100000 in
theorem sr05_Has.calls (k : Nat) (a0 : Int) (a1 : Int) (r : Bool) (w : World) (h : sr05_Has.f k a0 a1 = some r) :
  Calls Tryz.prog 20 #[.int .u64 a0, .int .i64 a1] w fun e w' => e = .returned (.bool r) ∧ Drawn0 w w' := by
 have H : (if a1 ≥ 0 then (if a1 < 64 then ((sr05_Bit.f k a1).bind fun t196 => (if t196 = 0 then (none) else (some ((Int.tmod (IntKind.u64.wrap (Int.tdiv a0 t196)) 2) == 1)))) else (some false)) else (some false)) = some r := h
 clear h
 by_cases c3 : a1 ≥ 0
 ·
  rw [if_pos c3] at H
  have c3b0 : decide (0 ≤ a1) = true := decide_eq_true c3
  clear c3
  by_cases c4 : a1 < 64
  ·
   rw [if_pos c4] at H
   have c4b0 : decide (a1 < 64) = true := decide_eq_true c4
   clear c4
   replace H := Option.bind_eq_some_iff.mp H
   obtain ⟨t196, A50, H⟩ := H
   replace H : (if t196 = 0 then (none) else (some ((Int.tmod (IntKind.u64.wrap (Int.tdiv a0 t196)) 2) == 1))) = some r := H
   have A5 := As0.mk A50
   clear A50
   by_cases c6 : t196 = 0
   ·
    rw [if_pos c6] at H
    exact absurd H (by simp)
   ·
    rw [if_neg c6] at H
    have c6b0 : (t196 == 0) = false := beq_eq_false_iff_ne.mpr c6
    have c6b1 : (t196 != 0) = true := bne_iff_ne.mpr c6
    obtain rfl := Option.some.inj H
    go_enter Tryz.func20, Tryz.ntmps20
    go_wp2_with (first | (go_at_call 36; (with_reducible refine (sr05_Bit.calls k a1 t196 _ A5.out).mono ?_); rintro e w' ⟨rfl, ⟨nd, rfl⟩⟩))
    go_ret
    exact ⟨by first | rfl | (simp; done) | (simp [*]; done), by repeat (first | exact Drawn0.refl _ | apply Drawn0.step)⟩
  ·
   rw [if_neg c4] at H
   have c4b0 : decide (a1 < 64) = false := decide_eq_false c4
   clear c4
   obtain rfl := Option.some.inj H
   go_enter Tryz.func20, Tryz.ntmps20
   go_wp2
   go_ret
   exact ⟨by first | rfl | (simp; done) | (simp [*]; done), by repeat (first | exact Drawn0.refl _ | apply Drawn0.step)⟩
 ·
  rw [if_neg c3] at H
  have c3b0 : decide (0 ≤ a1) = false := decide_eq_false c3
  clear c3
  obtain rfl := Option.some.inj H
  go_enter Tryz.func20, Tryz.ntmps20
  go_wp2
  go_ret
  exact ⟨by first | rfl | (simp; done) | (simp [*]; done), by repeat (first | exact Drawn0.refl _ | apply Drawn0.step)⟩
end Go.Proofs.YtmppkcdphgelcaaGreatDoor.PConf
