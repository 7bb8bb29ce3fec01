/- A part of the proof: texts of this seat, joined. -/
import Derived.BigRegion
import Derived.Deep.DrawnRows
import Derived.Deep.LoopGhost
import Derived.Deep.RegionHeld3
import Derived.Deep.RegionLaw
import Derived.IntWalk
import Derived.Lib.SplitLaws
import Derived.WalkSpells
import Derived.Test.YtmppkcdphgelcaaGreatDoorZt1
import Derived.Test.YtmppkcdphgelcaaGreatDoorZt2
import Derived.Test.YtmppkcdphgelcaaGreatDoorZt3
namespace Go.Proofs.YtmppkcdphgelcaaGreatDoor.PConf
open Go.RowKit Go.Proofs.YtmppkcdphgelcaaGreatDoor.W.PrintWords Go.Proofs.YtmppkcdphgelcaaGreatDoor.W.PrintLast Go.Proofs.YtmppkcdphgelcaaGreatDoor.W.PrintMore
attribute [local go_sem] max2_int min2_int max_two min_two max_three min_three max_four min_four   -- for this text's walks alone
set_option linter.unusedVariables false
set_option linter.unusedSimpArgs false
attribute [local go_sem ↓] Go.wp_at_zero Go.wp_at_succ
def confWords (s : ByteArray) : List ByteArray := Lib.splitB ⟨#[32]⟩ 0 (Lib.countB s ⟨#[32]⟩) s
theorem confWords.len (s : ByteArray) : (confWords s).length = Lib.countB s ⟨#[32]⟩ + 1 := Lib.splitB_all ⟨#[32]⟩ (by decide) 0 _ s rfl
structure ConfAt (B : Nat) (W : World) (nm : List ByteArray) (wk : List Wk) (nmv wkv : Value) : Prop where
 names : Kd.R Kd.string 9 W B (fun _ => True) nmv nm
 workers : Kd.R k41 41 W B (fun _ => True) wkv wk
theorem ConfAt.below {B : Nat} {W W' : World} {nm : List ByteArray} {wk : List Wk} {nmv wkv : Value} (h : ConfAt B W nm wk nmv wkv) (hb : Below W.heap.size W W') : ConfAt B W' nm wk nmv wkv := ⟨Kd.R_below h.names hb, Kd.R_below h.workers hb⟩
structure CalleeDone (P : Value → Prop) (B g : Nat) (ok : Bool) (a0 a1 a2 a3 a4 : Int) (nm : List ByteArray) (wk : List Wk) (wkv : Value) (W : World) (e : Ending) (w' : World) : Prop where
 val : e = .returned (.bool ok)
 rows : ∃ nmv' wkv', w'.heap[g]? = some (.cells (confCells a0 a1 a2 a3 a4 nmv' wkv') 25 (0, 0)) ∧ ConfAt B w' nm wk nmv' wkv' ∧ P nmv'
 world : Kept W w' (fun k => k = g ∨ some k = wkv.ownBlock)
 below : Below B W w'
structure TakenDone (P : Value → Prop) (B : Nat) (ok : Bool) (a0 a1 a2 a3 a4 : Int) (nm : List ByteArray) (wk : List Wk) (wkv : Value) (w : World) (e : Ending) (w' : World) : Prop where
 val : ∃ nmv' wkv', e = .returned (.tuple #[.agg (confCells a0 a1 a2 a3 a4 nmv' wkv'), .bool ok]) ∧ ConfAt B w' nm wk nmv' wkv' ∧ P nmv'
 world : Kept w w' (fun k => some k = wkv.ownBlock)
 below : Below B w w'
def PartOf (P : Value → Prop) (f B g n : Nat) (ok : Bool) (c0 c1 c2 c3 c4 : Int) (nm0 : List ByteArray) (wk0 : List Wk) (nmv wkv : Value) (a0 a1 a2 a3 a4 : Int) (nm : List ByteArray) (wk : List Wk) (s : ByteArray) : Prop :=
 ∀ (W : World) (b : Nat), Laid W → B ≤ W.heap.size → W.heap[g]? = some (.cells (confCells c0 c1 c2 c3 c4 nmv wkv) 25 (0, 0)) → ConfAt B W nm0 wk0 nmv wkv →
  W.heap[b]? = some (.cells ((confWords s).map Value.string).toArray 9 (0, 0)) → (∀ k, nmv.ownBlock = some k → k ≠ b) →
  Calls Tryz.prog f #[.pointer (some ⟨g, 0, none⟩), .slice (some ⟨b, 0, none⟩) n n] W (CalleeDone P B g ok a0 a1 a2 a3 a4 nm wk wkv W)
theorem cells_kept {w w' : World} {g : Nat} {cs : Array Value} {t : TypeId} {S : Nat → Prop} (h : w.heap[g]? = some (.cells cs t (0, 0))) (hk : Kept w w' S) (hn : ¬ S g) : w'.heap[g]? = some (.cells cs t (0, 0)) := blk_kept h hk hn
def confPut (W : World) (g : Nat) (a0 a1 a2 a3 a4 : Int) (u v : Value) : World := ((((((W.setCell ⟨g, 0, none⟩ (.int .i64 a0)).setCell ⟨g, 1, none⟩ (.int .i64 a1)).setCell ⟨g, 2, none⟩ (.int .i64 a2)).setCell ⟨g, 3, none⟩ (.int .i64 a3)).setCell ⟨g, 4, none⟩ (.int .i64 a4)).setCell ⟨g, 5, none⟩ u).setCell ⟨g, 6, none⟩ v
theorem confPut.at_ {W : World} {g : Nat} {b0 b1 b2 b3 b4 : Int} {x y : Value} (h : W.heap[g]? = some (.cells (confCells b0 b1 b2 b3 b4 x y) 25 (0, 0))) (a0 a1 a2 a3 a4 : Int) (u v : Value) : (confPut W g a0 a1 a2 a3 a4 u v).heap[g]? = some (.cells (confCells a0 a1 a2 a3 a4 u v) 25 (0, 0)) := by
 have z0 := blk_set h 0 (.int .i64 a0)
 have z1 := blk_set z0 1 (.int .i64 a1)
 have z2 := blk_set z1 2 (.int .i64 a2)
 have z3 := blk_set z2 3 (.int .i64 a3)
 have z4 := blk_set z3 4 (.int .i64 a4)
 have z5 := blk_set z4 5 u
 have z6 := blk_set z5 6 v
 unfold confPut
 rw [z6]
 simp [confCells]
theorem confPut.kept {w W : World} {S : Nat → Prop} {g : Nat} (h : Kept w W S) (hg : w.heap.size ≤ g) (a0 a1 a2 a3 a4 : Int) (u v : Value) : Kept w (confPut W g a0 a1 a2 a3 a4 u v) S := by
 unfold confPut
 exact Kept.setCell (Kept.setCell (Kept.setCell (Kept.setCell (Kept.setCell (Kept.setCell (Kept.setCell h (.inr hg) _) (.inr hg) _) (.inr hg) _) (.inr hg) _) (.inr hg) _) (.inr hg) _) (.inr hg) _
theorem confPut.below {w W : World} {B : Nat} {g : Nat} (h : Below B w W) (hg : B ≤ g) (a0 a1 a2 a3 a4 : Int) (u v : Value) : Below B w (confPut W g a0 a1 a2 a3 a4 u v) := by
 unfold confPut
 exact ((((((h.setCell hg _).setCell hg _).setCell hg _).setCell hg _).setCell hg _).setCell hg _).setCell hg _
theorem ConfAt.far {B : Nat} {W W' : World} {nm : List ByteArray} {wk : List Wk} {nmv wkv : Value} {g : Nat} {cells : Array Value} (h : ConfAt B W nm wk nmv wkv) (hb : W.heap[g]? = some (.cells cells 25 (0, 0))) (hk : Kept W W' (fun k => k = g)) : ConfAt B W' nm wk nmv wkv := by
 have h1 : ∀ q, q ∈ 9 :: Kd.string.E → q ≠ 25 := fun q hq => by
  have : q ∈ [9] := hq
  simp at this; omega
 have h2 : ∀ q, q ∈ 41 :: k41.E → q ≠ 25 := fun q hq => by
  have : q ∈ [41] := hq
  simp at this; omega
 exact ⟨Kd.R_mono (Kd.R_kept (Kd.R_types h.names hb h1) hk (fun k hk => hk.2)) (fun k hk => hk.1), Kd.R_mono (Kd.R_kept (Kd.R_types h.workers hb h2) hk (fun k hk => hk.2)) (fun k hk => hk.1)⟩
theorem confPut.near {W : World} (g : Nat) (a0 a1 a2 a3 a4 : Int) (u v : Value) : Kept W (confPut W g a0 a1 a2 a3 a4 u v) (fun k => k = g) := by
 unfold confPut
 have hp : ∀ i : Nat, (fun k => k = g) (⟨g, i, none⟩ : Addr).block ∨ W.heap.size ≤ (⟨g, i, none⟩ : Addr).block := fun _ => .inl rfl
 refine Kept.setCell (Kept.setCell (Kept.setCell (Kept.setCell (Kept.setCell (Kept.setCell (Kept.setCell (Kept.refl W _) (hp 0) _) (hp 1) _) (hp 2) _) (hp 3) _) (hp 4) _) (hp 5) _) (hp 6) _
theorem one_wk {W : World} {g : Nat} {a b s : Int} (h : W.heap[g]? = some (.cells #[.int .i64 a, .int .i64 b, .int .u64 s] 41 (0, 0))) : Kd.C k41 W (some ⟨g, 0, none⟩) ([⟨a, b, s⟩] : List Wk).length [⟨a, b, s⟩] := by
 refine ⟨rfl, by simp, fun _ => ⟨_, rfl, fun j p hp => ?_⟩⟩
 match j, hp with
 | 0, hp =>
  simp only [List.getElem?_cons_zero, Option.some.injEq] at hp
  subst hp
  refine ⟨_, rfl, k41_mk _ _, fun i u hu => ?_⟩
  rw [add_plain, Nat.zero_mul, Nat.zero_add, bkc h]
  match i, hu with
  | 0, hu => exact hu
  | 1, hu => exact hu
  | 2, hu => exact hu
  | i + 3, hu => simp at hu
 | j + 1, hp => simp at hp
set_option maxHeartbeats 6400000 in
set_option maxRecDepth 100000 in
theorem conf_taken.way0 (P : Value → Prop) (B : Nat) (ok : Bool) (c0 c1 c2 c3 c4 : Int) (nm0 : List ByteArray) (wk0 : List Wk) (nmv wkv : Value) (a0 a1 a2 a3 a4 : Int) (nm : List ByteArray) (wk : List Wk) (s : ByteArray) (w : World) (hL : Laid w) (hBw : B ≤ w.heap.size) (hs : s.size < 4294967281)
  (hca : ConfAt B w nm0 wk0 nmv wkv) (hp : PartOf P 44 B w.heap.size (Lib.countB s ⟨#[32]⟩ + 1) ok c0 c1 c2 c3 c4 nm0 wk0 nmv wkv a0 a1 a2 a3 a4 nm wk s) (k : Nat) (e2 : Int)
  (hch : ok = true → conf_Check.f k a0 a1 a2 a3 a4 [] [⟨1, 1, 0⟩] = some e2) :
  Calls Tryz.prog 30 #[.agg #[.int .i64 c0, .int .i64 c1, .int .i64 c2, .int .i64 c3, .int .i64 c4, nmv, wkv], .int .i64 0, .string s] w (TakenDone P B (ok && e2 == 0) a0 a1 a2 a3 a4 nm wk wkv w) := by
 obtain ⟨mx, hmx⟩ := hL.maxlen
 have HSP := As0.mk (fun (W : World) (hW : W.cell? ⟨0, 0, none⟩ = some (.int .i64 mx)) => Tryz.strings_Split s ⟨#[32]⟩ mx W hs hW (by decide))
 obtain ⟨cnt, hcnt⟩ : ∃ cnt, cnt = Lib.countB s ⟨#[32]⟩ := ⟨_, rfl⟩
 rw [← hcnt] at HSP hp
 obtain ⟨An, cn, rfl⟩ := Kd.R_slice hca.names
 obtain ⟨Aw, cw, rfl⟩ := Kd.R_slice hca.workers
 unfold PartOf at hp
 have HP := As0.mk hp
 have HCH := As0.mk hch
 have HL := As0.mk hL
 have HCA := As0.mk hca
 have HMX := As0.mk hmx
 have HCN := As0.mk hcnt
 clear hp hch hL hca hmx hcnt
 go_enter Tryz.func30, Tryz.ntmps30
 go_wp2_with fail
 obtain ⟨W0, hW0⟩ : ∃ W0, W0 = ((w.alloc (.cells #[.int .i64 c0, .int .i64 c1, .int .i64 c2, .int .i64 c3, .int .i64 c4, .slice An nm0.length cn, .slice Aw wk0.length cw] 25)).alloc (.cells #[.int .i64 0, .int .i64 0, .int .i64 0, .int .i64 0, .int .i64 0, .slice none 0 0, .slice none 0 0] 25)).alloc (.cells #[.func (.func 44) #[] #[], .func (.func 45) #[] #[], .func (.func 46) #[] #[]] 60) := ⟨_, rfl⟩
 have hZ0 : W0.heap.size = w.heap.size + 3 := by rw [hW0]; simp
 have HB0 := As0.mk (show Below w.heap.size w W0 by rw [hW0]; exact bla (bla (bla (Below.refl _ _) _) _) _)
 have G0 := As0.mk (show W0.heap[w.heap.size]? = some (.cells (confCells c0 c1 c2 c3 c4 (.slice An nm0.length cn) (.slice Aw wk0.length cw)) 25 (0, 0)) by rw [hW0]; exact bka (bka (blk_new w _) _) _)
 have R0 := As0.mk (show W0.heap[w.heap.size + 1]? = some (.cells (confCells 0 0 0 0 0 (.slice none 0 0) (.slice none 0 0)) 25 (0, 0)) by
  rw [hW0]
  have := blk_new (w.alloc (.cells #[.int .i64 c0, .int .i64 c1, .int .i64 c2, .int .i64 c3, .int .i64 c4, .slice An nm0.length cn, .slice Aw wk0.length cw] 25)) (.cells (confCells 0 0 0 0 0 (.slice none 0 0) (.slice none 0 0)) 25)
  rw [show (w.alloc (.cells #[.int .i64 c0, .int .i64 c1, .int .i64 c2, .int .i64 c3, .int .i64 c4, .slice An nm0.length cn, .slice Aw wk0.length cw] 25)).heap.size = w.heap.size + 1 by simp] at this
  exact bka this _)
 have P0 : W0.cell? ⟨w.heap.size + 1 + 1, 0, none⟩ = some (.func (.func 44) #[] #[]) := by
  rw [hW0, World.cell?_alloc_at _ _ _ _ (by simp)]; rfl
 have MX0 := As0.mk (pw_cell_below HB0.out HMX.out)
 have HNB := As0.mk (show ∀ k, (Value.slice An nm0.length cn).ownBlock = some k → k ≠ w.heap.size + 3 from fun k hk e => by have := Kd.R_lt HCA.out.names k hk; omega)
 have HNP := As0.mk (show ¬ (w.heap.size + 1 + 1 = w.heap.size ∨ some (w.heap.size + 1 + 1) = (Value.slice Aw wk0.length cw).ownBlock) from fun h => by
  rcases h with h | h
  ·
   omega
  ·
   have := Kd.R_lt HCA.out.workers _ h.symm; omega)
 have HNR := As0.mk (show ¬ (w.heap.size + 1 = w.heap.size ∨ some (w.heap.size + 1) = (Value.slice Aw wk0.length cw).ownBlock) from fun h => by
  rcases h with h | h
  ·
   omega
  ·
   have := Kd.R_lt HCA.out.workers _ h.symm; omega)
 rw [← hW0]
 clear hW0
 have MX0d := As0.mk (show W0.drew.cell? ⟨0, 0, none⟩ = some (.int .i64 mx) from MX0.out)
 go_region_held3 (fun w' => w'.cell? ⟨w.heap.size + 1 + 1, 0, none⟩ = some (.func (.func 44) #[] #[])) (first | go_keep | (exact P1.out) | (exact PK.out)) (first | (go_at_call 47; go_must ((with_reducible refine (HSP.out _ MX0d.out).mono ?_); rintro e W1 ⟨rfl, hW1⟩; have HB1 := As0.mk (show Below w.heap.size w W1 by rw [hW1]; exact bla (below_drew HB0.out) _); have G1 := As0.mk (show W1.heap[w.heap.size]? = some (.cells (confCells c0 c1 c2 c3 c4 (.slice An nm0.length cn) (.slice Aw wk0.length cw)) 25 (0, 0)) by rw [hW1]; exact bka (bkd G0.out) _); have R1 := As0.mk (show W1.heap[w.heap.size + 1]? = some (.cells (confCells 0 0 0 0 0 (.slice none 0 0) (.slice none 0 0)) 25 (0, 0)) by rw [hW1]; exact bka (bkd R0.out) _); have P1 := As0.mk (show W1.cell? ⟨w.heap.size + 1 + 1, 0, none⟩ = some (.func (.func 44) #[] #[]) by rw [hW1]; exact pw_cell_below (w := W0) (bla (below_drew (Below.refl _ _)) _) P0); have Q1 := As0.mk (show W1.heap[w.heap.size + 3]? = some (.cells ((confWords s).map Value.string).toArray 9 (0, 0)) by rw [hW1, HCN.out, ← hZ0]; exact blk_new W0.drew _); have HL1 := As0.mk (HL.out.below HB1.out); have HCA1 := As0.mk (HCA.out.below HB1.out); have HBS1 := As0.mk (Nat.le_trans hBw HB1.out.size); clear hW1)) | (go_at_call 44; go_must ((with_reducible refine (HP.out _ (w.heap.size + 3) HL1.out HBS1.out G1.out HCA1.out Q1.out HNB.out).mono ?_); rintro e w2 ⟨rfl, ⟨nmv2, wkv2, hg2, hca2, hP2⟩, hk2, hb2⟩; obtain ⟨An2, cn2, rfl⟩ := Kd.R_slice hca2.names; obtain ⟨Aw2, cw2, rfl⟩ := Kd.R_slice hca2.workers; have HG2 := As0.mk hg2; have HPW := As0.mk hP2; have HCA2 := As0.mk hca2; have HK2 := As0.mk (Kept.then_ (S := fun k => some k = (Value.slice Aw wk0.length cw).ownBlock) (Kept.of_below HB1.out _) hk2 (fun k hk => hk.elim (fun e => .inr (Nat.le_of_eq e.symm)) .inl)); have HB2 := As0.mk (Below.trans (HB1.out.mono hBw) hb2); have HZ2 := As0.mk (Nat.le_trans (show w.heap.size + 4 ≤ W1.heap.size by have := blk_lt Q1.out; omega) hb2.size); have R2 := As0.mk (cells_kept R1.out hk2 HNR.out); have PK := As0.mk (show w2.cell? ⟨w.heap.size + 1 + 1, 0, none⟩ = some (.func (.func 44) #[] #[]) from cell_kept P1.out hk2 HNP.out); clear hg2 hca2 hk2 hb2 hP2)))
 all_goals
  have q0 := (show w2.cell? ⟨w.heap.size, 0, none⟩ = some (.int .i64 a0) from (bkc HG2.out 0).trans rfl)
  have q1 := (show w2.cell? ⟨w.heap.size, 1, none⟩ = some (.int .i64 a1) from (bkc HG2.out 1).trans rfl)
  have q2 := (show w2.cell? ⟨w.heap.size, 2, none⟩ = some (.int .i64 a2) from (bkc HG2.out 2).trans rfl)
  have q3 := (show w2.cell? ⟨w.heap.size, 3, none⟩ = some (.int .i64 a3) from (bkc HG2.out 3).trans rfl)
  have q4 := (show w2.cell? ⟨w.heap.size, 4, none⟩ = some (.int .i64 a4) from (bkc HG2.out 4).trans rfl)
  have q5 := (show w2.cell? ⟨w.heap.size, 5, none⟩ = some (.slice An2 nm.length cn2) from (bkc HG2.out 5).trans rfl)
  have q6 := (show w2.cell? ⟨w.heap.size, 6, none⟩ = some (.slice Aw2 wk.length cw2) from (bkc HG2.out 6).trans rfl)
  have f0 := bkf R2.out 0
  have f1 := bkf R2.out 1
  have f2 := bkf R2.out 2
  have f3 := bkf R2.out 3
  have f4 := bkf R2.out 4
  have f5 := bkf R2.out 5
  have f6 := bkf R2.out 6
  have r0 := (show w2.cell? ⟨w.heap.size + 1, 0, none⟩ = some (.int .i64 0) from (bkc R2.out 0).trans rfl)
  have r1 := (show w2.cell? ⟨w.heap.size + 1, 1, none⟩ = some (.int .i64 0) from (bkc R2.out 1).trans rfl)
  have r2 := (show w2.cell? ⟨w.heap.size + 1, 2, none⟩ = some (.int .i64 0) from (bkc R2.out 2).trans rfl)
  have r3 := (show w2.cell? ⟨w.heap.size + 1, 3, none⟩ = some (.int .i64 0) from (bkc R2.out 3).trans rfl)
  have r4 := (show w2.cell? ⟨w.heap.size + 1, 4, none⟩ = some (.int .i64 0) from (bkc R2.out 4).trans rfl)
  have r5 := (show w2.cell? ⟨w.heap.size + 1, 5, none⟩ = some (.slice none 0 0) from (bkc R2.out 5).trans rfl)
  have r6 := (show w2.cell? ⟨w.heap.size + 1, 6, none⟩ = some (.slice none 0 0) from (bkc R2.out 6).trans rfl)
  cases ok
  ·
   go_wp2_with fail
   have RR := As0.mk (confPut.at_ R2.out a0 a1 a2 a3 a4 (.slice An2 nm.length cn2) (.slice Aw2 wk.length cw2))
   show bodyPost _ _ _ _ _ (confPut w2 (w.heap.size + 1) a0 a1 a2 a3 a4 (.slice An2 nm.length cn2) (.slice Aw2 wk.length cw2))
   obtain ⟨W9, hW9⟩ : ∃ W9, W9 = (confPut w2 (w.heap.size + 1) a0 a1 a2 a3 a4 (.slice An2 nm.length cn2) (.slice Aw2 wk.length cw2)) := ⟨_, rfl⟩
   rw [← hW9] at RR ⊢
   have s0 := (show W9.cell? ⟨w.heap.size + 1, 0, none⟩ = some (.int .i64 a0) from (bkc RR.out 0).trans rfl)
   have s1 := (show W9.cell? ⟨w.heap.size + 1, 1, none⟩ = some (.int .i64 a1) from (bkc RR.out 1).trans rfl)
   have s2 := (show W9.cell? ⟨w.heap.size + 1, 2, none⟩ = some (.int .i64 a2) from (bkc RR.out 2).trans rfl)
   have s3 := (show W9.cell? ⟨w.heap.size + 1, 3, none⟩ = some (.int .i64 a3) from (bkc RR.out 3).trans rfl)
   have s4 := (show W9.cell? ⟨w.heap.size + 1, 4, none⟩ = some (.int .i64 a4) from (bkc RR.out 4).trans rfl)
   have s5 := (show W9.cell? ⟨w.heap.size + 1, 5, none⟩ = some (.slice An2 nm.length cn2) from (bkc RR.out 5).trans rfl)
   have s6 := (show W9.cell? ⟨w.heap.size + 1, 6, none⟩ = some (.slice Aw2 wk.length cw2) from (bkc RR.out 6).trans rfl)
   refine bodyPost_ret (v := .tuple #[.agg (confCells a0 a1 a2 a3 a4 (.slice An2 nm.length cn2) (.slice Aw2 wk.length cw2)), .bool false]) (by simp [results, Tryz.results30, go_sem, s0, s1, s2, s3, s4, s5, s6, confCells]) rfl ⟨⟨_, _, rfl, ?_, HPW.out⟩, ?_, ?_⟩
   ·
    rw [hW9]; exact HCA2.out.far R2.out (confPut.near _ _ _ _ _ _ _ _)
   ·
    rw [hW9]; exact confPut.kept HK2.out (Nat.le_succ _) _ _ _ _ _ _ _
   ·
    rw [hW9]; exact confPut.below HB2.out (Nat.le_succ_of_le hBw) _ _ _ _ _ _ _
  ·
   have HN2 := As0.mk (show w.heap.size + 4 ≤ w2.heap.size from HZ2.out)
   go_wp2_with fail
   obtain ⟨W3, hW3⟩ : ∃ W3, W3 = ((w2.alloc (.cells #[.int .i64 a0, .int .i64 a1, .int .i64 a2, .int .i64 a3, .int .i64 a4, .slice none 0 0, .slice (some ⟨w2.heap.size + 1, 0, none⟩) 1 1] 25)).alloc (.cells #[.int .i64 1, .int .i64 1, .int .u64 0] 41)) := ⟨_, rfl⟩
   have HB3 := As0.mk (show Below w2.heap.size w2 W3 by rw [hW3]; exact bla (bla (Below.refl _ _) _) _)
   have L3 := As0.mk (show W3.heap[w2.heap.size]? = some (.cells (confCells a0 a1 a2 a3 a4 (.slice none 0 0) (.slice (some ⟨w2.heap.size + 1, 0, none⟩) 1 1)) 25 (0, 0)) by rw [hW3]; exact bka (blk_new w2 _) _)
   have X3 := As0.mk (show W3.heap[w2.heap.size + 1]? = some (.cells #[.int .i64 1, .int .i64 1, .int .u64 0] 41 (0, 0)) by
    rw [hW3]
    have := blk_new (w2.alloc (.cells #[.int .i64 a0, .int .i64 a1, .int .i64 a2, .int .i64 a3, .int .i64 a4, .slice none 0 0, .slice (some ⟨w2.heap.size + 1, 0, none⟩) 1 1] 25)) (.cells #[.int .i64 1, .int .i64 1, .int .u64 0] 41)
    rw [show (w2.alloc (.cells #[.int .i64 a0, .int .i64 a1, .int .i64 a2, .int .i64 a3, .int .i64 a4, .slice none 0 0, .slice (some ⟨w2.heap.size + 1, 0, none⟩) 1 1] 25)).heap.size = w2.heap.size + 1 by simp] at this
    exact this)
   have R3 := As0.mk (blk_below R2.out HB3.out)
   have CA3 := As0.mk (HCA2.out.below HB3.out)
   have K3 := As0.mk (HK2.out.below HB3.out)
   have B3 := As0.mk (Below.trans HB2.out (HB3.out.mono (Nat.le_trans hBw (Nat.le_trans (Nat.le_add_right _ 4) HN2.out))))
   have HC3 := As0.mk (fun (W : World) (hW : Below W3.heap.size W3 W) => show Calls Tryz.prog 7 #[.agg #[.int .i64 a0, .int .i64 a1, .int .i64 a2, .int .i64 a3, .int .i64 a4, .slice none 0 0, .slice (some ⟨w2.heap.size + 1, 0, none⟩) 1 1]] W (fun e w_ => e = .returned (.int .i64 e2) ∧ Below W.heap.size W w_) from conf_Check.calls k a0 a1 a2 a3 a4 none 0 [] (some ⟨w2.heap.size + 1, 0, none⟩) 1 [⟨1, 1, 0⟩] e2 W (Kd.C_nil _ W) (Nat.le_refl _) (Kd.C_below (one_wk X3.out) hW) (Nat.le_refl _) (by first | exact HCH.out rfl | exact HCH.out trivial | exact HCH.out))
   have c0_ := (show W3.cell? ⟨w.heap.size, 0, none⟩ = some (.int .i64 a0) from pw_cell_below HB3.out q0)
   have c1_ := (show W3.cell? ⟨w.heap.size, 1, none⟩ = some (.int .i64 a1) from pw_cell_below HB3.out q1)
   have c2_ := (show W3.cell? ⟨w.heap.size, 2, none⟩ = some (.int .i64 a2) from pw_cell_below HB3.out q2)
   have c3_ := (show W3.cell? ⟨w.heap.size, 3, none⟩ = some (.int .i64 a3) from pw_cell_below HB3.out q3)
   have c4_ := (show W3.cell? ⟨w.heap.size, 4, none⟩ = some (.int .i64 a4) from pw_cell_below HB3.out q4)
   have c5_ := (show W3.cell? ⟨w.heap.size, 5, none⟩ = some (.slice An2 nm.length cn2) from pw_cell_below HB3.out q5)
   have c6_ := (show W3.cell? ⟨w.heap.size, 6, none⟩ = some (.slice Aw2 wk.length cw2) from pw_cell_below HB3.out q6)
   have l0 := (show W3.cell? ⟨w2.heap.size, 0, none⟩ = some (.int .i64 a0) from (bkc L3.out 0).trans rfl)
   have l1 := (show W3.cell? ⟨w2.heap.size, 1, none⟩ = some (.int .i64 a1) from (bkc L3.out 1).trans rfl)
   have l2 := (show W3.cell? ⟨w2.heap.size, 2, none⟩ = some (.int .i64 a2) from (bkc L3.out 2).trans rfl)
   have l3 := (show W3.cell? ⟨w2.heap.size, 3, none⟩ = some (.int .i64 a3) from (bkc L3.out 3).trans rfl)
   have l4 := (show W3.cell? ⟨w2.heap.size, 4, none⟩ = some (.int .i64 a4) from (bkc L3.out 4).trans rfl)
   have l5 := (show W3.cell? ⟨w2.heap.size, 5, none⟩ = some (.slice none 0 0) from (bkc L3.out 5).trans rfl)
   have l6 := (show W3.cell? ⟨w2.heap.size, 6, none⟩ = some (.slice (some ⟨w2.heap.size + 1, 0, none⟩) 1 1) from (bkc L3.out 6).trans rfl)
   have g0 := (show W3.cell? ⟨w.heap.size + 1, 0, none⟩ = some (.int .i64 0) from (bkc R3.out 0).trans rfl)
   have g1 := (show W3.cell? ⟨w.heap.size + 1, 1, none⟩ = some (.int .i64 0) from (bkc R3.out 1).trans rfl)
   have g2 := (show W3.cell? ⟨w.heap.size + 1, 2, none⟩ = some (.int .i64 0) from (bkc R3.out 2).trans rfl)
   have g3 := (show W3.cell? ⟨w.heap.size + 1, 3, none⟩ = some (.int .i64 0) from (bkc R3.out 3).trans rfl)
   have g4 := (show W3.cell? ⟨w.heap.size + 1, 4, none⟩ = some (.int .i64 0) from (bkc R3.out 4).trans rfl)
   have g5 := (show W3.cell? ⟨w.heap.size + 1, 5, none⟩ = some (.slice none 0 0) from (bkc R3.out 5).trans rfl)
   have g6 := (show W3.cell? ⟨w.heap.size + 1, 6, none⟩ = some (.slice none 0 0) from (bkc R3.out 6).trans rfl)
   have u0 := bkf R3.out 0
   have u1 := bkf R3.out 1
   have u2 := bkf R3.out 2
   have u3 := bkf R3.out 3
   have u4 := bkf R3.out 4
   have u5 := bkf R3.out 5
   have u6 := bkf R3.out 6
   obtain ⟨gl, hgl⟩ : ∃ gl, gl = w2.heap.size := ⟨_, rfl⟩
   have hne : ¬ gl = w.heap.size + 1 := by have := HN2.out; omega
   have hne2 : ¬ w.heap.size + 1 = gl := fun e => hne e.symm
   rw [← hW3]
   clear hW3 q0 f0 r0 q1 f1 r1 q2 f2 r2 q3 f3 r3 q4 f4 r4 q5 f5 r5 q6 f6 r6
   rw [← hgl] at l0 l1 l2 l3 l4 l5 l6 HC3 ⊢
   have HGL := As0.mk hgl
   clear hgl
   go_region_held3 (fun w' => w'.cell? ⟨w.heap.size, 0, none⟩ = some (.int .i64 a0) ∧ w'.cell? ⟨w.heap.size, 1, none⟩ = some (.int .i64 a1) ∧ w'.cell? ⟨w.heap.size, 2, none⟩ = some (.int .i64 a2) ∧ w'.cell? ⟨w.heap.size, 3, none⟩ = some (.int .i64 a3) ∧ w'.cell? ⟨w.heap.size, 4, none⟩ = some (.int .i64 a4) ∧ w'.cell? ⟨w.heap.size, 5, none⟩ = some (.slice An2 nm.length cn2) ∧ w'.cell? ⟨w.heap.size, 6, none⟩ = some (.slice Aw2 wk.length cw2) ∧ w'.cell? ⟨gl, 0, none⟩ = some (.int .i64 a0) ∧ w'.cell? ⟨gl, 1, none⟩ = some (.int .i64 a1) ∧ w'.cell? ⟨gl, 2, none⟩ = some (.int .i64 a2) ∧ w'.cell? ⟨gl, 3, none⟩ = some (.int .i64 a3) ∧ w'.cell? ⟨gl, 4, none⟩ = some (.int .i64 a4) ∧ w'.cell? ⟨gl, 5, none⟩ = some (.slice none 0 0) ∧ w'.cell? ⟨gl, 6, none⟩ = some (.slice (some ⟨gl + 1, 0, none⟩) 1 1)) (go_keep) ((go_at_call 7; go_must ((with_reducible refine (HC3.out _ (by exact below_drew (Below.refl _ _))).mono ?_); rintro e w4 ⟨rfl, hb4⟩; have HB4 := As0.mk (show Below W3.heap.size W3 w4 from below_then (below_drew (Below.refl W3.heap.size W3)) (Nat.le_refl _) hb4); have x0 := (show w4.cell? ⟨w.heap.size, 0, none⟩ = some (.int .i64 a0) from pw_cell_below HB4.out c0_); have z0 := (show w4.cell? ⟨gl, 0, none⟩ = some (.int .i64 a0) from pw_cell_below HB4.out l0); have x1 := (show w4.cell? ⟨w.heap.size, 1, none⟩ = some (.int .i64 a1) from pw_cell_below HB4.out c1_); have z1 := (show w4.cell? ⟨gl, 1, none⟩ = some (.int .i64 a1) from pw_cell_below HB4.out l1); have x2 := (show w4.cell? ⟨w.heap.size, 2, none⟩ = some (.int .i64 a2) from pw_cell_below HB4.out c2_); have z2 := (show w4.cell? ⟨gl, 2, none⟩ = some (.int .i64 a2) from pw_cell_below HB4.out l2); have x3 := (show w4.cell? ⟨w.heap.size, 3, none⟩ = some (.int .i64 a3) from pw_cell_below HB4.out c3_); have z3 := (show w4.cell? ⟨gl, 3, none⟩ = some (.int .i64 a3) from pw_cell_below HB4.out l3); have x4 := (show w4.cell? ⟨w.heap.size, 4, none⟩ = some (.int .i64 a4) from pw_cell_below HB4.out c4_); have z4 := (show w4.cell? ⟨gl, 4, none⟩ = some (.int .i64 a4) from pw_cell_below HB4.out l4); have x5 := (show w4.cell? ⟨w.heap.size, 5, none⟩ = some (.slice An2 nm.length cn2) from pw_cell_below HB4.out c5_); have z5 := (show w4.cell? ⟨gl, 5, none⟩ = some (.slice none 0 0) from pw_cell_below HB4.out l5); have x6 := (show w4.cell? ⟨w.heap.size, 6, none⟩ = some (.slice Aw2 wk.length cw2) from pw_cell_below HB4.out c6_); have z6 := (show w4.cell? ⟨gl, 6, none⟩ = some (.slice (some ⟨gl + 1, 0, none⟩) 1 1) from pw_cell_below HB4.out l6); have y0 := (show w4.cell? ⟨w.heap.size + 1, 0, none⟩ = some (.int .i64 0) from pw_cell_below HB4.out g0); have y1 := (show w4.cell? ⟨w.heap.size + 1, 1, none⟩ = some (.int .i64 0) from pw_cell_below HB4.out g1); have y2 := (show w4.cell? ⟨w.heap.size + 1, 2, none⟩ = some (.int .i64 0) from pw_cell_below HB4.out g2); have y3 := (show w4.cell? ⟨w.heap.size + 1, 3, none⟩ = some (.int .i64 0) from pw_cell_below HB4.out g3); have y4 := (show w4.cell? ⟨w.heap.size + 1, 4, none⟩ = some (.int .i64 0) from pw_cell_below HB4.out g4); have y5 := (show w4.cell? ⟨w.heap.size + 1, 5, none⟩ = some (.slice none 0 0) from pw_cell_below HB4.out g5); have y6 := (show w4.cell? ⟨w.heap.size + 1, 6, none⟩ = some (.slice none 0 0) from pw_cell_below HB4.out g6); have R4 := As0.mk (blk_below R3.out HB4.out); have v0 := bkf R4.out 0; have v1 := bkf R4.out 1; have v2 := bkf R4.out 2; have v3 := bkf R4.out 3; have v4 := bkf R4.out 4; have v5 := bkf R4.out 5; have v6 := bkf R4.out 6; clear hb4)))
   all_goals
    have RR := As0.mk (confPut.at_ R4.out a0 a1 a2 a3 a4 (.slice An2 nm.length cn2) (.slice Aw2 wk.length cw2))
    have CA4 := As0.mk (CA3.out.below HB4.out)
    have K4 := As0.mk (Kept.below K3.out HB4.out)
    have B4 := As0.mk (Below.trans B3.out (HB4.out.mono (Nat.le_trans hBw (Nat.le_trans (Nat.le_add_right _ 4) (Nat.le_trans HN2.out HB3.out.size)))))
    go_wp2_with fail
    show bodyPost _ _ _ _ _ (confPut w4 (w.heap.size + 1) a0 a1 a2 a3 a4 (.slice An2 nm.length cn2) (.slice Aw2 wk.length cw2))
    obtain ⟨W9, hW9⟩ : ∃ W9, W9 = (confPut w4 (w.heap.size + 1) a0 a1 a2 a3 a4 (.slice An2 nm.length cn2) (.slice Aw2 wk.length cw2)) := ⟨_, rfl⟩
    rw [← hW9] at RR ⊢
    have s0 := (show W9.cell? ⟨w.heap.size + 1, 0, none⟩ = some (.int .i64 a0) from (bkc RR.out 0).trans rfl)
    have s1 := (show W9.cell? ⟨w.heap.size + 1, 1, none⟩ = some (.int .i64 a1) from (bkc RR.out 1).trans rfl)
    have s2 := (show W9.cell? ⟨w.heap.size + 1, 2, none⟩ = some (.int .i64 a2) from (bkc RR.out 2).trans rfl)
    have s3 := (show W9.cell? ⟨w.heap.size + 1, 3, none⟩ = some (.int .i64 a3) from (bkc RR.out 3).trans rfl)
    have s4 := (show W9.cell? ⟨w.heap.size + 1, 4, none⟩ = some (.int .i64 a4) from (bkc RR.out 4).trans rfl)
    have s5 := (show W9.cell? ⟨w.heap.size + 1, 5, none⟩ = some (.slice An2 nm.length cn2) from (bkc RR.out 5).trans rfl)
    have s6 := (show W9.cell? ⟨w.heap.size + 1, 6, none⟩ = some (.slice Aw2 wk.length cw2) from (bkc RR.out 6).trans rfl)
    refine bodyPost_ret (v := .tuple #[.agg (confCells a0 a1 a2 a3 a4 (.slice An2 nm.length cn2) (.slice Aw2 wk.length cw2)), .bool (e2 == 0)]) (by simp [results, Tryz.results30, go_sem, s0, s1, s2, s3, s4, s5, s6, confCells]) rfl ⟨⟨.slice An2 nm.length cn2, .slice Aw2 wk.length cw2, by simp, ?_, HPW.out⟩, ?_, ?_⟩
    ·
     rw [hW9]; exact CA4.out.far R4.out (confPut.near _ _ _ _ _ _ _ _)
    ·
     rw [hW9]; exact confPut.kept K4.out (Nat.le_succ _) _ _ _ _ _ _ _
    ·
     rw [hW9]; exact confPut.below B4.out (Nat.le_succ_of_le hBw) _ _ _ _ _ _ _
set_option maxHeartbeats 6400000 in
set_option maxRecDepth 100000 in
theorem conf_taken.way1 (P : Value → Prop) (B : Nat) (ok : Bool) (c0 c1 c2 c3 c4 : Int) (nm0 : List ByteArray) (wk0 : List Wk) (nmv wkv : Value) (a0 a1 a2 a3 a4 : Int) (nm : List ByteArray) (wk : List Wk) (s : ByteArray) (w : World) (hL : Laid w) (hBw : B ≤ w.heap.size) (hs : s.size < 4294967281)
  (hca : ConfAt B w nm0 wk0 nmv wkv) (hp : PartOf P 45 B w.heap.size (Lib.countB s ⟨#[32]⟩ + 1) ok c0 c1 c2 c3 c4 nm0 wk0 nmv wkv a0 a1 a2 a3 a4 nm wk s) (k : Nat) (e2 : Int)
  (hch : ok = true → conf_Check.f k a0 a1 a2 a3 a4 nm [⟨1, 1, 0⟩] = some e2) :
  Calls Tryz.prog 30 #[.agg #[.int .i64 c0, .int .i64 c1, .int .i64 c2, .int .i64 c3, .int .i64 c4, nmv, wkv], .int .i64 1, .string s] w (TakenDone P B (ok && e2 == 0) a0 a1 a2 a3 a4 nm wk wkv w) := by
 obtain ⟨mx, hmx⟩ := hL.maxlen
 have HSP := As0.mk (fun (W : World) (hW : W.cell? ⟨0, 0, none⟩ = some (.int .i64 mx)) => Tryz.strings_Split s ⟨#[32]⟩ mx W hs hW (by decide))
 obtain ⟨cnt, hcnt⟩ : ∃ cnt, cnt = Lib.countB s ⟨#[32]⟩ := ⟨_, rfl⟩
 rw [← hcnt] at HSP hp
 obtain ⟨An, cn, rfl⟩ := Kd.R_slice hca.names
 obtain ⟨Aw, cw, rfl⟩ := Kd.R_slice hca.workers
 unfold PartOf at hp
 have HP := As0.mk hp
 have HCH := As0.mk hch
 have HL := As0.mk hL
 have HCA := As0.mk hca
 have HMX := As0.mk hmx
 have HCN := As0.mk hcnt
 clear hp hch hL hca hmx hcnt
 go_enter Tryz.func30, Tryz.ntmps30
 go_wp2_with fail
 obtain ⟨W0, hW0⟩ : ∃ W0, W0 = ((w.alloc (.cells #[.int .i64 c0, .int .i64 c1, .int .i64 c2, .int .i64 c3, .int .i64 c4, .slice An nm0.length cn, .slice Aw wk0.length cw] 25)).alloc (.cells #[.int .i64 0, .int .i64 0, .int .i64 0, .int .i64 0, .int .i64 0, .slice none 0 0, .slice none 0 0] 25)).alloc (.cells #[.func (.func 44) #[] #[], .func (.func 45) #[] #[], .func (.func 46) #[] #[]] 60) := ⟨_, rfl⟩
 have hZ0 : W0.heap.size = w.heap.size + 3 := by rw [hW0]; simp
 have HB0 := As0.mk (show Below w.heap.size w W0 by rw [hW0]; exact bla (bla (bla (Below.refl _ _) _) _) _)
 have G0 := As0.mk (show W0.heap[w.heap.size]? = some (.cells (confCells c0 c1 c2 c3 c4 (.slice An nm0.length cn) (.slice Aw wk0.length cw)) 25 (0, 0)) by rw [hW0]; exact bka (bka (blk_new w _) _) _)
 have R0 := As0.mk (show W0.heap[w.heap.size + 1]? = some (.cells (confCells 0 0 0 0 0 (.slice none 0 0) (.slice none 0 0)) 25 (0, 0)) by
  rw [hW0]
  have := blk_new (w.alloc (.cells #[.int .i64 c0, .int .i64 c1, .int .i64 c2, .int .i64 c3, .int .i64 c4, .slice An nm0.length cn, .slice Aw wk0.length cw] 25)) (.cells (confCells 0 0 0 0 0 (.slice none 0 0) (.slice none 0 0)) 25)
  rw [show (w.alloc (.cells #[.int .i64 c0, .int .i64 c1, .int .i64 c2, .int .i64 c3, .int .i64 c4, .slice An nm0.length cn, .slice Aw wk0.length cw] 25)).heap.size = w.heap.size + 1 by simp] at this
  exact bka this _)
 have P0 : W0.cell? ⟨w.heap.size + 1 + 1, 1, none⟩ = some (.func (.func 45) #[] #[]) := by
  rw [hW0, World.cell?_alloc_at _ _ _ _ (by simp)]; rfl
 have MX0 := As0.mk (pw_cell_below HB0.out HMX.out)
 have HNB := As0.mk (show ∀ k, (Value.slice An nm0.length cn).ownBlock = some k → k ≠ w.heap.size + 3 from fun k hk e => by have := Kd.R_lt HCA.out.names k hk; omega)
 have HNP := As0.mk (show ¬ (w.heap.size + 1 + 1 = w.heap.size ∨ some (w.heap.size + 1 + 1) = (Value.slice Aw wk0.length cw).ownBlock) from fun h => by
  rcases h with h | h
  ·
   omega
  ·
   have := Kd.R_lt HCA.out.workers _ h.symm; omega)
 have HNR := As0.mk (show ¬ (w.heap.size + 1 = w.heap.size ∨ some (w.heap.size + 1) = (Value.slice Aw wk0.length cw).ownBlock) from fun h => by
  rcases h with h | h
  ·
   omega
  ·
   have := Kd.R_lt HCA.out.workers _ h.symm; omega)
 rw [← hW0]
 clear hW0
 have MX0d := As0.mk (show W0.drew.cell? ⟨0, 0, none⟩ = some (.int .i64 mx) from MX0.out)
 go_region_held3 (fun w' => w'.cell? ⟨w.heap.size + 1 + 1, 1, none⟩ = some (.func (.func 45) #[] #[])) (first | go_keep | (exact P1.out) | (exact PK.out)) (first | (go_at_call 47; go_must ((with_reducible refine (HSP.out _ MX0d.out).mono ?_); rintro e W1 ⟨rfl, hW1⟩; have HB1 := As0.mk (show Below w.heap.size w W1 by rw [hW1]; exact bla (below_drew HB0.out) _); have G1 := As0.mk (show W1.heap[w.heap.size]? = some (.cells (confCells c0 c1 c2 c3 c4 (.slice An nm0.length cn) (.slice Aw wk0.length cw)) 25 (0, 0)) by rw [hW1]; exact bka (bkd G0.out) _); have R1 := As0.mk (show W1.heap[w.heap.size + 1]? = some (.cells (confCells 0 0 0 0 0 (.slice none 0 0) (.slice none 0 0)) 25 (0, 0)) by rw [hW1]; exact bka (bkd R0.out) _); have P1 := As0.mk (show W1.cell? ⟨w.heap.size + 1 + 1, 1, none⟩ = some (.func (.func 45) #[] #[]) by rw [hW1]; exact pw_cell_below (w := W0) (bla (below_drew (Below.refl _ _)) _) P0); have Q1 := As0.mk (show W1.heap[w.heap.size + 3]? = some (.cells ((confWords s).map Value.string).toArray 9 (0, 0)) by rw [hW1, HCN.out, ← hZ0]; exact blk_new W0.drew _); have HL1 := As0.mk (HL.out.below HB1.out); have HCA1 := As0.mk (HCA.out.below HB1.out); have HBS1 := As0.mk (Nat.le_trans hBw HB1.out.size); clear hW1)) | (go_at_call 45; go_must ((with_reducible refine (HP.out _ (w.heap.size + 3) HL1.out HBS1.out G1.out HCA1.out Q1.out HNB.out).mono ?_); rintro e w2 ⟨rfl, ⟨nmv2, wkv2, hg2, hca2, hP2⟩, hk2, hb2⟩; obtain ⟨An2, cn2, rfl⟩ := Kd.R_slice hca2.names; obtain ⟨Aw2, cw2, rfl⟩ := Kd.R_slice hca2.workers; have HG2 := As0.mk hg2; have HPW := As0.mk hP2; have HCA2 := As0.mk hca2; have HK2 := As0.mk (Kept.then_ (S := fun k => some k = (Value.slice Aw wk0.length cw).ownBlock) (Kept.of_below HB1.out _) hk2 (fun k hk => hk.elim (fun e => .inr (Nat.le_of_eq e.symm)) .inl)); have HB2 := As0.mk (Below.trans (HB1.out.mono hBw) hb2); have HZ2 := As0.mk (Nat.le_trans (show w.heap.size + 4 ≤ W1.heap.size by have := blk_lt Q1.out; omega) hb2.size); have R2 := As0.mk (cells_kept R1.out hk2 HNR.out); have PK := As0.mk (show w2.cell? ⟨w.heap.size + 1 + 1, 1, none⟩ = some (.func (.func 45) #[] #[]) from cell_kept P1.out hk2 HNP.out); clear hg2 hca2 hk2 hb2 hP2)))
 all_goals
  have q0 := (show w2.cell? ⟨w.heap.size, 0, none⟩ = some (.int .i64 a0) from (bkc HG2.out 0).trans rfl)
  have q1 := (show w2.cell? ⟨w.heap.size, 1, none⟩ = some (.int .i64 a1) from (bkc HG2.out 1).trans rfl)
  have q2 := (show w2.cell? ⟨w.heap.size, 2, none⟩ = some (.int .i64 a2) from (bkc HG2.out 2).trans rfl)
  have q3 := (show w2.cell? ⟨w.heap.size, 3, none⟩ = some (.int .i64 a3) from (bkc HG2.out 3).trans rfl)
  have q4 := (show w2.cell? ⟨w.heap.size, 4, none⟩ = some (.int .i64 a4) from (bkc HG2.out 4).trans rfl)
  have q5 := (show w2.cell? ⟨w.heap.size, 5, none⟩ = some (.slice An2 nm.length cn2) from (bkc HG2.out 5).trans rfl)
  have q6 := (show w2.cell? ⟨w.heap.size, 6, none⟩ = some (.slice Aw2 wk.length cw2) from (bkc HG2.out 6).trans rfl)
  have f0 := bkf R2.out 0
  have f1 := bkf R2.out 1
  have f2 := bkf R2.out 2
  have f3 := bkf R2.out 3
  have f4 := bkf R2.out 4
  have f5 := bkf R2.out 5
  have f6 := bkf R2.out 6
  have r0 := (show w2.cell? ⟨w.heap.size + 1, 0, none⟩ = some (.int .i64 0) from (bkc R2.out 0).trans rfl)
  have r1 := (show w2.cell? ⟨w.heap.size + 1, 1, none⟩ = some (.int .i64 0) from (bkc R2.out 1).trans rfl)
  have r2 := (show w2.cell? ⟨w.heap.size + 1, 2, none⟩ = some (.int .i64 0) from (bkc R2.out 2).trans rfl)
  have r3 := (show w2.cell? ⟨w.heap.size + 1, 3, none⟩ = some (.int .i64 0) from (bkc R2.out 3).trans rfl)
  have r4 := (show w2.cell? ⟨w.heap.size + 1, 4, none⟩ = some (.int .i64 0) from (bkc R2.out 4).trans rfl)
  have r5 := (show w2.cell? ⟨w.heap.size + 1, 5, none⟩ = some (.slice none 0 0) from (bkc R2.out 5).trans rfl)
  have r6 := (show w2.cell? ⟨w.heap.size + 1, 6, none⟩ = some (.slice none 0 0) from (bkc R2.out 6).trans rfl)
  cases ok
  ·
   go_wp2_with fail
   have RR := As0.mk (confPut.at_ R2.out a0 a1 a2 a3 a4 (.slice An2 nm.length cn2) (.slice Aw2 wk.length cw2))
   show bodyPost _ _ _ _ _ (confPut w2 (w.heap.size + 1) a0 a1 a2 a3 a4 (.slice An2 nm.length cn2) (.slice Aw2 wk.length cw2))
   obtain ⟨W9, hW9⟩ : ∃ W9, W9 = (confPut w2 (w.heap.size + 1) a0 a1 a2 a3 a4 (.slice An2 nm.length cn2) (.slice Aw2 wk.length cw2)) := ⟨_, rfl⟩
   rw [← hW9] at RR ⊢
   have s0 := (show W9.cell? ⟨w.heap.size + 1, 0, none⟩ = some (.int .i64 a0) from (bkc RR.out 0).trans rfl)
   have s1 := (show W9.cell? ⟨w.heap.size + 1, 1, none⟩ = some (.int .i64 a1) from (bkc RR.out 1).trans rfl)
   have s2 := (show W9.cell? ⟨w.heap.size + 1, 2, none⟩ = some (.int .i64 a2) from (bkc RR.out 2).trans rfl)
   have s3 := (show W9.cell? ⟨w.heap.size + 1, 3, none⟩ = some (.int .i64 a3) from (bkc RR.out 3).trans rfl)
   have s4 := (show W9.cell? ⟨w.heap.size + 1, 4, none⟩ = some (.int .i64 a4) from (bkc RR.out 4).trans rfl)
   have s5 := (show W9.cell? ⟨w.heap.size + 1, 5, none⟩ = some (.slice An2 nm.length cn2) from (bkc RR.out 5).trans rfl)
   have s6 := (show W9.cell? ⟨w.heap.size + 1, 6, none⟩ = some (.slice Aw2 wk.length cw2) from (bkc RR.out 6).trans rfl)
   refine bodyPost_ret (v := .tuple #[.agg (confCells a0 a1 a2 a3 a4 (.slice An2 nm.length cn2) (.slice Aw2 wk.length cw2)), .bool false]) (by simp [results, Tryz.results30, go_sem, s0, s1, s2, s3, s4, s5, s6, confCells]) rfl ⟨⟨_, _, rfl, ?_, HPW.out⟩, ?_, ?_⟩
   ·
    rw [hW9]; exact HCA2.out.far R2.out (confPut.near _ _ _ _ _ _ _ _)
   ·
    rw [hW9]; exact confPut.kept HK2.out (Nat.le_succ _) _ _ _ _ _ _ _
   ·
    rw [hW9]; exact confPut.below HB2.out (Nat.le_succ_of_le hBw) _ _ _ _ _ _ _
  ·
   have HN2 := As0.mk (show w.heap.size + 4 ≤ w2.heap.size from HZ2.out)
   go_wp2_with fail
   obtain ⟨W3, hW3⟩ : ∃ W3, W3 = ((w2.alloc (.cells #[.int .i64 a0, .int .i64 a1, .int .i64 a2, .int .i64 a3, .int .i64 a4, .slice An2 nm.length cn2, .slice (some ⟨w2.heap.size + 1, 0, none⟩) 1 1] 25)).alloc (.cells #[.int .i64 1, .int .i64 1, .int .u64 0] 41)) := ⟨_, rfl⟩
   have HB3 := As0.mk (show Below w2.heap.size w2 W3 by rw [hW3]; exact bla (bla (Below.refl _ _) _) _)
   have L3 := As0.mk (show W3.heap[w2.heap.size]? = some (.cells (confCells a0 a1 a2 a3 a4 (.slice An2 nm.length cn2) (.slice (some ⟨w2.heap.size + 1, 0, none⟩) 1 1)) 25 (0, 0)) by rw [hW3]; exact bka (blk_new w2 _) _)
   have X3 := As0.mk (show W3.heap[w2.heap.size + 1]? = some (.cells #[.int .i64 1, .int .i64 1, .int .u64 0] 41 (0, 0)) by
    rw [hW3]
    have := blk_new (w2.alloc (.cells #[.int .i64 a0, .int .i64 a1, .int .i64 a2, .int .i64 a3, .int .i64 a4, .slice An2 nm.length cn2, .slice (some ⟨w2.heap.size + 1, 0, none⟩) 1 1] 25)) (.cells #[.int .i64 1, .int .i64 1, .int .u64 0] 41)
    rw [show (w2.alloc (.cells #[.int .i64 a0, .int .i64 a1, .int .i64 a2, .int .i64 a3, .int .i64 a4, .slice An2 nm.length cn2, .slice (some ⟨w2.heap.size + 1, 0, none⟩) 1 1] 25)).heap.size = w2.heap.size + 1 by simp] at this
    exact this)
   have R3 := As0.mk (blk_below R2.out HB3.out)
   have CA3 := As0.mk (HCA2.out.below HB3.out)
   have K3 := As0.mk (HK2.out.below HB3.out)
   have B3 := As0.mk (Below.trans HB2.out (HB3.out.mono (Nat.le_trans hBw (Nat.le_trans (Nat.le_add_right _ 4) HN2.out))))
   have HC3 := As0.mk (fun (W : World) (hW : Below W3.heap.size W3 W) => show Calls Tryz.prog 7 #[.agg #[.int .i64 a0, .int .i64 a1, .int .i64 a2, .int .i64 a3, .int .i64 a4, .slice An2 nm.length cn2, .slice (some ⟨w2.heap.size + 1, 0, none⟩) 1 1]] W (fun e w_ => e = .returned (.int .i64 e2) ∧ Below W.heap.size W w_) from conf_Check.calls k a0 a1 a2 a3 a4 An2 cn2 nm (some ⟨w2.heap.size + 1, 0, none⟩) 1 [⟨1, 1, 0⟩] e2 W (Kd.C_below (Kd.R_reads' CA3.out.names).2.2 hW) (Kd.R_reads' CA3.out.names).2.1 (Kd.C_below (one_wk X3.out) hW) (Nat.le_refl _) (by first | exact HCH.out rfl | exact HCH.out trivial | exact HCH.out))
   have c0_ := (show W3.cell? ⟨w.heap.size, 0, none⟩ = some (.int .i64 a0) from pw_cell_below HB3.out q0)
   have c1_ := (show W3.cell? ⟨w.heap.size, 1, none⟩ = some (.int .i64 a1) from pw_cell_below HB3.out q1)
   have c2_ := (show W3.cell? ⟨w.heap.size, 2, none⟩ = some (.int .i64 a2) from pw_cell_below HB3.out q2)
   have c3_ := (show W3.cell? ⟨w.heap.size, 3, none⟩ = some (.int .i64 a3) from pw_cell_below HB3.out q3)
   have c4_ := (show W3.cell? ⟨w.heap.size, 4, none⟩ = some (.int .i64 a4) from pw_cell_below HB3.out q4)
   have c5_ := (show W3.cell? ⟨w.heap.size, 5, none⟩ = some (.slice An2 nm.length cn2) from pw_cell_below HB3.out q5)
   have c6_ := (show W3.cell? ⟨w.heap.size, 6, none⟩ = some (.slice Aw2 wk.length cw2) from pw_cell_below HB3.out q6)
   have l0 := (show W3.cell? ⟨w2.heap.size, 0, none⟩ = some (.int .i64 a0) from (bkc L3.out 0).trans rfl)
   have l1 := (show W3.cell? ⟨w2.heap.size, 1, none⟩ = some (.int .i64 a1) from (bkc L3.out 1).trans rfl)
   have l2 := (show W3.cell? ⟨w2.heap.size, 2, none⟩ = some (.int .i64 a2) from (bkc L3.out 2).trans rfl)
   have l3 := (show W3.cell? ⟨w2.heap.size, 3, none⟩ = some (.int .i64 a3) from (bkc L3.out 3).trans rfl)
   have l4 := (show W3.cell? ⟨w2.heap.size, 4, none⟩ = some (.int .i64 a4) from (bkc L3.out 4).trans rfl)
   have l5 := (show W3.cell? ⟨w2.heap.size, 5, none⟩ = some (.slice An2 nm.length cn2) from (bkc L3.out 5).trans rfl)
   have l6 := (show W3.cell? ⟨w2.heap.size, 6, none⟩ = some (.slice (some ⟨w2.heap.size + 1, 0, none⟩) 1 1) from (bkc L3.out 6).trans rfl)
   have g0 := (show W3.cell? ⟨w.heap.size + 1, 0, none⟩ = some (.int .i64 0) from (bkc R3.out 0).trans rfl)
   have g1 := (show W3.cell? ⟨w.heap.size + 1, 1, none⟩ = some (.int .i64 0) from (bkc R3.out 1).trans rfl)
   have g2 := (show W3.cell? ⟨w.heap.size + 1, 2, none⟩ = some (.int .i64 0) from (bkc R3.out 2).trans rfl)
   have g3 := (show W3.cell? ⟨w.heap.size + 1, 3, none⟩ = some (.int .i64 0) from (bkc R3.out 3).trans rfl)
   have g4 := (show W3.cell? ⟨w.heap.size + 1, 4, none⟩ = some (.int .i64 0) from (bkc R3.out 4).trans rfl)
   have g5 := (show W3.cell? ⟨w.heap.size + 1, 5, none⟩ = some (.slice none 0 0) from (bkc R3.out 5).trans rfl)
   have g6 := (show W3.cell? ⟨w.heap.size + 1, 6, none⟩ = some (.slice none 0 0) from (bkc R3.out 6).trans rfl)
   have u0 := bkf R3.out 0
   have u1 := bkf R3.out 1
   have u2 := bkf R3.out 2
   have u3 := bkf R3.out 3
   have u4 := bkf R3.out 4
   have u5 := bkf R3.out 5
   have u6 := bkf R3.out 6
   obtain ⟨gl, hgl⟩ : ∃ gl, gl = w2.heap.size := ⟨_, rfl⟩
   have hne : ¬ gl = w.heap.size + 1 := by have := HN2.out; omega
   have hne2 : ¬ w.heap.size + 1 = gl := fun e => hne e.symm
   rw [← hW3]
   clear hW3 q0 f0 r0 q1 f1 r1 q2 f2 r2 q3 f3 r3 q4 f4 r4 q5 f5 r5 q6 f6 r6
   rw [← hgl] at l0 l1 l2 l3 l4 l5 l6 HC3 ⊢
   have HGL := As0.mk hgl
   clear hgl
   go_region_held3 (fun w' => w'.cell? ⟨w.heap.size, 0, none⟩ = some (.int .i64 a0) ∧ w'.cell? ⟨w.heap.size, 1, none⟩ = some (.int .i64 a1) ∧ w'.cell? ⟨w.heap.size, 2, none⟩ = some (.int .i64 a2) ∧ w'.cell? ⟨w.heap.size, 3, none⟩ = some (.int .i64 a3) ∧ w'.cell? ⟨w.heap.size, 4, none⟩ = some (.int .i64 a4) ∧ w'.cell? ⟨w.heap.size, 5, none⟩ = some (.slice An2 nm.length cn2) ∧ w'.cell? ⟨w.heap.size, 6, none⟩ = some (.slice Aw2 wk.length cw2) ∧ w'.cell? ⟨gl, 0, none⟩ = some (.int .i64 a0) ∧ w'.cell? ⟨gl, 1, none⟩ = some (.int .i64 a1) ∧ w'.cell? ⟨gl, 2, none⟩ = some (.int .i64 a2) ∧ w'.cell? ⟨gl, 3, none⟩ = some (.int .i64 a3) ∧ w'.cell? ⟨gl, 4, none⟩ = some (.int .i64 a4) ∧ w'.cell? ⟨gl, 5, none⟩ = some (.slice An2 nm.length cn2) ∧ w'.cell? ⟨gl, 6, none⟩ = some (.slice (some ⟨gl + 1, 0, none⟩) 1 1)) (go_keep) ((go_at_call 7; go_must ((with_reducible refine (HC3.out _ (by exact below_drew (Below.refl _ _))).mono ?_); rintro e w4 ⟨rfl, hb4⟩; have HB4 := As0.mk (show Below W3.heap.size W3 w4 from below_then (below_drew (Below.refl W3.heap.size W3)) (Nat.le_refl _) hb4); have x0 := (show w4.cell? ⟨w.heap.size, 0, none⟩ = some (.int .i64 a0) from pw_cell_below HB4.out c0_); have z0 := (show w4.cell? ⟨gl, 0, none⟩ = some (.int .i64 a0) from pw_cell_below HB4.out l0); have x1 := (show w4.cell? ⟨w.heap.size, 1, none⟩ = some (.int .i64 a1) from pw_cell_below HB4.out c1_); have z1 := (show w4.cell? ⟨gl, 1, none⟩ = some (.int .i64 a1) from pw_cell_below HB4.out l1); have x2 := (show w4.cell? ⟨w.heap.size, 2, none⟩ = some (.int .i64 a2) from pw_cell_below HB4.out c2_); have z2 := (show w4.cell? ⟨gl, 2, none⟩ = some (.int .i64 a2) from pw_cell_below HB4.out l2); have x3 := (show w4.cell? ⟨w.heap.size, 3, none⟩ = some (.int .i64 a3) from pw_cell_below HB4.out c3_); have z3 := (show w4.cell? ⟨gl, 3, none⟩ = some (.int .i64 a3) from pw_cell_below HB4.out l3); have x4 := (show w4.cell? ⟨w.heap.size, 4, none⟩ = some (.int .i64 a4) from pw_cell_below HB4.out c4_); have z4 := (show w4.cell? ⟨gl, 4, none⟩ = some (.int .i64 a4) from pw_cell_below HB4.out l4); have x5 := (show w4.cell? ⟨w.heap.size, 5, none⟩ = some (.slice An2 nm.length cn2) from pw_cell_below HB4.out c5_); have z5 := (show w4.cell? ⟨gl, 5, none⟩ = some (.slice An2 nm.length cn2) from pw_cell_below HB4.out l5); have x6 := (show w4.cell? ⟨w.heap.size, 6, none⟩ = some (.slice Aw2 wk.length cw2) from pw_cell_below HB4.out c6_); have z6 := (show w4.cell? ⟨gl, 6, none⟩ = some (.slice (some ⟨gl + 1, 0, none⟩) 1 1) from pw_cell_below HB4.out l6); have y0 := (show w4.cell? ⟨w.heap.size + 1, 0, none⟩ = some (.int .i64 0) from pw_cell_below HB4.out g0); have y1 := (show w4.cell? ⟨w.heap.size + 1, 1, none⟩ = some (.int .i64 0) from pw_cell_below HB4.out g1); have y2 := (show w4.cell? ⟨w.heap.size + 1, 2, none⟩ = some (.int .i64 0) from pw_cell_below HB4.out g2); have y3 := (show w4.cell? ⟨w.heap.size + 1, 3, none⟩ = some (.int .i64 0) from pw_cell_below HB4.out g3); have y4 := (show w4.cell? ⟨w.heap.size + 1, 4, none⟩ = some (.int .i64 0) from pw_cell_below HB4.out g4); have y5 := (show w4.cell? ⟨w.heap.size + 1, 5, none⟩ = some (.slice none 0 0) from pw_cell_below HB4.out g5); have y6 := (show w4.cell? ⟨w.heap.size + 1, 6, none⟩ = some (.slice none 0 0) from pw_cell_below HB4.out g6); have R4 := As0.mk (blk_below R3.out HB4.out); have v0 := bkf R4.out 0; have v1 := bkf R4.out 1; have v2 := bkf R4.out 2; have v3 := bkf R4.out 3; have v4 := bkf R4.out 4; have v5 := bkf R4.out 5; have v6 := bkf R4.out 6; clear hb4)))
   all_goals
    have RR := As0.mk (confPut.at_ R4.out a0 a1 a2 a3 a4 (.slice An2 nm.length cn2) (.slice Aw2 wk.length cw2))
    have CA4 := As0.mk (CA3.out.below HB4.out)
    have K4 := As0.mk (Kept.below K3.out HB4.out)
    have B4 := As0.mk (Below.trans B3.out (HB4.out.mono (Nat.le_trans hBw (Nat.le_trans (Nat.le_add_right _ 4) (Nat.le_trans HN2.out HB3.out.size)))))
    go_wp2_with fail
    show bodyPost _ _ _ _ _ (confPut w4 (w.heap.size + 1) a0 a1 a2 a3 a4 (.slice An2 nm.length cn2) (.slice Aw2 wk.length cw2))
    obtain ⟨W9, hW9⟩ : ∃ W9, W9 = (confPut w4 (w.heap.size + 1) a0 a1 a2 a3 a4 (.slice An2 nm.length cn2) (.slice Aw2 wk.length cw2)) := ⟨_, rfl⟩
    rw [← hW9] at RR ⊢
    have s0 := (show W9.cell? ⟨w.heap.size + 1, 0, none⟩ = some (.int .i64 a0) from (bkc RR.out 0).trans rfl)
    have s1 := (show W9.cell? ⟨w.heap.size + 1, 1, none⟩ = some (.int .i64 a1) from (bkc RR.out 1).trans rfl)
    have s2 := (show W9.cell? ⟨w.heap.size + 1, 2, none⟩ = some (.int .i64 a2) from (bkc RR.out 2).trans rfl)
    have s3 := (show W9.cell? ⟨w.heap.size + 1, 3, none⟩ = some (.int .i64 a3) from (bkc RR.out 3).trans rfl)
    have s4 := (show W9.cell? ⟨w.heap.size + 1, 4, none⟩ = some (.int .i64 a4) from (bkc RR.out 4).trans rfl)
    have s5 := (show W9.cell? ⟨w.heap.size + 1, 5, none⟩ = some (.slice An2 nm.length cn2) from (bkc RR.out 5).trans rfl)
    have s6 := (show W9.cell? ⟨w.heap.size + 1, 6, none⟩ = some (.slice Aw2 wk.length cw2) from (bkc RR.out 6).trans rfl)
    refine bodyPost_ret (v := .tuple #[.agg (confCells a0 a1 a2 a3 a4 (.slice An2 nm.length cn2) (.slice Aw2 wk.length cw2)), .bool (e2 == 0)]) (by simp [results, Tryz.results30, go_sem, s0, s1, s2, s3, s4, s5, s6, confCells]) rfl ⟨⟨.slice An2 nm.length cn2, .slice Aw2 wk.length cw2, by simp, ?_, HPW.out⟩, ?_, ?_⟩
    ·
     rw [hW9]; exact CA4.out.far R4.out (confPut.near _ _ _ _ _ _ _ _)
    ·
     rw [hW9]; exact confPut.kept K4.out (Nat.le_succ _) _ _ _ _ _ _ _
    ·
     rw [hW9]; exact confPut.below B4.out (Nat.le_succ_of_le hBw) _ _ _ _ _ _ _
set_option maxHeartbeats 6400000 in
set_option maxRecDepth 100000 in
theorem conf_taken.way2 (P : Value → Prop) (B : Nat) (ok : Bool) (c0 c1 c2 c3 c4 : Int) (nm0 : List ByteArray) (wk0 : List Wk) (nmv wkv : Value) (a0 a1 a2 a3 a4 : Int) (nm : List ByteArray) (wk : List Wk) (s : ByteArray) (w : World) (at_ : Int) (hat : 2 ≤ at_) (hL : Laid w) (hBw : B ≤ w.heap.size) (hs : s.size < 4294967281)
  (hca : ConfAt B w nm0 wk0 nmv wkv) (hp : PartOf P 46 B w.heap.size (Lib.countB s ⟨#[32]⟩ + 1) ok c0 c1 c2 c3 c4 nm0 wk0 nmv wkv a0 a1 a2 a3 a4 nm wk s) (k : Nat) (e2 : Int)
  (hch : ok = true → conf_Check.f k a0 a1 a2 a3 a4 nm wk = some e2) :
  Calls Tryz.prog 30 #[.agg #[.int .i64 c0, .int .i64 c1, .int .i64 c2, .int .i64 c3, .int .i64 c4, nmv, wkv], .int .i64 at_, .string s] w (TakenDone P B (ok && e2 == 0) a0 a1 a2 a3 a4 nm wk wkv w) := by
 have hmin : (if (2 : Int) < at_ then (2 : Int) else at_) = 2 := by split <;> omega
 have hn0 : ¬ at_ = 0 := by omega
 have hn2 : ¬ at_ < 2 := by omega
 obtain ⟨mx, hmx⟩ := hL.maxlen
 have HSP := As0.mk (fun (W : World) (hW : W.cell? ⟨0, 0, none⟩ = some (.int .i64 mx)) => Tryz.strings_Split s ⟨#[32]⟩ mx W hs hW (by decide))
 obtain ⟨cnt, hcnt⟩ : ∃ cnt, cnt = Lib.countB s ⟨#[32]⟩ := ⟨_, rfl⟩
 rw [← hcnt] at HSP hp
 obtain ⟨An, cn, rfl⟩ := Kd.R_slice hca.names
 obtain ⟨Aw, cw, rfl⟩ := Kd.R_slice hca.workers
 unfold PartOf at hp
 have HP := As0.mk hp
 have HCH := As0.mk hch
 have HL := As0.mk hL
 have HCA := As0.mk hca
 have HMX := As0.mk hmx
 have HCN := As0.mk hcnt
 clear hp hch hL hca hmx hcnt
 go_enter Tryz.func30, Tryz.ntmps30
 go_wp2_with fail
 obtain ⟨W0, hW0⟩ : ∃ W0, W0 = ((w.alloc (.cells #[.int .i64 c0, .int .i64 c1, .int .i64 c2, .int .i64 c3, .int .i64 c4, .slice An nm0.length cn, .slice Aw wk0.length cw] 25)).alloc (.cells #[.int .i64 0, .int .i64 0, .int .i64 0, .int .i64 0, .int .i64 0, .slice none 0 0, .slice none 0 0] 25)).alloc (.cells #[.func (.func 44) #[] #[], .func (.func 45) #[] #[], .func (.func 46) #[] #[]] 60) := ⟨_, rfl⟩
 have hZ0 : W0.heap.size = w.heap.size + 3 := by rw [hW0]; simp
 have HB0 := As0.mk (show Below w.heap.size w W0 by rw [hW0]; exact bla (bla (bla (Below.refl _ _) _) _) _)
 have G0 := As0.mk (show W0.heap[w.heap.size]? = some (.cells (confCells c0 c1 c2 c3 c4 (.slice An nm0.length cn) (.slice Aw wk0.length cw)) 25 (0, 0)) by rw [hW0]; exact bka (bka (blk_new w _) _) _)
 have R0 := As0.mk (show W0.heap[w.heap.size + 1]? = some (.cells (confCells 0 0 0 0 0 (.slice none 0 0) (.slice none 0 0)) 25 (0, 0)) by
  rw [hW0]
  have := blk_new (w.alloc (.cells #[.int .i64 c0, .int .i64 c1, .int .i64 c2, .int .i64 c3, .int .i64 c4, .slice An nm0.length cn, .slice Aw wk0.length cw] 25)) (.cells (confCells 0 0 0 0 0 (.slice none 0 0) (.slice none 0 0)) 25)
  rw [show (w.alloc (.cells #[.int .i64 c0, .int .i64 c1, .int .i64 c2, .int .i64 c3, .int .i64 c4, .slice An nm0.length cn, .slice Aw wk0.length cw] 25)).heap.size = w.heap.size + 1 by simp] at this
  exact bka this _)
 have P0 : W0.cell? ⟨w.heap.size + 1 + 1, 2, none⟩ = some (.func (.func 46) #[] #[]) := by
  rw [hW0, World.cell?_alloc_at _ _ _ _ (by simp)]; rfl
 have MX0 := As0.mk (pw_cell_below HB0.out HMX.out)
 have HNB := As0.mk (show ∀ k, (Value.slice An nm0.length cn).ownBlock = some k → k ≠ w.heap.size + 3 from fun k hk e => by have := Kd.R_lt HCA.out.names k hk; omega)
 have HNP := As0.mk (show ¬ (w.heap.size + 1 + 1 = w.heap.size ∨ some (w.heap.size + 1 + 1) = (Value.slice Aw wk0.length cw).ownBlock) from fun h => by
  rcases h with h | h
  ·
   omega
  ·
   have := Kd.R_lt HCA.out.workers _ h.symm; omega)
 have HNR := As0.mk (show ¬ (w.heap.size + 1 = w.heap.size ∨ some (w.heap.size + 1) = (Value.slice Aw wk0.length cw).ownBlock) from fun h => by
  rcases h with h | h
  ·
   omega
  ·
   have := Kd.R_lt HCA.out.workers _ h.symm; omega)
 rw [← hW0]
 clear hW0
 have MX0d := As0.mk (show W0.drew.cell? ⟨0, 0, none⟩ = some (.int .i64 mx) from MX0.out)
 go_region_held3 (fun w' => w'.cell? ⟨w.heap.size + 1 + 1, 2, none⟩ = some (.func (.func 46) #[] #[])) (first | go_keep | (exact P1.out) | (exact PK.out)) (first | (go_at_call 47; go_must ((with_reducible refine (HSP.out _ MX0d.out).mono ?_); rintro e W1 ⟨rfl, hW1⟩; have HB1 := As0.mk (show Below w.heap.size w W1 by rw [hW1]; exact bla (below_drew HB0.out) _); have G1 := As0.mk (show W1.heap[w.heap.size]? = some (.cells (confCells c0 c1 c2 c3 c4 (.slice An nm0.length cn) (.slice Aw wk0.length cw)) 25 (0, 0)) by rw [hW1]; exact bka (bkd G0.out) _); have R1 := As0.mk (show W1.heap[w.heap.size + 1]? = some (.cells (confCells 0 0 0 0 0 (.slice none 0 0) (.slice none 0 0)) 25 (0, 0)) by rw [hW1]; exact bka (bkd R0.out) _); have P1 := As0.mk (show W1.cell? ⟨w.heap.size + 1 + 1, 2, none⟩ = some (.func (.func 46) #[] #[]) by rw [hW1]; exact pw_cell_below (w := W0) (bla (below_drew (Below.refl _ _)) _) P0); have Q1 := As0.mk (show W1.heap[w.heap.size + 3]? = some (.cells ((confWords s).map Value.string).toArray 9 (0, 0)) by rw [hW1, HCN.out, ← hZ0]; exact blk_new W0.drew _); have HL1 := As0.mk (HL.out.below HB1.out); have HCA1 := As0.mk (HCA.out.below HB1.out); have HBS1 := As0.mk (Nat.le_trans hBw HB1.out.size); clear hW1)) | (go_at_call 46; go_must ((with_reducible refine (HP.out _ (w.heap.size + 3) HL1.out HBS1.out G1.out HCA1.out Q1.out HNB.out).mono ?_); rintro e w2 ⟨rfl, ⟨nmv2, wkv2, hg2, hca2, hP2⟩, hk2, hb2⟩; obtain ⟨An2, cn2, rfl⟩ := Kd.R_slice hca2.names; obtain ⟨Aw2, cw2, rfl⟩ := Kd.R_slice hca2.workers; have HG2 := As0.mk hg2; have HPW := As0.mk hP2; have HCA2 := As0.mk hca2; have HK2 := As0.mk (Kept.then_ (S := fun k => some k = (Value.slice Aw wk0.length cw).ownBlock) (Kept.of_below HB1.out _) hk2 (fun k hk => hk.elim (fun e => .inr (Nat.le_of_eq e.symm)) .inl)); have HB2 := As0.mk (Below.trans (HB1.out.mono hBw) hb2); have HZ2 := As0.mk (Nat.le_trans (show w.heap.size + 4 ≤ W1.heap.size by have := blk_lt Q1.out; omega) hb2.size); have R2 := As0.mk (cells_kept R1.out hk2 HNR.out); have PK := As0.mk (show w2.cell? ⟨w.heap.size + 1 + 1, 2, none⟩ = some (.func (.func 46) #[] #[]) from cell_kept P1.out hk2 HNP.out); clear hg2 hca2 hk2 hb2 hP2)))
 all_goals
  have q0 := (show w2.cell? ⟨w.heap.size, 0, none⟩ = some (.int .i64 a0) from (bkc HG2.out 0).trans rfl)
  have q1 := (show w2.cell? ⟨w.heap.size, 1, none⟩ = some (.int .i64 a1) from (bkc HG2.out 1).trans rfl)
  have q2 := (show w2.cell? ⟨w.heap.size, 2, none⟩ = some (.int .i64 a2) from (bkc HG2.out 2).trans rfl)
  have q3 := (show w2.cell? ⟨w.heap.size, 3, none⟩ = some (.int .i64 a3) from (bkc HG2.out 3).trans rfl)
  have q4 := (show w2.cell? ⟨w.heap.size, 4, none⟩ = some (.int .i64 a4) from (bkc HG2.out 4).trans rfl)
  have q5 := (show w2.cell? ⟨w.heap.size, 5, none⟩ = some (.slice An2 nm.length cn2) from (bkc HG2.out 5).trans rfl)
  have q6 := (show w2.cell? ⟨w.heap.size, 6, none⟩ = some (.slice Aw2 wk.length cw2) from (bkc HG2.out 6).trans rfl)
  have f0 := bkf R2.out 0
  have f1 := bkf R2.out 1
  have f2 := bkf R2.out 2
  have f3 := bkf R2.out 3
  have f4 := bkf R2.out 4
  have f5 := bkf R2.out 5
  have f6 := bkf R2.out 6
  have r0 := (show w2.cell? ⟨w.heap.size + 1, 0, none⟩ = some (.int .i64 0) from (bkc R2.out 0).trans rfl)
  have r1 := (show w2.cell? ⟨w.heap.size + 1, 1, none⟩ = some (.int .i64 0) from (bkc R2.out 1).trans rfl)
  have r2 := (show w2.cell? ⟨w.heap.size + 1, 2, none⟩ = some (.int .i64 0) from (bkc R2.out 2).trans rfl)
  have r3 := (show w2.cell? ⟨w.heap.size + 1, 3, none⟩ = some (.int .i64 0) from (bkc R2.out 3).trans rfl)
  have r4 := (show w2.cell? ⟨w.heap.size + 1, 4, none⟩ = some (.int .i64 0) from (bkc R2.out 4).trans rfl)
  have r5 := (show w2.cell? ⟨w.heap.size + 1, 5, none⟩ = some (.slice none 0 0) from (bkc R2.out 5).trans rfl)
  have r6 := (show w2.cell? ⟨w.heap.size + 1, 6, none⟩ = some (.slice none 0 0) from (bkc R2.out 6).trans rfl)
  cases ok
  ·
   go_wp2_with fail
   have RR := As0.mk (confPut.at_ R2.out a0 a1 a2 a3 a4 (.slice An2 nm.length cn2) (.slice Aw2 wk.length cw2))
   show bodyPost _ _ _ _ _ (confPut w2 (w.heap.size + 1) a0 a1 a2 a3 a4 (.slice An2 nm.length cn2) (.slice Aw2 wk.length cw2))
   obtain ⟨W9, hW9⟩ : ∃ W9, W9 = (confPut w2 (w.heap.size + 1) a0 a1 a2 a3 a4 (.slice An2 nm.length cn2) (.slice Aw2 wk.length cw2)) := ⟨_, rfl⟩
   rw [← hW9] at RR ⊢
   have s0 := (show W9.cell? ⟨w.heap.size + 1, 0, none⟩ = some (.int .i64 a0) from (bkc RR.out 0).trans rfl)
   have s1 := (show W9.cell? ⟨w.heap.size + 1, 1, none⟩ = some (.int .i64 a1) from (bkc RR.out 1).trans rfl)
   have s2 := (show W9.cell? ⟨w.heap.size + 1, 2, none⟩ = some (.int .i64 a2) from (bkc RR.out 2).trans rfl)
   have s3 := (show W9.cell? ⟨w.heap.size + 1, 3, none⟩ = some (.int .i64 a3) from (bkc RR.out 3).trans rfl)
   have s4 := (show W9.cell? ⟨w.heap.size + 1, 4, none⟩ = some (.int .i64 a4) from (bkc RR.out 4).trans rfl)
   have s5 := (show W9.cell? ⟨w.heap.size + 1, 5, none⟩ = some (.slice An2 nm.length cn2) from (bkc RR.out 5).trans rfl)
   have s6 := (show W9.cell? ⟨w.heap.size + 1, 6, none⟩ = some (.slice Aw2 wk.length cw2) from (bkc RR.out 6).trans rfl)
   refine bodyPost_ret (v := .tuple #[.agg (confCells a0 a1 a2 a3 a4 (.slice An2 nm.length cn2) (.slice Aw2 wk.length cw2)), .bool false]) (by simp [results, Tryz.results30, go_sem, s0, s1, s2, s3, s4, s5, s6, confCells]) rfl ⟨⟨_, _, rfl, ?_, HPW.out⟩, ?_, ?_⟩
   ·
    rw [hW9]; exact HCA2.out.far R2.out (confPut.near _ _ _ _ _ _ _ _)
   ·
    rw [hW9]; exact confPut.kept HK2.out (Nat.le_succ _) _ _ _ _ _ _ _
   ·
    rw [hW9]; exact confPut.below HB2.out (Nat.le_succ_of_le hBw) _ _ _ _ _ _ _
  ·
   have HN2 := As0.mk (show w.heap.size + 4 ≤ w2.heap.size from HZ2.out)
   go_wp2_with fail
   obtain ⟨W3, hW3⟩ : ∃ W3, W3 = (w2.alloc (.cells #[.int .i64 a0, .int .i64 a1, .int .i64 a2, .int .i64 a3, .int .i64 a4, .slice An2 nm.length cn2, .slice Aw2 wk.length cw2] 25)) := ⟨_, rfl⟩
   have HB3 := As0.mk (show Below w2.heap.size w2 W3 by rw [hW3]; exact bla (Below.refl _ _) _)
   have L3 := As0.mk (show W3.heap[w2.heap.size]? = some (.cells (confCells a0 a1 a2 a3 a4 (.slice An2 nm.length cn2) (.slice Aw2 wk.length cw2)) 25 (0, 0)) by rw [hW3]; exact blk_new w2 _)
   have R3 := As0.mk (blk_below R2.out HB3.out)
   have CA3 := As0.mk (HCA2.out.below HB3.out)
   have K3 := As0.mk (HK2.out.below HB3.out)
   have B3 := As0.mk (Below.trans HB2.out (HB3.out.mono (Nat.le_trans hBw (Nat.le_trans (Nat.le_add_right _ 4) HN2.out))))
   have HC3 := As0.mk (fun (W : World) (hW : Below W3.heap.size W3 W) => show Calls Tryz.prog 7 #[.agg #[.int .i64 a0, .int .i64 a1, .int .i64 a2, .int .i64 a3, .int .i64 a4, .slice An2 nm.length cn2, .slice Aw2 wk.length cw2]] W (fun e w_ => e = .returned (.int .i64 e2) ∧ Below W.heap.size W w_) from conf_Check.calls k a0 a1 a2 a3 a4 An2 cn2 nm Aw2 cw2 wk e2 W (Kd.C_below (Kd.R_reads' CA3.out.names).2.2 hW) (Kd.R_reads' CA3.out.names).2.1 (Kd.C_below (Kd.R_reads' CA3.out.workers).2.2 hW) (Kd.R_reads' CA3.out.workers).2.1 (by first | exact HCH.out rfl | exact HCH.out trivial | exact HCH.out))
   have c0_ := (show W3.cell? ⟨w.heap.size, 0, none⟩ = some (.int .i64 a0) from pw_cell_below HB3.out q0)
   have c1_ := (show W3.cell? ⟨w.heap.size, 1, none⟩ = some (.int .i64 a1) from pw_cell_below HB3.out q1)
   have c2_ := (show W3.cell? ⟨w.heap.size, 2, none⟩ = some (.int .i64 a2) from pw_cell_below HB3.out q2)
   have c3_ := (show W3.cell? ⟨w.heap.size, 3, none⟩ = some (.int .i64 a3) from pw_cell_below HB3.out q3)
   have c4_ := (show W3.cell? ⟨w.heap.size, 4, none⟩ = some (.int .i64 a4) from pw_cell_below HB3.out q4)
   have c5_ := (show W3.cell? ⟨w.heap.size, 5, none⟩ = some (.slice An2 nm.length cn2) from pw_cell_below HB3.out q5)
   have c6_ := (show W3.cell? ⟨w.heap.size, 6, none⟩ = some (.slice Aw2 wk.length cw2) from pw_cell_below HB3.out q6)
   have l0 := (show W3.cell? ⟨w2.heap.size, 0, none⟩ = some (.int .i64 a0) from (bkc L3.out 0).trans rfl)
   have l1 := (show W3.cell? ⟨w2.heap.size, 1, none⟩ = some (.int .i64 a1) from (bkc L3.out 1).trans rfl)
   have l2 := (show W3.cell? ⟨w2.heap.size, 2, none⟩ = some (.int .i64 a2) from (bkc L3.out 2).trans rfl)
   have l3 := (show W3.cell? ⟨w2.heap.size, 3, none⟩ = some (.int .i64 a3) from (bkc L3.out 3).trans rfl)
   have l4 := (show W3.cell? ⟨w2.heap.size, 4, none⟩ = some (.int .i64 a4) from (bkc L3.out 4).trans rfl)
   have l5 := (show W3.cell? ⟨w2.heap.size, 5, none⟩ = some (.slice An2 nm.length cn2) from (bkc L3.out 5).trans rfl)
   have l6 := (show W3.cell? ⟨w2.heap.size, 6, none⟩ = some (.slice Aw2 wk.length cw2) from (bkc L3.out 6).trans rfl)
   have g0 := (show W3.cell? ⟨w.heap.size + 1, 0, none⟩ = some (.int .i64 0) from (bkc R3.out 0).trans rfl)
   have g1 := (show W3.cell? ⟨w.heap.size + 1, 1, none⟩ = some (.int .i64 0) from (bkc R3.out 1).trans rfl)
   have g2 := (show W3.cell? ⟨w.heap.size + 1, 2, none⟩ = some (.int .i64 0) from (bkc R3.out 2).trans rfl)
   have g3 := (show W3.cell? ⟨w.heap.size + 1, 3, none⟩ = some (.int .i64 0) from (bkc R3.out 3).trans rfl)
   have g4 := (show W3.cell? ⟨w.heap.size + 1, 4, none⟩ = some (.int .i64 0) from (bkc R3.out 4).trans rfl)
   have g5 := (show W3.cell? ⟨w.heap.size + 1, 5, none⟩ = some (.slice none 0 0) from (bkc R3.out 5).trans rfl)
   have g6 := (show W3.cell? ⟨w.heap.size + 1, 6, none⟩ = some (.slice none 0 0) from (bkc R3.out 6).trans rfl)
   have u0 := bkf R3.out 0
   have u1 := bkf R3.out 1
   have u2 := bkf R3.out 2
   have u3 := bkf R3.out 3
   have u4 := bkf R3.out 4
   have u5 := bkf R3.out 5
   have u6 := bkf R3.out 6
   obtain ⟨gl, hgl⟩ : ∃ gl, gl = w2.heap.size := ⟨_, rfl⟩
   have hne : ¬ gl = w.heap.size + 1 := by have := HN2.out; omega
   have hne2 : ¬ w.heap.size + 1 = gl := fun e => hne e.symm
   rw [← hW3]
   clear hW3 q0 f0 r0 q1 f1 r1 q2 f2 r2 q3 f3 r3 q4 f4 r4 q5 f5 r5 q6 f6 r6
   rw [← hgl] at l0 l1 l2 l3 l4 l5 l6 ⊢
   have HGL := As0.mk hgl
   clear hgl
   go_region_held3 (fun w' => w'.cell? ⟨w.heap.size, 0, none⟩ = some (.int .i64 a0) ∧ w'.cell? ⟨w.heap.size, 1, none⟩ = some (.int .i64 a1) ∧ w'.cell? ⟨w.heap.size, 2, none⟩ = some (.int .i64 a2) ∧ w'.cell? ⟨w.heap.size, 3, none⟩ = some (.int .i64 a3) ∧ w'.cell? ⟨w.heap.size, 4, none⟩ = some (.int .i64 a4) ∧ w'.cell? ⟨w.heap.size, 5, none⟩ = some (.slice An2 nm.length cn2) ∧ w'.cell? ⟨w.heap.size, 6, none⟩ = some (.slice Aw2 wk.length cw2) ∧ w'.cell? ⟨gl, 0, none⟩ = some (.int .i64 a0) ∧ w'.cell? ⟨gl, 1, none⟩ = some (.int .i64 a1) ∧ w'.cell? ⟨gl, 2, none⟩ = some (.int .i64 a2) ∧ w'.cell? ⟨gl, 3, none⟩ = some (.int .i64 a3) ∧ w'.cell? ⟨gl, 4, none⟩ = some (.int .i64 a4) ∧ w'.cell? ⟨gl, 5, none⟩ = some (.slice An2 nm.length cn2) ∧ w'.cell? ⟨gl, 6, none⟩ = some (.slice Aw2 wk.length cw2)) (go_keep) ((go_at_call 7; go_must ((with_reducible refine (HC3.out _ (by exact below_drew (Below.refl _ _))).mono ?_); rintro e w4 ⟨rfl, hb4⟩; have HB4 := As0.mk (show Below W3.heap.size W3 w4 from below_then (below_drew (Below.refl W3.heap.size W3)) (Nat.le_refl _) hb4); have x0 := (show w4.cell? ⟨w.heap.size, 0, none⟩ = some (.int .i64 a0) from pw_cell_below HB4.out c0_); have z0 := (show w4.cell? ⟨gl, 0, none⟩ = some (.int .i64 a0) from pw_cell_below HB4.out l0); have x1 := (show w4.cell? ⟨w.heap.size, 1, none⟩ = some (.int .i64 a1) from pw_cell_below HB4.out c1_); have z1 := (show w4.cell? ⟨gl, 1, none⟩ = some (.int .i64 a1) from pw_cell_below HB4.out l1); have x2 := (show w4.cell? ⟨w.heap.size, 2, none⟩ = some (.int .i64 a2) from pw_cell_below HB4.out c2_); have z2 := (show w4.cell? ⟨gl, 2, none⟩ = some (.int .i64 a2) from pw_cell_below HB4.out l2); have x3 := (show w4.cell? ⟨w.heap.size, 3, none⟩ = some (.int .i64 a3) from pw_cell_below HB4.out c3_); have z3 := (show w4.cell? ⟨gl, 3, none⟩ = some (.int .i64 a3) from pw_cell_below HB4.out l3); have x4 := (show w4.cell? ⟨w.heap.size, 4, none⟩ = some (.int .i64 a4) from pw_cell_below HB4.out c4_); have z4 := (show w4.cell? ⟨gl, 4, none⟩ = some (.int .i64 a4) from pw_cell_below HB4.out l4); have x5 := (show w4.cell? ⟨w.heap.size, 5, none⟩ = some (.slice An2 nm.length cn2) from pw_cell_below HB4.out c5_); have z5 := (show w4.cell? ⟨gl, 5, none⟩ = some (.slice An2 nm.length cn2) from pw_cell_below HB4.out l5); have x6 := (show w4.cell? ⟨w.heap.size, 6, none⟩ = some (.slice Aw2 wk.length cw2) from pw_cell_below HB4.out c6_); have z6 := (show w4.cell? ⟨gl, 6, none⟩ = some (.slice Aw2 wk.length cw2) from pw_cell_below HB4.out l6); have y0 := (show w4.cell? ⟨w.heap.size + 1, 0, none⟩ = some (.int .i64 0) from pw_cell_below HB4.out g0); have y1 := (show w4.cell? ⟨w.heap.size + 1, 1, none⟩ = some (.int .i64 0) from pw_cell_below HB4.out g1); have y2 := (show w4.cell? ⟨w.heap.size + 1, 2, none⟩ = some (.int .i64 0) from pw_cell_below HB4.out g2); have y3 := (show w4.cell? ⟨w.heap.size + 1, 3, none⟩ = some (.int .i64 0) from pw_cell_below HB4.out g3); have y4 := (show w4.cell? ⟨w.heap.size + 1, 4, none⟩ = some (.int .i64 0) from pw_cell_below HB4.out g4); have y5 := (show w4.cell? ⟨w.heap.size + 1, 5, none⟩ = some (.slice none 0 0) from pw_cell_below HB4.out g5); have y6 := (show w4.cell? ⟨w.heap.size + 1, 6, none⟩ = some (.slice none 0 0) from pw_cell_below HB4.out g6); have R4 := As0.mk (blk_below R3.out HB4.out); have v0 := bkf R4.out 0; have v1 := bkf R4.out 1; have v2 := bkf R4.out 2; have v3 := bkf R4.out 3; have v4 := bkf R4.out 4; have v5 := bkf R4.out 5; have v6 := bkf R4.out 6; clear hb4)))
   all_goals
    have RR := As0.mk (confPut.at_ R4.out a0 a1 a2 a3 a4 (.slice An2 nm.length cn2) (.slice Aw2 wk.length cw2))
    have CA4 := As0.mk (CA3.out.below HB4.out)
    have K4 := As0.mk (Kept.below K3.out HB4.out)
    have B4 := As0.mk (Below.trans B3.out (HB4.out.mono (Nat.le_trans hBw (Nat.le_trans (Nat.le_add_right _ 4) (Nat.le_trans HN2.out HB3.out.size)))))
    go_wp2_with fail
    show bodyPost _ _ _ _ _ (confPut w4 (w.heap.size + 1) a0 a1 a2 a3 a4 (.slice An2 nm.length cn2) (.slice Aw2 wk.length cw2))
    obtain ⟨W9, hW9⟩ : ∃ W9, W9 = (confPut w4 (w.heap.size + 1) a0 a1 a2 a3 a4 (.slice An2 nm.length cn2) (.slice Aw2 wk.length cw2)) := ⟨_, rfl⟩
    rw [← hW9] at RR ⊢
    have s0 := (show W9.cell? ⟨w.heap.size + 1, 0, none⟩ = some (.int .i64 a0) from (bkc RR.out 0).trans rfl)
    have s1 := (show W9.cell? ⟨w.heap.size + 1, 1, none⟩ = some (.int .i64 a1) from (bkc RR.out 1).trans rfl)
    have s2 := (show W9.cell? ⟨w.heap.size + 1, 2, none⟩ = some (.int .i64 a2) from (bkc RR.out 2).trans rfl)
    have s3 := (show W9.cell? ⟨w.heap.size + 1, 3, none⟩ = some (.int .i64 a3) from (bkc RR.out 3).trans rfl)
    have s4 := (show W9.cell? ⟨w.heap.size + 1, 4, none⟩ = some (.int .i64 a4) from (bkc RR.out 4).trans rfl)
    have s5 := (show W9.cell? ⟨w.heap.size + 1, 5, none⟩ = some (.slice An2 nm.length cn2) from (bkc RR.out 5).trans rfl)
    have s6 := (show W9.cell? ⟨w.heap.size + 1, 6, none⟩ = some (.slice Aw2 wk.length cw2) from (bkc RR.out 6).trans rfl)
    refine bodyPost_ret (v := .tuple #[.agg (confCells a0 a1 a2 a3 a4 (.slice An2 nm.length cn2) (.slice Aw2 wk.length cw2)), .bool (e2 == 0)]) (by simp [results, Tryz.results30, go_sem, s0, s1, s2, s3, s4, s5, s6, confCells]) rfl ⟨⟨.slice An2 nm.length cn2, .slice Aw2 wk.length cw2, by simp, ?_, HPW.out⟩, ?_, ?_⟩
    ·
     rw [hW9]; exact CA4.out.far R4.out (confPut.near _ _ _ _ _ _ _ _)
    ·
     rw [hW9]; exact confPut.kept K4.out (Nat.le_succ _) _ _ _ _ _ _ _
    ·
     rw [hW9]; exact confPut.below B4.out (Nat.le_succ_of_le hBw) _ _ _ _ _ _ _
theorem confWords.at_ {W : World} {b : Nat} {s : ByteArray} (h : W.heap[b]? = some (.cells ((confWords s).map Value.string).toArray 9 (0, 0))) : ∀ j, j < (confWords s).length → W.cell? ⟨b, j, none⟩ = some (.string ((confWords s).getD j ByteArray.empty)) := by
 intro j hj
 rw [bkc h]
 simp [List.getD_eq_getElem?_getD, hj]
theorem confWords.le (s : ByteArray) (hs : s.size < 4294967281) : (confWords s).length ≤ 4294967281 := by
 rw [confWords.len]
 have := Lib.countB_le ⟨#[32]⟩ (by decide) s.size s (Nat.le_refl _)
 omega
theorem conf_head.part_no (P : Value → Prop) (k B g : Nat) (a0 a1 a2 a3 a4 : Int) (nm : List ByteArray) (wk : List Wk) (nmv wkv : Value) (hP : P nmv) (s : ByteArray) (hs : s.size < 4294967281) (hBg : B ≤ g) (l : List Int) (ok : Bool)
  (hn : conf_numbers.f k ((confWords s).drop 1) 5 = some (l, ok)) (hno : ok = false ∨ (((confWords s).getD 0 ByteArray.empty).toList == [99, 108, 117, 115, 116, 101, 114]) = false) :
  PartOf P 44 B g (Lib.countB s ⟨#[32]⟩ + 1) false a0 a1 a2 a3 a4 nm wk nmv wkv a0 a1 a2 a3 a4 nm wk s := by
 intro W b hL hBW hg hca hb _
 have hl := confWords.len s
 rw [← hl]
 have hle := confWords.le s hs
 refine (conf_head.no k g _ b (confWords s) l ok W hL (by omega) (by omega) hg (confWords.at_ hb) hn hno).mono ?_
 rintro e w' ⟨he, hr, hw⟩
 have hk : Kept W w' (fun k => k = g) := Kept.of_grown hw (Kept.refl W _) (fun k hk => .inl (by simpa using hk.symm))
 exact ⟨he, ⟨nmv, wkv, hr, hca.far hg hk, hP⟩, hk.mono (fun k h => .inl h), pw_below_grown (Below.refl B W) (some g) hBW hw (fun k hk => by simp at hk; omega)⟩
theorem conf_head.part_yes (P : Value → Prop) (k B g : Nat) (a0 a1 a2 a3 a4 : Int) (nm : List ByteArray) (wk : List Wk) (nmv wkv : Value) (hP : P nmv) (s : ByteArray) (hs : s.size < 4294967281) (hBg : B ≤ g) (l0 l1 l2 l3 l4 : Int)
  (hn : conf_numbers.f k ((confWords s).drop 1) 5 = some ([l0, l1, l2, l3, l4], true)) (hyes : (((confWords s).getD 0 ByteArray.empty).toList == [99, 108, 117, 115, 116, 101, 114]) = true) :
  PartOf P 44 B g (Lib.countB s ⟨#[32]⟩ + 1) true a0 a1 a2 a3 a4 nm wk nmv wkv l0 l1 l2 l3 l4 nm wk s := by
 intro W b hL hBW hg hca hb _
 have hl := confWords.len s
 rw [← hl]
 have hle := confWords.le s hs
 refine (conf_head.yes k g a0 a1 a2 a3 a4 nmv wkv b (confWords s) l0 l1 l2 l3 l4 W hL (by omega) (by omega) hg (confWords.at_ hb) hn hyes).mono ?_
 rintro e w' ⟨he, hr, hw⟩
 have hk : Kept W w' (fun k => k = g) := Kept.of_grown hw (Kept.refl W _) (fun k hk => .inl (by simpa using hk.symm))
 exact ⟨he, ⟨nmv, wkv, hr, hca.far hg hk, hP⟩, hk.mono (fun k h => .inl h), pw_below_grown (Below.refl B W) (some g) hBW hw (fun k hk => by simp at hk; omega)⟩
theorem conf_table.part (P : Value → Prop) (hP : ∀ v, P v) (B g : Nat) (a0 a1 a2 a3 a4 : Int) (wk : List Wk) (wkv : Value) (s : ByteArray) (hs : s.size < 4294967281) (hBg : B ≤ g) :
  PartOf P 45 B g (Lib.countB s ⟨#[32]⟩ + 1) (((confWords s).getD 0 ByteArray.empty).toList == [110, 97, 109, 101, 115]) a0 a1 a2 a3 a4 [] wk (.slice none 0 0) wkv a0 a1 a2 a3 a4 ((confWords s).drop 1) wk s := by
 intro W b hL hBW hg hca hb _
 have hl := confWords.len s
 rw [← hl]
 have hle := confWords.le s hs
 refine (conf_table.calls g a0 a1 a2 a3 a4 wkv b (confWords s) W (by omega) (by omega) hg (confWords.at_ hb)).mono ?_
 rintro e w' ⟨he, ⟨v, hv, hr⟩, hw⟩
 have hk : Kept W w' (fun k => k = g) := Kept.of_grown hw (Kept.refl W _) (fun k hk => .inl (by simpa using hk.symm))
 exact ⟨he, ⟨v, wkv, hr, ⟨Kd.R_lower hv hBW, (hca.far hg hk).workers⟩, hP _⟩, hk.mono (fun k h => .inl h), pw_below_grown (Below.refl B W) (some g) hBW hw (fun k hk => by simp at hk; omega)⟩
theorem conf_worker.part (P : Value → Prop) (hP : ∀ v, P v) (k B g : Nat) (a0 a1 a2 a3 a4 : Int) (nm : List ByteArray) (wk wk' : List Wk) (nmv wkv : Value) (s : ByteArray) (hs : s.size < 4294967281) (hBg : B ≤ g) (hB9 : 9 ≤ B) (hlen : (wk.length + 1) * 24 ≤ 140737488355328) (yes : Bool)
  (h : conf_worker.f k a0 a1 a2 a3 a4 nm wk (confWords s) = some (yes, wk')) :
  PartOf P 46 B g (Lib.countB s ⟨#[32]⟩ + 1) yes a0 a1 a2 a3 a4 nm wk nmv wkv a0 a1 a2 a3 a4 nm wk' s := by
 intro W b hL hBW hg hca hb hnb
 have hl := confWords.len s
 rw [← hl]
 have hle := confWords.le s hs
 obtain ⟨An, cn, rfl⟩ := Kd.R_slice hca.names
 have hwq : ∀ q, q ∈ 9 :: Kd.string.E → q ≠ 41 := fun q hq => by
  have : q ∈ [9] := hq
  simp at this; omega
 have hnq : ∀ q, q ∈ 9 :: Kd.string.E → q ≠ 25 := fun q hq => by
  have : q ∈ [9] := hq
  simp at this; omega
 have hN : Kd.R Kd.string 9 W B (fun k => ¬ (k = g ∨ some k = wkv.ownBlock)) (.slice An nm.length cn) nm :=
  Kd.R_mono (Kd.R_types (Kd.R_apartR hca.names hca.workers hwq) hg hnq) (fun k hk => fun h => h.elim hk.2 hk.1.2)
 have hN' : ∀ W', Kept W W' (fun k => k = g ∨ some k = wkv.ownBlock) → Kd.R Kd.string 9 W' B (fun k => ¬ (k = g ∨ some k = wkv.ownBlock)) (.slice An nm.length cn) nm := fun W' hk => Kd.R_kept hN hk (fun k hk => hk)
 have hbk : ¬ (b = g ∨ some b = wkv.ownBlock) := by
  rintro (e | e)
  ·
   subst e; rw [hg] at hb; simp at hb
  ·
   exact absurd e (Kd.R_ne hca.workers hb (by decide))
 refine (conf_worker.calls k g a0 a1 a2 a3 a4 An cn nm wkv wk b (confWords s) B W yes wk' hL (by omega) (by omega) hBW hg hBg ?_ hB9 ?_ (Kd.R_reads' hca.names).2.1 hca.workers hlen h).mono ?_
 ·
  intro W' hk j hj
  exact cell_kept (confWords.at_ hb j hj) hk hbk
 ·
  intro W' hk
  exact (Kd.R_reads' (hN' W' hk)).2.2
 ·
  rintro e w' ⟨he, ⟨v, hv, hr, _⟩, hw, hbl⟩
  exact ⟨he, ⟨_, v, hr, ⟨Kd.R_mono (hN' w' hw) (fun _ _ => trivial), hv⟩, hP _⟩, hw, hbl⟩
structure CF where
 a0 : Int
 a1 : Int
 a2 : Int
 a3 : Int
 a4 : Int
 nm : List ByteArray
 wk : List Wk
def conf_taken.f (k : Nat) (c : CF) (at_ : Nat) (s : ByteArray) : Option (Bool × CF) :=
 match at_ with
 | 0 => (conf_numbers.f k ((confWords s).drop 1) 5).bind fun n =>
  match n with
  | ([l0, l1, l2, l3, l4], true) =>
   if (((confWords s).getD 0 ByteArray.empty).toList == [99, 108, 117, 115, 116, 101, 114]) = true then (conf_Check.f k l0 l1 l2 l3 l4 [] [⟨1, 1, 0⟩]).bind fun e => some (e == 0, ⟨l0, l1, l2, l3, l4, c.nm, c.wk⟩)
   else some (false, c)
  | (_, true) => none
  | (_, false) => some (false, c)
 | 1 => if (((confWords s).getD 0 ByteArray.empty).toList == [110, 97, 109, 101, 115]) = true then (conf_Check.f k c.a0 c.a1 c.a2 c.a3 c.a4 ((confWords s).drop 1) [⟨1, 1, 0⟩]).bind fun e => some (e == 0, { c with nm := (confWords s).drop 1 })
  else some (false, { c with nm := (confWords s).drop 1 })
 | _ + 2 => (conf_worker.f k c.a0 c.a1 c.a2 c.a3 c.a4 c.nm c.wk (confWords s)).bind fun n =>
  if n.1 = true then (conf_Check.f k c.a0 c.a1 c.a2 c.a3 c.a4 c.nm n.2).bind fun e => some (e == 0, { c with wk := n.2 })
  else some (false, { c with wk := n.2 })
theorem conf_taken.calls (k B : Nat) (c c' : CF) (nmv wkv : Value) (at_ : Nat) (s : ByteArray) (w : World) (yes : Bool) (hL : Laid w) (hB9 : 9 ≤ B) (hBw : B ≤ w.heap.size) (hs : s.size < 4294967281) (hca : ConfAt B w c.nm c.wk nmv wkv)
  (hn1 : at_ = 1 → c.nm = [] ∧ nmv = .slice none 0 0) (hlen : (c.wk.length + 1) * 24 ≤ 140737488355328) (h : conf_taken.f k c at_ s = some (yes, c')) :
  Calls Tryz.prog 30 #[.agg #[.int .i64 c.a0, .int .i64 c.a1, .int .i64 c.a2, .int .i64 c.a3, .int .i64 c.a4, nmv, wkv], .int .i64 at_, .string s] w (TakenDone (fun v => at_ = 0 → v = nmv) B yes c'.a0 c'.a1 c'.a2 c'.a3 c'.a4 c'.nm c'.wk wkv w) := by
 obtain ⟨c0, c1, c2, c3, c4, nm, wk⟩ := c
 match at_, hn1, h with
 | 0, _, h =>
  simp only [conf_taken.f] at h
  obtain ⟨n, hn, h⟩ := Option.bind_eq_some_iff.mp h
  split at h
  ·
   split at h
   ·
    rename_i hy
    obtain ⟨e, he, h⟩ := Option.bind_eq_some_iff.mp h
    simp only [Option.some.injEq, Prod.mk.injEq] at h
    obtain ⟨rfl, rfl⟩ := h
    have z := conf_taken.way0 _ B true c0 c1 c2 c3 c4 nm wk nmv wkv _ _ _ _ _ nm wk s w hL hBw hs hca (conf_head.part_yes (fun v => (0 : Nat) = 0 → v = nmv) k B w.heap.size c0 c1 c2 c3 c4 nm wk nmv wkv (fun _ => rfl) s hs hBw _ _ _ _ _ hn hy) k e (fun _ => he)
    simpa using z
   ·
    rename_i hy
    simp only [Option.some.injEq, Prod.mk.injEq] at h
    obtain ⟨rfl, rfl⟩ := h
    exact conf_taken.way0 _ B false c0 c1 c2 c3 c4 nm wk nmv wkv _ _ _ _ _ nm wk s w hL hBw hs hca (conf_head.part_no (fun v => (0 : Nat) = 0 → v = nmv) k B w.heap.size c0 c1 c2 c3 c4 nm wk nmv wkv (fun _ => rfl) s hs hBw _ _ hn (.inr (by simpa using hy))) k 0 (fun h => by cases h)
  ·
   cases h
  ·
   simp only [Option.some.injEq, Prod.mk.injEq] at h
   obtain ⟨rfl, rfl⟩ := h
   exact conf_taken.way0 _ B false c0 c1 c2 c3 c4 nm wk nmv wkv _ _ _ _ _ nm wk s w hL hBw hs hca (conf_head.part_no (fun v => (0 : Nat) = 0 → v = nmv) k B w.heap.size c0 c1 c2 c3 c4 nm wk nmv wkv (fun _ => rfl) s hs hBw _ _ hn (.inl rfl)) k 0 (fun h => by cases h)
 | 1, hn1, h =>
  obtain ⟨h0, h1⟩ := hn1 rfl
  simp only at h0
  subst h0 h1
  simp only [conf_taken.f] at h
  split at h
  ·
   rename_i hy
   obtain ⟨e, he, h⟩ := Option.bind_eq_some_iff.mp h
   simp only [Option.some.injEq, Prod.mk.injEq] at h
   obtain ⟨rfl, rfl⟩ := h
   have z := conf_taken.way1 _ B _ c0 c1 c2 c3 c4 [] wk _ wkv _ _ _ _ _ _ wk s w hL hBw hs hca (conf_table.part (fun v => (1 : Nat) = 0 → v = .slice none 0 0) (fun _ h => by cases h) B w.heap.size c0 c1 c2 c3 c4 wk wkv s hs hBw) k e (fun _ => he)
   rw [hy] at z
   simpa using z
  ·
   rename_i hy
   simp only [Option.some.injEq, Prod.mk.injEq] at h
   obtain ⟨rfl, rfl⟩ := h
   have z := conf_taken.way1 _ B _ c0 c1 c2 c3 c4 [] wk _ wkv _ _ _ _ _ _ wk s w hL hBw hs hca (conf_table.part (fun v => (1 : Nat) = 0 → v = .slice none 0 0) (fun _ h => by cases h) B w.heap.size c0 c1 c2 c3 c4 wk wkv s hs hBw) k 0 (fun h => absurd h hy)
   rw [Bool.eq_false_iff.mpr hy] at z
   simpa using z
 | n + 2, _, h =>
  simp only [conf_taken.f] at h
  obtain ⟨⟨y, wk'⟩, hn, h⟩ := Option.bind_eq_some_iff.mp h
  simp only at h
  split at h
  ·
   rename_i hy
   obtain ⟨e, he, h⟩ := Option.bind_eq_some_iff.mp h
   simp only [Option.some.injEq, Prod.mk.injEq] at h
   obtain ⟨rfl, rfl⟩ := h
   have z := conf_taken.way2 _ B _ c0 c1 c2 c3 c4 nm wk nmv wkv _ _ _ _ _ nm wk' s w ((n + 2 : Nat) : Int) (by omega) hL hBw hs hca (conf_worker.part (fun v => n + 2 = 0 → v = nmv) (fun _ h => by cases h) k B w.heap.size c0 c1 c2 c3 c4 nm wk wk' nmv wkv s hs hBw hB9 hlen y hn) k e (fun _ => he)
   subst hy
   simpa using z
  ·
   rename_i hy
   simp only [Option.some.injEq, Prod.mk.injEq] at h
   obtain ⟨rfl, rfl⟩ := h
   have z := conf_taken.way2 _ B _ c0 c1 c2 c3 c4 nm wk nmv wkv _ _ _ _ _ nm wk' s w ((n + 2 : Nat) : Int) (by omega) hL hBw hs hca (conf_worker.part (fun v => n + 2 = 0 → v = nmv) (fun _ h => by cases h) k B w.heap.size c0 c1 c2 c3 c4 nm wk wk' nmv wkv s hs hBw hB9 hlen y hn) k 0 (fun h => absurd h hy)
   rw [Bool.eq_false_iff.mpr hy] at z
   simpa using z
end Go.Proofs.YtmppkcdphgelcaaGreatDoor.PConf
namespace Go.Proofs.YtmppkcdphgelcaaGreatDoor.PConf
open Go.RowKit Go.Proofs.YtmppkcdphgelcaaGreatDoor.W.PrintWords Go.Proofs.YtmppkcdphgelcaaGreatDoor.W.PrintLast Go.Proofs.YtmppkcdphgelcaaGreatDoor.W.PrintMore
attribute [local go_sem] max2_int min2_int max_two min_two max_three min_three max_four min_four   -- for this text's walks alone
set_option linter.unusedVariables false
set_option linter.unusedSimpArgs false
attribute [local go_sem ↓] Go.wp_at_zero Go.wp_at_succ
def CF.zero : CF := ⟨0, 0, 0, 0, 0, [], []⟩
def conf_Read.l (k : Nat) : Nat → Nat → CF → ByteArray → Option (CF × Int × Int)
 | 0, _, _, _ => none
 | n + 1, at_, c, s => (strings_Cut.f s ⟨#[10]⟩).bind fun t =>
  if t.2.2 = true then (conf_taken.f k c at_ t.1).bind fun d => if d.1 = true then conf_Read.l k n (at_ + 1) d.2 t.2.1 else some (CF.zero, at_ + 1, 3)
  else if s.toList = [] ∧ ¬ at_ < 3 then some (c, 0, 0) else some (CF.zero, at_ + 1, 3)
def conf_Read.f (a0 : ByteArray) : Option (Int × Int × Int × Int × Int × List ByteArray × (List Wk) × Int × Int) :=
 (conf_Read.l (a0.size + 100) (a0.size + 1) 0 CF.zero a0).map fun r => (r.1.a0, r.1.a1, r.1.a2, r.1.a3, r.1.a4, r.1.nm, r.1.wk, r.2.1, r.2.2)
structure ReadInv (k : Nat) (r : CF × Int × Int) (N : Nat) (w : World) (kq : Nat) (s : ByteArray) (at_ : Nat) (c : CF) (nmv wkv : Value) (w' : World) : Prop where
 eqn : conf_Read.l k kq at_ c s = some r
 conf : ConfAt w.heap.size w' c.nm c.wk nmv wkv
 start : at_ ≤ 1 → c.nm = [] ∧ nmv = .slice none 0 0
 res : w'.heap[w.heap.size]? = some (.cells (confCells 0 0 0 0 0 (.slice none 0 0) (.slice none 0 0)) 25 (0, 0))
 cur : w'.heap[w.heap.size + 1]? = some (.cells (confCells c.a0 c.a1 c.a2 c.a3 c.a4 nmv wkv) 25 (0, 0))
 below : Below w.heap.size w w'
 size : s.size + at_ ≤ N
 wks : c.wk.length ≤ at_
structure ReadDone (r : CF × Int × Int) (w : World) (e : Ending) (w' : World) : Prop where
 val : ∃ nmv wkv, e = .returned (.tuple #[.agg (confCells r.1.a0 r.1.a1 r.1.a2 r.1.a3 r.1.a4 nmv wkv), .int .i64 r.2.1, .int .i64 r.2.2]) ∧ ConfAt w.heap.size w' r.1.nm r.1.wk nmv wkv
 below : Below w.heap.size w w'
theorem ConfAt.zero (B : Nat) (w : World) : ConfAt B w [] [] (.slice none 0 0) (.slice none 0 0) := ⟨Kd.R_nil _ _ _ _ _, Kd.R_nil _ _ _ _ _⟩
theorem cut_less (s : ByteArray) (h : (Lib.cut s.data.toList [10]).2.2 = true) : (⟨(Lib.cut s.data.toList [10]).2.1.toArray⟩ : ByteArray).size + 1 ≤ s.size := by
 have hs : s.size = s.data.toList.length := by rw [Array.length_toList]; rfl
 rw [hs]
 generalize s.data.toList = l at *
 unfold Lib.cut at *
 split at h
 ·
  rename_i hi
  rw [if_pos hi]
  cases l with
  | nil => exact absurd hi (by decide)
  | cons x l =>
   simp [ByteArray.size]
 ·
  cases h
theorem conf_worker.wks (k : Nat) (a0 a1 a2 a3 a4 : Int) (nm : List ByteArray) (wk wk' : List Wk) (ws : List ByteArray) (yes : Bool) (h : conf_worker.f k a0 a1 a2 a3 a4 nm wk ws = some (yes, wk')) : wk'.length ≤ wk.length + 1 := by
 unfold conf_worker.f at h
 split at h
 ·
  obtain ⟨n, _, h⟩ := Option.bind_eq_some_iff.mp h
  obtain ⟨t, _, h⟩ := Option.bind_eq_some_iff.mp h
  split at h
  ·
   obtain ⟨x, _, h⟩ := Option.bind_eq_some_iff.mp h
   obtain ⟨y, _, h⟩ := Option.bind_eq_some_iff.mp h
   simp only [Option.some.injEq, Prod.mk.injEq] at h
   rw [← h.2]; simp
  ·
   simp only [Option.some.injEq, Prod.mk.injEq] at h
   rw [← h.2]; omega
 ·
  simp only [Option.some.injEq, Prod.mk.injEq] at h
  rw [← h.2]; omega
theorem conf_taken.wks (k : Nat) (c c' : CF) (at_ : Nat) (s : ByteArray) (yes : Bool) (h : conf_taken.f k c at_ s = some (yes, c')) : c'.wk.length ≤ c.wk.length + 1 ∧ (at_ = 0 → c'.nm = c.nm) := by
 match at_, h with
 | 0, h =>
  simp only [conf_taken.f] at h
  obtain ⟨n, _, h⟩ := Option.bind_eq_some_iff.mp h
  split at h
  ·
   split at h
   ·
    obtain ⟨e, _, h⟩ := Option.bind_eq_some_iff.mp h
    simp only [Option.some.injEq, Prod.mk.injEq] at h
    rw [← h.2]; exact ⟨Nat.le_succ _, fun _ => rfl⟩
   ·
    simp only [Option.some.injEq, Prod.mk.injEq] at h
    rw [← h.2]; exact ⟨Nat.le_succ _, fun _ => rfl⟩
  ·
   cases h
  ·
   simp only [Option.some.injEq, Prod.mk.injEq] at h
   rw [← h.2]; exact ⟨Nat.le_succ _, fun _ => rfl⟩
 | 1, h =>
  simp only [conf_taken.f] at h
  split at h
  ·
   obtain ⟨e, _, h⟩ := Option.bind_eq_some_iff.mp h
   simp only [Option.some.injEq, Prod.mk.injEq] at h
   rw [← h.2]; exact ⟨Nat.le_succ _, fun h => by cases h⟩
  ·
   simp only [Option.some.injEq, Prod.mk.injEq] at h
   rw [← h.2]; exact ⟨Nat.le_succ _, fun h => by cases h⟩
 | n + 2, h =>
  simp only [conf_taken.f] at h
  obtain ⟨⟨y, wk'⟩, hn, h⟩ := Option.bind_eq_some_iff.mp h
  have hw := conf_worker.wks _ _ _ _ _ _ _ _ _ _ _ hn
  split at h
  ·
   obtain ⟨e, _, h⟩ := Option.bind_eq_some_iff.mp h
   simp only [Option.some.injEq, Prod.mk.injEq] at h
   rw [← h.2]; exact ⟨hw, fun h => by cases h⟩
  ·
   simp only [Option.some.injEq, Prod.mk.injEq] at h
   rw [← h.2]; exact ⟨hw, fun h => by cases h⟩
theorem cut_facts (s text rest : ByteArray) (whole : Bool) (h : strings_Cut.f s ⟨#[10]⟩ = some (text, rest, whole)) : s.size < 4294967281 ∧ text.size ≤ s.size ∧ (whole = true → rest.size + 1 ≤ s.size) := by
 unfold strings_Cut.f at h
 split at h
 ·
  rename_i hs
  simp only [Option.some.injEq, Prod.mk.injEq] at h
  obtain ⟨rfl, rfl, rfl⟩ := h
  refine ⟨hs, ?_, cut_less s⟩
  have hl : s.size = s.data.toList.length := by rw [Array.length_toList]; rfl
  rw [hl]
  generalize s.data.toList = l
  unfold Lib.cut
  split
  ·
   simp [ByteArray.size]
   try omega
  ·
   simp [ByteArray.size]
 ·
  cases h
theorem next_size {a b c n : Nat} (h : a + 1 ≤ b) (k : b + c ≤ n) : a + (c + 1) ≤ n := by omega
theorem next_wks {a b c : Nat} (h : a ≤ b + 1) (k : b ≤ c) : a ≤ c + 1 := by omega
theorem zero_of {a : Nat} (h : a + 1 ≤ 1) : a = 0 := by omega
set_option maxHeartbeats 6400000 in
set_option maxRecDepth 100000 in
theorem conf_Read.walk (k n : Nat) (a0 : ByteArray) (r : CF × Int × Int) (w : World) (hL : Laid w) (hs : a0.size < 4294967281) (h : conf_Read.l k n 0 CF.zero a0 = some r) :
  Calls Tryz.prog 13 #[.string a0] w (ReadDone r w) := by
 have HL := As0.mk hL
 have HI := As0.mk (fun (w' : World) (hr : w'.heap[w.heap.size]? = some (.cells (confCells 0 0 0 0 0 (.slice none 0 0) (.slice none 0 0)) 25 (0, 0))) (hc : w'.heap[w.heap.size + 1]? = some (.cells (confCells 0 0 0 0 0 (.slice none 0 0) (.slice none 0 0)) 25 (0, 0))) (hb : Below w.heap.size w w') => (show ReadInv k r a0.size w n a0 0 CF.zero (.slice none 0 0) (.slice none 0 0) w' from ⟨h, ConfAt.zero _ _, fun _ => ⟨rfl, rfl⟩, hr, hc, hb, Nat.le_refl _, Nat.le_refl _⟩))
 clear h hL
 go_enter Tryz.func13, Tryz.ntmps13
 go_wp2_with fail
 obtain ⟨W0, hW0⟩ : ∃ W0, W0 = ((w.alloc (.cells #[.int .i64 0, .int .i64 0, .int .i64 0, .int .i64 0, .int .i64 0, .slice none 0 0, .slice none 0 0] 25)).alloc (.cells #[.int .i64 0, .int .i64 0, .int .i64 0, .int .i64 0, .int .i64 0, .slice none 0 0, .slice none 0 0] 25)) := ⟨_, rfl⟩
 have HI0 := As0.mk (HI.out W0 (by rw [hW0]; exact bka (blk_new w _) _) (by
  rw [hW0]
  have := blk_new (w.alloc (.cells (confCells 0 0 0 0 0 (.slice none 0 0) (.slice none 0 0)) 25)) (.cells (confCells 0 0 0 0 0 (.slice none 0 0) (.slice none 0 0)) 25)
  rw [show (w.alloc (.cells (confCells 0 0 0 0 0 (.slice none 0 0) (.slice none 0 0)) 25)).heap.size = w.heap.size + 1 by simp] at this
  exact this) (by rw [hW0]; exact bla (bla (Below.refl _ _) _) _))
 rw [← hW0]
 clear hW0 HI
 go_loopg [0, 6] n (fun kq v0 v6 w' => ∃ (s : ByteArray) (at_ : Nat) (c : CF) (nmv wkv : Value), v0 = .string s ∧ v6 = .int .i64 at_ ∧ As0 (ReadInv k r a0.size w kq s at_ c nmv wkv w'))
 case atStart => exact ⟨a0, 0, CF.zero, _, _, rfl, rfl, HI0⟩
 case round =>
  clear HI0
  obtain ⟨s, at_, c, nmv, wkv, rfl, rfl, HI⟩ := hrel
  cases gk with
  | zero => exact absurd HI.out.eqn (by simp [conf_Read.l])
  | succ k1 =>
   obtain ⟨hL1, ⟨⟨text, rest, whole⟩, hcut, h⟩⟩ : Laid wr ∧ ∃ t, strings_Cut.f s ⟨#[10]⟩ = some t ∧ (if t.2.2 = true then (conf_taken.f k c at_ t.1).bind fun d => if d.1 = true then conf_Read.l k k1 (at_ + 1) d.2 t.2.1 else some (CF.zero, at_ + 1, 3) else if s.toList = [] ∧ ¬ at_ < 3 then some (c, 0, 0) else some (CF.zero, at_ + 1, 3)) = some r := ⟨HL.out.below HI.out.below, by
    have := HI.out.eqn
    simp only [conf_Read.l] at this
    exact Option.bind_eq_some_iff.mp this⟩
   obtain ⟨An, cn, hAn⟩ := Kd.R_slice HI.out.conf.names
   obtain ⟨Aw, cw, hAw⟩ := Kd.R_slice HI.out.conf.workers
   subst hAn hAw
   have HC := As0.mk (strings_Cut.calls s ⟨#[10]⟩ text rest whole wr hL1 hcut)
   obtain ⟨c0, c1, c2, c3, c4, nm, wk⟩ := c
   have hat : (at_ : Int) < 9223372036854775807 := by have := HI.out.size; omega
   have hw1 : IntKind.i64.wrap ((at_ : Int) + 1) = (at_ : Int) + 1 := IntWalk.i64_in _ (by omega)
   cases whole
   ·
    simp only [Bool.false_eq_true, if_false] at h
    by_cases hh : s.toList = [] ∧ ¬ at_ < 3
    ·
     rw [if_pos hh] at h
     obtain ⟨hs0, hn3⟩ := hh
     have hs1 : (s.toList == ([] : List UInt8)) = true := beq_iff_eq.mpr hs0
     have hs2 : (s.toList != ([] : List UInt8)) = false := bne_eq_false_iff_eq.mpr hs0
     have hd3 : decide ((at_ : Int) < 3) = false := decide_eq_false (by omega)
     simp only [Option.some.injEq] at h
     subst h
     clear hs0
     go_wp2_with (go_at_call 29; refine HC.out.mono ?_; rintro e w1 ⟨rfl, hb1⟩; have HB1 := As0.mk hb1; have RES1 := As0.mk (blk_below HI.out.res hb1); have CUR1 := As0.mk (blk_below HI.out.cur hb1); have q0 := (show w1.cell? ⟨w.heap.size + 1, 0, none⟩ = some (.int .i64 c0) from (bkc CUR1.out 0).trans rfl); have q1 := (show w1.cell? ⟨w.heap.size + 1, 1, none⟩ = some (.int .i64 c1) from (bkc CUR1.out 1).trans rfl); have q2 := (show w1.cell? ⟨w.heap.size + 1, 2, none⟩ = some (.int .i64 c2) from (bkc CUR1.out 2).trans rfl); have q3 := (show w1.cell? ⟨w.heap.size + 1, 3, none⟩ = some (.int .i64 c3) from (bkc CUR1.out 3).trans rfl); have q4 := (show w1.cell? ⟨w.heap.size + 1, 4, none⟩ = some (.int .i64 c4) from (bkc CUR1.out 4).trans rfl); have q5 := (show w1.cell? ⟨w.heap.size + 1, 5, none⟩ = some (.slice An nm.length cn) from (bkc CUR1.out 5).trans rfl); have q6 := (show w1.cell? ⟨w.heap.size + 1, 6, none⟩ = some (.slice Aw wk.length cw) from (bkc CUR1.out 6).trans rfl); have p0 := (show w1.cell? ⟨w.heap.size, 0, none⟩ = some (.int .i64 0) from (bkc RES1.out 0).trans rfl); have p1 := (show w1.cell? ⟨w.heap.size, 1, none⟩ = some (.int .i64 0) from (bkc RES1.out 1).trans rfl); have p2 := (show w1.cell? ⟨w.heap.size, 2, none⟩ = some (.int .i64 0) from (bkc RES1.out 2).trans rfl); have p3 := (show w1.cell? ⟨w.heap.size, 3, none⟩ = some (.int .i64 0) from (bkc RES1.out 3).trans rfl); have p4 := (show w1.cell? ⟨w.heap.size, 4, none⟩ = some (.int .i64 0) from (bkc RES1.out 4).trans rfl); have p5 := (show w1.cell? ⟨w.heap.size, 5, none⟩ = some (.slice none 0 0) from (bkc RES1.out 5).trans rfl); have p6 := (show w1.cell? ⟨w.heap.size, 6, none⟩ = some (.slice none 0 0) from (bkc RES1.out 6).trans rfl); have f0 := bkf RES1.out 0; have f1 := bkf RES1.out 1; have f2 := bkf RES1.out 2; have f3 := bkf RES1.out 3; have f4 := bkf RES1.out 4; have f5 := bkf RES1.out 5; have f6 := bkf RES1.out 6; have g0 := bkf CUR1.out 0; have g1 := bkf CUR1.out 1; have g2 := bkf CUR1.out 2; have g3 := bkf CUR1.out 3; have g4 := bkf CUR1.out 4; have g5 := bkf CUR1.out 5; have g6 := bkf CUR1.out 6; clear hb1)
     have RR := As0.mk (confPut.at_ RES1.out c0 c1 c2 c3 c4 (.slice An nm.length cn) (.slice Aw wk.length cw))
     show bodyPost _ _ _ _ _ (confPut w1 w.heap.size c0 c1 c2 c3 c4 (.slice An nm.length cn) (.slice Aw wk.length cw))
     obtain ⟨W9, hW9⟩ : ∃ W9, W9 = (confPut w1 w.heap.size c0 c1 c2 c3 c4 (.slice An nm.length cn) (.slice Aw wk.length cw)) := ⟨_, rfl⟩
     rw [← hW9] at RR ⊢
     have s0 := (show W9.cell? ⟨w.heap.size, 0, none⟩ = some (.int .i64 c0) from (bkc RR.out 0).trans rfl)
     have s1 := (show W9.cell? ⟨w.heap.size, 1, none⟩ = some (.int .i64 c1) from (bkc RR.out 1).trans rfl)
     have s2 := (show W9.cell? ⟨w.heap.size, 2, none⟩ = some (.int .i64 c2) from (bkc RR.out 2).trans rfl)
     have s3 := (show W9.cell? ⟨w.heap.size, 3, none⟩ = some (.int .i64 c3) from (bkc RR.out 3).trans rfl)
     have s4 := (show W9.cell? ⟨w.heap.size, 4, none⟩ = some (.int .i64 c4) from (bkc RR.out 4).trans rfl)
     have s5 := (show W9.cell? ⟨w.heap.size, 5, none⟩ = some (.slice An nm.length cn) from (bkc RR.out 5).trans rfl)
     have s6 := (show W9.cell? ⟨w.heap.size, 6, none⟩ = some (.slice Aw wk.length cw) from (bkc RR.out 6).trans rfl)
     refine bodyPost_ret (v := .tuple #[.agg (confCells c0 c1 c2 c3 c4 (.slice An nm.length cn) (.slice Aw wk.length cw)), .int .i64 0, .int .i64 0]) (by simp [results, Tryz.results13, go_sem, s0, s1, s2, s3, s4, s5, s6, confCells]) rfl ⟨⟨_, _, rfl, ?_⟩, ?_⟩
     ·
      rw [hW9]; exact ((HI.out.conf.below HB1.out).far RES1.out (confPut.near _ _ _ _ _ _ _ _))
     ·
      rw [hW9]; exact confPut.below (Below.trans HI.out.below (HB1.out.mono HI.out.below.size)) (Nat.le_refl _) _ _ _ _ _ _ _
    ·
     rw [if_neg hh] at h
     simp only [Option.some.injEq] at h
     subst h
     by_cases hs0 : s.toList = []
     ·
      have hs1 : (s.toList == ([] : List UInt8)) = true := beq_iff_eq.mpr hs0
      have hs2 : (s.toList != ([] : List UInt8)) = false := bne_eq_false_iff_eq.mpr hs0
      have hd3 : decide ((at_ : Int) < 3) = true := decide_eq_true (by have : at_ < 3 := Decidable.byContradiction fun h3 => hh ⟨hs0, h3⟩; omega)
      clear hs0 hh
      go_wp2_with (go_at_call 29; refine HC.out.mono ?_; rintro e w1 ⟨rfl, hb1⟩; have HB1 := As0.mk hb1; have RES1 := As0.mk (blk_below HI.out.res hb1); have CUR1 := As0.mk (blk_below HI.out.cur hb1); have q0 := (show w1.cell? ⟨w.heap.size + 1, 0, none⟩ = some (.int .i64 c0) from (bkc CUR1.out 0).trans rfl); have q1 := (show w1.cell? ⟨w.heap.size + 1, 1, none⟩ = some (.int .i64 c1) from (bkc CUR1.out 1).trans rfl); have q2 := (show w1.cell? ⟨w.heap.size + 1, 2, none⟩ = some (.int .i64 c2) from (bkc CUR1.out 2).trans rfl); have q3 := (show w1.cell? ⟨w.heap.size + 1, 3, none⟩ = some (.int .i64 c3) from (bkc CUR1.out 3).trans rfl); have q4 := (show w1.cell? ⟨w.heap.size + 1, 4, none⟩ = some (.int .i64 c4) from (bkc CUR1.out 4).trans rfl); have q5 := (show w1.cell? ⟨w.heap.size + 1, 5, none⟩ = some (.slice An nm.length cn) from (bkc CUR1.out 5).trans rfl); have q6 := (show w1.cell? ⟨w.heap.size + 1, 6, none⟩ = some (.slice Aw wk.length cw) from (bkc CUR1.out 6).trans rfl); have p0 := (show w1.cell? ⟨w.heap.size, 0, none⟩ = some (.int .i64 0) from (bkc RES1.out 0).trans rfl); have p1 := (show w1.cell? ⟨w.heap.size, 1, none⟩ = some (.int .i64 0) from (bkc RES1.out 1).trans rfl); have p2 := (show w1.cell? ⟨w.heap.size, 2, none⟩ = some (.int .i64 0) from (bkc RES1.out 2).trans rfl); have p3 := (show w1.cell? ⟨w.heap.size, 3, none⟩ = some (.int .i64 0) from (bkc RES1.out 3).trans rfl); have p4 := (show w1.cell? ⟨w.heap.size, 4, none⟩ = some (.int .i64 0) from (bkc RES1.out 4).trans rfl); have p5 := (show w1.cell? ⟨w.heap.size, 5, none⟩ = some (.slice none 0 0) from (bkc RES1.out 5).trans rfl); have p6 := (show w1.cell? ⟨w.heap.size, 6, none⟩ = some (.slice none 0 0) from (bkc RES1.out 6).trans rfl); have f0 := bkf RES1.out 0; have f1 := bkf RES1.out 1; have f2 := bkf RES1.out 2; have f3 := bkf RES1.out 3; have f4 := bkf RES1.out 4; have f5 := bkf RES1.out 5; have f6 := bkf RES1.out 6; have g0 := bkf CUR1.out 0; have g1 := bkf CUR1.out 1; have g2 := bkf CUR1.out 2; have g3 := bkf CUR1.out 3; have g4 := bkf CUR1.out 4; have g5 := bkf CUR1.out 5; have g6 := bkf CUR1.out 6; clear hb1)
      have RR := As0.mk (confPut.at_ RES1.out 0 0 0 0 0 (.slice none 0 0) (.slice none 0 0))
      show bodyPost _ _ _ _ _ (confPut w1 w.heap.size 0 0 0 0 0 (.slice none 0 0) (.slice none 0 0))
      obtain ⟨W9, hW9⟩ : ∃ W9, W9 = (confPut w1 w.heap.size 0 0 0 0 0 (.slice none 0 0) (.slice none 0 0)) := ⟨_, rfl⟩
      rw [← hW9] at RR ⊢
      have s0 := (show W9.cell? ⟨w.heap.size, 0, none⟩ = some (.int .i64 0) from (bkc RR.out 0).trans rfl)
      have s1 := (show W9.cell? ⟨w.heap.size, 1, none⟩ = some (.int .i64 0) from (bkc RR.out 1).trans rfl)
      have s2 := (show W9.cell? ⟨w.heap.size, 2, none⟩ = some (.int .i64 0) from (bkc RR.out 2).trans rfl)
      have s3 := (show W9.cell? ⟨w.heap.size, 3, none⟩ = some (.int .i64 0) from (bkc RR.out 3).trans rfl)
      have s4 := (show W9.cell? ⟨w.heap.size, 4, none⟩ = some (.int .i64 0) from (bkc RR.out 4).trans rfl)
      have s5 := (show W9.cell? ⟨w.heap.size, 5, none⟩ = some (.slice none 0 0) from (bkc RR.out 5).trans rfl)
      have s6 := (show W9.cell? ⟨w.heap.size, 6, none⟩ = some (.slice none 0 0) from (bkc RR.out 6).trans rfl)
      refine bodyPost_ret (v := .tuple #[.agg (confCells 0 0 0 0 0 (.slice none 0 0) (.slice none 0 0)), .int .i64 (at_ + 1), .int .i64 3]) (by simp [results, Tryz.results13, go_sem, s0, s1, s2, s3, s4, s5, s6, confCells]) rfl ⟨⟨_, _, rfl, ?_⟩, ?_⟩
      ·
       rw [hW9]; exact ConfAt.zero _ _
      ·
       rw [hW9]; exact confPut.below (Below.trans HI.out.below (HB1.out.mono HI.out.below.size)) (Nat.le_refl _) _ _ _ _ _ _ _
     ·
      have hs1 : (s.toList == ([] : List UInt8)) = false := beq_eq_false_iff_ne.mpr hs0
      have hs2 : (s.toList != ([] : List UInt8)) = true := bne_iff_ne.mpr hs0
      clear hs0 hh
      go_wp2_with (go_at_call 29; refine HC.out.mono ?_; rintro e w1 ⟨rfl, hb1⟩; have HB1 := As0.mk hb1; have RES1 := As0.mk (blk_below HI.out.res hb1); have CUR1 := As0.mk (blk_below HI.out.cur hb1); have q0 := (show w1.cell? ⟨w.heap.size + 1, 0, none⟩ = some (.int .i64 c0) from (bkc CUR1.out 0).trans rfl); have q1 := (show w1.cell? ⟨w.heap.size + 1, 1, none⟩ = some (.int .i64 c1) from (bkc CUR1.out 1).trans rfl); have q2 := (show w1.cell? ⟨w.heap.size + 1, 2, none⟩ = some (.int .i64 c2) from (bkc CUR1.out 2).trans rfl); have q3 := (show w1.cell? ⟨w.heap.size + 1, 3, none⟩ = some (.int .i64 c3) from (bkc CUR1.out 3).trans rfl); have q4 := (show w1.cell? ⟨w.heap.size + 1, 4, none⟩ = some (.int .i64 c4) from (bkc CUR1.out 4).trans rfl); have q5 := (show w1.cell? ⟨w.heap.size + 1, 5, none⟩ = some (.slice An nm.length cn) from (bkc CUR1.out 5).trans rfl); have q6 := (show w1.cell? ⟨w.heap.size + 1, 6, none⟩ = some (.slice Aw wk.length cw) from (bkc CUR1.out 6).trans rfl); have p0 := (show w1.cell? ⟨w.heap.size, 0, none⟩ = some (.int .i64 0) from (bkc RES1.out 0).trans rfl); have p1 := (show w1.cell? ⟨w.heap.size, 1, none⟩ = some (.int .i64 0) from (bkc RES1.out 1).trans rfl); have p2 := (show w1.cell? ⟨w.heap.size, 2, none⟩ = some (.int .i64 0) from (bkc RES1.out 2).trans rfl); have p3 := (show w1.cell? ⟨w.heap.size, 3, none⟩ = some (.int .i64 0) from (bkc RES1.out 3).trans rfl); have p4 := (show w1.cell? ⟨w.heap.size, 4, none⟩ = some (.int .i64 0) from (bkc RES1.out 4).trans rfl); have p5 := (show w1.cell? ⟨w.heap.size, 5, none⟩ = some (.slice none 0 0) from (bkc RES1.out 5).trans rfl); have p6 := (show w1.cell? ⟨w.heap.size, 6, none⟩ = some (.slice none 0 0) from (bkc RES1.out 6).trans rfl); have f0 := bkf RES1.out 0; have f1 := bkf RES1.out 1; have f2 := bkf RES1.out 2; have f3 := bkf RES1.out 3; have f4 := bkf RES1.out 4; have f5 := bkf RES1.out 5; have f6 := bkf RES1.out 6; have g0 := bkf CUR1.out 0; have g1 := bkf CUR1.out 1; have g2 := bkf CUR1.out 2; have g3 := bkf CUR1.out 3; have g4 := bkf CUR1.out 4; have g5 := bkf CUR1.out 5; have g6 := bkf CUR1.out 6; clear hb1)
      have RR := As0.mk (confPut.at_ RES1.out 0 0 0 0 0 (.slice none 0 0) (.slice none 0 0))
      show bodyPost _ _ _ _ _ (confPut w1 w.heap.size 0 0 0 0 0 (.slice none 0 0) (.slice none 0 0))
      obtain ⟨W9, hW9⟩ : ∃ W9, W9 = (confPut w1 w.heap.size 0 0 0 0 0 (.slice none 0 0) (.slice none 0 0)) := ⟨_, rfl⟩
      rw [← hW9] at RR ⊢
      have s0 := (show W9.cell? ⟨w.heap.size, 0, none⟩ = some (.int .i64 0) from (bkc RR.out 0).trans rfl)
      have s1 := (show W9.cell? ⟨w.heap.size, 1, none⟩ = some (.int .i64 0) from (bkc RR.out 1).trans rfl)
      have s2 := (show W9.cell? ⟨w.heap.size, 2, none⟩ = some (.int .i64 0) from (bkc RR.out 2).trans rfl)
      have s3 := (show W9.cell? ⟨w.heap.size, 3, none⟩ = some (.int .i64 0) from (bkc RR.out 3).trans rfl)
      have s4 := (show W9.cell? ⟨w.heap.size, 4, none⟩ = some (.int .i64 0) from (bkc RR.out 4).trans rfl)
      have s5 := (show W9.cell? ⟨w.heap.size, 5, none⟩ = some (.slice none 0 0) from (bkc RR.out 5).trans rfl)
      have s6 := (show W9.cell? ⟨w.heap.size, 6, none⟩ = some (.slice none 0 0) from (bkc RR.out 6).trans rfl)
      refine bodyPost_ret (v := .tuple #[.agg (confCells 0 0 0 0 0 (.slice none 0 0) (.slice none 0 0)), .int .i64 (at_ + 1), .int .i64 3]) (by simp [results, Tryz.results13, go_sem, s0, s1, s2, s3, s4, s5, s6, confCells]) rfl ⟨⟨_, _, rfl, ?_⟩, ?_⟩
      ·
       rw [hW9]; exact ConfAt.zero _ _
      ·
       rw [hW9]; exact confPut.below (Below.trans HI.out.below (HB1.out.mono HI.out.below.size)) (Nat.le_refl _) _ _ _ _ _ _ _
   ·
    simp only [if_true] at h
    obtain ⟨⟨yes, ⟨d0, d1, d2, d3, d4, nm2, wk2⟩⟩, htk, h⟩ := Option.bind_eq_some_iff.mp h
    simp only at h
    have hcf := As0.mk (cut_facts s text rest true hcut)
    have hcr := As0.mk ((cut_facts s text rest true hcut).2.2 rfl)
    have hss : text.size < 4294967281 := Nat.lt_of_le_of_lt hcf.out.2.1 hcf.out.1
    have HTW := As0.mk (conf_taken.wks k _ _ at_ text yes htk)
    have HT := As0.mk (fun (W : World) (hW : Below wr.heap.size wr W) => show Calls Tryz.prog 30 #[.agg #[.int .i64 c0, .int .i64 c1, .int .i64 c2, .int .i64 c3, .int .i64 c4, .slice An nm.length cn, .slice Aw wk.length cw], .int .i64 at_, .string text] W (fun e w' => ∃ nmv' wkv', e = .returned (.tuple #[.agg #[.int .i64 d0, .int .i64 d1, .int .i64 d2, .int .i64 d3, .int .i64 d4, nmv', wkv'], .bool yes]) ∧ ConfAt w.heap.size w' nm2 wk2 nmv' wkv' ∧ (at_ = 0 → nmv' = .slice An nm.length cn) ∧ Kept W w' (fun k => some k = (Value.slice Aw wk.length cw).ownBlock) ∧ Below w.heap.size W w') from (conf_taken.calls k w.heap.size ⟨c0, c1, c2, c3, c4, nm, wk⟩ ⟨d0, d1, d2, d3, d4, nm2, wk2⟩ (.slice An nm.length cn) (.slice Aw wk.length cw) at_ text W yes (hL1.below hW) HL.out.size (Nat.le_trans HI.out.below.size hW.size) hss (HI.out.conf.below hW) (fun e => HI.out.start (by omega)) (by have := HI.out.wks; have := HI.out.size; simp only at *; omega) htk).mono (fun e w' hh => by
     obtain ⟨⟨a, b, h1, h2, h3⟩, h4, h5⟩ := hh
     exact ⟨a, b, h1, h2, h3, h4, h5⟩))
    have HNR := As0.mk (show ¬ (some w.heap.size = (Value.slice Aw wk.length cw).ownBlock) from Kd.R_ne HI.out.conf.workers HI.out.res (by decide))
    have HNC := As0.mk (show ¬ (some (w.heap.size + 1) = (Value.slice Aw wk.length cw).ownBlock) from Kd.R_ne HI.out.conf.workers HI.out.cur (by decide))
    cases yes
    ·
     simp only [Bool.false_eq_true, if_false, Option.some.injEq] at h
     subst h
     go_wp2_with (first | (go_at_call 29; refine HC.out.mono ?_; rintro e w1 ⟨rfl, hb1⟩; have HB1 := As0.mk hb1; have RES1 := As0.mk (blk_below HI.out.res hb1); have CUR1 := As0.mk (blk_below HI.out.cur hb1); have q0 := (show w1.cell? ⟨w.heap.size + 1, 0, none⟩ = some (.int .i64 c0) from (bkc CUR1.out 0).trans rfl); have q1 := (show w1.cell? ⟨w.heap.size + 1, 1, none⟩ = some (.int .i64 c1) from (bkc CUR1.out 1).trans rfl); have q2 := (show w1.cell? ⟨w.heap.size + 1, 2, none⟩ = some (.int .i64 c2) from (bkc CUR1.out 2).trans rfl); have q3 := (show w1.cell? ⟨w.heap.size + 1, 3, none⟩ = some (.int .i64 c3) from (bkc CUR1.out 3).trans rfl); have q4 := (show w1.cell? ⟨w.heap.size + 1, 4, none⟩ = some (.int .i64 c4) from (bkc CUR1.out 4).trans rfl); have q5 := (show w1.cell? ⟨w.heap.size + 1, 5, none⟩ = some (.slice An nm.length cn) from (bkc CUR1.out 5).trans rfl); have q6 := (show w1.cell? ⟨w.heap.size + 1, 6, none⟩ = some (.slice Aw wk.length cw) from (bkc CUR1.out 6).trans rfl); have p0 := (show w1.cell? ⟨w.heap.size, 0, none⟩ = some (.int .i64 0) from (bkc RES1.out 0).trans rfl); have p1 := (show w1.cell? ⟨w.heap.size, 1, none⟩ = some (.int .i64 0) from (bkc RES1.out 1).trans rfl); have p2 := (show w1.cell? ⟨w.heap.size, 2, none⟩ = some (.int .i64 0) from (bkc RES1.out 2).trans rfl); have p3 := (show w1.cell? ⟨w.heap.size, 3, none⟩ = some (.int .i64 0) from (bkc RES1.out 3).trans rfl); have p4 := (show w1.cell? ⟨w.heap.size, 4, none⟩ = some (.int .i64 0) from (bkc RES1.out 4).trans rfl); have p5 := (show w1.cell? ⟨w.heap.size, 5, none⟩ = some (.slice none 0 0) from (bkc RES1.out 5).trans rfl); have p6 := (show w1.cell? ⟨w.heap.size, 6, none⟩ = some (.slice none 0 0) from (bkc RES1.out 6).trans rfl); have f0 := bkf RES1.out 0; have f1 := bkf RES1.out 1; have f2 := bkf RES1.out 2; have f3 := bkf RES1.out 3; have f4 := bkf RES1.out 4; have f5 := bkf RES1.out 5; have f6 := bkf RES1.out 6; have g0 := bkf CUR1.out 0; have g1 := bkf CUR1.out 1; have g2 := bkf CUR1.out 2; have g3 := bkf CUR1.out 3; have g4 := bkf CUR1.out 4; have g5 := bkf CUR1.out 5; have g6 := bkf CUR1.out 6; clear hb1) | (go_at_call 30; go_must ((with_reducible refine (HT.out _ HB1.out).mono ?_); rintro e w2 ⟨nmv2, wkv2, rfl, hc2, hs2, hk2, hb2⟩; obtain ⟨An2, cn2, hAn2⟩ := Kd.R_slice hc2.names; obtain ⟨Aw2, cw2, hAw2⟩ := Kd.R_slice hc2.workers; subst hAn2 hAw2; have HS2 := As0.mk hs2; have CF2 := As0.mk hc2; have HB2 := As0.mk hb2; have HK2 := As0.mk hk2; have RES2 := As0.mk (cells_kept RES1.out hk2 HNR.out); have CUR2 := As0.mk (cells_kept CUR1.out hk2 HNC.out); clear q0 p0 f0 g0 q1 p1 f1 g1 q2 p2 f2 g2 q3 p3 f3 g3 q4 p4 f4 g4 q5 p5 f5 g5 q6 p6 f6 g6; have q0 := (show w2.cell? ⟨w.heap.size + 1, 0, none⟩ = some (.int .i64 c0) from (bkc CUR2.out 0).trans rfl); have q1 := (show w2.cell? ⟨w.heap.size + 1, 1, none⟩ = some (.int .i64 c1) from (bkc CUR2.out 1).trans rfl); have q2 := (show w2.cell? ⟨w.heap.size + 1, 2, none⟩ = some (.int .i64 c2) from (bkc CUR2.out 2).trans rfl); have q3 := (show w2.cell? ⟨w.heap.size + 1, 3, none⟩ = some (.int .i64 c3) from (bkc CUR2.out 3).trans rfl); have q4 := (show w2.cell? ⟨w.heap.size + 1, 4, none⟩ = some (.int .i64 c4) from (bkc CUR2.out 4).trans rfl); have q5 := (show w2.cell? ⟨w.heap.size + 1, 5, none⟩ = some (.slice An nm.length cn) from (bkc CUR2.out 5).trans rfl); have q6 := (show w2.cell? ⟨w.heap.size + 1, 6, none⟩ = some (.slice Aw wk.length cw) from (bkc CUR2.out 6).trans rfl); have p0 := (show w2.cell? ⟨w.heap.size, 0, none⟩ = some (.int .i64 0) from (bkc RES2.out 0).trans rfl); have p1 := (show w2.cell? ⟨w.heap.size, 1, none⟩ = some (.int .i64 0) from (bkc RES2.out 1).trans rfl); have p2 := (show w2.cell? ⟨w.heap.size, 2, none⟩ = some (.int .i64 0) from (bkc RES2.out 2).trans rfl); have p3 := (show w2.cell? ⟨w.heap.size, 3, none⟩ = some (.int .i64 0) from (bkc RES2.out 3).trans rfl); have p4 := (show w2.cell? ⟨w.heap.size, 4, none⟩ = some (.int .i64 0) from (bkc RES2.out 4).trans rfl); have p5 := (show w2.cell? ⟨w.heap.size, 5, none⟩ = some (.slice none 0 0) from (bkc RES2.out 5).trans rfl); have p6 := (show w2.cell? ⟨w.heap.size, 6, none⟩ = some (.slice none 0 0) from (bkc RES2.out 6).trans rfl); have f0 := bkf RES2.out 0; have f1 := bkf RES2.out 1; have f2 := bkf RES2.out 2; have f3 := bkf RES2.out 3; have f4 := bkf RES2.out 4; have f5 := bkf RES2.out 5; have f6 := bkf RES2.out 6; have g0 := bkf CUR2.out 0; have g1 := bkf CUR2.out 1; have g2 := bkf CUR2.out 2; have g3 := bkf CUR2.out 3; have g4 := bkf CUR2.out 4; have g5 := bkf CUR2.out 5; have g6 := bkf CUR2.out 6; clear hc2 hs2 hk2 hb2)) | ((with_reducible refine gate_dst (N := 10) rfl ?_); refine box_event ?hg (N := 10) ?hd (cs := #[.int .i64 0, .int .i64 0, .int .i64 0, .int .i64 0, .int .i64 0, .slice none 0 0, .slice none 0 0]) (t := 25) ?hr ?_; (case hd => rfl); (case hg => rfl); (case hr => first | (go_simp; done) | (go_simp; rfl)); intro gd hg w3 hbox hb3; clear q0 p0 f0 g0 q1 p1 f1 g1 q2 p2 f2 g2 q3 p3 f3 g3 q4 p4 f4 g4 q5 p5 f5 g5 q6 p6 f6 g6; have GD3 := As0.mk hbox; have GDE := As0.mk hg; have HB3 := As0.mk hb3; have RES3 := As0.mk (blk_below RES2.out hb3); have CUR3 := As0.mk (blk_below CUR2.out hb3); have n1 : ¬ gd = w.heap.size := fun e => Nat.ne_of_lt (blk_lt RES2.out) (e.symm.trans hg); have n2 : ¬ gd = w.heap.size + 1 := fun e => Nat.ne_of_lt (blk_lt CUR2.out) (e.symm.trans hg); have n3 : ¬ w.heap.size = gd := fun e => n1 e.symm; have n4 : ¬ w.heap.size + 1 = gd := fun e => n2 e.symm; have q0 := (show w3.cell? ⟨w.heap.size + 1, 0, none⟩ = some (.int .i64 c0) from (bkc CUR3.out 0).trans rfl); have q1 := (show w3.cell? ⟨w.heap.size + 1, 1, none⟩ = some (.int .i64 c1) from (bkc CUR3.out 1).trans rfl); have q2 := (show w3.cell? ⟨w.heap.size + 1, 2, none⟩ = some (.int .i64 c2) from (bkc CUR3.out 2).trans rfl); have q3 := (show w3.cell? ⟨w.heap.size + 1, 3, none⟩ = some (.int .i64 c3) from (bkc CUR3.out 3).trans rfl); have q4 := (show w3.cell? ⟨w.heap.size + 1, 4, none⟩ = some (.int .i64 c4) from (bkc CUR3.out 4).trans rfl); have q5 := (show w3.cell? ⟨w.heap.size + 1, 5, none⟩ = some (.slice An nm.length cn) from (bkc CUR3.out 5).trans rfl); have q6 := (show w3.cell? ⟨w.heap.size + 1, 6, none⟩ = some (.slice Aw wk.length cw) from (bkc CUR3.out 6).trans rfl); have p0 := (show w3.cell? ⟨w.heap.size, 0, none⟩ = some (.int .i64 0) from (bkc RES3.out 0).trans rfl); have p1 := (show w3.cell? ⟨w.heap.size, 1, none⟩ = some (.int .i64 0) from (bkc RES3.out 1).trans rfl); have p2 := (show w3.cell? ⟨w.heap.size, 2, none⟩ = some (.int .i64 0) from (bkc RES3.out 2).trans rfl); have p3 := (show w3.cell? ⟨w.heap.size, 3, none⟩ = some (.int .i64 0) from (bkc RES3.out 3).trans rfl); have p4 := (show w3.cell? ⟨w.heap.size, 4, none⟩ = some (.int .i64 0) from (bkc RES3.out 4).trans rfl); have p5 := (show w3.cell? ⟨w.heap.size, 5, none⟩ = some (.slice none 0 0) from (bkc RES3.out 5).trans rfl); have p6 := (show w3.cell? ⟨w.heap.size, 6, none⟩ = some (.slice none 0 0) from (bkc RES3.out 6).trans rfl); have f0 := bkf RES3.out 0; have f1 := bkf RES3.out 1; have f2 := bkf RES3.out 2; have f3 := bkf RES3.out 3; have f4 := bkf RES3.out 4; have f5 := bkf RES3.out 5; have f6 := bkf RES3.out 6; have g0 := bkf CUR3.out 0; have g1 := bkf CUR3.out 1; have g2 := bkf CUR3.out 2; have g3 := bkf CUR3.out 3; have g4 := bkf CUR3.out 4; have g5 := bkf CUR3.out 5; have g6 := bkf CUR3.out 6; have y0 := (show w3.cell? ⟨gd, 0, none⟩ = some (.int .i64 0) from (bkc GD3.out 0).trans rfl); have y1 := (show w3.cell? ⟨gd, 1, none⟩ = some (.int .i64 0) from (bkc GD3.out 1).trans rfl); have y2 := (show w3.cell? ⟨gd, 2, none⟩ = some (.int .i64 0) from (bkc GD3.out 2).trans rfl); have y3 := (show w3.cell? ⟨gd, 3, none⟩ = some (.int .i64 0) from (bkc GD3.out 3).trans rfl); have y4 := (show w3.cell? ⟨gd, 4, none⟩ = some (.int .i64 0) from (bkc GD3.out 4).trans rfl); have y5 := (show w3.cell? ⟨gd, 5, none⟩ = some (.slice none 0 0) from (bkc GD3.out 5).trans rfl); have y6 := (show w3.cell? ⟨gd, 6, none⟩ = some (.slice none 0 0) from (bkc GD3.out 6).trans rfl); have z0 := bkf GD3.out 0; have z1 := bkf GD3.out 1; have z2 := bkf GD3.out 2; have z3 := bkf GD3.out 3; have z4 := bkf GD3.out 4; have z5 := bkf GD3.out 5; have z6 := bkf GD3.out 6; clear hg hbox hb3))
     have RES4 := As0.mk (blk_kept RES3.out (confPut.near (W := w3) gd d0 d1 d2 d3 d4 (.slice An2 nm2.length cn2) (.slice Aw2 wk2.length cw2)) n3)
     have RR := As0.mk (confPut.at_ RES4.out 0 0 0 0 0 (.slice none 0 0) (.slice none 0 0))
     show bodyPost _ _ _ _ _ (confPut (confPut w3 gd d0 d1 d2 d3 d4 (.slice An2 nm2.length cn2) (.slice Aw2 wk2.length cw2)) w.heap.size 0 0 0 0 0 (.slice none 0 0) (.slice none 0 0))
     obtain ⟨W9, hW9⟩ : ∃ W9, W9 = (confPut (confPut w3 gd d0 d1 d2 d3 d4 (.slice An2 nm2.length cn2) (.slice Aw2 wk2.length cw2)) w.heap.size 0 0 0 0 0 (.slice none 0 0) (.slice none 0 0)) := ⟨_, rfl⟩
     rw [← hW9] at RR ⊢
     have s0 := (show W9.cell? ⟨w.heap.size, 0, none⟩ = some (.int .i64 0) from (bkc RR.out 0).trans rfl)
     have s1 := (show W9.cell? ⟨w.heap.size, 1, none⟩ = some (.int .i64 0) from (bkc RR.out 1).trans rfl)
     have s2 := (show W9.cell? ⟨w.heap.size, 2, none⟩ = some (.int .i64 0) from (bkc RR.out 2).trans rfl)
     have s3 := (show W9.cell? ⟨w.heap.size, 3, none⟩ = some (.int .i64 0) from (bkc RR.out 3).trans rfl)
     have s4 := (show W9.cell? ⟨w.heap.size, 4, none⟩ = some (.int .i64 0) from (bkc RR.out 4).trans rfl)
     have s5 := (show W9.cell? ⟨w.heap.size, 5, none⟩ = some (.slice none 0 0) from (bkc RR.out 5).trans rfl)
     have s6 := (show W9.cell? ⟨w.heap.size, 6, none⟩ = some (.slice none 0 0) from (bkc RR.out 6).trans rfl)
     refine bodyPost_ret (v := .tuple #[.agg (confCells 0 0 0 0 0 (.slice none 0 0) (.slice none 0 0)), .int .i64 (at_ + 1), .int .i64 3]) (by simp [results, Tryz.results13, go_sem, s0, s1, s2, s3, s4, s5, s6, confCells]) rfl ⟨⟨_, _, rfl, ?_⟩, ?_⟩
     ·
      rw [hW9]; exact ConfAt.zero _ _
     ·
      rw [hW9]; exact confPut.below (confPut.below (Below.trans (Below.trans (Below.trans HI.out.below (HB1.out.mono HI.out.below.size)) HB2.out) (HB3.out.mono (Nat.le_trans HI.out.below.size (Nat.le_trans HB1.out.size HB2.out.size)))) (Nat.le_of_lt (Nat.lt_of_lt_of_le (blk_lt RES2.out) (Nat.le_of_eq GDE.out.symm))) d0 d1 d2 d3 d4 (.slice An2 nm2.length cn2) (.slice Aw2 wk2.length cw2)) (Nat.le_refl _) _ _ _ _ _ _ _
    ·
     simp only [if_true] at h
     go_wp2_with (first | (go_at_call 29; refine HC.out.mono ?_; rintro e w1 ⟨rfl, hb1⟩; have HB1 := As0.mk hb1; have RES1 := As0.mk (blk_below HI.out.res hb1); have CUR1 := As0.mk (blk_below HI.out.cur hb1); have q0 := (show w1.cell? ⟨w.heap.size + 1, 0, none⟩ = some (.int .i64 c0) from (bkc CUR1.out 0).trans rfl); have q1 := (show w1.cell? ⟨w.heap.size + 1, 1, none⟩ = some (.int .i64 c1) from (bkc CUR1.out 1).trans rfl); have q2 := (show w1.cell? ⟨w.heap.size + 1, 2, none⟩ = some (.int .i64 c2) from (bkc CUR1.out 2).trans rfl); have q3 := (show w1.cell? ⟨w.heap.size + 1, 3, none⟩ = some (.int .i64 c3) from (bkc CUR1.out 3).trans rfl); have q4 := (show w1.cell? ⟨w.heap.size + 1, 4, none⟩ = some (.int .i64 c4) from (bkc CUR1.out 4).trans rfl); have q5 := (show w1.cell? ⟨w.heap.size + 1, 5, none⟩ = some (.slice An nm.length cn) from (bkc CUR1.out 5).trans rfl); have q6 := (show w1.cell? ⟨w.heap.size + 1, 6, none⟩ = some (.slice Aw wk.length cw) from (bkc CUR1.out 6).trans rfl); have p0 := (show w1.cell? ⟨w.heap.size, 0, none⟩ = some (.int .i64 0) from (bkc RES1.out 0).trans rfl); have p1 := (show w1.cell? ⟨w.heap.size, 1, none⟩ = some (.int .i64 0) from (bkc RES1.out 1).trans rfl); have p2 := (show w1.cell? ⟨w.heap.size, 2, none⟩ = some (.int .i64 0) from (bkc RES1.out 2).trans rfl); have p3 := (show w1.cell? ⟨w.heap.size, 3, none⟩ = some (.int .i64 0) from (bkc RES1.out 3).trans rfl); have p4 := (show w1.cell? ⟨w.heap.size, 4, none⟩ = some (.int .i64 0) from (bkc RES1.out 4).trans rfl); have p5 := (show w1.cell? ⟨w.heap.size, 5, none⟩ = some (.slice none 0 0) from (bkc RES1.out 5).trans rfl); have p6 := (show w1.cell? ⟨w.heap.size, 6, none⟩ = some (.slice none 0 0) from (bkc RES1.out 6).trans rfl); have f0 := bkf RES1.out 0; have f1 := bkf RES1.out 1; have f2 := bkf RES1.out 2; have f3 := bkf RES1.out 3; have f4 := bkf RES1.out 4; have f5 := bkf RES1.out 5; have f6 := bkf RES1.out 6; have g0 := bkf CUR1.out 0; have g1 := bkf CUR1.out 1; have g2 := bkf CUR1.out 2; have g3 := bkf CUR1.out 3; have g4 := bkf CUR1.out 4; have g5 := bkf CUR1.out 5; have g6 := bkf CUR1.out 6; clear hb1) | (go_at_call 30; go_must ((with_reducible refine (HT.out _ HB1.out).mono ?_); rintro e w2 ⟨nmv2, wkv2, rfl, hc2, hs2, hk2, hb2⟩; obtain ⟨An2, cn2, hAn2⟩ := Kd.R_slice hc2.names; obtain ⟨Aw2, cw2, hAw2⟩ := Kd.R_slice hc2.workers; subst hAn2 hAw2; have HS2 := As0.mk hs2; have CF2 := As0.mk hc2; have HB2 := As0.mk hb2; have HK2 := As0.mk hk2; have RES2 := As0.mk (cells_kept RES1.out hk2 HNR.out); have CUR2 := As0.mk (cells_kept CUR1.out hk2 HNC.out); clear q0 p0 f0 g0 q1 p1 f1 g1 q2 p2 f2 g2 q3 p3 f3 g3 q4 p4 f4 g4 q5 p5 f5 g5 q6 p6 f6 g6; have q0 := (show w2.cell? ⟨w.heap.size + 1, 0, none⟩ = some (.int .i64 c0) from (bkc CUR2.out 0).trans rfl); have q1 := (show w2.cell? ⟨w.heap.size + 1, 1, none⟩ = some (.int .i64 c1) from (bkc CUR2.out 1).trans rfl); have q2 := (show w2.cell? ⟨w.heap.size + 1, 2, none⟩ = some (.int .i64 c2) from (bkc CUR2.out 2).trans rfl); have q3 := (show w2.cell? ⟨w.heap.size + 1, 3, none⟩ = some (.int .i64 c3) from (bkc CUR2.out 3).trans rfl); have q4 := (show w2.cell? ⟨w.heap.size + 1, 4, none⟩ = some (.int .i64 c4) from (bkc CUR2.out 4).trans rfl); have q5 := (show w2.cell? ⟨w.heap.size + 1, 5, none⟩ = some (.slice An nm.length cn) from (bkc CUR2.out 5).trans rfl); have q6 := (show w2.cell? ⟨w.heap.size + 1, 6, none⟩ = some (.slice Aw wk.length cw) from (bkc CUR2.out 6).trans rfl); have p0 := (show w2.cell? ⟨w.heap.size, 0, none⟩ = some (.int .i64 0) from (bkc RES2.out 0).trans rfl); have p1 := (show w2.cell? ⟨w.heap.size, 1, none⟩ = some (.int .i64 0) from (bkc RES2.out 1).trans rfl); have p2 := (show w2.cell? ⟨w.heap.size, 2, none⟩ = some (.int .i64 0) from (bkc RES2.out 2).trans rfl); have p3 := (show w2.cell? ⟨w.heap.size, 3, none⟩ = some (.int .i64 0) from (bkc RES2.out 3).trans rfl); have p4 := (show w2.cell? ⟨w.heap.size, 4, none⟩ = some (.int .i64 0) from (bkc RES2.out 4).trans rfl); have p5 := (show w2.cell? ⟨w.heap.size, 5, none⟩ = some (.slice none 0 0) from (bkc RES2.out 5).trans rfl); have p6 := (show w2.cell? ⟨w.heap.size, 6, none⟩ = some (.slice none 0 0) from (bkc RES2.out 6).trans rfl); have f0 := bkf RES2.out 0; have f1 := bkf RES2.out 1; have f2 := bkf RES2.out 2; have f3 := bkf RES2.out 3; have f4 := bkf RES2.out 4; have f5 := bkf RES2.out 5; have f6 := bkf RES2.out 6; have g0 := bkf CUR2.out 0; have g1 := bkf CUR2.out 1; have g2 := bkf CUR2.out 2; have g3 := bkf CUR2.out 3; have g4 := bkf CUR2.out 4; have g5 := bkf CUR2.out 5; have g6 := bkf CUR2.out 6; clear hc2 hs2 hk2 hb2)) | ((with_reducible refine gate_dst (N := 10) rfl ?_); refine box_event ?hg (N := 10) ?hd (cs := #[.int .i64 0, .int .i64 0, .int .i64 0, .int .i64 0, .int .i64 0, .slice none 0 0, .slice none 0 0]) (t := 25) ?hr ?_; (case hd => rfl); (case hg => rfl); (case hr => first | (go_simp; done) | (go_simp; rfl)); intro gd hg w3 hbox hb3; clear q0 p0 f0 g0 q1 p1 f1 g1 q2 p2 f2 g2 q3 p3 f3 g3 q4 p4 f4 g4 q5 p5 f5 g5 q6 p6 f6 g6; have GD3 := As0.mk hbox; have GDE := As0.mk hg; have HB3 := As0.mk hb3; have RES3 := As0.mk (blk_below RES2.out hb3); have CUR3 := As0.mk (blk_below CUR2.out hb3); have n1 : ¬ gd = w.heap.size := fun e => Nat.ne_of_lt (blk_lt RES2.out) (e.symm.trans hg); have n2 : ¬ gd = w.heap.size + 1 := fun e => Nat.ne_of_lt (blk_lt CUR2.out) (e.symm.trans hg); have n3 : ¬ w.heap.size = gd := fun e => n1 e.symm; have n4 : ¬ w.heap.size + 1 = gd := fun e => n2 e.symm; have q0 := (show w3.cell? ⟨w.heap.size + 1, 0, none⟩ = some (.int .i64 c0) from (bkc CUR3.out 0).trans rfl); have q1 := (show w3.cell? ⟨w.heap.size + 1, 1, none⟩ = some (.int .i64 c1) from (bkc CUR3.out 1).trans rfl); have q2 := (show w3.cell? ⟨w.heap.size + 1, 2, none⟩ = some (.int .i64 c2) from (bkc CUR3.out 2).trans rfl); have q3 := (show w3.cell? ⟨w.heap.size + 1, 3, none⟩ = some (.int .i64 c3) from (bkc CUR3.out 3).trans rfl); have q4 := (show w3.cell? ⟨w.heap.size + 1, 4, none⟩ = some (.int .i64 c4) from (bkc CUR3.out 4).trans rfl); have q5 := (show w3.cell? ⟨w.heap.size + 1, 5, none⟩ = some (.slice An nm.length cn) from (bkc CUR3.out 5).trans rfl); have q6 := (show w3.cell? ⟨w.heap.size + 1, 6, none⟩ = some (.slice Aw wk.length cw) from (bkc CUR3.out 6).trans rfl); have p0 := (show w3.cell? ⟨w.heap.size, 0, none⟩ = some (.int .i64 0) from (bkc RES3.out 0).trans rfl); have p1 := (show w3.cell? ⟨w.heap.size, 1, none⟩ = some (.int .i64 0) from (bkc RES3.out 1).trans rfl); have p2 := (show w3.cell? ⟨w.heap.size, 2, none⟩ = some (.int .i64 0) from (bkc RES3.out 2).trans rfl); have p3 := (show w3.cell? ⟨w.heap.size, 3, none⟩ = some (.int .i64 0) from (bkc RES3.out 3).trans rfl); have p4 := (show w3.cell? ⟨w.heap.size, 4, none⟩ = some (.int .i64 0) from (bkc RES3.out 4).trans rfl); have p5 := (show w3.cell? ⟨w.heap.size, 5, none⟩ = some (.slice none 0 0) from (bkc RES3.out 5).trans rfl); have p6 := (show w3.cell? ⟨w.heap.size, 6, none⟩ = some (.slice none 0 0) from (bkc RES3.out 6).trans rfl); have f0 := bkf RES3.out 0; have f1 := bkf RES3.out 1; have f2 := bkf RES3.out 2; have f3 := bkf RES3.out 3; have f4 := bkf RES3.out 4; have f5 := bkf RES3.out 5; have f6 := bkf RES3.out 6; have g0 := bkf CUR3.out 0; have g1 := bkf CUR3.out 1; have g2 := bkf CUR3.out 2; have g3 := bkf CUR3.out 3; have g4 := bkf CUR3.out 4; have g5 := bkf CUR3.out 5; have g6 := bkf CUR3.out 6; have y0 := (show w3.cell? ⟨gd, 0, none⟩ = some (.int .i64 0) from (bkc GD3.out 0).trans rfl); have y1 := (show w3.cell? ⟨gd, 1, none⟩ = some (.int .i64 0) from (bkc GD3.out 1).trans rfl); have y2 := (show w3.cell? ⟨gd, 2, none⟩ = some (.int .i64 0) from (bkc GD3.out 2).trans rfl); have y3 := (show w3.cell? ⟨gd, 3, none⟩ = some (.int .i64 0) from (bkc GD3.out 3).trans rfl); have y4 := (show w3.cell? ⟨gd, 4, none⟩ = some (.int .i64 0) from (bkc GD3.out 4).trans rfl); have y5 := (show w3.cell? ⟨gd, 5, none⟩ = some (.slice none 0 0) from (bkc GD3.out 5).trans rfl); have y6 := (show w3.cell? ⟨gd, 6, none⟩ = some (.slice none 0 0) from (bkc GD3.out 6).trans rfl); have z0 := bkf GD3.out 0; have z1 := bkf GD3.out 1; have z2 := bkf GD3.out 2; have z3 := bkf GD3.out 3; have z4 := bkf GD3.out 4; have z5 := bkf GD3.out 5; have z6 := bkf GD3.out 6; clear hg hbox hb3))
     go_roundg k1
     case measure => exact Nat.lt_succ_self _
     case rel =>
      have RES4 := As0.mk (blk_kept RES3.out (confPut.near (W := w3) gd d0 d1 d2 d3 d4 (.slice An2 nm2.length cn2) (.slice Aw2 wk2.length cw2)) n3)
      have CUR4 := As0.mk (blk_kept CUR3.out (confPut.near (W := w3) gd d0 d1 d2 d3 d4 (.slice An2 nm2.length cn2) (.slice Aw2 wk2.length cw2)) n4)
      refine ⟨rest, at_ + 1, ⟨d0, d1, d2, d3, d4, nm2, wk2⟩, .slice An2 nm2.length cn2, .slice Aw2 wk2.length cw2, rfl, rfl, ⟨?_⟩⟩
      show ReadInv k r a0.size w k1 rest (at_ + 1) ⟨d0, d1, d2, d3, d4, nm2, wk2⟩ (.slice An2 nm2.length cn2) (.slice Aw2 wk2.length cw2) (confPut (confPut w3 gd d0 d1 d2 d3 d4 (.slice An2 nm2.length cn2) (.slice Aw2 wk2.length cw2)) (w.heap.size + 1) d0 d1 d2 d3 d4 (.slice An2 nm2.length cn2) (.slice Aw2 wk2.length cw2))
      exact ⟨h, ((CF2.out.below HB3.out).far GD3.out (confPut.near (W := w3) gd d0 d1 d2 d3 d4 (.slice An2 nm2.length cn2) (.slice Aw2 wk2.length cw2))).far CUR4.out (confPut.near _ _ _ _ _ _ _ _),
       fun e => ⟨(HTW.out.2 (zero_of e)).trans (HI.out.start (Nat.le_of_succ_le e)).1, (HS2.out (zero_of e)).trans (HI.out.start (Nat.le_of_succ_le e)).2⟩,
       blk_kept RES4.out (confPut.near _ _ _ _ _ _ _ _) (Nat.ne_of_lt (Nat.lt_succ_self _)), confPut.at_ CUR4.out _ _ _ _ _ _ _, confPut.below (confPut.below (Below.trans (Below.trans (Below.trans HI.out.below (HB1.out.mono HI.out.below.size)) HB2.out) (HB3.out.mono (Nat.le_trans HI.out.below.size (Nat.le_trans HB1.out.size HB2.out.size)))) (Nat.le_of_lt (Nat.lt_of_lt_of_le (blk_lt RES2.out) (Nat.le_of_eq GDE.out.symm))) d0 d1 d2 d3 d4 (.slice An2 nm2.length cn2) (.slice Aw2 wk2.length cw2)) (Nat.le_succ _) _ _ _ _ _ _ _,
       next_size hcr.out HI.out.size, next_wks HTW.out.1 HI.out.wks⟩
theorem conf_Read.calls (a0 : ByteArray) (r1 : Int) (r2 : Int) (r3 : Int) (r4 : Int) (r5 : Int) (r6 : List ByteArray) (r7 : List Wk) (r8 : Int) (r9 : Int) (w : World) (hL_ : Laid w) (h : conf_Read.f a0 = some (r1, r2, r3, r4, r5, r6, r7, r8, r9)) :
  Calls Tryz.prog 13 #[.string a0] w fun e w' => ∃ v5_ v6_ : Value, e = .returned (.tuple #[.agg #[.int .i64 r1, .int .i64 r2, .int .i64 r3, .int .i64 r4, .int .i64 r5, v5_, v6_], .int .i64 r8, .int .i64 r9]) ∧ Kd.R Kd.string 9 w' w.heap.size (fun _ => True) v5_ r6 ∧ Kd.R k41 41 w' w.heap.size (fun _ => True) v6_ r7 ∧ Below w.heap.size w w' := by
 unfold conf_Read.f at h
 obtain ⟨r, hr, h⟩ := Option.map_eq_some_iff.mp h
 have hs : a0.size < 4294967281 := by
  have z := hr
  simp only [conf_Read.l] at z
  obtain ⟨⟨a, b, c⟩, hc, _⟩ := Option.bind_eq_some_iff.mp z
  exact (cut_facts _ _ _ _ hc).1
 obtain ⟨⟨d0, d1, d2, d3, d4, nm, wk⟩, b, c⟩ := r
 simp only [Prod.mk.injEq] at h
 obtain ⟨rfl, rfl, rfl, rfl, rfl, rfl, rfl, rfl, rfl⟩ := h
 refine (conf_Read.walk _ _ a0 _ w hL_ hs hr).mono ?_
 rintro e w' ⟨⟨u, v, he, hca⟩, hb⟩
 exact ⟨u, v, he, hca.names, hca.workers, hb⟩
end Go.Proofs.YtmppkcdphgelcaaGreatDoor.PConf
namespace Go.Proofs.YtmppkcdphgelcaaGreatDoor.PConf
open Go.RowKit Go.Proofs.YtmppkcdphgelcaaGreatDoor.W.PrintWords Go.Proofs.YtmppkcdphgelcaaGreatDoor.W.PrintLast Go.Proofs.YtmppkcdphgelcaaGreatDoor.W.PrintMore
attribute [local go_sem] max2_int min2_int max_two min_two max_three min_three max_four min_four   -- for this text's walks alone
set_option linter.unusedVariables false
set_option linter.unusedSimpArgs false
attribute [local go_sem high] eqA41
def sl14_works.f (k : Nat)  : Option (Bool) := (conf_Read.f (⟨#[99, 108, 117, 115, 116, 101, 114, 32, 50, 32, 57, 32, 51, 32, 53, 48, 48, 32, 52, 10, 110, 97, 109, 101, 115, 32, 103, 112, 117, 10, 119, 111, 114, 107, 101, 114, 32, 49, 32, 50, 10, 119, 111, 114, 107, 101, 114, 32, 51, 32, 49, 32, 103, 112, 117, 10]⟩ : ByteArray)).bind fun bt162 => (if bt162.2.2.2.2.2.2.2.2 = 0 then (if (bt162.2.2.2.2.2.2.1.length : Int) = 2 then (if 1 < (bt162.2.2.2.2.2.2.1.length : Int) then (if (((rd_T41 bt162.2.2.2.2.2.2.1 1).f0) == 3 && (((rd_T41 bt162.2.2.2.2.2.2.1 1).f1) == 1 && (((rd_T41 bt162.2.2.2.2.2.2.1 1).f2) == 1))) = true then ((conf_Text.f k bt162.1 bt162.2.1 bt162.2.2.1 bt162.2.2.2.1 bt162.2.2.2.2.1 bt162.2.2.2.2.2.1 bt162.2.2.2.2.2.2.1).bind fun t177 => (some (t177.toList == ([99, 108, 117, 115, 116, 101, 114, 32, 50, 32, 57, 32, 51, 32, 53, 48, 48, 32, 52, 10, 110, 97, 109, 101, 115, 32, 103, 112, 117, 10, 119, 111, 114, 107, 101, 114, 32, 49, 32, 50, 10, 119, 111, 114, 107, 101, 114, 32, 51, 32, 49, 32, 103, 112, 117, 10] : List UInt8)))) else (some false)) else (none)) else (some false)) else (some false))
theorem sl14_works.mono : ∀ k, LeO (sl14_works.f k ) (sl14_works.f (k + 1) ) := by
 intro  k
 unfold sl14_works.f
 repeat' first
   | (with_reducible exact conf_Text.mono _ _ _ _ _ _ _ _)
   | (with_reducible exact LeO.refl _)
   | (with_reducible exact LeO.none _)
   | (with_reducible refine LeO.ite ?_ ?_)
   | (with_reducible refine LeO.bind ?_ (fun _ => ?_))
   | exact conf_Text.mono _ _ _ _ _ _ _ _
   | exact LeO.none _
   | refine LeO.ite ?_ ?_
   | refine LeO.bind ?_ (fun _ => ?_)
set_option maxHeartbeats 8000000 in
set_option maxRecDepth 100000 in
theorem sl14_works.calls (k : Nat)  (r : Bool) (w : World) (hL_ : Laid w) (h : sl14_works.f k  = some r) :
  Calls Tryz.prog 6 #[] w fun e w' => e = .returned (.bool r) ∧ Below w.heap.size w w' := by
 have hu25 := Tryz.underlying25
 have hu41 := Tryz.underlying41
 have HLD := As0.mk hL_
 clear hL_
 have HB := As0.mk (Below.refl w.heap.size w)
 have H : ((conf_Read.f (⟨#[99, 108, 117, 115, 116, 101, 114, 32, 50, 32, 57, 32, 51, 32, 53, 48, 48, 32, 52, 10, 110, 97, 109, 101, 115, 32, 103, 112, 117, 10, 119, 111, 114, 107, 101, 114, 32, 49, 32, 50, 10, 119, 111, 114, 107, 101, 114, 32, 51, 32, 49, 32, 103, 112, 117, 10]⟩ : ByteArray)).bind fun bt162 => (if bt162.2.2.2.2.2.2.2.2 = 0 then (if (bt162.2.2.2.2.2.2.1.length : Int) = 2 then (if 1 < (bt162.2.2.2.2.2.2.1.length : Int) then (if (((rd_T41 bt162.2.2.2.2.2.2.1 1).f0) == 3 && (((rd_T41 bt162.2.2.2.2.2.2.1 1).f1) == 1 && (((rd_T41 bt162.2.2.2.2.2.2.1 1).f2) == 1))) = true then ((conf_Text.f k bt162.1 bt162.2.1 bt162.2.2.1 bt162.2.2.2.1 bt162.2.2.2.2.1 bt162.2.2.2.2.2.1 bt162.2.2.2.2.2.2.1).bind fun t177 => (some (t177.toList == ([99, 108, 117, 115, 116, 101, 114, 32, 50, 32, 57, 32, 51, 32, 53, 48, 48, 32, 52, 10, 110, 97, 109, 101, 115, 32, 103, 112, 117, 10, 119, 111, 114, 107, 101, 114, 32, 49, 32, 50, 10, 119, 111, 114, 107, 101, 114, 32, 51, 32, 49, 32, 103, 112, 117, 10] : List UInt8)))) else (some false)) else (none)) else (some false)) else (some false))) = some r := h
 clear h
 replace H := Option.bind_eq_some_iff.mp H
 obtain ⟨⟨t162, t163, t164, t165, t166, t167, t170, t173, t174⟩, A10, H⟩ := H
 replace H : (if t174 = 0 then (if (t170.length : Int) = 2 then (if 1 < (t170.length : Int) then (if (((rd_T41 t170 1).f0) == 3 && (((rd_T41 t170 1).f1) == 1 && (((rd_T41 t170 1).f2) == 1))) = true then ((conf_Text.f k t162 t163 t164 t165 t166 t167 t170).bind fun t177 => (some (t177.toList == ([99, 108, 117, 115, 116, 101, 114, 32, 50, 32, 57, 32, 51, 32, 53, 48, 48, 32, 52, 10, 110, 97, 109, 101, 115, 32, 103, 112, 117, 10, 119, 111, 114, 107, 101, 114, 32, 49, 32, 50, 10, 119, 111, 114, 107, 101, 114, 32, 51, 32, 49, 32, 103, 112, 117, 10] : List UInt8)))) else (some false)) else (none)) else (some false)) else (some false)) = some r := H
 have A1 := As0.mk A10
 clear A10
 by_cases c2 : t174 = 0
 ·
  rw [if_pos c2] at H
  have c2b0 : (t174 == 0) = true := beq_iff_eq.mpr c2
  have c2b1 : (t174 != 0) = false := bne_eq_false_iff_eq.mpr c2
  clear c2
  by_cases c3 : (t170.length : Int) = 2
  ·
   rw [if_pos c3] at H
   have c3b0 : ((t170.length : Int) == 2) = true := beq_iff_eq.mpr c3
   have c3b1 : ((t170.length : Int) != 2) = false := bne_eq_false_iff_eq.mpr c3
   clear c3
   by_cases c4 : 1 < (t170.length : Int)
   ·
    rw [if_pos c4] at H
    have c4b0 : decide (1 < (t170.length : Int)) = true := decide_eq_true c4
    have c4b1 : decide (1 < t170.length) = true := decide_eq_true (by omega)
    clear c4
    by_cases c5 : (((rd_T41 t170 1).f0) == 3 && (((rd_T41 t170 1).f1) == 1 && (((rd_T41 t170 1).f2) == 1))) = true
    ·
     rw [if_pos c5] at H
     have c5b0 : (((rd_T41 t170 1).f0) == 3 && (((rd_T41 t170 1).f1) == 1 && (((rd_T41 t170 1).f2) == 1))) = true := c5
     (try (have c5b1 : decide (((rd_T41 t170 1).f0) = 3 && (((rd_T41 t170 1).f1) == 1 && (((rd_T41 t170 1).f2) == 1))) = true := by simpa using c5))
     (try (have c5b2 : (((rd_T41 t170 1).f0) == 3 && (((rd_T41 t170 1).f1) == 1 && (((rd_T41 t170 1).f2) == 1))) = true := by simpa using c5))
     clear c5
     replace H := Option.bind_eq_some_iff.mp H
     obtain ⟨t177, A60, H⟩ := H
     replace H : (some (t177.toList == ([99, 108, 117, 115, 116, 101, 114, 32, 50, 32, 57, 32, 51, 32, 53, 48, 48, 32, 52, 10, 110, 97, 109, 101, 115, 32, 103, 112, 117, 10, 119, 111, 114, 107, 101, 114, 32, 49, 32, 50, 10, 119, 111, 114, 107, 101, 114, 32, 51, 32, 49, 32, 103, 112, 117, 10] : List UInt8))) = some r := H
     have A6 := As0.mk A60
     clear A60
     obtain rfl := Option.some.inj H
     go_enter Tryz.func6, Tryz.ntmps6
     go_wp2_with (first | ((with_reducible refine gate_callee (f := 13) rfl ?_); refine goesL_ (some 7) rfl rfl Tryz.func13 (by kernel_rfl) rfl #[.string (⟨#[99, 108, 117, 115, 116, 101, 114, 32, 50, 32, 57, 32, 51, 32, 53, 48, 48, 32, 52, 10, 110, 97, 109, 101, 115, 32, 103, 112, 117, 10, 119, 111, 114, 107, 101, 114, 32, 49, 32, 50, 10, 119, 111, 114, 107, 101, 114, 32, 51, 32, 49, 32, 103, 112, 117, 10]⟩ : ByteArray)] rfl (by (try simp only [List.map_toArray, List.map_cons, List.map_nil]); first | done | rfl | (simp only [List.length_drop, List.length_take]; rfl)) ?_; (with_reducible refine (conf_Read.calls (⟨#[99, 108, 117, 115, 116, 101, 114, 32, 50, 32, 57, 32, 51, 32, 53, 48, 48, 32, 52, 10, 110, 97, 109, 101, 115, 32, 103, 112, 117, 10, 119, 111, 114, 107, 101, 114, 32, 49, 32, 50, 10, 119, 111, 114, 107, 101, 114, 32, 51, 32, 49, 32, 103, 112, 117, 10]⟩ : ByteArray) t162 t163 t164 t165 t166 t167 t170 t173 t174 _ ?side1 A1.out).mono ?_); (case side1 => exact Laid.below HLD.out (by repeat (first | (with_reducible first | exact HB.out | apply bla | apply bln | apply bld) | exact HB.out))); rintro e w7 ⟨v168, v171, rfl, ho0, ho1, hb⟩; refine ⟨_, rfl, ?_⟩; have n0_ := As0.mk (Kd.R_lower ho0 (below_size (by repeat (first | (with_reducible first | exact HB.out | apply bla | apply bln | apply bld) | exact HB.out)))); have n1_ := As0.mk (Kd.R_lower ho1 (below_size (by repeat (first | (with_reducible first | exact HB.out | apply bla | apply bln | apply bld) | exact HB.out)))); have n2_ := As0.mk (below_step (by repeat (first | (with_reducible first | exact HB.out | apply bla | apply bln | apply bld) | exact HB.out)) hb); clear HB; have HO169 := n0_; have HO172 := n1_; have HB := n2_; clear n0_ n1_ n2_; (try clear hb); (try clear hb2); (try clear hk); (try clear hi); (try clear ho0); (try clear ho1)) | ((with_reducible refine gate_dst (N := 2) rfl ?_); (try (refine gate_guard (by rfl) ?_; dsimp only)); refine box_event ?hg (N := 2) ?hd (cs := #[.int .i64 0, .int .i64 0, .int .i64 0, .int .i64 0, .int .i64 0, .slice none 0 0, .slice none 0 0]) (t := 25) ?hr ?_; (case hd => rfl); (case hg => rfl); (case hr => first | (go_simp; done) | (go_simp; rfl)); intro gb175 hg w8 hbox hb; have n0_ := As0.mk (Kd.R_below (by (with_reducible repeat (first | apply Kd.R_alloc | apply Kd.R_drewN | apply Kd.R_drew)); exact HO169.out) hb); have n1_ := As0.mk (Kd.R_below (by (with_reducible repeat (first | apply Kd.R_alloc | apply Kd.R_drewN | apply Kd.R_drew)); exact HO172.out) hb); have n2_ := As0.mk (below_step (by repeat (first | (with_reducible first | exact HB.out | apply bla | apply bln | apply bld) | exact HB.out)) hb); have n3_ := As0.mk (hbox); have n4_ := As0.mk ((by rw [hg]; exact (below_size (by repeat (first | (with_reducible first | exact HB.out | apply bla | apply bln | apply bld) | exact HB.out))) : w.heap.size ≤ gb175)); have n5_ := As0.mk ((by rw [hg]; exact (below_size (by repeat (first | (with_reducible first | exact HB.out | apply bla | apply bln | apply bld) | exact HB.out))) : w.heap.size ≤ gb175)); clear HO169; clear HO172; clear HB; have HO169 := n0_; have HO172 := n1_; have HB := n2_; have BK175 := n3_; have GW175 := n4_; have GE175 := n5_; clear n0_ n1_ n2_ n3_ n4_ n5_; clear hb hbox hg; have hcz9_0 : w8.cell? ⟨gb175, 0, none⟩ = some (.int .i64 0) := (bkc BK175.out 0).trans rfl; have hcz9_1 : w8.cell? ⟨gb175, 1, none⟩ = some (.int .i64 0) := (bkc BK175.out 1).trans rfl; have hcz9_2 : w8.cell? ⟨gb175, 2, none⟩ = some (.int .i64 0) := (bkc BK175.out 2).trans rfl; have hcz9_3 : w8.cell? ⟨gb175, 3, none⟩ = some (.int .i64 0) := (bkc BK175.out 3).trans rfl; have hcz9_4 : w8.cell? ⟨gb175, 4, none⟩ = some (.int .i64 0) := (bkc BK175.out 4).trans rfl; have hcz9_5 : w8.cell? ⟨gb175, 5, none⟩ = some (.slice none 0 0) := (bkc BK175.out 5).trans rfl; have hcz9_6 : w8.cell? ⟨gb175, 6, none⟩ = some (.slice none 0 0) := (bkc BK175.out 6).trans rfl; have hfz9_0 := bkf BK175.out 0; have hfz9_1 := bkf BK175.out 1; have hfz9_2 := bkf BK175.out 2; have hfz9_3 := bkf BK175.out 3; have hfz9_4 := bkf BK175.out 4; have hfz9_5 := bkf BK175.out 5; have hfz9_6 := bkf BK175.out 6; obtain ⟨Ao10, co10, eo10⟩ := Kd.R_slice HO169.out; subst eo10; obtain ⟨Ao11, co11, eo11⟩ := Kd.R_slice HO172.out; subst eo11; have p176 : 0 ≤ (1 : Int) := (by omega); have q176 : 1 < (t170.length : Int) := of_decide_eq_true (by first | (with_reducible assumption) | assumption); obtain ⟨ad176, e176, hx176_0, hx176_1, hx176_2⟩ := at_T41 (Kd.R_reads' HO172.out).2.2 1 p176 q176; cases e176; (try simp only [show (1 : Int).toNat = 1 from rfl, Nat.reduceMul, Nat.reduceEqDiff, Go.Addr.add, ↓reduceIte] at hx176_0); (try simp only [show (1 : Int).toNat = 1 from rfl, Nat.reduceMul, Nat.reduceEqDiff, Go.Addr.add, ↓reduceIte] at hx176_1); (try simp only [show (1 : Int).toNat = 1 from rfl, Nat.reduceMul, Nat.reduceEqDiff, Go.Addr.add, ↓reduceIte] at hx176_2); have qi176 : (1 < t170.length) = True := eq_true (by omega); (try rw [show ((1 : Int)).toNat = 1 from rfl] at hx176_0); (try rw [show 1 * 3 = 3 from rfl] at hx176_0); (try rw [show ((1 : Int)).toNat = 1 from rfl] at hx176_1); (try rw [show 1 * 3 = 3 from rfl] at hx176_1); (try rw [show ((1 : Int)).toNat = 1 from rfl] at hx176_2); (try rw [show 1 * 3 = 3 from rfl] at hx176_2); have hn176_0 : ad176.block ≠ gb175 := Kd.own_blk (Kd.R_ne HO172.out BK175.out (by decide)); have hn176_1 : ad176.block ≠ gb175 := Kd.own_blk (Kd.R_ne HO172.out BK175.out (by decide)); have hn176_2 : ad176.block ≠ gb175 := Kd.own_blk (Kd.R_ne HO172.out BK175.out (by decide)); have hn176_3 : ad176.block ≠ gb175 := Kd.own_blk (Kd.R_ne HO172.out BK175.out (by decide)); have hn176_4 : ad176.block ≠ gb175 := Kd.own_blk (Kd.R_ne HO172.out BK175.out (by decide)); have hn176_5 : ad176.block ≠ gb175 := Kd.own_blk (Kd.R_ne HO172.out BK175.out (by decide)); have hn176_6 : ad176.block ≠ gb175 := Kd.own_blk (Kd.R_ne HO172.out BK175.out (by decide)); replace hx176_0 := (cell_far (p := ⟨gb175, 0, none⟩) (by first | (rw [add_block]; exact hn176_0) | (show (Addr.add _ _).block ≠ _; rw [add_block]; exact hn176_0) | exact hn176_0) (.int .i64 t162)).trans hx176_0; replace hx176_1 := (cell_far (p := ⟨gb175, 0, none⟩) (by first | (rw [add_block]; exact hn176_0) | (show (Addr.add _ _).block ≠ _; rw [add_block]; exact hn176_0) | exact hn176_0) (.int .i64 t162)).trans hx176_1; replace hx176_2 := (cell_far (p := ⟨gb175, 0, none⟩) (by first | (rw [add_block]; exact hn176_0) | (show (Addr.add _ _).block ≠ _; rw [add_block]; exact hn176_0) | exact hn176_0) (.int .i64 t162)).trans hx176_2; replace hx176_0 := (cell_far (p := ⟨gb175, 1, none⟩) (by first | (rw [add_block]; exact hn176_1) | (show (Addr.add _ _).block ≠ _; rw [add_block]; exact hn176_1) | exact hn176_1) (.int .i64 t163)).trans hx176_0; replace hx176_1 := (cell_far (p := ⟨gb175, 1, none⟩) (by first | (rw [add_block]; exact hn176_1) | (show (Addr.add _ _).block ≠ _; rw [add_block]; exact hn176_1) | exact hn176_1) (.int .i64 t163)).trans hx176_1; replace hx176_2 := (cell_far (p := ⟨gb175, 1, none⟩) (by first | (rw [add_block]; exact hn176_1) | (show (Addr.add _ _).block ≠ _; rw [add_block]; exact hn176_1) | exact hn176_1) (.int .i64 t163)).trans hx176_2; replace hx176_0 := (cell_far (p := ⟨gb175, 2, none⟩) (by first | (rw [add_block]; exact hn176_2) | (show (Addr.add _ _).block ≠ _; rw [add_block]; exact hn176_2) | exact hn176_2) (.int .i64 t164)).trans hx176_0; replace hx176_1 := (cell_far (p := ⟨gb175, 2, none⟩) (by first | (rw [add_block]; exact hn176_2) | (show (Addr.add _ _).block ≠ _; rw [add_block]; exact hn176_2) | exact hn176_2) (.int .i64 t164)).trans hx176_1; replace hx176_2 := (cell_far (p := ⟨gb175, 2, none⟩) (by first | (rw [add_block]; exact hn176_2) | (show (Addr.add _ _).block ≠ _; rw [add_block]; exact hn176_2) | exact hn176_2) (.int .i64 t164)).trans hx176_2; replace hx176_0 := (cell_far (p := ⟨gb175, 3, none⟩) (by first | (rw [add_block]; exact hn176_3) | (show (Addr.add _ _).block ≠ _; rw [add_block]; exact hn176_3) | exact hn176_3) (.int .i64 t165)).trans hx176_0; replace hx176_1 := (cell_far (p := ⟨gb175, 3, none⟩) (by first | (rw [add_block]; exact hn176_3) | (show (Addr.add _ _).block ≠ _; rw [add_block]; exact hn176_3) | exact hn176_3) (.int .i64 t165)).trans hx176_1; replace hx176_2 := (cell_far (p := ⟨gb175, 3, none⟩) (by first | (rw [add_block]; exact hn176_3) | (show (Addr.add _ _).block ≠ _; rw [add_block]; exact hn176_3) | exact hn176_3) (.int .i64 t165)).trans hx176_2; replace hx176_0 := (cell_far (p := ⟨gb175, 4, none⟩) (by first | (rw [add_block]; exact hn176_4) | (show (Addr.add _ _).block ≠ _; rw [add_block]; exact hn176_4) | exact hn176_4) (.int .i64 t166)).trans hx176_0; replace hx176_1 := (cell_far (p := ⟨gb175, 4, none⟩) (by first | (rw [add_block]; exact hn176_4) | (show (Addr.add _ _).block ≠ _; rw [add_block]; exact hn176_4) | exact hn176_4) (.int .i64 t166)).trans hx176_1; replace hx176_2 := (cell_far (p := ⟨gb175, 4, none⟩) (by first | (rw [add_block]; exact hn176_4) | (show (Addr.add _ _).block ≠ _; rw [add_block]; exact hn176_4) | exact hn176_4) (.int .i64 t166)).trans hx176_2; replace hx176_0 := (cell_far (p := ⟨gb175, 5, none⟩) (by first | (rw [add_block]; exact hn176_5) | (show (Addr.add _ _).block ≠ _; rw [add_block]; exact hn176_5) | exact hn176_5) (.slice Ao10 t167.length co10)).trans hx176_0; replace hx176_1 := (cell_far (p := ⟨gb175, 5, none⟩) (by first | (rw [add_block]; exact hn176_5) | (show (Addr.add _ _).block ≠ _; rw [add_block]; exact hn176_5) | exact hn176_5) (.slice Ao10 t167.length co10)).trans hx176_1; replace hx176_2 := (cell_far (p := ⟨gb175, 5, none⟩) (by first | (rw [add_block]; exact hn176_5) | (show (Addr.add _ _).block ≠ _; rw [add_block]; exact hn176_5) | exact hn176_5) (.slice Ao10 t167.length co10)).trans hx176_2; replace hx176_0 := (cell_far (p := ⟨gb175, 6, none⟩) (by first | (rw [add_block]; exact hn176_6) | (show (Addr.add _ _).block ≠ _; rw [add_block]; exact hn176_6) | exact hn176_6) (.slice (some ad176) t170.length co11)).trans hx176_0; replace hx176_1 := (cell_far (p := ⟨gb175, 6, none⟩) (by first | (rw [add_block]; exact hn176_6) | (show (Addr.add _ _).block ≠ _; rw [add_block]; exact hn176_6) | exact hn176_6) (.slice (some ad176) t170.length co11)).trans hx176_1; replace hx176_2 := (cell_far (p := ⟨gb175, 6, none⟩) (by first | (rw [add_block]; exact hn176_6) | (show (Addr.add _ _).block ≠ _; rw [add_block]; exact hn176_6) | exact hn176_6) (.slice (some ad176) t170.length co11)).trans hx176_2; clear hn176_0; clear hn176_1; clear hn176_2; clear hn176_3; clear hn176_4; clear hn176_5; clear hn176_6; replace p176 := eq_true p176; replace q176 := eq_true q176) | (go_at_call 9; (with_reducible refine (conf_Text.calls k t162 t163 t164 t165 t166 _ _ t167 _ _ t170 t177 _ ?side1 ?side2 ?side3 ?side4 ?side5 A6.out).mono ?_); (case side1 => refine (Kd.R_reads' (e := 9) (base := w.heap.size) (ok := fun k_ => True) (n := t167.length) (c := co10) ?_).2.2; exact (by (with_reducible repeat (first | apply Kd.R_alloc | apply Kd.R_drewN | apply Kd.R_drew)); exact (Kd.R_mono (Kd.R_far (p := ⟨gb175, 6, none⟩) (Kd.R_far (p := ⟨gb175, 5, none⟩) (Kd.R_far (p := ⟨gb175, 4, none⟩) (Kd.R_far (p := ⟨gb175, 3, none⟩) (Kd.R_far (p := ⟨gb175, 2, none⟩) (Kd.R_far (p := ⟨gb175, 1, none⟩) (Kd.R_far (p := ⟨gb175, 0, none⟩) (Kd.R_types HO169.out BK175.out (by decide)) (fun _ hk => hk.2) (.int .i64 t162)) (fun _ hk => hk.2) (.int .i64 t163)) (fun _ hk => hk.2) (.int .i64 t164)) (fun _ hk => hk.2) (.int .i64 t165)) (fun _ hk => hk.2) (.int .i64 t166)) (fun _ hk => hk.2) (.slice Ao10 t167.length co10)) (fun _ hk => hk.2) (.slice (some ad176) t170.length co11)) (fun _ h_ => h_.1)))); (case side2 => exact (Kd.R_reads' HO169.out).2.1); (case side3 => refine (Kd.R_reads' (e := 41) (base := w.heap.size) (ok := fun k_ => True) (n := t170.length) (c := co11) ?_).2.2; exact (by (with_reducible repeat (first | apply Kd.R_alloc | apply Kd.R_drewN | apply Kd.R_drew)); exact (Kd.R_mono (Kd.R_far (p := ⟨gb175, 6, none⟩) (Kd.R_far (p := ⟨gb175, 5, none⟩) (Kd.R_far (p := ⟨gb175, 4, none⟩) (Kd.R_far (p := ⟨gb175, 3, none⟩) (Kd.R_far (p := ⟨gb175, 2, none⟩) (Kd.R_far (p := ⟨gb175, 1, none⟩) (Kd.R_far (p := ⟨gb175, 0, none⟩) (Kd.R_types HO172.out BK175.out (by decide)) (fun _ hk => hk.2) (.int .i64 t162)) (fun _ hk => hk.2) (.int .i64 t163)) (fun _ hk => hk.2) (.int .i64 t164)) (fun _ hk => hk.2) (.int .i64 t165)) (fun _ hk => hk.2) (.int .i64 t166)) (fun _ hk => hk.2) (.slice Ao10 t167.length co10)) (fun _ hk => hk.2) (.slice (some ad176) t170.length co11)) (fun _ h_ => h_.1)))); (case side4 => exact (Kd.R_reads' HO172.out).2.1); (case side5 => exact Laid.below HLD.out (by repeat (first | (with_reducible first | exact HB.out | apply bla | apply bln | apply bld | refine bls ?_ GE175.out) | exact HB.out))); rintro e w12 ⟨rfl, hb⟩; have n0_ := As0.mk (Kd.R_below (by (with_reducible repeat (first | apply Kd.R_alloc | apply Kd.R_drewN | apply Kd.R_drew)); exact (Kd.R_mono (Kd.R_far (p := ⟨gb175, 6, none⟩) (Kd.R_far (p := ⟨gb175, 5, none⟩) (Kd.R_far (p := ⟨gb175, 4, none⟩) (Kd.R_far (p := ⟨gb175, 3, none⟩) (Kd.R_far (p := ⟨gb175, 2, none⟩) (Kd.R_far (p := ⟨gb175, 1, none⟩) (Kd.R_far (p := ⟨gb175, 0, none⟩) (Kd.R_types HO169.out BK175.out (by decide)) (fun _ hk => hk.2) (.int .i64 t162)) (fun _ hk => hk.2) (.int .i64 t163)) (fun _ hk => hk.2) (.int .i64 t164)) (fun _ hk => hk.2) (.int .i64 t165)) (fun _ hk => hk.2) (.int .i64 t166)) (fun _ hk => hk.2) (.slice Ao10 t167.length co10)) (fun _ hk => hk.2) (.slice (some ad176) t170.length co11)) (fun _ h_ => h_.1))) hb); have n1_ := As0.mk (Kd.R_below (by (with_reducible repeat (first | apply Kd.R_alloc | apply Kd.R_drewN | apply Kd.R_drew)); exact (Kd.R_mono (Kd.R_far (p := ⟨gb175, 6, none⟩) (Kd.R_far (p := ⟨gb175, 5, none⟩) (Kd.R_far (p := ⟨gb175, 4, none⟩) (Kd.R_far (p := ⟨gb175, 3, none⟩) (Kd.R_far (p := ⟨gb175, 2, none⟩) (Kd.R_far (p := ⟨gb175, 1, none⟩) (Kd.R_far (p := ⟨gb175, 0, none⟩) (Kd.R_types HO172.out BK175.out (by decide)) (fun _ hk => hk.2) (.int .i64 t162)) (fun _ hk => hk.2) (.int .i64 t163)) (fun _ hk => hk.2) (.int .i64 t164)) (fun _ hk => hk.2) (.int .i64 t165)) (fun _ hk => hk.2) (.int .i64 t166)) (fun _ hk => hk.2) (.slice Ao10 t167.length co10)) (fun _ hk => hk.2) (.slice (some ad176) t170.length co11)) (fun _ h_ => h_.1))) hb); have n2_ := As0.mk (blk_below (g := gb175) (o := .cells #[.int .i64 t162, .int .i64 t163, .int .i64 t164, .int .i64 t165, .int .i64 t166, .slice Ao10 t167.length co10, .slice (some ad176) t170.length co11] 25 (0, 0)) (by (with_reducible repeat (first | refine bkn ?_ _ | refine bkd ?_ | refine bka ?_ _)); refine blk_put (cs := #[.int .i64 t162, .int .i64 t163, .int .i64 t164, .int .i64 t165, .int .i64 t166, .slice Ao10 t167.length co10, .slice none 0 0]) ?_ 6 _ rfl; (with_reducible repeat (first | refine bkn ?_ _ | refine bkd ?_ | refine bka ?_ _)); refine blk_put (cs := #[.int .i64 t162, .int .i64 t163, .int .i64 t164, .int .i64 t165, .int .i64 t166, .slice none 0 0, .slice none 0 0]) ?_ 5 _ rfl; (with_reducible repeat (first | refine bkn ?_ _ | refine bkd ?_ | refine bka ?_ _)); refine blk_put (cs := #[.int .i64 t162, .int .i64 t163, .int .i64 t164, .int .i64 t165, .int .i64 0, .slice none 0 0, .slice none 0 0]) ?_ 4 _ rfl; (with_reducible repeat (first | refine bkn ?_ _ | refine bkd ?_ | refine bka ?_ _)); refine blk_put (cs := #[.int .i64 t162, .int .i64 t163, .int .i64 t164, .int .i64 0, .int .i64 0, .slice none 0 0, .slice none 0 0]) ?_ 3 _ rfl; (with_reducible repeat (first | refine bkn ?_ _ | refine bkd ?_ | refine bka ?_ _)); refine blk_put (cs := #[.int .i64 t162, .int .i64 t163, .int .i64 0, .int .i64 0, .int .i64 0, .slice none 0 0, .slice none 0 0]) ?_ 2 _ rfl; (with_reducible repeat (first | refine bkn ?_ _ | refine bkd ?_ | refine bka ?_ _)); refine blk_put (cs := #[.int .i64 t162, .int .i64 0, .int .i64 0, .int .i64 0, .int .i64 0, .slice none 0 0, .slice none 0 0]) ?_ 1 _ rfl; (with_reducible repeat (first | refine bkn ?_ _ | refine bkd ?_ | refine bka ?_ _)); refine blk_put (cs := #[.int .i64 0, .int .i64 0, .int .i64 0, .int .i64 0, .int .i64 0, .slice none 0 0, .slice none 0 0]) ?_ 0 _ rfl; (with_reducible repeat (first | refine bkn ?_ _ | refine bkd ?_ | refine bka ?_ _)); exact BK175.out) hb); have n3_ := As0.mk (below_step (by repeat (first | (with_reducible first | exact HB.out | apply bla | apply bln | apply bld | refine bls ?_ GE175.out) | exact HB.out)) hb); clear HO169; clear HO172; clear BK175; clear HB; have HO169 := n0_; have HO172 := n1_; have BK175 := n2_; have HB := n3_; clear n0_ n1_ n2_ n3_; (try clear hb); (try clear hb2); (try clear hk); (try clear hi)))
     go_ret
     exact ⟨by first | rfl | (simp [errW_none, errW_some] <;> rfl) | (simp [*, errW_none, errW_some] <;> rfl), by repeat (first | (with_reducible first | exact HB.out | apply bla | apply bln | apply bld | refine bls ?_ GE175.out) | exact HB.out)⟩
    ·
     rw [if_neg c5] at H
     have c5b0 : (((rd_T41 t170 1).f0) == 3 && (((rd_T41 t170 1).f1) == 1 && (((rd_T41 t170 1).f2) == 1))) = false := by simpa using c5
     (try (have c5b1 : decide (((rd_T41 t170 1).f0) = 3 && (((rd_T41 t170 1).f1) == 1 && (((rd_T41 t170 1).f2) == 1))) = false := by simpa using c5))
     (try (have c5b2 : (((rd_T41 t170 1).f0) == 3 && (((rd_T41 t170 1).f1) == 1 && (((rd_T41 t170 1).f2) == 1))) = false := by simpa using c5))
     (try (have c5b3 : ¬ (((rd_T41 t170 1).f0) = 3 && (((rd_T41 t170 1).f1) == 1 && (((rd_T41 t170 1).f2) == 1))) := by simpa using c5))
     clear c5
     obtain rfl := Option.some.inj H
     go_enter Tryz.func6, Tryz.ntmps6
     go_wp2_with (first | ((with_reducible refine gate_callee (f := 13) rfl ?_); refine goesL_ (some 7) rfl rfl Tryz.func13 (by kernel_rfl) rfl #[.string (⟨#[99, 108, 117, 115, 116, 101, 114, 32, 50, 32, 57, 32, 51, 32, 53, 48, 48, 32, 52, 10, 110, 97, 109, 101, 115, 32, 103, 112, 117, 10, 119, 111, 114, 107, 101, 114, 32, 49, 32, 50, 10, 119, 111, 114, 107, 101, 114, 32, 51, 32, 49, 32, 103, 112, 117, 10]⟩ : ByteArray)] rfl (by (try simp only [List.map_toArray, List.map_cons, List.map_nil]); first | done | rfl | (simp only [List.length_drop, List.length_take]; rfl)) ?_; (with_reducible refine (conf_Read.calls (⟨#[99, 108, 117, 115, 116, 101, 114, 32, 50, 32, 57, 32, 51, 32, 53, 48, 48, 32, 52, 10, 110, 97, 109, 101, 115, 32, 103, 112, 117, 10, 119, 111, 114, 107, 101, 114, 32, 49, 32, 50, 10, 119, 111, 114, 107, 101, 114, 32, 51, 32, 49, 32, 103, 112, 117, 10]⟩ : ByteArray) t162 t163 t164 t165 t166 t167 t170 t173 t174 _ ?side1 A1.out).mono ?_); (case side1 => exact Laid.below HLD.out (by repeat (first | (with_reducible first | exact HB.out | apply bla | apply bln | apply bld) | exact HB.out))); rintro e w13 ⟨v168, v171, rfl, ho0, ho1, hb⟩; refine ⟨_, rfl, ?_⟩; have n0_ := As0.mk (Kd.R_lower ho0 (below_size (by repeat (first | (with_reducible first | exact HB.out | apply bla | apply bln | apply bld) | exact HB.out)))); have n1_ := As0.mk (Kd.R_lower ho1 (below_size (by repeat (first | (with_reducible first | exact HB.out | apply bla | apply bln | apply bld) | exact HB.out)))); have n2_ := As0.mk (below_step (by repeat (first | (with_reducible first | exact HB.out | apply bla | apply bln | apply bld) | exact HB.out)) hb); clear HB; have HO169 := n0_; have HO172 := n1_; have HB := n2_; clear n0_ n1_ n2_; (try clear hb); (try clear hb2); (try clear hk); (try clear hi); (try clear ho0); (try clear ho1)) | ((with_reducible refine gate_dst (N := 2) rfl ?_); (try (refine gate_guard (by rfl) ?_; dsimp only)); refine box_event ?hg (N := 2) ?hd (cs := #[.int .i64 0, .int .i64 0, .int .i64 0, .int .i64 0, .int .i64 0, .slice none 0 0, .slice none 0 0]) (t := 25) ?hr ?_; (case hd => rfl); (case hg => rfl); (case hr => first | (go_simp; done) | (go_simp; rfl)); intro gb175 hg w14 hbox hb; have n0_ := As0.mk (Kd.R_below (by (with_reducible repeat (first | apply Kd.R_alloc | apply Kd.R_drewN | apply Kd.R_drew)); exact HO169.out) hb); have n1_ := As0.mk (Kd.R_below (by (with_reducible repeat (first | apply Kd.R_alloc | apply Kd.R_drewN | apply Kd.R_drew)); exact HO172.out) hb); have n2_ := As0.mk (below_step (by repeat (first | (with_reducible first | exact HB.out | apply bla | apply bln | apply bld) | exact HB.out)) hb); have n3_ := As0.mk (hbox); have n4_ := As0.mk ((by rw [hg]; exact (below_size (by repeat (first | (with_reducible first | exact HB.out | apply bla | apply bln | apply bld) | exact HB.out))) : w.heap.size ≤ gb175)); have n5_ := As0.mk ((by rw [hg]; exact (below_size (by repeat (first | (with_reducible first | exact HB.out | apply bla | apply bln | apply bld) | exact HB.out))) : w.heap.size ≤ gb175)); clear HO169; clear HO172; clear HB; have HO169 := n0_; have HO172 := n1_; have HB := n2_; have BK175 := n3_; have GW175 := n4_; have GE175 := n5_; clear n0_ n1_ n2_ n3_ n4_ n5_; clear hb hbox hg; have hcz15_0 : w14.cell? ⟨gb175, 0, none⟩ = some (.int .i64 0) := (bkc BK175.out 0).trans rfl; have hcz15_1 : w14.cell? ⟨gb175, 1, none⟩ = some (.int .i64 0) := (bkc BK175.out 1).trans rfl; have hcz15_2 : w14.cell? ⟨gb175, 2, none⟩ = some (.int .i64 0) := (bkc BK175.out 2).trans rfl; have hcz15_3 : w14.cell? ⟨gb175, 3, none⟩ = some (.int .i64 0) := (bkc BK175.out 3).trans rfl; have hcz15_4 : w14.cell? ⟨gb175, 4, none⟩ = some (.int .i64 0) := (bkc BK175.out 4).trans rfl; have hcz15_5 : w14.cell? ⟨gb175, 5, none⟩ = some (.slice none 0 0) := (bkc BK175.out 5).trans rfl; have hcz15_6 : w14.cell? ⟨gb175, 6, none⟩ = some (.slice none 0 0) := (bkc BK175.out 6).trans rfl; have hfz15_0 := bkf BK175.out 0; have hfz15_1 := bkf BK175.out 1; have hfz15_2 := bkf BK175.out 2; have hfz15_3 := bkf BK175.out 3; have hfz15_4 := bkf BK175.out 4; have hfz15_5 := bkf BK175.out 5; have hfz15_6 := bkf BK175.out 6; obtain ⟨Ao16, co16, eo16⟩ := Kd.R_slice HO169.out; subst eo16; obtain ⟨Ao17, co17, eo17⟩ := Kd.R_slice HO172.out; subst eo17; have p176 : 0 ≤ (1 : Int) := (by omega); have q176 : 1 < (t170.length : Int) := of_decide_eq_true (by first | (with_reducible assumption) | assumption); obtain ⟨ad176, e176, hx176_0, hx176_1, hx176_2⟩ := at_T41 (Kd.R_reads' HO172.out).2.2 1 p176 q176; cases e176; (try simp only [show (1 : Int).toNat = 1 from rfl, Nat.reduceMul, Nat.reduceEqDiff, Go.Addr.add, ↓reduceIte] at hx176_0); (try simp only [show (1 : Int).toNat = 1 from rfl, Nat.reduceMul, Nat.reduceEqDiff, Go.Addr.add, ↓reduceIte] at hx176_1); (try simp only [show (1 : Int).toNat = 1 from rfl, Nat.reduceMul, Nat.reduceEqDiff, Go.Addr.add, ↓reduceIte] at hx176_2); have qi176 : (1 < t170.length) = True := eq_true (by omega); (try rw [show ((1 : Int)).toNat = 1 from rfl] at hx176_0); (try rw [show 1 * 3 = 3 from rfl] at hx176_0); (try rw [show ((1 : Int)).toNat = 1 from rfl] at hx176_1); (try rw [show 1 * 3 = 3 from rfl] at hx176_1); (try rw [show ((1 : Int)).toNat = 1 from rfl] at hx176_2); (try rw [show 1 * 3 = 3 from rfl] at hx176_2); have hn176_0 : ad176.block ≠ gb175 := Kd.own_blk (Kd.R_ne HO172.out BK175.out (by decide)); have hn176_1 : ad176.block ≠ gb175 := Kd.own_blk (Kd.R_ne HO172.out BK175.out (by decide)); have hn176_2 : ad176.block ≠ gb175 := Kd.own_blk (Kd.R_ne HO172.out BK175.out (by decide)); have hn176_3 : ad176.block ≠ gb175 := Kd.own_blk (Kd.R_ne HO172.out BK175.out (by decide)); have hn176_4 : ad176.block ≠ gb175 := Kd.own_blk (Kd.R_ne HO172.out BK175.out (by decide)); have hn176_5 : ad176.block ≠ gb175 := Kd.own_blk (Kd.R_ne HO172.out BK175.out (by decide)); have hn176_6 : ad176.block ≠ gb175 := Kd.own_blk (Kd.R_ne HO172.out BK175.out (by decide)); replace hx176_0 := (cell_far (p := ⟨gb175, 0, none⟩) (by first | (rw [add_block]; exact hn176_0) | (show (Addr.add _ _).block ≠ _; rw [add_block]; exact hn176_0) | exact hn176_0) (.int .i64 t162)).trans hx176_0; replace hx176_1 := (cell_far (p := ⟨gb175, 0, none⟩) (by first | (rw [add_block]; exact hn176_0) | (show (Addr.add _ _).block ≠ _; rw [add_block]; exact hn176_0) | exact hn176_0) (.int .i64 t162)).trans hx176_1; replace hx176_2 := (cell_far (p := ⟨gb175, 0, none⟩) (by first | (rw [add_block]; exact hn176_0) | (show (Addr.add _ _).block ≠ _; rw [add_block]; exact hn176_0) | exact hn176_0) (.int .i64 t162)).trans hx176_2; replace hx176_0 := (cell_far (p := ⟨gb175, 1, none⟩) (by first | (rw [add_block]; exact hn176_1) | (show (Addr.add _ _).block ≠ _; rw [add_block]; exact hn176_1) | exact hn176_1) (.int .i64 t163)).trans hx176_0; replace hx176_1 := (cell_far (p := ⟨gb175, 1, none⟩) (by first | (rw [add_block]; exact hn176_1) | (show (Addr.add _ _).block ≠ _; rw [add_block]; exact hn176_1) | exact hn176_1) (.int .i64 t163)).trans hx176_1; replace hx176_2 := (cell_far (p := ⟨gb175, 1, none⟩) (by first | (rw [add_block]; exact hn176_1) | (show (Addr.add _ _).block ≠ _; rw [add_block]; exact hn176_1) | exact hn176_1) (.int .i64 t163)).trans hx176_2; replace hx176_0 := (cell_far (p := ⟨gb175, 2, none⟩) (by first | (rw [add_block]; exact hn176_2) | (show (Addr.add _ _).block ≠ _; rw [add_block]; exact hn176_2) | exact hn176_2) (.int .i64 t164)).trans hx176_0; replace hx176_1 := (cell_far (p := ⟨gb175, 2, none⟩) (by first | (rw [add_block]; exact hn176_2) | (show (Addr.add _ _).block ≠ _; rw [add_block]; exact hn176_2) | exact hn176_2) (.int .i64 t164)).trans hx176_1; replace hx176_2 := (cell_far (p := ⟨gb175, 2, none⟩) (by first | (rw [add_block]; exact hn176_2) | (show (Addr.add _ _).block ≠ _; rw [add_block]; exact hn176_2) | exact hn176_2) (.int .i64 t164)).trans hx176_2; replace hx176_0 := (cell_far (p := ⟨gb175, 3, none⟩) (by first | (rw [add_block]; exact hn176_3) | (show (Addr.add _ _).block ≠ _; rw [add_block]; exact hn176_3) | exact hn176_3) (.int .i64 t165)).trans hx176_0; replace hx176_1 := (cell_far (p := ⟨gb175, 3, none⟩) (by first | (rw [add_block]; exact hn176_3) | (show (Addr.add _ _).block ≠ _; rw [add_block]; exact hn176_3) | exact hn176_3) (.int .i64 t165)).trans hx176_1; replace hx176_2 := (cell_far (p := ⟨gb175, 3, none⟩) (by first | (rw [add_block]; exact hn176_3) | (show (Addr.add _ _).block ≠ _; rw [add_block]; exact hn176_3) | exact hn176_3) (.int .i64 t165)).trans hx176_2; replace hx176_0 := (cell_far (p := ⟨gb175, 4, none⟩) (by first | (rw [add_block]; exact hn176_4) | (show (Addr.add _ _).block ≠ _; rw [add_block]; exact hn176_4) | exact hn176_4) (.int .i64 t166)).trans hx176_0; replace hx176_1 := (cell_far (p := ⟨gb175, 4, none⟩) (by first | (rw [add_block]; exact hn176_4) | (show (Addr.add _ _).block ≠ _; rw [add_block]; exact hn176_4) | exact hn176_4) (.int .i64 t166)).trans hx176_1; replace hx176_2 := (cell_far (p := ⟨gb175, 4, none⟩) (by first | (rw [add_block]; exact hn176_4) | (show (Addr.add _ _).block ≠ _; rw [add_block]; exact hn176_4) | exact hn176_4) (.int .i64 t166)).trans hx176_2; replace hx176_0 := (cell_far (p := ⟨gb175, 5, none⟩) (by first | (rw [add_block]; exact hn176_5) | (show (Addr.add _ _).block ≠ _; rw [add_block]; exact hn176_5) | exact hn176_5) (.slice Ao16 t167.length co16)).trans hx176_0; replace hx176_1 := (cell_far (p := ⟨gb175, 5, none⟩) (by first | (rw [add_block]; exact hn176_5) | (show (Addr.add _ _).block ≠ _; rw [add_block]; exact hn176_5) | exact hn176_5) (.slice Ao16 t167.length co16)).trans hx176_1; replace hx176_2 := (cell_far (p := ⟨gb175, 5, none⟩) (by first | (rw [add_block]; exact hn176_5) | (show (Addr.add _ _).block ≠ _; rw [add_block]; exact hn176_5) | exact hn176_5) (.slice Ao16 t167.length co16)).trans hx176_2; replace hx176_0 := (cell_far (p := ⟨gb175, 6, none⟩) (by first | (rw [add_block]; exact hn176_6) | (show (Addr.add _ _).block ≠ _; rw [add_block]; exact hn176_6) | exact hn176_6) (.slice (some ad176) t170.length co17)).trans hx176_0; replace hx176_1 := (cell_far (p := ⟨gb175, 6, none⟩) (by first | (rw [add_block]; exact hn176_6) | (show (Addr.add _ _).block ≠ _; rw [add_block]; exact hn176_6) | exact hn176_6) (.slice (some ad176) t170.length co17)).trans hx176_1; replace hx176_2 := (cell_far (p := ⟨gb175, 6, none⟩) (by first | (rw [add_block]; exact hn176_6) | (show (Addr.add _ _).block ≠ _; rw [add_block]; exact hn176_6) | exact hn176_6) (.slice (some ad176) t170.length co17)).trans hx176_2; clear hn176_0; clear hn176_1; clear hn176_2; clear hn176_3; clear hn176_4; clear hn176_5; clear hn176_6; replace p176 := eq_true p176; replace q176 := eq_true q176))
     go_ret
     exact ⟨by first | rfl | (simp [errW_none, errW_some] <;> rfl) | (simp [*, errW_none, errW_some] <;> rfl), by repeat (first | (with_reducible first | exact HB.out | apply bla | apply bln | apply bld | refine bls ?_ GE175.out) | exact HB.out)⟩
   ·
    rw [if_neg c4] at H
    exact absurd H (by simp)
  ·
   rw [if_neg c3] at H
   have c3b0 : ((t170.length : Int) == 2) = false := beq_eq_false_iff_ne.mpr c3
   have c3b1 : ((t170.length : Int) != 2) = true := bne_iff_ne.mpr c3
   obtain rfl := Option.some.inj H
   go_enter Tryz.func6, Tryz.ntmps6
   go_wp2_with (first | ((with_reducible refine gate_callee (f := 13) rfl ?_); refine goesL_ (some 7) rfl rfl Tryz.func13 (by kernel_rfl) rfl #[.string (⟨#[99, 108, 117, 115, 116, 101, 114, 32, 50, 32, 57, 32, 51, 32, 53, 48, 48, 32, 52, 10, 110, 97, 109, 101, 115, 32, 103, 112, 117, 10, 119, 111, 114, 107, 101, 114, 32, 49, 32, 50, 10, 119, 111, 114, 107, 101, 114, 32, 51, 32, 49, 32, 103, 112, 117, 10]⟩ : ByteArray)] rfl (by (try simp only [List.map_toArray, List.map_cons, List.map_nil]); first | done | rfl | (simp only [List.length_drop, List.length_take]; rfl)) ?_; (with_reducible refine (conf_Read.calls (⟨#[99, 108, 117, 115, 116, 101, 114, 32, 50, 32, 57, 32, 51, 32, 53, 48, 48, 32, 52, 10, 110, 97, 109, 101, 115, 32, 103, 112, 117, 10, 119, 111, 114, 107, 101, 114, 32, 49, 32, 50, 10, 119, 111, 114, 107, 101, 114, 32, 51, 32, 49, 32, 103, 112, 117, 10]⟩ : ByteArray) t162 t163 t164 t165 t166 t167 t170 t173 t174 _ ?side1 A1.out).mono ?_); (case side1 => exact Laid.below HLD.out (by repeat (first | (with_reducible first | exact HB.out | apply bla | apply bln | apply bld) | exact HB.out))); rintro e w18 ⟨v168, v171, rfl, ho0, ho1, hb⟩; refine ⟨_, rfl, ?_⟩; have n0_ := As0.mk (Kd.R_lower ho0 (below_size (by repeat (first | (with_reducible first | exact HB.out | apply bla | apply bln | apply bld) | exact HB.out)))); have n1_ := As0.mk (Kd.R_lower ho1 (below_size (by repeat (first | (with_reducible first | exact HB.out | apply bla | apply bln | apply bld) | exact HB.out)))); have n2_ := As0.mk (below_step (by repeat (first | (with_reducible first | exact HB.out | apply bla | apply bln | apply bld) | exact HB.out)) hb); clear HB; have HO169 := n0_; have HO172 := n1_; have HB := n2_; clear n0_ n1_ n2_; (try clear hb); (try clear hb2); (try clear hk); (try clear hi); (try clear ho0); (try clear ho1)) | ((with_reducible refine gate_dst (N := 2) rfl ?_); (try (refine gate_guard (by rfl) ?_; dsimp only)); refine box_event ?hg (N := 2) ?hd (cs := #[.int .i64 0, .int .i64 0, .int .i64 0, .int .i64 0, .int .i64 0, .slice none 0 0, .slice none 0 0]) (t := 25) ?hr ?_; (case hd => rfl); (case hg => rfl); (case hr => first | (go_simp; done) | (go_simp; rfl)); intro gb175 hg w19 hbox hb; have n0_ := As0.mk (Kd.R_below (by (with_reducible repeat (first | apply Kd.R_alloc | apply Kd.R_drewN | apply Kd.R_drew)); exact HO169.out) hb); have n1_ := As0.mk (Kd.R_below (by (with_reducible repeat (first | apply Kd.R_alloc | apply Kd.R_drewN | apply Kd.R_drew)); exact HO172.out) hb); have n2_ := As0.mk (below_step (by repeat (first | (with_reducible first | exact HB.out | apply bla | apply bln | apply bld) | exact HB.out)) hb); have n3_ := As0.mk (hbox); have n4_ := As0.mk ((by rw [hg]; exact (below_size (by repeat (first | (with_reducible first | exact HB.out | apply bla | apply bln | apply bld) | exact HB.out))) : w.heap.size ≤ gb175)); have n5_ := As0.mk ((by rw [hg]; exact (below_size (by repeat (first | (with_reducible first | exact HB.out | apply bla | apply bln | apply bld) | exact HB.out))) : w.heap.size ≤ gb175)); clear HO169; clear HO172; clear HB; have HO169 := n0_; have HO172 := n1_; have HB := n2_; have BK175 := n3_; have GW175 := n4_; have GE175 := n5_; clear n0_ n1_ n2_ n3_ n4_ n5_; clear hb hbox hg; have hcz20_0 : w19.cell? ⟨gb175, 0, none⟩ = some (.int .i64 0) := (bkc BK175.out 0).trans rfl; have hcz20_1 : w19.cell? ⟨gb175, 1, none⟩ = some (.int .i64 0) := (bkc BK175.out 1).trans rfl; have hcz20_2 : w19.cell? ⟨gb175, 2, none⟩ = some (.int .i64 0) := (bkc BK175.out 2).trans rfl; have hcz20_3 : w19.cell? ⟨gb175, 3, none⟩ = some (.int .i64 0) := (bkc BK175.out 3).trans rfl; have hcz20_4 : w19.cell? ⟨gb175, 4, none⟩ = some (.int .i64 0) := (bkc BK175.out 4).trans rfl; have hcz20_5 : w19.cell? ⟨gb175, 5, none⟩ = some (.slice none 0 0) := (bkc BK175.out 5).trans rfl; have hcz20_6 : w19.cell? ⟨gb175, 6, none⟩ = some (.slice none 0 0) := (bkc BK175.out 6).trans rfl; have hfz20_0 := bkf BK175.out 0; have hfz20_1 := bkf BK175.out 1; have hfz20_2 := bkf BK175.out 2; have hfz20_3 := bkf BK175.out 3; have hfz20_4 := bkf BK175.out 4; have hfz20_5 := bkf BK175.out 5; have hfz20_6 := bkf BK175.out 6; obtain ⟨Ao21, co21, eo21⟩ := Kd.R_slice HO169.out; subst eo21; obtain ⟨Ao22, co22, eo22⟩ := Kd.R_slice HO172.out; subst eo22))
   go_ret
   exact ⟨by first | rfl | (simp [errW_none, errW_some] <;> rfl) | (simp [*, errW_none, errW_some] <;> rfl), by repeat (first | (with_reducible first | exact HB.out | apply bla | apply bln | apply bld | refine bls ?_ GE175.out) | exact HB.out)⟩
 ·
  rw [if_neg c2] at H
  have c2b0 : (t174 == 0) = false := beq_eq_false_iff_ne.mpr c2
  have c2b1 : (t174 != 0) = true := bne_iff_ne.mpr c2
  obtain rfl := Option.some.inj H
  go_enter Tryz.func6, Tryz.ntmps6
  go_wp2_with (first | ((with_reducible refine gate_callee (f := 13) rfl ?_); refine goesL_ (some 7) rfl rfl Tryz.func13 (by kernel_rfl) rfl #[.string (⟨#[99, 108, 117, 115, 116, 101, 114, 32, 50, 32, 57, 32, 51, 32, 53, 48, 48, 32, 52, 10, 110, 97, 109, 101, 115, 32, 103, 112, 117, 10, 119, 111, 114, 107, 101, 114, 32, 49, 32, 50, 10, 119, 111, 114, 107, 101, 114, 32, 51, 32, 49, 32, 103, 112, 117, 10]⟩ : ByteArray)] rfl (by (try simp only [List.map_toArray, List.map_cons, List.map_nil]); first | done | rfl | (simp only [List.length_drop, List.length_take]; rfl)) ?_; (with_reducible refine (conf_Read.calls (⟨#[99, 108, 117, 115, 116, 101, 114, 32, 50, 32, 57, 32, 51, 32, 53, 48, 48, 32, 52, 10, 110, 97, 109, 101, 115, 32, 103, 112, 117, 10, 119, 111, 114, 107, 101, 114, 32, 49, 32, 50, 10, 119, 111, 114, 107, 101, 114, 32, 51, 32, 49, 32, 103, 112, 117, 10]⟩ : ByteArray) t162 t163 t164 t165 t166 t167 t170 t173 t174 _ ?side1 A1.out).mono ?_); (case side1 => exact Laid.below HLD.out (by repeat (first | (with_reducible first | exact HB.out | apply bla | apply bln | apply bld) | exact HB.out))); rintro e w23 ⟨v168, v171, rfl, ho0, ho1, hb⟩; refine ⟨_, rfl, ?_⟩; have n0_ := As0.mk (Kd.R_lower ho0 (below_size (by repeat (first | (with_reducible first | exact HB.out | apply bla | apply bln | apply bld) | exact HB.out)))); have n1_ := As0.mk (Kd.R_lower ho1 (below_size (by repeat (first | (with_reducible first | exact HB.out | apply bla | apply bln | apply bld) | exact HB.out)))); have n2_ := As0.mk (below_step (by repeat (first | (with_reducible first | exact HB.out | apply bla | apply bln | apply bld) | exact HB.out)) hb); clear HB; have HO169 := n0_; have HO172 := n1_; have HB := n2_; clear n0_ n1_ n2_; (try clear hb); (try clear hb2); (try clear hk); (try clear hi); (try clear ho0); (try clear ho1)) | ((with_reducible refine gate_dst (N := 2) rfl ?_); (try (refine gate_guard (by rfl) ?_; dsimp only)); refine box_event ?hg (N := 2) ?hd (cs := #[.int .i64 0, .int .i64 0, .int .i64 0, .int .i64 0, .int .i64 0, .slice none 0 0, .slice none 0 0]) (t := 25) ?hr ?_; (case hd => rfl); (case hg => rfl); (case hr => first | (go_simp; done) | (go_simp; rfl)); intro gb175 hg w24 hbox hb; have n0_ := As0.mk (Kd.R_below (by (with_reducible repeat (first | apply Kd.R_alloc | apply Kd.R_drewN | apply Kd.R_drew)); exact HO169.out) hb); have n1_ := As0.mk (Kd.R_below (by (with_reducible repeat (first | apply Kd.R_alloc | apply Kd.R_drewN | apply Kd.R_drew)); exact HO172.out) hb); have n2_ := As0.mk (below_step (by repeat (first | (with_reducible first | exact HB.out | apply bla | apply bln | apply bld) | exact HB.out)) hb); have n3_ := As0.mk (hbox); have n4_ := As0.mk ((by rw [hg]; exact (below_size (by repeat (first | (with_reducible first | exact HB.out | apply bla | apply bln | apply bld) | exact HB.out))) : w.heap.size ≤ gb175)); have n5_ := As0.mk ((by rw [hg]; exact (below_size (by repeat (first | (with_reducible first | exact HB.out | apply bla | apply bln | apply bld) | exact HB.out))) : w.heap.size ≤ gb175)); clear HO169; clear HO172; clear HB; have HO169 := n0_; have HO172 := n1_; have HB := n2_; have BK175 := n3_; have GW175 := n4_; have GE175 := n5_; clear n0_ n1_ n2_ n3_ n4_ n5_; clear hb hbox hg; have hcz25_0 : w24.cell? ⟨gb175, 0, none⟩ = some (.int .i64 0) := (bkc BK175.out 0).trans rfl; have hcz25_1 : w24.cell? ⟨gb175, 1, none⟩ = some (.int .i64 0) := (bkc BK175.out 1).trans rfl; have hcz25_2 : w24.cell? ⟨gb175, 2, none⟩ = some (.int .i64 0) := (bkc BK175.out 2).trans rfl; have hcz25_3 : w24.cell? ⟨gb175, 3, none⟩ = some (.int .i64 0) := (bkc BK175.out 3).trans rfl; have hcz25_4 : w24.cell? ⟨gb175, 4, none⟩ = some (.int .i64 0) := (bkc BK175.out 4).trans rfl; have hcz25_5 : w24.cell? ⟨gb175, 5, none⟩ = some (.slice none 0 0) := (bkc BK175.out 5).trans rfl; have hcz25_6 : w24.cell? ⟨gb175, 6, none⟩ = some (.slice none 0 0) := (bkc BK175.out 6).trans rfl; have hfz25_0 := bkf BK175.out 0; have hfz25_1 := bkf BK175.out 1; have hfz25_2 := bkf BK175.out 2; have hfz25_3 := bkf BK175.out 3; have hfz25_4 := bkf BK175.out 4; have hfz25_5 := bkf BK175.out 5; have hfz25_6 := bkf BK175.out 6; obtain ⟨Ao26, co26, eo26⟩ := Kd.R_slice HO169.out; subst eo26; obtain ⟨Ao27, co27, eo27⟩ := Kd.R_slice HO172.out; subst eo27))
  go_ret
  exact ⟨by first | rfl | (simp [errW_none, errW_some] <;> rfl) | (simp [*, errW_none, errW_some] <;> rfl), by repeat (first | (with_reducible first | exact HB.out | apply bla | apply bln | apply bld | refine bls ?_ GE175.out) | exact HB.out)⟩
end Go.Proofs.YtmppkcdphgelcaaGreatDoor.PConf
namespace Go.Proofs.YtmppkcdphgelcaaGreatDoor.PConf
open Go.RowKit Go.Proofs.YtmppkcdphgelcaaGreatDoor.W.PrintWords Go.Proofs.YtmppkcdphgelcaaGreatDoor.W.PrintLast Go.Proofs.YtmppkcdphgelcaaGreatDoor.W.PrintMore
attribute [local go_sem] max2_int min2_int max_two min_two max_three min_three max_four min_four   -- for this text's walks alone
set_option linter.unusedVariables false
set_option linter.unusedSimpArgs false
def sr03_Long.l0 : Nat → List ByteArray → Int → Int → Int → Option (Bool)
 | 0, _, _, _, _ => none
 | k + 1, x0, x1, x2, x7 => if x7 < (x0.length : Int) then (if 0 ≤ x7 then (if ((rdOf ByteArray.empty x0 x7).size : Int) > x2 then (some true) else (sr03_Long.l0 k x0 x1 x2 (wrap64 (x7 + 1)))) else (none)) else (some (decide ((x0.length : Int) > x1)))
def sr03_Long.f (k : Nat) (l0 : List ByteArray) (a1 : Int) (a2 : Int) : Option (Bool) := sr03_Long.l0 k l0 a1 a2 0
set_option maxHeartbeats 8000000 in
set_option maxRecDepth 100000 in
theorem sr03_Long.calls (k : Nat) (A0 : Option Addr) (c0 : Nat) (l0 : List ByteArray) (a1 : Int) (a2 : Int) (r : Bool) (w : World) (hr0 : Kd.C Kd.string w A0 l0.length l0) (hc0 : l0.length ≤ c0) (h : sr03_Long.f k l0 a1 a2 = some r) :
  Calls Tryz.prog 15 #[.slice A0 l0.length c0, .int .i64 a1, .int .i64 a2] w fun e w' => e = .returned (.bool r) ∧ Drawn0 w w' := by
 have HR0 := As0.mk hr0
 have HC0 := As0.mk hc0
 clear hr0 hc0
 have H : (sr03_Long.l0 k l0 a1 a2 0) = some r := h
 clear h
 have H' := As0.mk H
 clear H
 go_enter Tryz.func15, Tryz.ntmps15
 go_wp2
 go_loopg [7] k (fun kq v7 w' => ∃ (x7_1 : Int), v7 = .int .i64 x7_1 ∧ As0 (sr03_Long.l0 kq l0 a1 a2 x7_1 = some r) ∧ As0 (kq ≤ k) ∧ Drawn0 w w')
 case atStart => exact ⟨(0), (by first | rfl | (simp; done) | (simp [*]; done)), H', ⟨Nat.le_refl _⟩, by repeat (first | exact Drawn0.refl _ | apply Drawn0.step)⟩
 case round =>
  clear H'
  try clear c1
  try clear p2
  obtain ⟨x7_1, rfl, HA, HK1, ⟨m1, rfl⟩⟩ := hrel
  cases gk with
  | zero => exact absurd HA.out (by simp [sr03_Long.l0])
  | succ k1 =>
   have H := HA.out
   clear HA
   simp only [sr03_Long.l0] at H
   by_cases c4 : x7_1 < (l0.length : Int)
   ·
    rw [if_pos c4] at H
    have c4b0 : decide (x7_1 < (l0.length : Int)) = true := decide_eq_true c4
    clear c4
    by_cases c5 : 0 ≤ x7_1
    ·
     rw [if_pos c5] at H
     have c5b0 : decide (0 ≤ x7_1) = true := decide_eq_true c5
     clear c5
     by_cases c6 : ((rdOf ByteArray.empty l0 x7_1).size : Int) > a2
     ·
      rw [if_pos c6] at H
      have c6b0 : decide (a2 < ((rdOf ByteArray.empty l0 x7_1).size : Int)) = true := decide_eq_true c6
      clear c6
      obtain rfl := Option.some.inj H
      have p101 : 0 ≤ (x7_1 : Int) := of_decide_eq_true (by first | (with_reducible assumption) | assumption)
      have q101 : x7_1 < (l0.length : Int) := of_decide_eq_true (by first | (with_reducible assumption) | assumption)
      obtain ⟨ad101, e101, hx101_0⟩ := Kd.at_string HR0.out x7_1 p101 q101
      cases e101
      replace p101 := eq_true p101
      replace q101 := eq_true q101
      go_wp2
      go_ret
      exact ⟨by first | rfl | (simp; done) | (simp [*]; done), by repeat (first | exact Drawn0.refl _ | apply Drawn0.step)⟩
     ·
      rw [if_neg c6] at H
      have c6b0 : decide (a2 < ((rdOf ByteArray.empty l0 x7_1).size : Int)) = false := decide_eq_false c6
      clear c6
      have H' := As0.mk H
      clear H
      have p101 : 0 ≤ (x7_1 : Int) := of_decide_eq_true (by first | (with_reducible assumption) | assumption)
      have q101 : x7_1 < (l0.length : Int) := of_decide_eq_true (by first | (with_reducible assumption) | assumption)
      obtain ⟨ad101, e101, hx101_0⟩ := Kd.at_string HR0.out x7_1 p101 q101
      cases e101
      replace p101 := eq_true p101
      replace q101 := eq_true q101
      go_wp2
      go_roundg k1
      case measure => have := HK1.out; omega
      case rel => exact ⟨(wrap64 (x7_1 + 1)), (by first | rfl | (simp; done) | (simp [*]; done)), H', ⟨by have := HK1.out; omega⟩, by repeat (first | exact Drawn0.refl _ | apply Drawn0.step)⟩
    ·
     rw [if_neg c5] at H
     exact absurd H (by simp)
   ·
    rw [if_neg c4] at H
    have c4b0 : decide (x7_1 < (l0.length : Int)) = false := decide_eq_false c4
    clear c4
    obtain rfl := Option.some.inj H
    go_wp2
    go_ret
    exact ⟨by first | rfl | (simp; done) | (simp [*]; done), by repeat (first | exact Drawn0.refl _ | apply Drawn0.step)⟩
end Go.Proofs.YtmppkcdphgelcaaGreatDoor.PConf
namespace Go.Proofs.YtmppkcdphgelcaaGreatDoor.PConf
open Go.RowKit Go.Proofs.YtmppkcdphgelcaaGreatDoor.W.PrintWords Go.Proofs.YtmppkcdphgelcaaGreatDoor.W.PrintLast Go.Proofs.YtmppkcdphgelcaaGreatDoor.W.PrintMore
attribute [local go_sem] max2_int min2_int max_two min_two max_three min_three max_four min_four   -- for this text's walks alone
set_option linter.unusedVariables false
set_option linter.unusedSimpArgs false
def sr14_Long.f (k : Nat) (a0_0 : Int) (a0_1 : Int) (a0_2 : Int) (a0_3 : Int) (a0_4 : Int) (l0_5 : List ByteArray) (l0_6 : List (S41)) : Option (Bool) := (sr03_Long.f k l0_5 40 100).bind fun t103 => (if t103 = true then (some true) else (some (decide ((l0_6.length : Int) > 80))))
set_option maxHeartbeats 8000000 in
set_option maxRecDepth 100000 in
theorem sr14_Long.calls (k : Nat) (a0_0 : Int) (a0_1 : Int) (a0_2 : Int) (a0_3 : Int) (a0_4 : Int) (A0_5 : Option Addr) (c0_5 : Nat) (l0_5 : List ByteArray) (A0_6 : Option Addr) (c0_6 : Nat) (l0_6 : List (S41)) (r : Bool) (w : World) (hr0_5 : Kd.C Kd.string w A0_5 l0_5.length l0_5) (hc0_5 : l0_5.length ≤ c0_5) (hr0_6 : Kd.C k41 w A0_6 l0_6.length l0_6) (hc0_6 : l0_6.length ≤ c0_6) (h : sr14_Long.f k a0_0 a0_1 a0_2 a0_3 a0_4 l0_5 l0_6 = some r) :
  Calls Tryz.prog 5 #[.agg #[.int .i64 a0_0, .int .i64 a0_1, .int .i64 a0_2, .int .i64 a0_3, .int .i64 a0_4, .slice A0_5 l0_5.length c0_5, .slice A0_6 l0_6.length c0_6]] w fun e w' => e = .returned (.bool r) ∧ Below w.heap.size w w' := by
 have hu25 := Tryz.underlying25
 have HR0_5 := As0.mk hr0_5
 have HC0_5 := As0.mk hc0_5
 clear hr0_5 hc0_5
 have HR0_6 := As0.mk hr0_6
 have HC0_6 := As0.mk hc0_6
 clear hr0_6 hc0_6
 have HB := As0.mk (Below.refl w.heap.size w)
 have H : ((sr03_Long.f k l0_5 40 100).bind fun t103 => (if t103 = true then (some true) else (some (decide ((l0_6.length : Int) > 80))))) = some r := h
 clear h
 replace H := Option.bind_eq_some_iff.mp H
 obtain ⟨t103, A20, H⟩ := H
 replace H : (if t103 = true then (some true) else (some (decide ((l0_6.length : Int) > 80)))) = some r := H
 have A2 := As0.mk A20
 clear A20
 by_cases c3 : t103 = true
 ·
  subst c3
  have H1 : (some true) = some r := by rw [if_pos rfl] at H; exact H
  clear H
  have H := H1
  clear H1
  obtain rfl := Option.some.inj H
  go_enter Tryz.func5, Tryz.ntmps5
  go_wp2_with (first | ((with_reducible refine gate_dst (N := 1) rfl ?_); (try (refine gate_guard (by rfl) ?_; dsimp only)); refine box_event ?hg (N := 1) ?hd (cs := #[.int .i64 a0_0, .int .i64 a0_1, .int .i64 a0_2, .int .i64 a0_3, .int .i64 a0_4, .slice A0_5 l0_5.length c0_5, .slice A0_6 l0_6.length c0_6]) (t := 25) ?hr ?_; (case hd => rfl); (case hg => rfl); (case hr => first | (go_simp; done) | (go_simp; rfl)); intro gb102 hg w4 hbox hb; have n0_ := As0.mk (below_step (by repeat (first | (with_reducible first | exact HB.out | apply bla | apply bln | apply bld) | exact HB.out)) hb); have n1_ := As0.mk (hbox); have n2_ := As0.mk ((by rw [hg]; exact (below_size (by repeat (first | (with_reducible first | exact HB.out | apply bla | apply bln | apply bld) | exact HB.out))) : w.heap.size ≤ gb102)); have n3_ := As0.mk ((by rw [hg]; exact (below_size (by repeat (first | (with_reducible first | exact HB.out | apply bla | apply bln | apply bld) | exact HB.out))) : w.heap.size ≤ gb102)); clear HB; have HB := n0_; have BK102 := n1_; have GW102 := n2_; have GE102 := n3_; clear n0_ n1_ n2_ n3_; clear hb hbox hg; have hcz5_0 : w4.cell? ⟨gb102, 0, none⟩ = some (.int .i64 a0_0) := (bkc BK102.out 0).trans rfl; have hcz5_1 : w4.cell? ⟨gb102, 1, none⟩ = some (.int .i64 a0_1) := (bkc BK102.out 1).trans rfl; have hcz5_2 : w4.cell? ⟨gb102, 2, none⟩ = some (.int .i64 a0_2) := (bkc BK102.out 2).trans rfl; have hcz5_3 : w4.cell? ⟨gb102, 3, none⟩ = some (.int .i64 a0_3) := (bkc BK102.out 3).trans rfl; have hcz5_4 : w4.cell? ⟨gb102, 4, none⟩ = some (.int .i64 a0_4) := (bkc BK102.out 4).trans rfl; have hcz5_5 : w4.cell? ⟨gb102, 5, none⟩ = some (.slice A0_5 l0_5.length c0_5) := (bkc BK102.out 5).trans rfl; have hcz5_6 : w4.cell? ⟨gb102, 6, none⟩ = some (.slice A0_6 l0_6.length c0_6) := (bkc BK102.out 6).trans rfl; have hfz5_0 := bkf BK102.out 0; have hfz5_1 := bkf BK102.out 1; have hfz5_2 := bkf BK102.out 2; have hfz5_3 := bkf BK102.out 3; have hfz5_4 := bkf BK102.out 4; have hfz5_5 := bkf BK102.out 5; have hfz5_6 := bkf BK102.out 6) | ((with_reducible refine gate_callee (f := 15) rfl ?_); refine goesL_ (some 5) rfl rfl Tryz.func15 (by kernel_rfl) rfl #[.slice A0_5 l0_5.length c0_5, .int .i64 40, .int .i64 100] rfl (by (try simp only [List.map_toArray, List.map_cons, List.map_nil]); first | done | rfl | (simp only [List.length_drop, List.length_take]; rfl)) ?_; (with_reducible refine (sr03_Long.calls k _ _ l0_5 40 100 true _ ?side1 ?side2 A2.out).mono ?_); (case side1 => repeat (first | exact (Kd.C_below HR0_5.out HB.out) | (with_reducible refine Kd.C_alloc ?_ _) | (with_reducible refine Kd.C_drewN ?_ _) | (with_reducible refine Kd.C_drew ?_))); (case side2 => exact HC0_5.out); rintro e w' ⟨rfl, ⟨nd, rfl⟩⟩; refine ⟨_, rfl, ?_⟩))
  go_ret
  exact ⟨by first | rfl | (simp [errW_none, errW_some] <;> rfl) | (simp [*, errW_none, errW_some] <;> rfl), by repeat (first | (with_reducible first | exact HB.out | apply bla | apply bln | apply bld | refine bls ?_ GE102.out) | exact HB.out)⟩
 ·
  replace c3 := Bool.eq_false_iff.mpr c3
  subst c3
  have H1 : (some (decide ((l0_6.length : Int) > 80))) = some r := by rw [if_neg (show ¬ (false = true) by decide)] at H; exact H
  clear H
  have H := H1
  clear H1
  obtain rfl := Option.some.inj H
  go_enter Tryz.func5, Tryz.ntmps5
  go_wp2_with (first | ((with_reducible refine gate_dst (N := 1) rfl ?_); (try (refine gate_guard (by rfl) ?_; dsimp only)); refine box_event ?hg (N := 1) ?hd (cs := #[.int .i64 a0_0, .int .i64 a0_1, .int .i64 a0_2, .int .i64 a0_3, .int .i64 a0_4, .slice A0_5 l0_5.length c0_5, .slice A0_6 l0_6.length c0_6]) (t := 25) ?hr ?_; (case hd => rfl); (case hg => rfl); (case hr => first | (go_simp; done) | (go_simp; rfl)); intro gb102 hg w6 hbox hb; have n0_ := As0.mk (below_step (by repeat (first | (with_reducible first | exact HB.out | apply bla | apply bln | apply bld) | exact HB.out)) hb); have n1_ := As0.mk (hbox); have n2_ := As0.mk ((by rw [hg]; exact (below_size (by repeat (first | (with_reducible first | exact HB.out | apply bla | apply bln | apply bld) | exact HB.out))) : w.heap.size ≤ gb102)); have n3_ := As0.mk ((by rw [hg]; exact (below_size (by repeat (first | (with_reducible first | exact HB.out | apply bla | apply bln | apply bld) | exact HB.out))) : w.heap.size ≤ gb102)); clear HB; have HB := n0_; have BK102 := n1_; have GW102 := n2_; have GE102 := n3_; clear n0_ n1_ n2_ n3_; clear hb hbox hg; have hcz7_0 : w6.cell? ⟨gb102, 0, none⟩ = some (.int .i64 a0_0) := (bkc BK102.out 0).trans rfl; have hcz7_1 : w6.cell? ⟨gb102, 1, none⟩ = some (.int .i64 a0_1) := (bkc BK102.out 1).trans rfl; have hcz7_2 : w6.cell? ⟨gb102, 2, none⟩ = some (.int .i64 a0_2) := (bkc BK102.out 2).trans rfl; have hcz7_3 : w6.cell? ⟨gb102, 3, none⟩ = some (.int .i64 a0_3) := (bkc BK102.out 3).trans rfl; have hcz7_4 : w6.cell? ⟨gb102, 4, none⟩ = some (.int .i64 a0_4) := (bkc BK102.out 4).trans rfl; have hcz7_5 : w6.cell? ⟨gb102, 5, none⟩ = some (.slice A0_5 l0_5.length c0_5) := (bkc BK102.out 5).trans rfl; have hcz7_6 : w6.cell? ⟨gb102, 6, none⟩ = some (.slice A0_6 l0_6.length c0_6) := (bkc BK102.out 6).trans rfl; have hfz7_0 := bkf BK102.out 0; have hfz7_1 := bkf BK102.out 1; have hfz7_2 := bkf BK102.out 2; have hfz7_3 := bkf BK102.out 3; have hfz7_4 := bkf BK102.out 4; have hfz7_5 := bkf BK102.out 5; have hfz7_6 := bkf BK102.out 6) | ((with_reducible refine gate_callee (f := 15) rfl ?_); refine goesL_ (some 5) rfl rfl Tryz.func15 (by kernel_rfl) rfl #[.slice A0_5 l0_5.length c0_5, .int .i64 40, .int .i64 100] rfl (by (try simp only [List.map_toArray, List.map_cons, List.map_nil]); first | done | rfl | (simp only [List.length_drop, List.length_take]; rfl)) ?_; (with_reducible refine (sr03_Long.calls k _ _ l0_5 40 100 false _ ?side1 ?side2 A2.out).mono ?_); (case side1 => repeat (first | exact (Kd.C_below HR0_5.out HB.out) | (with_reducible refine Kd.C_alloc ?_ _) | (with_reducible refine Kd.C_drewN ?_ _) | (with_reducible refine Kd.C_drew ?_))); (case side2 => exact HC0_5.out); rintro e w' ⟨rfl, ⟨nd, rfl⟩⟩; refine ⟨_, rfl, ?_⟩))
  go_ret
  exact ⟨by first | rfl | (simp [errW_none, errW_some] <;> rfl) | (simp [*, errW_none, errW_some] <;> rfl), by repeat (first | (with_reducible first | exact HB.out | apply bla | apply bln | apply bld | refine bls ?_ GE102.out) | exact HB.out)⟩
end Go.Proofs.YtmppkcdphgelcaaGreatDoor.PConf
