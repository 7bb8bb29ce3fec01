/- ConfNumbers: for every integer and every string the law answers true and leaves its arguments as they read; the variables of Go's library hold what the program's text lays (tied). -/
import Derived.Below
import Derived.BigRegion
import Derived.ChangeOld
import Derived.Deep.DrawnRows
import Derived.Deep.LoopGhost
import Derived.Deep.RegionHeld3
import Derived.Deep.RegionLaw
import Derived.IntWalk
import Derived.KernelRfl
import Derived.Lib.AtoiTie
import Derived.Lib.ItoaMem
import Derived.Lib.ItoaNum
import Derived.Lib.SplitLaws
import Derived.OpenShut
import Derived.ProofKit
import Derived.SevenTiedAt
import Derived.ShutString
import Derived.SizedLaws
import Derived.WalkKit
import Derived.WalkSpells
import Derived.Test.YtmppkcdphgelcaaDoorCards
import Derived.Test.YtmppkcdphgelcaaDoorRows
import Derived.Test.YtmppkcdphgelcaaDoorTie
import Derived.Test.YtmppkcdphgelcaaDoorZn1
import Derived.Test.YtmppkcdphgelcaaDoorZn2
import Derived.Test.YtmppkcdphgelcaaDoorZn3
namespace Go.Proofs.YtmppkcdphgelcaaDoor.PConf
open Go.RowKit Go.Proofs.YtmppkcdphgelcaaDoorW.PrintWords Go.Proofs.YtmppkcdphgelcaaDoorW.PrintLast Go.Proofs.YtmppkcdphgelcaaDoorW.PrintMore
attribute [local go_sem] max2_int min2_int max_two min_two max_three min_three max_four min_four   -- for this text's walks alone
set_option linter.unusedVariables false
set_option linter.unusedSimpArgs false
attribute [local go_sem ↓] Go.wp_at_zero Go.wp_at_succ
def confWords (s : ByteArray) : List ByteArray := Lib.splitB ⟨#[32]⟩ 0 (Lib.countB s ⟨#[32]⟩) s
theorem confWords.len (s : ByteArray) : (confWords s).length = Lib.countB s ⟨#[32]⟩ + 1 := Lib.splitB_all ⟨#[32]⟩ (by decide) 0 _ s rfl
structure ConfAt (B : Nat) (W : World) (nm : List ByteArray) (wk : List Wk) (nmv wkv : Value) : Prop where
  names : Kd.R Kd.string 9 W B (fun _ => True) nmv nm
  workers : Kd.R k79 79 W B (fun _ => True) wkv wk
theorem ConfAt.below {B : Nat} {W W' : World} {nm : List ByteArray} {wk : List Wk} {nmv wkv : Value} (h : ConfAt B W nm wk nmv wkv) (hb : Below W.heap.size W W') : ConfAt B W' nm wk nmv wkv := ⟨Kd.R_below h.names hb, Kd.R_below h.workers hb⟩
structure CalleeDone (P : Value → Prop) (B g : Nat) (ok : Bool) (a0 a1 a2 a3 a4 : Int) (nm : List ByteArray) (wk : List Wk) (wkv : Value) (W : World) (e : Ending) (w' : World) : Prop where
  val : e = .returned (.bool ok)
  rows : ∃ nmv' wkv', w'.heap[g]? = some (.cells (confCells a0 a1 a2 a3 a4 nmv' wkv') 49 (0, 0)) ∧ ConfAt B w' nm wk nmv' wkv' ∧ P nmv'
  world : Kept W w' (fun k => k = g ∨ some k = wkv.ownBlock)
  below : Below B W w'
structure TakenDone (P : Value → Prop) (B : Nat) (ok : Bool) (a0 a1 a2 a3 a4 : Int) (nm : List ByteArray) (wk : List Wk) (wkv : Value) (w : World) (e : Ending) (w' : World) : Prop where
  val : ∃ nmv' wkv', e = .returned (.tuple #[.agg (confCells a0 a1 a2 a3 a4 nmv' wkv'), .bool ok]) ∧ ConfAt B w' nm wk nmv' wkv' ∧ P nmv'
  world : Kept w w' (fun k => some k = wkv.ownBlock)
  below : Below B w w'
def PartOf (P : Value → Prop) (f B g n : Nat) (ok : Bool) (c0 c1 c2 c3 c4 : Int) (nm0 : List ByteArray) (wk0 : List Wk) (nmv wkv : Value) (a0 a1 a2 a3 a4 : Int) (nm : List ByteArray) (wk : List Wk) (s : ByteArray) : Prop :=
  ∀ (W : World) (b : Nat), Laid W → B ≤ W.heap.size → W.heap[g]? = some (.cells (confCells c0 c1 c2 c3 c4 nmv wkv) 49 (0, 0)) → ConfAt B W nm0 wk0 nmv wkv →
    W.heap[b]? = some (.cells ((confWords s).map Value.string).toArray 9 (0, 0)) → (∀ k, nmv.ownBlock = some k → k ≠ b) →
    Calls Tryd.prog f #[.pointer (some ⟨g, 0, none⟩), .slice (some ⟨b, 0, none⟩) n n] W (CalleeDone P B g ok a0 a1 a2 a3 a4 nm wk wkv W)
theorem cells_kept {w w' : World} {g : Nat} {cs : Array Value} {t : TypeId} {S : Nat → Prop} (h : w.heap[g]? = some (.cells cs t (0, 0))) (hk : Kept w w' S) (hn : ¬ S g) : w'.heap[g]? = some (.cells cs t (0, 0)) := blk_kept h hk hn
def confPut (W : World) (g : Nat) (a0 a1 a2 a3 a4 : Int) (u v : Value) : World := ((((((W.setCell ⟨g, 0, none⟩ (.int .i64 a0)).setCell ⟨g, 1, none⟩ (.int .i64 a1)).setCell ⟨g, 2, none⟩ (.int .i64 a2)).setCell ⟨g, 3, none⟩ (.int .i64 a3)).setCell ⟨g, 4, none⟩ (.int .i64 a4)).setCell ⟨g, 5, none⟩ u).setCell ⟨g, 6, none⟩ v
theorem confPut.at_ {W : World} {g : Nat} {b0 b1 b2 b3 b4 : Int} {x y : Value} (h : W.heap[g]? = some (.cells (confCells b0 b1 b2 b3 b4 x y) 49 (0, 0))) (a0 a1 a2 a3 a4 : Int) (u v : Value) : (confPut W g a0 a1 a2 a3 a4 u v).heap[g]? = some (.cells (confCells a0 a1 a2 a3 a4 u v) 49 (0, 0)) := by
  have z0 := blk_set h 0 (.int .i64 a0)
  have z1 := blk_set z0 1 (.int .i64 a1)
  have z2 := blk_set z1 2 (.int .i64 a2)
  have z3 := blk_set z2 3 (.int .i64 a3)
  have z4 := blk_set z3 4 (.int .i64 a4)
  have z5 := blk_set z4 5 u
  have z6 := blk_set z5 6 v
  unfold confPut
  rw [z6]
  simp [confCells]
theorem confPut.kept {w W : World} {S : Nat → Prop} {g : Nat} (h : Kept w W S) (hg : w.heap.size ≤ g) (a0 a1 a2 a3 a4 : Int) (u v : Value) : Kept w (confPut W g a0 a1 a2 a3 a4 u v) S := by
  unfold confPut
  exact Kept.setCell (Kept.setCell (Kept.setCell (Kept.setCell (Kept.setCell (Kept.setCell (Kept.setCell h (.inr hg) _) (.inr hg) _) (.inr hg) _) (.inr hg) _) (.inr hg) _) (.inr hg) _) (.inr hg) _
theorem confPut.below {w W : World} {B : Nat} {g : Nat} (h : Below B w W) (hg : B ≤ g) (a0 a1 a2 a3 a4 : Int) (u v : Value) : Below B w (confPut W g a0 a1 a2 a3 a4 u v) := by
  unfold confPut
  exact ((((((h.setCell hg _).setCell hg _).setCell hg _).setCell hg _).setCell hg _).setCell hg _).setCell hg _
theorem ConfAt.far {B : Nat} {W W' : World} {nm : List ByteArray} {wk : List Wk} {nmv wkv : Value} {g : Nat} {cells : Array Value} (h : ConfAt B W nm wk nmv wkv) (hb : W.heap[g]? = some (.cells cells 49 (0, 0))) (hk : Kept W W' (fun k => k = g)) : ConfAt B W' nm wk nmv wkv := by
  have h1 : ∀ q, q ∈ 9 :: Kd.string.E → q ≠ 49 := fun q hq => by
    have : q ∈ [9] := hq
    simp at this; omega
  have h2 : ∀ q, q ∈ 79 :: k79.E → q ≠ 49 := fun q hq => by
    have : q ∈ [79] := hq
    simp at this; omega
  exact ⟨Kd.R_mono (Kd.R_kept (Kd.R_types h.names hb h1) hk (fun k hk => hk.2)) (fun k hk => hk.1), Kd.R_mono (Kd.R_kept (Kd.R_types h.workers hb h2) hk (fun k hk => hk.2)) (fun k hk => hk.1)⟩
theorem confPut.near {W : World} (g : Nat) (a0 a1 a2 a3 a4 : Int) (u v : Value) : Kept W (confPut W g a0 a1 a2 a3 a4 u v) (fun k => k = g) := by
  unfold confPut
  have hp : ∀ i : Nat, (fun k => k = g) (⟨g, i, none⟩ : Addr).block ∨ W.heap.size ≤ (⟨g, i, none⟩ : Addr).block := fun _ => .inl rfl
  refine Kept.setCell (Kept.setCell (Kept.setCell (Kept.setCell (Kept.setCell (Kept.setCell (Kept.setCell (Kept.refl W _) (hp 0) _) (hp 1) _) (hp 2) _) (hp 3) _) (hp 4) _) (hp 5) _) (hp 6) _
theorem one_wk {W : World} {g : Nat} {a b s : Int} (h : W.heap[g]? = some (.cells #[.int .i64 a, .int .i64 b, .int .u64 s] 79 (0, 0))) : Kd.C k79 W (some ⟨g, 0, none⟩) ([⟨a, b, s⟩] : List Wk).length [⟨a, b, s⟩] := by
  refine ⟨rfl, by simp, fun _ => ⟨_, rfl, fun j p hp => ?_⟩⟩
  match j, hp with
  | 0, hp =>
    simp only [List.getElem?_cons_zero, Option.some.injEq] at hp
    subst hp
    refine ⟨_, rfl, k79_mk _ _, fun i u hu => ?_⟩
    rw [add_plain, Nat.zero_mul, Nat.zero_add, blk_cell h]
    match i, hu with
    | 0, hu => exact hu
    | 1, hu => exact hu
    | 2, hu => exact hu
    | i + 3, hu => simp at hu
  | j + 1, hp => simp at hp
set_option maxHeartbeats 6400000 in
set_option maxRecDepth 100000 in
theorem conf_taken.way0 (P : Value → Prop) (B : Nat) (ok : Bool) (c0 c1 c2 c3 c4 : Int) (nm0 : List ByteArray) (wk0 : List Wk) (nmv wkv : Value) (a0 a1 a2 a3 a4 : Int) (nm : List ByteArray) (wk : List Wk) (s : ByteArray) (w : World) (hL : Laid w) (hBw : B ≤ w.heap.size) (hs : s.size < 4294967281)
    (hca : ConfAt B w nm0 wk0 nmv wkv) (hp : PartOf P 71 B w.heap.size (Lib.countB s ⟨#[32]⟩ + 1) ok c0 c1 c2 c3 c4 nm0 wk0 nmv wkv a0 a1 a2 a3 a4 nm wk s) (k : Nat) (e2 : Int)
    (hch : ok = true → conf_Check.f k a0 a1 a2 a3 a4 [] [⟨1, 1, 0⟩] = some e2) :
    Calls Tryd.prog 43 #[.agg #[.int .i64 c0, .int .i64 c1, .int .i64 c2, .int .i64 c3, .int .i64 c4, nmv, wkv], .int .i64 0, .string s] w (TakenDone P B (ok && e2 == 0) a0 a1 a2 a3 a4 nm wk wkv w) := by
  obtain ⟨mx, hmx⟩ := hL.maxlen
  have HSP := Aside0.mk (fun (W : World) (hW : W.cell? ⟨1, 0, none⟩ = some (.int .i64 mx)) => Tryd.strings_Split s ⟨#[32]⟩ mx W hs hW (by decide))
  obtain ⟨cnt, hcnt⟩ : ∃ cnt, cnt = Lib.countB s ⟨#[32]⟩ := ⟨_, rfl⟩
  rw [← hcnt] at HSP hp
  obtain ⟨An, cn, rfl⟩ := Kd.R_slice hca.names
  obtain ⟨Aw, cw, rfl⟩ := Kd.R_slice hca.workers
  unfold PartOf at hp
  have HP := Aside0.mk hp
  have HCH := Aside0.mk hch
  have HL := Aside0.mk hL
  have HCA := Aside0.mk hca
  have HMX := Aside0.mk hmx
  have HCN := Aside0.mk hcnt
  clear hp hch hL hca hmx hcnt
  go_enter Tryd.func43, Tryd.ntmps43
  go_wp2_with fail
  obtain ⟨W0, hW0⟩ : ∃ W0, W0 = ((w.alloc (.cells #[.int .i64 c0, .int .i64 c1, .int .i64 c2, .int .i64 c3, .int .i64 c4, .slice An nm0.length cn, .slice Aw wk0.length cw] 49)).alloc (.cells #[.int .i64 0, .int .i64 0, .int .i64 0, .int .i64 0, .int .i64 0, .slice none 0 0, .slice none 0 0] 49)).alloc (.cells #[.func (.func 71) #[] #[], .func (.func 72) #[] #[], .func (.func 73) #[] #[]] 112) := ⟨_, rfl⟩
  have hZ0 : W0.heap.size = w.heap.size + 3 := by rw [hW0]; simp
  have HB0 := Aside0.mk (show Below w.heap.size w W0 by rw [hW0]; exact below_alloc (below_alloc (below_alloc (Below.refl _ _) _) _) _)
  have G0 := Aside0.mk (show W0.heap[w.heap.size]? = some (.cells (confCells c0 c1 c2 c3 c4 (.slice An nm0.length cn) (.slice Aw wk0.length cw)) 49 (0, 0)) by rw [hW0]; exact blk_alloc (blk_alloc (blk_new w _) _) _)
  have R0 := Aside0.mk (show W0.heap[w.heap.size + 1]? = some (.cells (confCells 0 0 0 0 0 (.slice none 0 0) (.slice none 0 0)) 49 (0, 0)) by
    rw [hW0]
    have := blk_new (w.alloc (.cells #[.int .i64 c0, .int .i64 c1, .int .i64 c2, .int .i64 c3, .int .i64 c4, .slice An nm0.length cn, .slice Aw wk0.length cw] 49)) (.cells (confCells 0 0 0 0 0 (.slice none 0 0) (.slice none 0 0)) 49)
    rw [show (w.alloc (.cells #[.int .i64 c0, .int .i64 c1, .int .i64 c2, .int .i64 c3, .int .i64 c4, .slice An nm0.length cn, .slice Aw wk0.length cw] 49)).heap.size = w.heap.size + 1 by simp] at this
    exact blk_alloc this _)
  have P0 : W0.cell? ⟨w.heap.size + 1 + 1, 0, none⟩ = some (.func (.func 71) #[] #[]) := by
    rw [hW0, World.cell?_alloc_at _ _ _ _ (by simp)]; rfl
  have MX0 := Aside0.mk (pw_cell_below HB0.out HMX.out)
  have HNB := Aside0.mk (show ∀ k, (Value.slice An nm0.length cn).ownBlock = some k → k ≠ w.heap.size + 3 from fun k hk e => by have := Kd.R_lt HCA.out.names k hk; omega)
  have HNP := Aside0.mk (show ¬ (w.heap.size + 1 + 1 = w.heap.size ∨ some (w.heap.size + 1 + 1) = (Value.slice Aw wk0.length cw).ownBlock) from fun h => by
    rcases h with h | h
    · omega
    · have := Kd.R_lt HCA.out.workers _ h.symm; omega)
  have HNR := Aside0.mk (show ¬ (w.heap.size + 1 = w.heap.size ∨ some (w.heap.size + 1) = (Value.slice Aw wk0.length cw).ownBlock) from fun h => by
    rcases h with h | h
    · omega
    · have := Kd.R_lt HCA.out.workers _ h.symm; omega)
  rw [← hW0]
  clear hW0
  have MX0d := Aside0.mk (show W0.drew.cell? ⟨1, 0, none⟩ = some (.int .i64 mx) from MX0.out)
  go_region_held3 (fun w' => w'.cell? ⟨w.heap.size + 1 + 1, 0, none⟩ = some (.func (.func 71) #[] #[])) (first | go_keep | (exact P1.out) | (exact PK.out)) (first | (go_at_call 74; go_must ((with_reducible refine (HSP.out _ MX0d.out).mono ?_); rintro e W1 ⟨rfl, hW1⟩; have HB1 := Aside0.mk (show Below w.heap.size w W1 by rw [hW1]; exact below_alloc (below_drew HB0.out) _); have G1 := Aside0.mk (show W1.heap[w.heap.size]? = some (.cells (confCells c0 c1 c2 c3 c4 (.slice An nm0.length cn) (.slice Aw wk0.length cw)) 49 (0, 0)) by rw [hW1]; exact blk_alloc (blk_drew G0.out) _); have R1 := Aside0.mk (show W1.heap[w.heap.size + 1]? = some (.cells (confCells 0 0 0 0 0 (.slice none 0 0) (.slice none 0 0)) 49 (0, 0)) by rw [hW1]; exact blk_alloc (blk_drew R0.out) _); have P1 := Aside0.mk (show W1.cell? ⟨w.heap.size + 1 + 1, 0, none⟩ = some (.func (.func 71) #[] #[]) by rw [hW1]; exact pw_cell_below (w := W0) (below_alloc (below_drew (Below.refl _ _)) _) P0); have Q1 := Aside0.mk (show W1.heap[w.heap.size + 3]? = some (.cells ((confWords s).map Value.string).toArray 9 (0, 0)) by rw [hW1, HCN.out, ← hZ0]; exact blk_new W0.drew _); have HL1 := Aside0.mk (HL.out.below HB1.out); have HCA1 := Aside0.mk (HCA.out.below HB1.out); have HBS1 := Aside0.mk (Nat.le_trans hBw HB1.out.size); clear hW1)) | (go_at_call 71; go_must ((with_reducible refine (HP.out _ (w.heap.size + 3) HL1.out HBS1.out G1.out HCA1.out Q1.out HNB.out).mono ?_); rintro e w2 ⟨rfl, ⟨nmv2, wkv2, hg2, hca2, hP2⟩, hk2, hb2⟩; obtain ⟨An2, cn2, rfl⟩ := Kd.R_slice hca2.names; obtain ⟨Aw2, cw2, rfl⟩ := Kd.R_slice hca2.workers; have HG2 := Aside0.mk hg2; have HPW := Aside0.mk hP2; have HCA2 := Aside0.mk hca2; have HK2 := Aside0.mk (Kept.then_ (S := fun k => some k = (Value.slice Aw wk0.length cw).ownBlock) (Kept.of_below HB1.out _) hk2 (fun k hk => hk.elim (fun e => .inr (Nat.le_of_eq e.symm)) .inl)); have HB2 := Aside0.mk (Below.trans (HB1.out.mono hBw) hb2); have HZ2 := Aside0.mk (Nat.le_trans (show w.heap.size + 4 ≤ W1.heap.size by have := blk_lt Q1.out; omega) hb2.size); have R2 := Aside0.mk (cells_kept R1.out hk2 HNR.out); have PK := Aside0.mk (show w2.cell? ⟨w.heap.size + 1 + 1, 0, none⟩ = some (.func (.func 71) #[] #[]) from cell_kept P1.out hk2 HNP.out); clear hg2 hca2 hk2 hb2 hP2)))
  all_goals
    have q0 := (show w2.cell? ⟨w.heap.size, 0, none⟩ = some (.int .i64 a0) from (blk_cell HG2.out 0).trans rfl)
    have q1 := (show w2.cell? ⟨w.heap.size, 1, none⟩ = some (.int .i64 a1) from (blk_cell HG2.out 1).trans rfl)
    have q2 := (show w2.cell? ⟨w.heap.size, 2, none⟩ = some (.int .i64 a2) from (blk_cell HG2.out 2).trans rfl)
    have q3 := (show w2.cell? ⟨w.heap.size, 3, none⟩ = some (.int .i64 a3) from (blk_cell HG2.out 3).trans rfl)
    have q4 := (show w2.cell? ⟨w.heap.size, 4, none⟩ = some (.int .i64 a4) from (blk_cell HG2.out 4).trans rfl)
    have q5 := (show w2.cell? ⟨w.heap.size, 5, none⟩ = some (.slice An2 nm.length cn2) from (blk_cell HG2.out 5).trans rfl)
    have q6 := (show w2.cell? ⟨w.heap.size, 6, none⟩ = some (.slice Aw2 wk.length cw2) from (blk_cell HG2.out 6).trans rfl)
    have f0 := blk_frozen R2.out 0
    have f1 := blk_frozen R2.out 1
    have f2 := blk_frozen R2.out 2
    have f3 := blk_frozen R2.out 3
    have f4 := blk_frozen R2.out 4
    have f5 := blk_frozen R2.out 5
    have f6 := blk_frozen R2.out 6
    have r0 := (show w2.cell? ⟨w.heap.size + 1, 0, none⟩ = some (.int .i64 0) from (blk_cell R2.out 0).trans rfl)
    have r1 := (show w2.cell? ⟨w.heap.size + 1, 1, none⟩ = some (.int .i64 0) from (blk_cell R2.out 1).trans rfl)
    have r2 := (show w2.cell? ⟨w.heap.size + 1, 2, none⟩ = some (.int .i64 0) from (blk_cell R2.out 2).trans rfl)
    have r3 := (show w2.cell? ⟨w.heap.size + 1, 3, none⟩ = some (.int .i64 0) from (blk_cell R2.out 3).trans rfl)
    have r4 := (show w2.cell? ⟨w.heap.size + 1, 4, none⟩ = some (.int .i64 0) from (blk_cell R2.out 4).trans rfl)
    have r5 := (show w2.cell? ⟨w.heap.size + 1, 5, none⟩ = some (.slice none 0 0) from (blk_cell R2.out 5).trans rfl)
    have r6 := (show w2.cell? ⟨w.heap.size + 1, 6, none⟩ = some (.slice none 0 0) from (blk_cell R2.out 6).trans rfl)
    cases ok
    · go_wp2_with fail
      have RR := Aside0.mk (confPut.at_ R2.out a0 a1 a2 a3 a4 (.slice An2 nm.length cn2) (.slice Aw2 wk.length cw2))
      show bodyPost _ _ _ _ _ (confPut w2 (w.heap.size + 1) a0 a1 a2 a3 a4 (.slice An2 nm.length cn2) (.slice Aw2 wk.length cw2))
      obtain ⟨W9, hW9⟩ : ∃ W9, W9 = (confPut w2 (w.heap.size + 1) a0 a1 a2 a3 a4 (.slice An2 nm.length cn2) (.slice Aw2 wk.length cw2)) := ⟨_, rfl⟩
      rw [← hW9] at RR ⊢
      have s0 := (show W9.cell? ⟨w.heap.size + 1, 0, none⟩ = some (.int .i64 a0) from (blk_cell RR.out 0).trans rfl)
      have s1 := (show W9.cell? ⟨w.heap.size + 1, 1, none⟩ = some (.int .i64 a1) from (blk_cell RR.out 1).trans rfl)
      have s2 := (show W9.cell? ⟨w.heap.size + 1, 2, none⟩ = some (.int .i64 a2) from (blk_cell RR.out 2).trans rfl)
      have s3 := (show W9.cell? ⟨w.heap.size + 1, 3, none⟩ = some (.int .i64 a3) from (blk_cell RR.out 3).trans rfl)
      have s4 := (show W9.cell? ⟨w.heap.size + 1, 4, none⟩ = some (.int .i64 a4) from (blk_cell RR.out 4).trans rfl)
      have s5 := (show W9.cell? ⟨w.heap.size + 1, 5, none⟩ = some (.slice An2 nm.length cn2) from (blk_cell RR.out 5).trans rfl)
      have s6 := (show W9.cell? ⟨w.heap.size + 1, 6, none⟩ = some (.slice Aw2 wk.length cw2) from (blk_cell RR.out 6).trans rfl)
      refine bodyPost_ret (v := .tuple #[.agg (confCells a0 a1 a2 a3 a4 (.slice An2 nm.length cn2) (.slice Aw2 wk.length cw2)), .bool false]) (by simp [results, Tryd.results43, go_sem, s0, s1, s2, s3, s4, s5, s6, confCells]) rfl ⟨⟨_, _, rfl, ?_, HPW.out⟩, ?_, ?_⟩
      · rw [hW9]; exact HCA2.out.far R2.out (confPut.near _ _ _ _ _ _ _ _)
      · rw [hW9]; exact confPut.kept HK2.out (Nat.le_succ _) _ _ _ _ _ _ _
      · rw [hW9]; exact confPut.below HB2.out (Nat.le_succ_of_le hBw) _ _ _ _ _ _ _
    · have HN2 := Aside0.mk (show w.heap.size + 4 ≤ w2.heap.size from HZ2.out)
      go_wp2_with fail
      obtain ⟨W3, hW3⟩ : ∃ W3, W3 = ((w2.alloc (.cells #[.int .i64 a0, .int .i64 a1, .int .i64 a2, .int .i64 a3, .int .i64 a4, .slice none 0 0, .slice (some ⟨w2.heap.size + 1, 0, none⟩) 1 1] 49)).alloc (.cells #[.int .i64 1, .int .i64 1, .int .u64 0] 79)) := ⟨_, rfl⟩
      have HB3 := Aside0.mk (show Below w2.heap.size w2 W3 by rw [hW3]; exact below_alloc (below_alloc (Below.refl _ _) _) _)
      have L3 := Aside0.mk (show W3.heap[w2.heap.size]? = some (.cells (confCells a0 a1 a2 a3 a4 (.slice none 0 0) (.slice (some ⟨w2.heap.size + 1, 0, none⟩) 1 1)) 49 (0, 0)) by rw [hW3]; exact blk_alloc (blk_new w2 _) _)
      have X3 := Aside0.mk (show W3.heap[w2.heap.size + 1]? = some (.cells #[.int .i64 1, .int .i64 1, .int .u64 0] 79 (0, 0)) by
        rw [hW3]
        have := blk_new (w2.alloc (.cells #[.int .i64 a0, .int .i64 a1, .int .i64 a2, .int .i64 a3, .int .i64 a4, .slice none 0 0, .slice (some ⟨w2.heap.size + 1, 0, none⟩) 1 1] 49)) (.cells #[.int .i64 1, .int .i64 1, .int .u64 0] 79)
        rw [show (w2.alloc (.cells #[.int .i64 a0, .int .i64 a1, .int .i64 a2, .int .i64 a3, .int .i64 a4, .slice none 0 0, .slice (some ⟨w2.heap.size + 1, 0, none⟩) 1 1] 49)).heap.size = w2.heap.size + 1 by simp] at this
        exact this)
      have R3 := Aside0.mk (blk_below R2.out HB3.out)
      have CA3 := Aside0.mk (HCA2.out.below HB3.out)
      have K3 := Aside0.mk (HK2.out.below HB3.out)
      have B3 := Aside0.mk (Below.trans HB2.out (HB3.out.mono (Nat.le_trans hBw (Nat.le_trans (Nat.le_add_right _ 4) HN2.out))))
      have HC3 := Aside0.mk (fun (W : World) (hW : Below W3.heap.size W3 W) => show Calls Tryd.prog 40 #[.agg #[.int .i64 a0, .int .i64 a1, .int .i64 a2, .int .i64 a3, .int .i64 a4, .slice none 0 0, .slice (some ⟨w2.heap.size + 1, 0, none⟩) 1 1]] W (fun e w_ => e = .returned (.int .i64 e2) ∧ Below W.heap.size W w_) from conf_Check.calls k a0 a1 a2 a3 a4 none 0 [] (some ⟨w2.heap.size + 1, 0, none⟩) 1 [⟨1, 1, 0⟩] e2 W (Kd.C_nil _ W) (Nat.le_refl _) (Kd.C_below (one_wk X3.out) hW) (Nat.le_refl _) (by first | exact HCH.out rfl | exact HCH.out trivial | exact HCH.out))
      have c0_ := (show W3.cell? ⟨w.heap.size, 0, none⟩ = some (.int .i64 a0) from pw_cell_below HB3.out q0)
      have c1_ := (show W3.cell? ⟨w.heap.size, 1, none⟩ = some (.int .i64 a1) from pw_cell_below HB3.out q1)
      have c2_ := (show W3.cell? ⟨w.heap.size, 2, none⟩ = some (.int .i64 a2) from pw_cell_below HB3.out q2)
      have c3_ := (show W3.cell? ⟨w.heap.size, 3, none⟩ = some (.int .i64 a3) from pw_cell_below HB3.out q3)
      have c4_ := (show W3.cell? ⟨w.heap.size, 4, none⟩ = some (.int .i64 a4) from pw_cell_below HB3.out q4)
      have c5_ := (show W3.cell? ⟨w.heap.size, 5, none⟩ = some (.slice An2 nm.length cn2) from pw_cell_below HB3.out q5)
      have c6_ := (show W3.cell? ⟨w.heap.size, 6, none⟩ = some (.slice Aw2 wk.length cw2) from pw_cell_below HB3.out q6)
      have l0 := (show W3.cell? ⟨w2.heap.size, 0, none⟩ = some (.int .i64 a0) from (blk_cell L3.out 0).trans rfl)
      have l1 := (show W3.cell? ⟨w2.heap.size, 1, none⟩ = some (.int .i64 a1) from (blk_cell L3.out 1).trans rfl)
      have l2 := (show W3.cell? ⟨w2.heap.size, 2, none⟩ = some (.int .i64 a2) from (blk_cell L3.out 2).trans rfl)
      have l3 := (show W3.cell? ⟨w2.heap.size, 3, none⟩ = some (.int .i64 a3) from (blk_cell L3.out 3).trans rfl)
      have l4 := (show W3.cell? ⟨w2.heap.size, 4, none⟩ = some (.int .i64 a4) from (blk_cell L3.out 4).trans rfl)
      have l5 := (show W3.cell? ⟨w2.heap.size, 5, none⟩ = some (.slice none 0 0) from (blk_cell L3.out 5).trans rfl)
      have l6 := (show W3.cell? ⟨w2.heap.size, 6, none⟩ = some (.slice (some ⟨w2.heap.size + 1, 0, none⟩) 1 1) from (blk_cell L3.out 6).trans rfl)
      have g0 := (show W3.cell? ⟨w.heap.size + 1, 0, none⟩ = some (.int .i64 0) from (blk_cell R3.out 0).trans rfl)
      have g1 := (show W3.cell? ⟨w.heap.size + 1, 1, none⟩ = some (.int .i64 0) from (blk_cell R3.out 1).trans rfl)
      have g2 := (show W3.cell? ⟨w.heap.size + 1, 2, none⟩ = some (.int .i64 0) from (blk_cell R3.out 2).trans rfl)
      have g3 := (show W3.cell? ⟨w.heap.size + 1, 3, none⟩ = some (.int .i64 0) from (blk_cell R3.out 3).trans rfl)
      have g4 := (show W3.cell? ⟨w.heap.size + 1, 4, none⟩ = some (.int .i64 0) from (blk_cell R3.out 4).trans rfl)
      have g5 := (show W3.cell? ⟨w.heap.size + 1, 5, none⟩ = some (.slice none 0 0) from (blk_cell R3.out 5).trans rfl)
      have g6 := (show W3.cell? ⟨w.heap.size + 1, 6, none⟩ = some (.slice none 0 0) from (blk_cell R3.out 6).trans rfl)
      have u0 := blk_frozen R3.out 0
      have u1 := blk_frozen R3.out 1
      have u2 := blk_frozen R3.out 2
      have u3 := blk_frozen R3.out 3
      have u4 := blk_frozen R3.out 4
      have u5 := blk_frozen R3.out 5
      have u6 := blk_frozen R3.out 6
      obtain ⟨gl, hgl⟩ : ∃ gl, gl = w2.heap.size := ⟨_, rfl⟩
      have hne : ¬ gl = w.heap.size + 1 := by have := HN2.out; omega
      have hne2 : ¬ w.heap.size + 1 = gl := fun e => hne e.symm
      rw [← hW3]
      clear hW3 q0 f0 r0 q1 f1 r1 q2 f2 r2 q3 f3 r3 q4 f4 r4 q5 f5 r5 q6 f6 r6
      rw [← hgl] at l0 l1 l2 l3 l4 l5 l6 HC3 ⊢
      have HGL := Aside0.mk hgl
      clear hgl
      go_region_held3 (fun w' => w'.cell? ⟨w.heap.size, 0, none⟩ = some (.int .i64 a0) ∧ w'.cell? ⟨w.heap.size, 1, none⟩ = some (.int .i64 a1) ∧ w'.cell? ⟨w.heap.size, 2, none⟩ = some (.int .i64 a2) ∧ w'.cell? ⟨w.heap.size, 3, none⟩ = some (.int .i64 a3) ∧ w'.cell? ⟨w.heap.size, 4, none⟩ = some (.int .i64 a4) ∧ w'.cell? ⟨w.heap.size, 5, none⟩ = some (.slice An2 nm.length cn2) ∧ w'.cell? ⟨w.heap.size, 6, none⟩ = some (.slice Aw2 wk.length cw2) ∧ w'.cell? ⟨gl, 0, none⟩ = some (.int .i64 a0) ∧ w'.cell? ⟨gl, 1, none⟩ = some (.int .i64 a1) ∧ w'.cell? ⟨gl, 2, none⟩ = some (.int .i64 a2) ∧ w'.cell? ⟨gl, 3, none⟩ = some (.int .i64 a3) ∧ w'.cell? ⟨gl, 4, none⟩ = some (.int .i64 a4) ∧ w'.cell? ⟨gl, 5, none⟩ = some (.slice none 0 0) ∧ w'.cell? ⟨gl, 6, none⟩ = some (.slice (some ⟨gl + 1, 0, none⟩) 1 1)) (go_keep) ((go_at_call 40; go_must ((with_reducible refine (HC3.out _ (by exact below_drew (Below.refl _ _))).mono ?_); rintro e w4 ⟨rfl, hb4⟩; have HB4 := Aside0.mk (show Below W3.heap.size W3 w4 from below_then (below_drew (Below.refl W3.heap.size W3)) (Nat.le_refl _) hb4); have x0 := (show w4.cell? ⟨w.heap.size, 0, none⟩ = some (.int .i64 a0) from pw_cell_below HB4.out c0_); have z0 := (show w4.cell? ⟨gl, 0, none⟩ = some (.int .i64 a0) from pw_cell_below HB4.out l0); have x1 := (show w4.cell? ⟨w.heap.size, 1, none⟩ = some (.int .i64 a1) from pw_cell_below HB4.out c1_); have z1 := (show w4.cell? ⟨gl, 1, none⟩ = some (.int .i64 a1) from pw_cell_below HB4.out l1); have x2 := (show w4.cell? ⟨w.heap.size, 2, none⟩ = some (.int .i64 a2) from pw_cell_below HB4.out c2_); have z2 := (show w4.cell? ⟨gl, 2, none⟩ = some (.int .i64 a2) from pw_cell_below HB4.out l2); have x3 := (show w4.cell? ⟨w.heap.size, 3, none⟩ = some (.int .i64 a3) from pw_cell_below HB4.out c3_); have z3 := (show w4.cell? ⟨gl, 3, none⟩ = some (.int .i64 a3) from pw_cell_below HB4.out l3); have x4 := (show w4.cell? ⟨w.heap.size, 4, none⟩ = some (.int .i64 a4) from pw_cell_below HB4.out c4_); have z4 := (show w4.cell? ⟨gl, 4, none⟩ = some (.int .i64 a4) from pw_cell_below HB4.out l4); have x5 := (show w4.cell? ⟨w.heap.size, 5, none⟩ = some (.slice An2 nm.length cn2) from pw_cell_below HB4.out c5_); have z5 := (show w4.cell? ⟨gl, 5, none⟩ = some (.slice none 0 0) from pw_cell_below HB4.out l5); have x6 := (show w4.cell? ⟨w.heap.size, 6, none⟩ = some (.slice Aw2 wk.length cw2) from pw_cell_below HB4.out c6_); have z6 := (show w4.cell? ⟨gl, 6, none⟩ = some (.slice (some ⟨gl + 1, 0, none⟩) 1 1) from pw_cell_below HB4.out l6); have y0 := (show w4.cell? ⟨w.heap.size + 1, 0, none⟩ = some (.int .i64 0) from pw_cell_below HB4.out g0); have y1 := (show w4.cell? ⟨w.heap.size + 1, 1, none⟩ = some (.int .i64 0) from pw_cell_below HB4.out g1); have y2 := (show w4.cell? ⟨w.heap.size + 1, 2, none⟩ = some (.int .i64 0) from pw_cell_below HB4.out g2); have y3 := (show w4.cell? ⟨w.heap.size + 1, 3, none⟩ = some (.int .i64 0) from pw_cell_below HB4.out g3); have y4 := (show w4.cell? ⟨w.heap.size + 1, 4, none⟩ = some (.int .i64 0) from pw_cell_below HB4.out g4); have y5 := (show w4.cell? ⟨w.heap.size + 1, 5, none⟩ = some (.slice none 0 0) from pw_cell_below HB4.out g5); have y6 := (show w4.cell? ⟨w.heap.size + 1, 6, none⟩ = some (.slice none 0 0) from pw_cell_below HB4.out g6); have R4 := Aside0.mk (blk_below R3.out HB4.out); have v0 := blk_frozen R4.out 0; have v1 := blk_frozen R4.out 1; have v2 := blk_frozen R4.out 2; have v3 := blk_frozen R4.out 3; have v4 := blk_frozen R4.out 4; have v5 := blk_frozen R4.out 5; have v6 := blk_frozen R4.out 6; clear hb4)))
      all_goals
        have RR := Aside0.mk (confPut.at_ R4.out a0 a1 a2 a3 a4 (.slice An2 nm.length cn2) (.slice Aw2 wk.length cw2))
        have CA4 := Aside0.mk (CA3.out.below HB4.out)
        have K4 := Aside0.mk (Kept.below K3.out HB4.out)
        have B4 := Aside0.mk (Below.trans B3.out (HB4.out.mono (Nat.le_trans hBw (Nat.le_trans (Nat.le_add_right _ 4) (Nat.le_trans HN2.out HB3.out.size)))))
        go_wp2_with fail
        show bodyPost _ _ _ _ _ (confPut w4 (w.heap.size + 1) a0 a1 a2 a3 a4 (.slice An2 nm.length cn2) (.slice Aw2 wk.length cw2))
        obtain ⟨W9, hW9⟩ : ∃ W9, W9 = (confPut w4 (w.heap.size + 1) a0 a1 a2 a3 a4 (.slice An2 nm.length cn2) (.slice Aw2 wk.length cw2)) := ⟨_, rfl⟩
        rw [← hW9] at RR ⊢
        have s0 := (show W9.cell? ⟨w.heap.size + 1, 0, none⟩ = some (.int .i64 a0) from (blk_cell RR.out 0).trans rfl)
        have s1 := (show W9.cell? ⟨w.heap.size + 1, 1, none⟩ = some (.int .i64 a1) from (blk_cell RR.out 1).trans rfl)
        have s2 := (show W9.cell? ⟨w.heap.size + 1, 2, none⟩ = some (.int .i64 a2) from (blk_cell RR.out 2).trans rfl)
        have s3 := (show W9.cell? ⟨w.heap.size + 1, 3, none⟩ = some (.int .i64 a3) from (blk_cell RR.out 3).trans rfl)
        have s4 := (show W9.cell? ⟨w.heap.size + 1, 4, none⟩ = some (.int .i64 a4) from (blk_cell RR.out 4).trans rfl)
        have s5 := (show W9.cell? ⟨w.heap.size + 1, 5, none⟩ = some (.slice An2 nm.length cn2) from (blk_cell RR.out 5).trans rfl)
        have s6 := (show W9.cell? ⟨w.heap.size + 1, 6, none⟩ = some (.slice Aw2 wk.length cw2) from (blk_cell RR.out 6).trans rfl)
        refine bodyPost_ret (v := .tuple #[.agg (confCells a0 a1 a2 a3 a4 (.slice An2 nm.length cn2) (.slice Aw2 wk.length cw2)), .bool (e2 == 0)]) (by simp [results, Tryd.results43, go_sem, s0, s1, s2, s3, s4, s5, s6, confCells]) rfl ⟨⟨.slice An2 nm.length cn2, .slice Aw2 wk.length cw2, by simp, ?_, HPW.out⟩, ?_, ?_⟩
        · rw [hW9]; exact CA4.out.far R4.out (confPut.near _ _ _ _ _ _ _ _)
        · rw [hW9]; exact confPut.kept K4.out (Nat.le_succ _) _ _ _ _ _ _ _
        · rw [hW9]; exact confPut.below B4.out (Nat.le_succ_of_le hBw) _ _ _ _ _ _ _
set_option maxHeartbeats 6400000 in
set_option maxRecDepth 100000 in
theorem conf_taken.way1 (P : Value → Prop) (B : Nat) (ok : Bool) (c0 c1 c2 c3 c4 : Int) (nm0 : List ByteArray) (wk0 : List Wk) (nmv wkv : Value) (a0 a1 a2 a3 a4 : Int) (nm : List ByteArray) (wk : List Wk) (s : ByteArray) (w : World) (hL : Laid w) (hBw : B ≤ w.heap.size) (hs : s.size < 4294967281)
    (hca : ConfAt B w nm0 wk0 nmv wkv) (hp : PartOf P 72 B w.heap.size (Lib.countB s ⟨#[32]⟩ + 1) ok c0 c1 c2 c3 c4 nm0 wk0 nmv wkv a0 a1 a2 a3 a4 nm wk s) (k : Nat) (e2 : Int)
    (hch : ok = true → conf_Check.f k a0 a1 a2 a3 a4 nm [⟨1, 1, 0⟩] = some e2) :
    Calls Tryd.prog 43 #[.agg #[.int .i64 c0, .int .i64 c1, .int .i64 c2, .int .i64 c3, .int .i64 c4, nmv, wkv], .int .i64 1, .string s] w (TakenDone P B (ok && e2 == 0) a0 a1 a2 a3 a4 nm wk wkv w) := by
  obtain ⟨mx, hmx⟩ := hL.maxlen
  have HSP := Aside0.mk (fun (W : World) (hW : W.cell? ⟨1, 0, none⟩ = some (.int .i64 mx)) => Tryd.strings_Split s ⟨#[32]⟩ mx W hs hW (by decide))
  obtain ⟨cnt, hcnt⟩ : ∃ cnt, cnt = Lib.countB s ⟨#[32]⟩ := ⟨_, rfl⟩
  rw [← hcnt] at HSP hp
  obtain ⟨An, cn, rfl⟩ := Kd.R_slice hca.names
  obtain ⟨Aw, cw, rfl⟩ := Kd.R_slice hca.workers
  unfold PartOf at hp
  have HP := Aside0.mk hp
  have HCH := Aside0.mk hch
  have HL := Aside0.mk hL
  have HCA := Aside0.mk hca
  have HMX := Aside0.mk hmx
  have HCN := Aside0.mk hcnt
  clear hp hch hL hca hmx hcnt
  go_enter Tryd.func43, Tryd.ntmps43
  go_wp2_with fail
  obtain ⟨W0, hW0⟩ : ∃ W0, W0 = ((w.alloc (.cells #[.int .i64 c0, .int .i64 c1, .int .i64 c2, .int .i64 c3, .int .i64 c4, .slice An nm0.length cn, .slice Aw wk0.length cw] 49)).alloc (.cells #[.int .i64 0, .int .i64 0, .int .i64 0, .int .i64 0, .int .i64 0, .slice none 0 0, .slice none 0 0] 49)).alloc (.cells #[.func (.func 71) #[] #[], .func (.func 72) #[] #[], .func (.func 73) #[] #[]] 112) := ⟨_, rfl⟩
  have hZ0 : W0.heap.size = w.heap.size + 3 := by rw [hW0]; simp
  have HB0 := Aside0.mk (show Below w.heap.size w W0 by rw [hW0]; exact below_alloc (below_alloc (below_alloc (Below.refl _ _) _) _) _)
  have G0 := Aside0.mk (show W0.heap[w.heap.size]? = some (.cells (confCells c0 c1 c2 c3 c4 (.slice An nm0.length cn) (.slice Aw wk0.length cw)) 49 (0, 0)) by rw [hW0]; exact blk_alloc (blk_alloc (blk_new w _) _) _)
  have R0 := Aside0.mk (show W0.heap[w.heap.size + 1]? = some (.cells (confCells 0 0 0 0 0 (.slice none 0 0) (.slice none 0 0)) 49 (0, 0)) by
    rw [hW0]
    have := blk_new (w.alloc (.cells #[.int .i64 c0, .int .i64 c1, .int .i64 c2, .int .i64 c3, .int .i64 c4, .slice An nm0.length cn, .slice Aw wk0.length cw] 49)) (.cells (confCells 0 0 0 0 0 (.slice none 0 0) (.slice none 0 0)) 49)
    rw [show (w.alloc (.cells #[.int .i64 c0, .int .i64 c1, .int .i64 c2, .int .i64 c3, .int .i64 c4, .slice An nm0.length cn, .slice Aw wk0.length cw] 49)).heap.size = w.heap.size + 1 by simp] at this
    exact blk_alloc this _)
  have P0 : W0.cell? ⟨w.heap.size + 1 + 1, 1, none⟩ = some (.func (.func 72) #[] #[]) := by
    rw [hW0, World.cell?_alloc_at _ _ _ _ (by simp)]; rfl
  have MX0 := Aside0.mk (pw_cell_below HB0.out HMX.out)
  have HNB := Aside0.mk (show ∀ k, (Value.slice An nm0.length cn).ownBlock = some k → k ≠ w.heap.size + 3 from fun k hk e => by have := Kd.R_lt HCA.out.names k hk; omega)
  have HNP := Aside0.mk (show ¬ (w.heap.size + 1 + 1 = w.heap.size ∨ some (w.heap.size + 1 + 1) = (Value.slice Aw wk0.length cw).ownBlock) from fun h => by
    rcases h with h | h
    · omega
    · have := Kd.R_lt HCA.out.workers _ h.symm; omega)
  have HNR := Aside0.mk (show ¬ (w.heap.size + 1 = w.heap.size ∨ some (w.heap.size + 1) = (Value.slice Aw wk0.length cw).ownBlock) from fun h => by
    rcases h with h | h
    · omega
    · have := Kd.R_lt HCA.out.workers _ h.symm; omega)
  rw [← hW0]
  clear hW0
  have MX0d := Aside0.mk (show W0.drew.cell? ⟨1, 0, none⟩ = some (.int .i64 mx) from MX0.out)
  go_region_held3 (fun w' => w'.cell? ⟨w.heap.size + 1 + 1, 1, none⟩ = some (.func (.func 72) #[] #[])) (first | go_keep | (exact P1.out) | (exact PK.out)) (first | (go_at_call 74; go_must ((with_reducible refine (HSP.out _ MX0d.out).mono ?_); rintro e W1 ⟨rfl, hW1⟩; have HB1 := Aside0.mk (show Below w.heap.size w W1 by rw [hW1]; exact below_alloc (below_drew HB0.out) _); have G1 := Aside0.mk (show W1.heap[w.heap.size]? = some (.cells (confCells c0 c1 c2 c3 c4 (.slice An nm0.length cn) (.slice Aw wk0.length cw)) 49 (0, 0)) by rw [hW1]; exact blk_alloc (blk_drew G0.out) _); have R1 := Aside0.mk (show W1.heap[w.heap.size + 1]? = some (.cells (confCells 0 0 0 0 0 (.slice none 0 0) (.slice none 0 0)) 49 (0, 0)) by rw [hW1]; exact blk_alloc (blk_drew R0.out) _); have P1 := Aside0.mk (show W1.cell? ⟨w.heap.size + 1 + 1, 1, none⟩ = some (.func (.func 72) #[] #[]) by rw [hW1]; exact pw_cell_below (w := W0) (below_alloc (below_drew (Below.refl _ _)) _) P0); have Q1 := Aside0.mk (show W1.heap[w.heap.size + 3]? = some (.cells ((confWords s).map Value.string).toArray 9 (0, 0)) by rw [hW1, HCN.out, ← hZ0]; exact blk_new W0.drew _); have HL1 := Aside0.mk (HL.out.below HB1.out); have HCA1 := Aside0.mk (HCA.out.below HB1.out); have HBS1 := Aside0.mk (Nat.le_trans hBw HB1.out.size); clear hW1)) | (go_at_call 72; go_must ((with_reducible refine (HP.out _ (w.heap.size + 3) HL1.out HBS1.out G1.out HCA1.out Q1.out HNB.out).mono ?_); rintro e w2 ⟨rfl, ⟨nmv2, wkv2, hg2, hca2, hP2⟩, hk2, hb2⟩; obtain ⟨An2, cn2, rfl⟩ := Kd.R_slice hca2.names; obtain ⟨Aw2, cw2, rfl⟩ := Kd.R_slice hca2.workers; have HG2 := Aside0.mk hg2; have HPW := Aside0.mk hP2; have HCA2 := Aside0.mk hca2; have HK2 := Aside0.mk (Kept.then_ (S := fun k => some k = (Value.slice Aw wk0.length cw).ownBlock) (Kept.of_below HB1.out _) hk2 (fun k hk => hk.elim (fun e => .inr (Nat.le_of_eq e.symm)) .inl)); have HB2 := Aside0.mk (Below.trans (HB1.out.mono hBw) hb2); have HZ2 := Aside0.mk (Nat.le_trans (show w.heap.size + 4 ≤ W1.heap.size by have := blk_lt Q1.out; omega) hb2.size); have R2 := Aside0.mk (cells_kept R1.out hk2 HNR.out); have PK := Aside0.mk (show w2.cell? ⟨w.heap.size + 1 + 1, 1, none⟩ = some (.func (.func 72) #[] #[]) from cell_kept P1.out hk2 HNP.out); clear hg2 hca2 hk2 hb2 hP2)))
  all_goals
    have q0 := (show w2.cell? ⟨w.heap.size, 0, none⟩ = some (.int .i64 a0) from (blk_cell HG2.out 0).trans rfl)
    have q1 := (show w2.cell? ⟨w.heap.size, 1, none⟩ = some (.int .i64 a1) from (blk_cell HG2.out 1).trans rfl)
    have q2 := (show w2.cell? ⟨w.heap.size, 2, none⟩ = some (.int .i64 a2) from (blk_cell HG2.out 2).trans rfl)
    have q3 := (show w2.cell? ⟨w.heap.size, 3, none⟩ = some (.int .i64 a3) from (blk_cell HG2.out 3).trans rfl)
    have q4 := (show w2.cell? ⟨w.heap.size, 4, none⟩ = some (.int .i64 a4) from (blk_cell HG2.out 4).trans rfl)
    have q5 := (show w2.cell? ⟨w.heap.size, 5, none⟩ = some (.slice An2 nm.length cn2) from (blk_cell HG2.out 5).trans rfl)
    have q6 := (show w2.cell? ⟨w.heap.size, 6, none⟩ = some (.slice Aw2 wk.length cw2) from (blk_cell HG2.out 6).trans rfl)
    have f0 := blk_frozen R2.out 0
    have f1 := blk_frozen R2.out 1
    have f2 := blk_frozen R2.out 2
    have f3 := blk_frozen R2.out 3
    have f4 := blk_frozen R2.out 4
    have f5 := blk_frozen R2.out 5
    have f6 := blk_frozen R2.out 6
    have r0 := (show w2.cell? ⟨w.heap.size + 1, 0, none⟩ = some (.int .i64 0) from (blk_cell R2.out 0).trans rfl)
    have r1 := (show w2.cell? ⟨w.heap.size + 1, 1, none⟩ = some (.int .i64 0) from (blk_cell R2.out 1).trans rfl)
    have r2 := (show w2.cell? ⟨w.heap.size + 1, 2, none⟩ = some (.int .i64 0) from (blk_cell R2.out 2).trans rfl)
    have r3 := (show w2.cell? ⟨w.heap.size + 1, 3, none⟩ = some (.int .i64 0) from (blk_cell R2.out 3).trans rfl)
    have r4 := (show w2.cell? ⟨w.heap.size + 1, 4, none⟩ = some (.int .i64 0) from (blk_cell R2.out 4).trans rfl)
    have r5 := (show w2.cell? ⟨w.heap.size + 1, 5, none⟩ = some (.slice none 0 0) from (blk_cell R2.out 5).trans rfl)
    have r6 := (show w2.cell? ⟨w.heap.size + 1, 6, none⟩ = some (.slice none 0 0) from (blk_cell R2.out 6).trans rfl)
    cases ok
    · go_wp2_with fail
      have RR := Aside0.mk (confPut.at_ R2.out a0 a1 a2 a3 a4 (.slice An2 nm.length cn2) (.slice Aw2 wk.length cw2))
      show bodyPost _ _ _ _ _ (confPut w2 (w.heap.size + 1) a0 a1 a2 a3 a4 (.slice An2 nm.length cn2) (.slice Aw2 wk.length cw2))
      obtain ⟨W9, hW9⟩ : ∃ W9, W9 = (confPut w2 (w.heap.size + 1) a0 a1 a2 a3 a4 (.slice An2 nm.length cn2) (.slice Aw2 wk.length cw2)) := ⟨_, rfl⟩
      rw [← hW9] at RR ⊢
      have s0 := (show W9.cell? ⟨w.heap.size + 1, 0, none⟩ = some (.int .i64 a0) from (blk_cell RR.out 0).trans rfl)
      have s1 := (show W9.cell? ⟨w.heap.size + 1, 1, none⟩ = some (.int .i64 a1) from (blk_cell RR.out 1).trans rfl)
      have s2 := (show W9.cell? ⟨w.heap.size + 1, 2, none⟩ = some (.int .i64 a2) from (blk_cell RR.out 2).trans rfl)
      have s3 := (show W9.cell? ⟨w.heap.size + 1, 3, none⟩ = some (.int .i64 a3) from (blk_cell RR.out 3).trans rfl)
      have s4 := (show W9.cell? ⟨w.heap.size + 1, 4, none⟩ = some (.int .i64 a4) from (blk_cell RR.out 4).trans rfl)
      have s5 := (show W9.cell? ⟨w.heap.size + 1, 5, none⟩ = some (.slice An2 nm.length cn2) from (blk_cell RR.out 5).trans rfl)
      have s6 := (show W9.cell? ⟨w.heap.size + 1, 6, none⟩ = some (.slice Aw2 wk.length cw2) from (blk_cell RR.out 6).trans rfl)
      refine bodyPost_ret (v := .tuple #[.agg (confCells a0 a1 a2 a3 a4 (.slice An2 nm.length cn2) (.slice Aw2 wk.length cw2)), .bool false]) (by simp [results, Tryd.results43, go_sem, s0, s1, s2, s3, s4, s5, s6, confCells]) rfl ⟨⟨_, _, rfl, ?_, HPW.out⟩, ?_, ?_⟩
      · rw [hW9]; exact HCA2.out.far R2.out (confPut.near _ _ _ _ _ _ _ _)
      · rw [hW9]; exact confPut.kept HK2.out (Nat.le_succ _) _ _ _ _ _ _ _
      · rw [hW9]; exact confPut.below HB2.out (Nat.le_succ_of_le hBw) _ _ _ _ _ _ _
    · have HN2 := Aside0.mk (show w.heap.size + 4 ≤ w2.heap.size from HZ2.out)
      go_wp2_with fail
      obtain ⟨W3, hW3⟩ : ∃ W3, W3 = ((w2.alloc (.cells #[.int .i64 a0, .int .i64 a1, .int .i64 a2, .int .i64 a3, .int .i64 a4, .slice An2 nm.length cn2, .slice (some ⟨w2.heap.size + 1, 0, none⟩) 1 1] 49)).alloc (.cells #[.int .i64 1, .int .i64 1, .int .u64 0] 79)) := ⟨_, rfl⟩
      have HB3 := Aside0.mk (show Below w2.heap.size w2 W3 by rw [hW3]; exact below_alloc (below_alloc (Below.refl _ _) _) _)
      have L3 := Aside0.mk (show W3.heap[w2.heap.size]? = some (.cells (confCells a0 a1 a2 a3 a4 (.slice An2 nm.length cn2) (.slice (some ⟨w2.heap.size + 1, 0, none⟩) 1 1)) 49 (0, 0)) by rw [hW3]; exact blk_alloc (blk_new w2 _) _)
      have X3 := Aside0.mk (show W3.heap[w2.heap.size + 1]? = some (.cells #[.int .i64 1, .int .i64 1, .int .u64 0] 79 (0, 0)) by
        rw [hW3]
        have := blk_new (w2.alloc (.cells #[.int .i64 a0, .int .i64 a1, .int .i64 a2, .int .i64 a3, .int .i64 a4, .slice An2 nm.length cn2, .slice (some ⟨w2.heap.size + 1, 0, none⟩) 1 1] 49)) (.cells #[.int .i64 1, .int .i64 1, .int .u64 0] 79)
        rw [show (w2.alloc (.cells #[.int .i64 a0, .int .i64 a1, .int .i64 a2, .int .i64 a3, .int .i64 a4, .slice An2 nm.length cn2, .slice (some ⟨w2.heap.size + 1, 0, none⟩) 1 1] 49)).heap.size = w2.heap.size + 1 by simp] at this
        exact this)
      have R3 := Aside0.mk (blk_below R2.out HB3.out)
      have CA3 := Aside0.mk (HCA2.out.below HB3.out)
      have K3 := Aside0.mk (HK2.out.below HB3.out)
      have B3 := Aside0.mk (Below.trans HB2.out (HB3.out.mono (Nat.le_trans hBw (Nat.le_trans (Nat.le_add_right _ 4) HN2.out))))
      have HC3 := Aside0.mk (fun (W : World) (hW : Below W3.heap.size W3 W) => show Calls Tryd.prog 40 #[.agg #[.int .i64 a0, .int .i64 a1, .int .i64 a2, .int .i64 a3, .int .i64 a4, .slice An2 nm.length cn2, .slice (some ⟨w2.heap.size + 1, 0, none⟩) 1 1]] W (fun e w_ => e = .returned (.int .i64 e2) ∧ Below W.heap.size W w_) from conf_Check.calls k a0 a1 a2 a3 a4 An2 cn2 nm (some ⟨w2.heap.size + 1, 0, none⟩) 1 [⟨1, 1, 0⟩] e2 W (Kd.C_below (Kd.R_reads' CA3.out.names).2.2 hW) (Kd.R_reads' CA3.out.names).2.1 (Kd.C_below (one_wk X3.out) hW) (Nat.le_refl _) (by first | exact HCH.out rfl | exact HCH.out trivial | exact HCH.out))
      have c0_ := (show W3.cell? ⟨w.heap.size, 0, none⟩ = some (.int .i64 a0) from pw_cell_below HB3.out q0)
      have c1_ := (show W3.cell? ⟨w.heap.size, 1, none⟩ = some (.int .i64 a1) from pw_cell_below HB3.out q1)
      have c2_ := (show W3.cell? ⟨w.heap.size, 2, none⟩ = some (.int .i64 a2) from pw_cell_below HB3.out q2)
      have c3_ := (show W3.cell? ⟨w.heap.size, 3, none⟩ = some (.int .i64 a3) from pw_cell_below HB3.out q3)
      have c4_ := (show W3.cell? ⟨w.heap.size, 4, none⟩ = some (.int .i64 a4) from pw_cell_below HB3.out q4)
      have c5_ := (show W3.cell? ⟨w.heap.size, 5, none⟩ = some (.slice An2 nm.length cn2) from pw_cell_below HB3.out q5)
      have c6_ := (show W3.cell? ⟨w.heap.size, 6, none⟩ = some (.slice Aw2 wk.length cw2) from pw_cell_below HB3.out q6)
      have l0 := (show W3.cell? ⟨w2.heap.size, 0, none⟩ = some (.int .i64 a0) from (blk_cell L3.out 0).trans rfl)
      have l1 := (show W3.cell? ⟨w2.heap.size, 1, none⟩ = some (.int .i64 a1) from (blk_cell L3.out 1).trans rfl)
      have l2 := (show W3.cell? ⟨w2.heap.size, 2, none⟩ = some (.int .i64 a2) from (blk_cell L3.out 2).trans rfl)
      have l3 := (show W3.cell? ⟨w2.heap.size, 3, none⟩ = some (.int .i64 a3) from (blk_cell L3.out 3).trans rfl)
      have l4 := (show W3.cell? ⟨w2.heap.size, 4, none⟩ = some (.int .i64 a4) from (blk_cell L3.out 4).trans rfl)
      have l5 := (show W3.cell? ⟨w2.heap.size, 5, none⟩ = some (.slice An2 nm.length cn2) from (blk_cell L3.out 5).trans rfl)
      have l6 := (show W3.cell? ⟨w2.heap.size, 6, none⟩ = some (.slice (some ⟨w2.heap.size + 1, 0, none⟩) 1 1) from (blk_cell L3.out 6).trans rfl)
      have g0 := (show W3.cell? ⟨w.heap.size + 1, 0, none⟩ = some (.int .i64 0) from (blk_cell R3.out 0).trans rfl)
      have g1 := (show W3.cell? ⟨w.heap.size + 1, 1, none⟩ = some (.int .i64 0) from (blk_cell R3.out 1).trans rfl)
      have g2 := (show W3.cell? ⟨w.heap.size + 1, 2, none⟩ = some (.int .i64 0) from (blk_cell R3.out 2).trans rfl)
      have g3 := (show W3.cell? ⟨w.heap.size + 1, 3, none⟩ = some (.int .i64 0) from (blk_cell R3.out 3).trans rfl)
      have g4 := (show W3.cell? ⟨w.heap.size + 1, 4, none⟩ = some (.int .i64 0) from (blk_cell R3.out 4).trans rfl)
      have g5 := (show W3.cell? ⟨w.heap.size + 1, 5, none⟩ = some (.slice none 0 0) from (blk_cell R3.out 5).trans rfl)
      have g6 := (show W3.cell? ⟨w.heap.size + 1, 6, none⟩ = some (.slice none 0 0) from (blk_cell R3.out 6).trans rfl)
      have u0 := blk_frozen R3.out 0
      have u1 := blk_frozen R3.out 1
      have u2 := blk_frozen R3.out 2
      have u3 := blk_frozen R3.out 3
      have u4 := blk_frozen R3.out 4
      have u5 := blk_frozen R3.out 5
      have u6 := blk_frozen R3.out 6
      obtain ⟨gl, hgl⟩ : ∃ gl, gl = w2.heap.size := ⟨_, rfl⟩
      have hne : ¬ gl = w.heap.size + 1 := by have := HN2.out; omega
      have hne2 : ¬ w.heap.size + 1 = gl := fun e => hne e.symm
      rw [← hW3]
      clear hW3 q0 f0 r0 q1 f1 r1 q2 f2 r2 q3 f3 r3 q4 f4 r4 q5 f5 r5 q6 f6 r6
      rw [← hgl] at l0 l1 l2 l3 l4 l5 l6 HC3 ⊢
      have HGL := Aside0.mk hgl
      clear hgl
      go_region_held3 (fun w' => w'.cell? ⟨w.heap.size, 0, none⟩ = some (.int .i64 a0) ∧ w'.cell? ⟨w.heap.size, 1, none⟩ = some (.int .i64 a1) ∧ w'.cell? ⟨w.heap.size, 2, none⟩ = some (.int .i64 a2) ∧ w'.cell? ⟨w.heap.size, 3, none⟩ = some (.int .i64 a3) ∧ w'.cell? ⟨w.heap.size, 4, none⟩ = some (.int .i64 a4) ∧ w'.cell? ⟨w.heap.size, 5, none⟩ = some (.slice An2 nm.length cn2) ∧ w'.cell? ⟨w.heap.size, 6, none⟩ = some (.slice Aw2 wk.length cw2) ∧ w'.cell? ⟨gl, 0, none⟩ = some (.int .i64 a0) ∧ w'.cell? ⟨gl, 1, none⟩ = some (.int .i64 a1) ∧ w'.cell? ⟨gl, 2, none⟩ = some (.int .i64 a2) ∧ w'.cell? ⟨gl, 3, none⟩ = some (.int .i64 a3) ∧ w'.cell? ⟨gl, 4, none⟩ = some (.int .i64 a4) ∧ w'.cell? ⟨gl, 5, none⟩ = some (.slice An2 nm.length cn2) ∧ w'.cell? ⟨gl, 6, none⟩ = some (.slice (some ⟨gl + 1, 0, none⟩) 1 1)) (go_keep) ((go_at_call 40; go_must ((with_reducible refine (HC3.out _ (by exact below_drew (Below.refl _ _))).mono ?_); rintro e w4 ⟨rfl, hb4⟩; have HB4 := Aside0.mk (show Below W3.heap.size W3 w4 from below_then (below_drew (Below.refl W3.heap.size W3)) (Nat.le_refl _) hb4); have x0 := (show w4.cell? ⟨w.heap.size, 0, none⟩ = some (.int .i64 a0) from pw_cell_below HB4.out c0_); have z0 := (show w4.cell? ⟨gl, 0, none⟩ = some (.int .i64 a0) from pw_cell_below HB4.out l0); have x1 := (show w4.cell? ⟨w.heap.size, 1, none⟩ = some (.int .i64 a1) from pw_cell_below HB4.out c1_); have z1 := (show w4.cell? ⟨gl, 1, none⟩ = some (.int .i64 a1) from pw_cell_below HB4.out l1); have x2 := (show w4.cell? ⟨w.heap.size, 2, none⟩ = some (.int .i64 a2) from pw_cell_below HB4.out c2_); have z2 := (show w4.cell? ⟨gl, 2, none⟩ = some (.int .i64 a2) from pw_cell_below HB4.out l2); have x3 := (show w4.cell? ⟨w.heap.size, 3, none⟩ = some (.int .i64 a3) from pw_cell_below HB4.out c3_); have z3 := (show w4.cell? ⟨gl, 3, none⟩ = some (.int .i64 a3) from pw_cell_below HB4.out l3); have x4 := (show w4.cell? ⟨w.heap.size, 4, none⟩ = some (.int .i64 a4) from pw_cell_below HB4.out c4_); have z4 := (show w4.cell? ⟨gl, 4, none⟩ = some (.int .i64 a4) from pw_cell_below HB4.out l4); have x5 := (show w4.cell? ⟨w.heap.size, 5, none⟩ = some (.slice An2 nm.length cn2) from pw_cell_below HB4.out c5_); have z5 := (show w4.cell? ⟨gl, 5, none⟩ = some (.slice An2 nm.length cn2) from pw_cell_below HB4.out l5); have x6 := (show w4.cell? ⟨w.heap.size, 6, none⟩ = some (.slice Aw2 wk.length cw2) from pw_cell_below HB4.out c6_); have z6 := (show w4.cell? ⟨gl, 6, none⟩ = some (.slice (some ⟨gl + 1, 0, none⟩) 1 1) from pw_cell_below HB4.out l6); have y0 := (show w4.cell? ⟨w.heap.size + 1, 0, none⟩ = some (.int .i64 0) from pw_cell_below HB4.out g0); have y1 := (show w4.cell? ⟨w.heap.size + 1, 1, none⟩ = some (.int .i64 0) from pw_cell_below HB4.out g1); have y2 := (show w4.cell? ⟨w.heap.size + 1, 2, none⟩ = some (.int .i64 0) from pw_cell_below HB4.out g2); have y3 := (show w4.cell? ⟨w.heap.size + 1, 3, none⟩ = some (.int .i64 0) from pw_cell_below HB4.out g3); have y4 := (show w4.cell? ⟨w.heap.size + 1, 4, none⟩ = some (.int .i64 0) from pw_cell_below HB4.out g4); have y5 := (show w4.cell? ⟨w.heap.size + 1, 5, none⟩ = some (.slice none 0 0) from pw_cell_below HB4.out g5); have y6 := (show w4.cell? ⟨w.heap.size + 1, 6, none⟩ = some (.slice none 0 0) from pw_cell_below HB4.out g6); have R4 := Aside0.mk (blk_below R3.out HB4.out); have v0 := blk_frozen R4.out 0; have v1 := blk_frozen R4.out 1; have v2 := blk_frozen R4.out 2; have v3 := blk_frozen R4.out 3; have v4 := blk_frozen R4.out 4; have v5 := blk_frozen R4.out 5; have v6 := blk_frozen R4.out 6; clear hb4)))
      all_goals
        have RR := Aside0.mk (confPut.at_ R4.out a0 a1 a2 a3 a4 (.slice An2 nm.length cn2) (.slice Aw2 wk.length cw2))
        have CA4 := Aside0.mk (CA3.out.below HB4.out)
        have K4 := Aside0.mk (Kept.below K3.out HB4.out)
        have B4 := Aside0.mk (Below.trans B3.out (HB4.out.mono (Nat.le_trans hBw (Nat.le_trans (Nat.le_add_right _ 4) (Nat.le_trans HN2.out HB3.out.size)))))
        go_wp2_with fail
        show bodyPost _ _ _ _ _ (confPut w4 (w.heap.size + 1) a0 a1 a2 a3 a4 (.slice An2 nm.length cn2) (.slice Aw2 wk.length cw2))
        obtain ⟨W9, hW9⟩ : ∃ W9, W9 = (confPut w4 (w.heap.size + 1) a0 a1 a2 a3 a4 (.slice An2 nm.length cn2) (.slice Aw2 wk.length cw2)) := ⟨_, rfl⟩
        rw [← hW9] at RR ⊢
        have s0 := (show W9.cell? ⟨w.heap.size + 1, 0, none⟩ = some (.int .i64 a0) from (blk_cell RR.out 0).trans rfl)
        have s1 := (show W9.cell? ⟨w.heap.size + 1, 1, none⟩ = some (.int .i64 a1) from (blk_cell RR.out 1).trans rfl)
        have s2 := (show W9.cell? ⟨w.heap.size + 1, 2, none⟩ = some (.int .i64 a2) from (blk_cell RR.out 2).trans rfl)
        have s3 := (show W9.cell? ⟨w.heap.size + 1, 3, none⟩ = some (.int .i64 a3) from (blk_cell RR.out 3).trans rfl)
        have s4 := (show W9.cell? ⟨w.heap.size + 1, 4, none⟩ = some (.int .i64 a4) from (blk_cell RR.out 4).trans rfl)
        have s5 := (show W9.cell? ⟨w.heap.size + 1, 5, none⟩ = some (.slice An2 nm.length cn2) from (blk_cell RR.out 5).trans rfl)
        have s6 := (show W9.cell? ⟨w.heap.size + 1, 6, none⟩ = some (.slice Aw2 wk.length cw2) from (blk_cell RR.out 6).trans rfl)
        refine bodyPost_ret (v := .tuple #[.agg (confCells a0 a1 a2 a3 a4 (.slice An2 nm.length cn2) (.slice Aw2 wk.length cw2)), .bool (e2 == 0)]) (by simp [results, Tryd.results43, go_sem, s0, s1, s2, s3, s4, s5, s6, confCells]) rfl ⟨⟨.slice An2 nm.length cn2, .slice Aw2 wk.length cw2, by simp, ?_, HPW.out⟩, ?_, ?_⟩
        · rw [hW9]; exact CA4.out.far R4.out (confPut.near _ _ _ _ _ _ _ _)
        · rw [hW9]; exact confPut.kept K4.out (Nat.le_succ _) _ _ _ _ _ _ _
        · rw [hW9]; exact confPut.below B4.out (Nat.le_succ_of_le hBw) _ _ _ _ _ _ _
set_option maxHeartbeats 6400000 in
set_option maxRecDepth 100000 in
theorem conf_taken.way2 (P : Value → Prop) (B : Nat) (ok : Bool) (c0 c1 c2 c3 c4 : Int) (nm0 : List ByteArray) (wk0 : List Wk) (nmv wkv : Value) (a0 a1 a2 a3 a4 : Int) (nm : List ByteArray) (wk : List Wk) (s : ByteArray) (w : World) (at_ : Int) (hat : 2 ≤ at_) (hL : Laid w) (hBw : B ≤ w.heap.size) (hs : s.size < 4294967281)
    (hca : ConfAt B w nm0 wk0 nmv wkv) (hp : PartOf P 73 B w.heap.size (Lib.countB s ⟨#[32]⟩ + 1) ok c0 c1 c2 c3 c4 nm0 wk0 nmv wkv a0 a1 a2 a3 a4 nm wk s) (k : Nat) (e2 : Int)
    (hch : ok = true → conf_Check.f k a0 a1 a2 a3 a4 nm wk = some e2) :
    Calls Tryd.prog 43 #[.agg #[.int .i64 c0, .int .i64 c1, .int .i64 c2, .int .i64 c3, .int .i64 c4, nmv, wkv], .int .i64 at_, .string s] w (TakenDone P B (ok && e2 == 0) a0 a1 a2 a3 a4 nm wk wkv w) := by
  have hmin : (if (2 : Int) < at_ then (2 : Int) else at_) = 2 := by split <;> omega
  have hn0 : ¬ at_ = 0 := by omega
  have hn2 : ¬ at_ < 2 := by omega
  obtain ⟨mx, hmx⟩ := hL.maxlen
  have HSP := Aside0.mk (fun (W : World) (hW : W.cell? ⟨1, 0, none⟩ = some (.int .i64 mx)) => Tryd.strings_Split s ⟨#[32]⟩ mx W hs hW (by decide))
  obtain ⟨cnt, hcnt⟩ : ∃ cnt, cnt = Lib.countB s ⟨#[32]⟩ := ⟨_, rfl⟩
  rw [← hcnt] at HSP hp
  obtain ⟨An, cn, rfl⟩ := Kd.R_slice hca.names
  obtain ⟨Aw, cw, rfl⟩ := Kd.R_slice hca.workers
  unfold PartOf at hp
  have HP := Aside0.mk hp
  have HCH := Aside0.mk hch
  have HL := Aside0.mk hL
  have HCA := Aside0.mk hca
  have HMX := Aside0.mk hmx
  have HCN := Aside0.mk hcnt
  clear hp hch hL hca hmx hcnt
  go_enter Tryd.func43, Tryd.ntmps43
  go_wp2_with fail
  obtain ⟨W0, hW0⟩ : ∃ W0, W0 = ((w.alloc (.cells #[.int .i64 c0, .int .i64 c1, .int .i64 c2, .int .i64 c3, .int .i64 c4, .slice An nm0.length cn, .slice Aw wk0.length cw] 49)).alloc (.cells #[.int .i64 0, .int .i64 0, .int .i64 0, .int .i64 0, .int .i64 0, .slice none 0 0, .slice none 0 0] 49)).alloc (.cells #[.func (.func 71) #[] #[], .func (.func 72) #[] #[], .func (.func 73) #[] #[]] 112) := ⟨_, rfl⟩
  have hZ0 : W0.heap.size = w.heap.size + 3 := by rw [hW0]; simp
  have HB0 := Aside0.mk (show Below w.heap.size w W0 by rw [hW0]; exact below_alloc (below_alloc (below_alloc (Below.refl _ _) _) _) _)
  have G0 := Aside0.mk (show W0.heap[w.heap.size]? = some (.cells (confCells c0 c1 c2 c3 c4 (.slice An nm0.length cn) (.slice Aw wk0.length cw)) 49 (0, 0)) by rw [hW0]; exact blk_alloc (blk_alloc (blk_new w _) _) _)
  have R0 := Aside0.mk (show W0.heap[w.heap.size + 1]? = some (.cells (confCells 0 0 0 0 0 (.slice none 0 0) (.slice none 0 0)) 49 (0, 0)) by
    rw [hW0]
    have := blk_new (w.alloc (.cells #[.int .i64 c0, .int .i64 c1, .int .i64 c2, .int .i64 c3, .int .i64 c4, .slice An nm0.length cn, .slice Aw wk0.length cw] 49)) (.cells (confCells 0 0 0 0 0 (.slice none 0 0) (.slice none 0 0)) 49)
    rw [show (w.alloc (.cells #[.int .i64 c0, .int .i64 c1, .int .i64 c2, .int .i64 c3, .int .i64 c4, .slice An nm0.length cn, .slice Aw wk0.length cw] 49)).heap.size = w.heap.size + 1 by simp] at this
    exact blk_alloc this _)
  have P0 : W0.cell? ⟨w.heap.size + 1 + 1, 2, none⟩ = some (.func (.func 73) #[] #[]) := by
    rw [hW0, World.cell?_alloc_at _ _ _ _ (by simp)]; rfl
  have MX0 := Aside0.mk (pw_cell_below HB0.out HMX.out)
  have HNB := Aside0.mk (show ∀ k, (Value.slice An nm0.length cn).ownBlock = some k → k ≠ w.heap.size + 3 from fun k hk e => by have := Kd.R_lt HCA.out.names k hk; omega)
  have HNP := Aside0.mk (show ¬ (w.heap.size + 1 + 1 = w.heap.size ∨ some (w.heap.size + 1 + 1) = (Value.slice Aw wk0.length cw).ownBlock) from fun h => by
    rcases h with h | h
    · omega
    · have := Kd.R_lt HCA.out.workers _ h.symm; omega)
  have HNR := Aside0.mk (show ¬ (w.heap.size + 1 = w.heap.size ∨ some (w.heap.size + 1) = (Value.slice Aw wk0.length cw).ownBlock) from fun h => by
    rcases h with h | h
    · omega
    · have := Kd.R_lt HCA.out.workers _ h.symm; omega)
  rw [← hW0]
  clear hW0
  have MX0d := Aside0.mk (show W0.drew.cell? ⟨1, 0, none⟩ = some (.int .i64 mx) from MX0.out)
  go_region_held3 (fun w' => w'.cell? ⟨w.heap.size + 1 + 1, 2, none⟩ = some (.func (.func 73) #[] #[])) (first | go_keep | (exact P1.out) | (exact PK.out)) (first | (go_at_call 74; go_must ((with_reducible refine (HSP.out _ MX0d.out).mono ?_); rintro e W1 ⟨rfl, hW1⟩; have HB1 := Aside0.mk (show Below w.heap.size w W1 by rw [hW1]; exact below_alloc (below_drew HB0.out) _); have G1 := Aside0.mk (show W1.heap[w.heap.size]? = some (.cells (confCells c0 c1 c2 c3 c4 (.slice An nm0.length cn) (.slice Aw wk0.length cw)) 49 (0, 0)) by rw [hW1]; exact blk_alloc (blk_drew G0.out) _); have R1 := Aside0.mk (show W1.heap[w.heap.size + 1]? = some (.cells (confCells 0 0 0 0 0 (.slice none 0 0) (.slice none 0 0)) 49 (0, 0)) by rw [hW1]; exact blk_alloc (blk_drew R0.out) _); have P1 := Aside0.mk (show W1.cell? ⟨w.heap.size + 1 + 1, 2, none⟩ = some (.func (.func 73) #[] #[]) by rw [hW1]; exact pw_cell_below (w := W0) (below_alloc (below_drew (Below.refl _ _)) _) P0); have Q1 := Aside0.mk (show W1.heap[w.heap.size + 3]? = some (.cells ((confWords s).map Value.string).toArray 9 (0, 0)) by rw [hW1, HCN.out, ← hZ0]; exact blk_new W0.drew _); have HL1 := Aside0.mk (HL.out.below HB1.out); have HCA1 := Aside0.mk (HCA.out.below HB1.out); have HBS1 := Aside0.mk (Nat.le_trans hBw HB1.out.size); clear hW1)) | (go_at_call 73; go_must ((with_reducible refine (HP.out _ (w.heap.size + 3) HL1.out HBS1.out G1.out HCA1.out Q1.out HNB.out).mono ?_); rintro e w2 ⟨rfl, ⟨nmv2, wkv2, hg2, hca2, hP2⟩, hk2, hb2⟩; obtain ⟨An2, cn2, rfl⟩ := Kd.R_slice hca2.names; obtain ⟨Aw2, cw2, rfl⟩ := Kd.R_slice hca2.workers; have HG2 := Aside0.mk hg2; have HPW := Aside0.mk hP2; have HCA2 := Aside0.mk hca2; have HK2 := Aside0.mk (Kept.then_ (S := fun k => some k = (Value.slice Aw wk0.length cw).ownBlock) (Kept.of_below HB1.out _) hk2 (fun k hk => hk.elim (fun e => .inr (Nat.le_of_eq e.symm)) .inl)); have HB2 := Aside0.mk (Below.trans (HB1.out.mono hBw) hb2); have HZ2 := Aside0.mk (Nat.le_trans (show w.heap.size + 4 ≤ W1.heap.size by have := blk_lt Q1.out; omega) hb2.size); have R2 := Aside0.mk (cells_kept R1.out hk2 HNR.out); have PK := Aside0.mk (show w2.cell? ⟨w.heap.size + 1 + 1, 2, none⟩ = some (.func (.func 73) #[] #[]) from cell_kept P1.out hk2 HNP.out); clear hg2 hca2 hk2 hb2 hP2)))
  all_goals
    have q0 := (show w2.cell? ⟨w.heap.size, 0, none⟩ = some (.int .i64 a0) from (blk_cell HG2.out 0).trans rfl)
    have q1 := (show w2.cell? ⟨w.heap.size, 1, none⟩ = some (.int .i64 a1) from (blk_cell HG2.out 1).trans rfl)
    have q2 := (show w2.cell? ⟨w.heap.size, 2, none⟩ = some (.int .i64 a2) from (blk_cell HG2.out 2).trans rfl)
    have q3 := (show w2.cell? ⟨w.heap.size, 3, none⟩ = some (.int .i64 a3) from (blk_cell HG2.out 3).trans rfl)
    have q4 := (show w2.cell? ⟨w.heap.size, 4, none⟩ = some (.int .i64 a4) from (blk_cell HG2.out 4).trans rfl)
    have q5 := (show w2.cell? ⟨w.heap.size, 5, none⟩ = some (.slice An2 nm.length cn2) from (blk_cell HG2.out 5).trans rfl)
    have q6 := (show w2.cell? ⟨w.heap.size, 6, none⟩ = some (.slice Aw2 wk.length cw2) from (blk_cell HG2.out 6).trans rfl)
    have f0 := blk_frozen R2.out 0
    have f1 := blk_frozen R2.out 1
    have f2 := blk_frozen R2.out 2
    have f3 := blk_frozen R2.out 3
    have f4 := blk_frozen R2.out 4
    have f5 := blk_frozen R2.out 5
    have f6 := blk_frozen R2.out 6
    have r0 := (show w2.cell? ⟨w.heap.size + 1, 0, none⟩ = some (.int .i64 0) from (blk_cell R2.out 0).trans rfl)
    have r1 := (show w2.cell? ⟨w.heap.size + 1, 1, none⟩ = some (.int .i64 0) from (blk_cell R2.out 1).trans rfl)
    have r2 := (show w2.cell? ⟨w.heap.size + 1, 2, none⟩ = some (.int .i64 0) from (blk_cell R2.out 2).trans rfl)
    have r3 := (show w2.cell? ⟨w.heap.size + 1, 3, none⟩ = some (.int .i64 0) from (blk_cell R2.out 3).trans rfl)
    have r4 := (show w2.cell? ⟨w.heap.size + 1, 4, none⟩ = some (.int .i64 0) from (blk_cell R2.out 4).trans rfl)
    have r5 := (show w2.cell? ⟨w.heap.size + 1, 5, none⟩ = some (.slice none 0 0) from (blk_cell R2.out 5).trans rfl)
    have r6 := (show w2.cell? ⟨w.heap.size + 1, 6, none⟩ = some (.slice none 0 0) from (blk_cell R2.out 6).trans rfl)
    cases ok
    · go_wp2_with fail
      have RR := Aside0.mk (confPut.at_ R2.out a0 a1 a2 a3 a4 (.slice An2 nm.length cn2) (.slice Aw2 wk.length cw2))
      show bodyPost _ _ _ _ _ (confPut w2 (w.heap.size + 1) a0 a1 a2 a3 a4 (.slice An2 nm.length cn2) (.slice Aw2 wk.length cw2))
      obtain ⟨W9, hW9⟩ : ∃ W9, W9 = (confPut w2 (w.heap.size + 1) a0 a1 a2 a3 a4 (.slice An2 nm.length cn2) (.slice Aw2 wk.length cw2)) := ⟨_, rfl⟩
      rw [← hW9] at RR ⊢
      have s0 := (show W9.cell? ⟨w.heap.size + 1, 0, none⟩ = some (.int .i64 a0) from (blk_cell RR.out 0).trans rfl)
      have s1 := (show W9.cell? ⟨w.heap.size + 1, 1, none⟩ = some (.int .i64 a1) from (blk_cell RR.out 1).trans rfl)
      have s2 := (show W9.cell? ⟨w.heap.size + 1, 2, none⟩ = some (.int .i64 a2) from (blk_cell RR.out 2).trans rfl)
      have s3 := (show W9.cell? ⟨w.heap.size + 1, 3, none⟩ = some (.int .i64 a3) from (blk_cell RR.out 3).trans rfl)
      have s4 := (show W9.cell? ⟨w.heap.size + 1, 4, none⟩ = some (.int .i64 a4) from (blk_cell RR.out 4).trans rfl)
      have s5 := (show W9.cell? ⟨w.heap.size + 1, 5, none⟩ = some (.slice An2 nm.length cn2) from (blk_cell RR.out 5).trans rfl)
      have s6 := (show W9.cell? ⟨w.heap.size + 1, 6, none⟩ = some (.slice Aw2 wk.length cw2) from (blk_cell RR.out 6).trans rfl)
      refine bodyPost_ret (v := .tuple #[.agg (confCells a0 a1 a2 a3 a4 (.slice An2 nm.length cn2) (.slice Aw2 wk.length cw2)), .bool false]) (by simp [results, Tryd.results43, go_sem, s0, s1, s2, s3, s4, s5, s6, confCells]) rfl ⟨⟨_, _, rfl, ?_, HPW.out⟩, ?_, ?_⟩
      · rw [hW9]; exact HCA2.out.far R2.out (confPut.near _ _ _ _ _ _ _ _)
      · rw [hW9]; exact confPut.kept HK2.out (Nat.le_succ _) _ _ _ _ _ _ _
      · rw [hW9]; exact confPut.below HB2.out (Nat.le_succ_of_le hBw) _ _ _ _ _ _ _
    · have HN2 := Aside0.mk (show w.heap.size + 4 ≤ w2.heap.size from HZ2.out)
      go_wp2_with fail
      obtain ⟨W3, hW3⟩ : ∃ W3, W3 = (w2.alloc (.cells #[.int .i64 a0, .int .i64 a1, .int .i64 a2, .int .i64 a3, .int .i64 a4, .slice An2 nm.length cn2, .slice Aw2 wk.length cw2] 49)) := ⟨_, rfl⟩
      have HB3 := Aside0.mk (show Below w2.heap.size w2 W3 by rw [hW3]; exact below_alloc (Below.refl _ _) _)
      have L3 := Aside0.mk (show W3.heap[w2.heap.size]? = some (.cells (confCells a0 a1 a2 a3 a4 (.slice An2 nm.length cn2) (.slice Aw2 wk.length cw2)) 49 (0, 0)) by rw [hW3]; exact blk_new w2 _)
      have R3 := Aside0.mk (blk_below R2.out HB3.out)
      have CA3 := Aside0.mk (HCA2.out.below HB3.out)
      have K3 := Aside0.mk (HK2.out.below HB3.out)
      have B3 := Aside0.mk (Below.trans HB2.out (HB3.out.mono (Nat.le_trans hBw (Nat.le_trans (Nat.le_add_right _ 4) HN2.out))))
      have HC3 := Aside0.mk (fun (W : World) (hW : Below W3.heap.size W3 W) => show Calls Tryd.prog 40 #[.agg #[.int .i64 a0, .int .i64 a1, .int .i64 a2, .int .i64 a3, .int .i64 a4, .slice An2 nm.length cn2, .slice Aw2 wk.length cw2]] W (fun e w_ => e = .returned (.int .i64 e2) ∧ Below W.heap.size W w_) from conf_Check.calls k a0 a1 a2 a3 a4 An2 cn2 nm Aw2 cw2 wk e2 W (Kd.C_below (Kd.R_reads' CA3.out.names).2.2 hW) (Kd.R_reads' CA3.out.names).2.1 (Kd.C_below (Kd.R_reads' CA3.out.workers).2.2 hW) (Kd.R_reads' CA3.out.workers).2.1 (by first | exact HCH.out rfl | exact HCH.out trivial | exact HCH.out))
      have c0_ := (show W3.cell? ⟨w.heap.size, 0, none⟩ = some (.int .i64 a0) from pw_cell_below HB3.out q0)
      have c1_ := (show W3.cell? ⟨w.heap.size, 1, none⟩ = some (.int .i64 a1) from pw_cell_below HB3.out q1)
      have c2_ := (show W3.cell? ⟨w.heap.size, 2, none⟩ = some (.int .i64 a2) from pw_cell_below HB3.out q2)
      have c3_ := (show W3.cell? ⟨w.heap.size, 3, none⟩ = some (.int .i64 a3) from pw_cell_below HB3.out q3)
      have c4_ := (show W3.cell? ⟨w.heap.size, 4, none⟩ = some (.int .i64 a4) from pw_cell_below HB3.out q4)
      have c5_ := (show W3.cell? ⟨w.heap.size, 5, none⟩ = some (.slice An2 nm.length cn2) from pw_cell_below HB3.out q5)
      have c6_ := (show W3.cell? ⟨w.heap.size, 6, none⟩ = some (.slice Aw2 wk.length cw2) from pw_cell_below HB3.out q6)
      have l0 := (show W3.cell? ⟨w2.heap.size, 0, none⟩ = some (.int .i64 a0) from (blk_cell L3.out 0).trans rfl)
      have l1 := (show W3.cell? ⟨w2.heap.size, 1, none⟩ = some (.int .i64 a1) from (blk_cell L3.out 1).trans rfl)
      have l2 := (show W3.cell? ⟨w2.heap.size, 2, none⟩ = some (.int .i64 a2) from (blk_cell L3.out 2).trans rfl)
      have l3 := (show W3.cell? ⟨w2.heap.size, 3, none⟩ = some (.int .i64 a3) from (blk_cell L3.out 3).trans rfl)
      have l4 := (show W3.cell? ⟨w2.heap.size, 4, none⟩ = some (.int .i64 a4) from (blk_cell L3.out 4).trans rfl)
      have l5 := (show W3.cell? ⟨w2.heap.size, 5, none⟩ = some (.slice An2 nm.length cn2) from (blk_cell L3.out 5).trans rfl)
      have l6 := (show W3.cell? ⟨w2.heap.size, 6, none⟩ = some (.slice Aw2 wk.length cw2) from (blk_cell L3.out 6).trans rfl)
      have g0 := (show W3.cell? ⟨w.heap.size + 1, 0, none⟩ = some (.int .i64 0) from (blk_cell R3.out 0).trans rfl)
      have g1 := (show W3.cell? ⟨w.heap.size + 1, 1, none⟩ = some (.int .i64 0) from (blk_cell R3.out 1).trans rfl)
      have g2 := (show W3.cell? ⟨w.heap.size + 1, 2, none⟩ = some (.int .i64 0) from (blk_cell R3.out 2).trans rfl)
      have g3 := (show W3.cell? ⟨w.heap.size + 1, 3, none⟩ = some (.int .i64 0) from (blk_cell R3.out 3).trans rfl)
      have g4 := (show W3.cell? ⟨w.heap.size + 1, 4, none⟩ = some (.int .i64 0) from (blk_cell R3.out 4).trans rfl)
      have g5 := (show W3.cell? ⟨w.heap.size + 1, 5, none⟩ = some (.slice none 0 0) from (blk_cell R3.out 5).trans rfl)
      have g6 := (show W3.cell? ⟨w.heap.size + 1, 6, none⟩ = some (.slice none 0 0) from (blk_cell R3.out 6).trans rfl)
      have u0 := blk_frozen R3.out 0
      have u1 := blk_frozen R3.out 1
      have u2 := blk_frozen R3.out 2
      have u3 := blk_frozen R3.out 3
      have u4 := blk_frozen R3.out 4
      have u5 := blk_frozen R3.out 5
      have u6 := blk_frozen R3.out 6
      obtain ⟨gl, hgl⟩ : ∃ gl, gl = w2.heap.size := ⟨_, rfl⟩
      have hne : ¬ gl = w.heap.size + 1 := by have := HN2.out; omega
      have hne2 : ¬ w.heap.size + 1 = gl := fun e => hne e.symm
      rw [← hW3]
      clear hW3 q0 f0 r0 q1 f1 r1 q2 f2 r2 q3 f3 r3 q4 f4 r4 q5 f5 r5 q6 f6 r6
      rw [← hgl] at l0 l1 l2 l3 l4 l5 l6 ⊢
      have HGL := Aside0.mk hgl
      clear hgl
      go_region_held3 (fun w' => w'.cell? ⟨w.heap.size, 0, none⟩ = some (.int .i64 a0) ∧ w'.cell? ⟨w.heap.size, 1, none⟩ = some (.int .i64 a1) ∧ w'.cell? ⟨w.heap.size, 2, none⟩ = some (.int .i64 a2) ∧ w'.cell? ⟨w.heap.size, 3, none⟩ = some (.int .i64 a3) ∧ w'.cell? ⟨w.heap.size, 4, none⟩ = some (.int .i64 a4) ∧ w'.cell? ⟨w.heap.size, 5, none⟩ = some (.slice An2 nm.length cn2) ∧ w'.cell? ⟨w.heap.size, 6, none⟩ = some (.slice Aw2 wk.length cw2) ∧ w'.cell? ⟨gl, 0, none⟩ = some (.int .i64 a0) ∧ w'.cell? ⟨gl, 1, none⟩ = some (.int .i64 a1) ∧ w'.cell? ⟨gl, 2, none⟩ = some (.int .i64 a2) ∧ w'.cell? ⟨gl, 3, none⟩ = some (.int .i64 a3) ∧ w'.cell? ⟨gl, 4, none⟩ = some (.int .i64 a4) ∧ w'.cell? ⟨gl, 5, none⟩ = some (.slice An2 nm.length cn2) ∧ w'.cell? ⟨gl, 6, none⟩ = some (.slice Aw2 wk.length cw2)) (go_keep) ((go_at_call 40; go_must ((with_reducible refine (HC3.out _ (by exact below_drew (Below.refl _ _))).mono ?_); rintro e w4 ⟨rfl, hb4⟩; have HB4 := Aside0.mk (show Below W3.heap.size W3 w4 from below_then (below_drew (Below.refl W3.heap.size W3)) (Nat.le_refl _) hb4); have x0 := (show w4.cell? ⟨w.heap.size, 0, none⟩ = some (.int .i64 a0) from pw_cell_below HB4.out c0_); have z0 := (show w4.cell? ⟨gl, 0, none⟩ = some (.int .i64 a0) from pw_cell_below HB4.out l0); have x1 := (show w4.cell? ⟨w.heap.size, 1, none⟩ = some (.int .i64 a1) from pw_cell_below HB4.out c1_); have z1 := (show w4.cell? ⟨gl, 1, none⟩ = some (.int .i64 a1) from pw_cell_below HB4.out l1); have x2 := (show w4.cell? ⟨w.heap.size, 2, none⟩ = some (.int .i64 a2) from pw_cell_below HB4.out c2_); have z2 := (show w4.cell? ⟨gl, 2, none⟩ = some (.int .i64 a2) from pw_cell_below HB4.out l2); have x3 := (show w4.cell? ⟨w.heap.size, 3, none⟩ = some (.int .i64 a3) from pw_cell_below HB4.out c3_); have z3 := (show w4.cell? ⟨gl, 3, none⟩ = some (.int .i64 a3) from pw_cell_below HB4.out l3); have x4 := (show w4.cell? ⟨w.heap.size, 4, none⟩ = some (.int .i64 a4) from pw_cell_below HB4.out c4_); have z4 := (show w4.cell? ⟨gl, 4, none⟩ = some (.int .i64 a4) from pw_cell_below HB4.out l4); have x5 := (show w4.cell? ⟨w.heap.size, 5, none⟩ = some (.slice An2 nm.length cn2) from pw_cell_below HB4.out c5_); have z5 := (show w4.cell? ⟨gl, 5, none⟩ = some (.slice An2 nm.length cn2) from pw_cell_below HB4.out l5); have x6 := (show w4.cell? ⟨w.heap.size, 6, none⟩ = some (.slice Aw2 wk.length cw2) from pw_cell_below HB4.out c6_); have z6 := (show w4.cell? ⟨gl, 6, none⟩ = some (.slice Aw2 wk.length cw2) from pw_cell_below HB4.out l6); have y0 := (show w4.cell? ⟨w.heap.size + 1, 0, none⟩ = some (.int .i64 0) from pw_cell_below HB4.out g0); have y1 := (show w4.cell? ⟨w.heap.size + 1, 1, none⟩ = some (.int .i64 0) from pw_cell_below HB4.out g1); have y2 := (show w4.cell? ⟨w.heap.size + 1, 2, none⟩ = some (.int .i64 0) from pw_cell_below HB4.out g2); have y3 := (show w4.cell? ⟨w.heap.size + 1, 3, none⟩ = some (.int .i64 0) from pw_cell_below HB4.out g3); have y4 := (show w4.cell? ⟨w.heap.size + 1, 4, none⟩ = some (.int .i64 0) from pw_cell_below HB4.out g4); have y5 := (show w4.cell? ⟨w.heap.size + 1, 5, none⟩ = some (.slice none 0 0) from pw_cell_below HB4.out g5); have y6 := (show w4.cell? ⟨w.heap.size + 1, 6, none⟩ = some (.slice none 0 0) from pw_cell_below HB4.out g6); have R4 := Aside0.mk (blk_below R3.out HB4.out); have v0 := blk_frozen R4.out 0; have v1 := blk_frozen R4.out 1; have v2 := blk_frozen R4.out 2; have v3 := blk_frozen R4.out 3; have v4 := blk_frozen R4.out 4; have v5 := blk_frozen R4.out 5; have v6 := blk_frozen R4.out 6; clear hb4)))
      all_goals
        have RR := Aside0.mk (confPut.at_ R4.out a0 a1 a2 a3 a4 (.slice An2 nm.length cn2) (.slice Aw2 wk.length cw2))
        have CA4 := Aside0.mk (CA3.out.below HB4.out)
        have K4 := Aside0.mk (Kept.below K3.out HB4.out)
        have B4 := Aside0.mk (Below.trans B3.out (HB4.out.mono (Nat.le_trans hBw (Nat.le_trans (Nat.le_add_right _ 4) (Nat.le_trans HN2.out HB3.out.size)))))
        go_wp2_with fail
        show bodyPost _ _ _ _ _ (confPut w4 (w.heap.size + 1) a0 a1 a2 a3 a4 (.slice An2 nm.length cn2) (.slice Aw2 wk.length cw2))
        obtain ⟨W9, hW9⟩ : ∃ W9, W9 = (confPut w4 (w.heap.size + 1) a0 a1 a2 a3 a4 (.slice An2 nm.length cn2) (.slice Aw2 wk.length cw2)) := ⟨_, rfl⟩
        rw [← hW9] at RR ⊢
        have s0 := (show W9.cell? ⟨w.heap.size + 1, 0, none⟩ = some (.int .i64 a0) from (blk_cell RR.out 0).trans rfl)
        have s1 := (show W9.cell? ⟨w.heap.size + 1, 1, none⟩ = some (.int .i64 a1) from (blk_cell RR.out 1).trans rfl)
        have s2 := (show W9.cell? ⟨w.heap.size + 1, 2, none⟩ = some (.int .i64 a2) from (blk_cell RR.out 2).trans rfl)
        have s3 := (show W9.cell? ⟨w.heap.size + 1, 3, none⟩ = some (.int .i64 a3) from (blk_cell RR.out 3).trans rfl)
        have s4 := (show W9.cell? ⟨w.heap.size + 1, 4, none⟩ = some (.int .i64 a4) from (blk_cell RR.out 4).trans rfl)
        have s5 := (show W9.cell? ⟨w.heap.size + 1, 5, none⟩ = some (.slice An2 nm.length cn2) from (blk_cell RR.out 5).trans rfl)
        have s6 := (show W9.cell? ⟨w.heap.size + 1, 6, none⟩ = some (.slice Aw2 wk.length cw2) from (blk_cell RR.out 6).trans rfl)
        refine bodyPost_ret (v := .tuple #[.agg (confCells a0 a1 a2 a3 a4 (.slice An2 nm.length cn2) (.slice Aw2 wk.length cw2)), .bool (e2 == 0)]) (by simp [results, Tryd.results43, go_sem, s0, s1, s2, s3, s4, s5, s6, confCells]) rfl ⟨⟨.slice An2 nm.length cn2, .slice Aw2 wk.length cw2, by simp, ?_, HPW.out⟩, ?_, ?_⟩
        · rw [hW9]; exact CA4.out.far R4.out (confPut.near _ _ _ _ _ _ _ _)
        · rw [hW9]; exact confPut.kept K4.out (Nat.le_succ _) _ _ _ _ _ _ _
        · rw [hW9]; exact confPut.below B4.out (Nat.le_succ_of_le hBw) _ _ _ _ _ _ _
theorem confWords.at_ {W : World} {b : Nat} {s : ByteArray} (h : W.heap[b]? = some (.cells ((confWords s).map Value.string).toArray 9 (0, 0))) : ∀ j, j < (confWords s).length → W.cell? ⟨b, j, none⟩ = some (.string ((confWords s).getD j ByteArray.empty)) := by
  intro j hj
  rw [blk_cell h]
  simp [List.getD_eq_getElem?_getD, hj]
theorem confWords.le (s : ByteArray) (hs : s.size < 4294967281) : (confWords s).length ≤ 4294967281 := by
  rw [confWords.len]
  have := Lib.countB_le ⟨#[32]⟩ (by decide) s.size s (Nat.le_refl _)
  omega
theorem conf_head.part_no (P : Value → Prop) (k B g : Nat) (a0 a1 a2 a3 a4 : Int) (nm : List ByteArray) (wk : List Wk) (nmv wkv : Value) (hP : P nmv) (s : ByteArray) (hs : s.size < 4294967281) (hBg : B ≤ g) (l : List Int) (ok : Bool)
    (hn : conf_numbers.f k ((confWords s).drop 1) 5 = some (l, ok)) (hno : ok = false ∨ (((confWords s).getD 0 ByteArray.empty).toList == [99, 108, 117, 115, 116, 101, 114]) = false) :
    PartOf P 71 B g (Lib.countB s ⟨#[32]⟩ + 1) false a0 a1 a2 a3 a4 nm wk nmv wkv a0 a1 a2 a3 a4 nm wk s := by
  intro W b hL hBW hg hca hb _
  have hl := confWords.len s
  rw [← hl]
  have hle := confWords.le s hs
  refine (conf_head.no k g _ b (confWords s) l ok W hL (by omega) (by omega) hg (confWords.at_ hb) hn hno).mono ?_
  rintro e w' ⟨he, hr, hw⟩
  have hk : Kept W w' (fun k => k = g) := Kept.of_grown hw (Kept.refl W _) (fun k hk => .inl (by simpa using hk.symm))
  exact ⟨he, ⟨nmv, wkv, hr, hca.far hg hk, hP⟩, hk.mono (fun k h => .inl h), pw_below_grown (Below.refl B W) (some g) hBW hw (fun k hk => by simp at hk; omega)⟩
theorem conf_head.part_yes (P : Value → Prop) (k B g : Nat) (a0 a1 a2 a3 a4 : Int) (nm : List ByteArray) (wk : List Wk) (nmv wkv : Value) (hP : P nmv) (s : ByteArray) (hs : s.size < 4294967281) (hBg : B ≤ g) (l0 l1 l2 l3 l4 : Int)
    (hn : conf_numbers.f k ((confWords s).drop 1) 5 = some ([l0, l1, l2, l3, l4], true)) (hyes : (((confWords s).getD 0 ByteArray.empty).toList == [99, 108, 117, 115, 116, 101, 114]) = true) :
    PartOf P 71 B g (Lib.countB s ⟨#[32]⟩ + 1) true a0 a1 a2 a3 a4 nm wk nmv wkv l0 l1 l2 l3 l4 nm wk s := by
  intro W b hL hBW hg hca hb _
  have hl := confWords.len s
  rw [← hl]
  have hle := confWords.le s hs
  refine (conf_head.yes k g a0 a1 a2 a3 a4 nmv wkv b (confWords s) l0 l1 l2 l3 l4 W hL (by omega) (by omega) hg (confWords.at_ hb) hn hyes).mono ?_
  rintro e w' ⟨he, hr, hw⟩
  have hk : Kept W w' (fun k => k = g) := Kept.of_grown hw (Kept.refl W _) (fun k hk => .inl (by simpa using hk.symm))
  exact ⟨he, ⟨nmv, wkv, hr, hca.far hg hk, hP⟩, hk.mono (fun k h => .inl h), pw_below_grown (Below.refl B W) (some g) hBW hw (fun k hk => by simp at hk; omega)⟩
theorem conf_table.part (P : Value → Prop) (hP : ∀ v, P v) (B g : Nat) (a0 a1 a2 a3 a4 : Int) (wk : List Wk) (wkv : Value) (s : ByteArray) (hs : s.size < 4294967281) (hBg : B ≤ g) :
    PartOf P 72 B g (Lib.countB s ⟨#[32]⟩ + 1) (((confWords s).getD 0 ByteArray.empty).toList == [110, 97, 109, 101, 115]) a0 a1 a2 a3 a4 [] wk (.slice none 0 0) wkv a0 a1 a2 a3 a4 ((confWords s).drop 1) wk s := by
  intro W b hL hBW hg hca hb _
  have hl := confWords.len s
  rw [← hl]
  have hle := confWords.le s hs
  refine (conf_table.calls g a0 a1 a2 a3 a4 wkv b (confWords s) W (by omega) (by omega) hg (confWords.at_ hb)).mono ?_
  rintro e w' ⟨he, ⟨v, hv, hr⟩, hw⟩
  have hk : Kept W w' (fun k => k = g) := Kept.of_grown hw (Kept.refl W _) (fun k hk => .inl (by simpa using hk.symm))
  exact ⟨he, ⟨v, wkv, hr, ⟨Kd.R_lower hv hBW, (hca.far hg hk).workers⟩, hP _⟩, hk.mono (fun k h => .inl h), pw_below_grown (Below.refl B W) (some g) hBW hw (fun k hk => by simp at hk; omega)⟩
theorem conf_worker.part (P : Value → Prop) (hP : ∀ v, P v) (k B g : Nat) (a0 a1 a2 a3 a4 : Int) (nm : List ByteArray) (wk wk' : List Wk) (nmv wkv : Value) (s : ByteArray) (hs : s.size < 4294967281) (hBg : B ≤ g) (hB9 : 9 ≤ B) (hlen : (wk.length + 1) * 24 ≤ 140737488355328) (yes : Bool)
    (h : conf_worker.f k a0 a1 a2 a3 a4 nm wk (confWords s) = some (yes, wk')) :
    PartOf P 73 B g (Lib.countB s ⟨#[32]⟩ + 1) yes a0 a1 a2 a3 a4 nm wk nmv wkv a0 a1 a2 a3 a4 nm wk' s := by
  intro W b hL hBW hg hca hb hnb
  have hl := confWords.len s
  rw [← hl]
  have hle := confWords.le s hs
  obtain ⟨An, cn, rfl⟩ := Kd.R_slice hca.names
  have hwq : ∀ q, q ∈ 9 :: Kd.string.E → q ≠ 79 := fun q hq => by
    have : q ∈ [9] := hq
    simp at this; omega
  have hnq : ∀ q, q ∈ 9 :: Kd.string.E → q ≠ 49 := fun q hq => by
    have : q ∈ [9] := hq
    simp at this; omega
  have hN : Kd.R Kd.string 9 W B (fun k => ¬ (k = g ∨ some k = wkv.ownBlock)) (.slice An nm.length cn) nm :=
    Kd.R_mono (Kd.R_types (Kd.R_apartR hca.names hca.workers hwq) hg hnq) (fun k hk => fun h => h.elim hk.2 hk.1.2)
  have hN' : ∀ W', Kept W W' (fun k => k = g ∨ some k = wkv.ownBlock) → Kd.R Kd.string 9 W' B (fun k => ¬ (k = g ∨ some k = wkv.ownBlock)) (.slice An nm.length cn) nm := fun W' hk => Kd.R_kept hN hk (fun k hk => hk)
  have hbk : ¬ (b = g ∨ some b = wkv.ownBlock) := by
    rintro (e | e)
    · subst e; rw [hg] at hb; simp at hb
    · exact absurd e (Kd.R_ne hca.workers hb (by decide))
  refine (conf_worker.calls k g a0 a1 a2 a3 a4 An cn nm wkv wk b (confWords s) B W yes wk' hL (by omega) (by omega) hBW hg hBg ?_ hB9 ?_ (Kd.R_reads' hca.names).2.1 hca.workers hlen h).mono ?_
  · intro W' hk j hj
    exact cell_kept (confWords.at_ hb j hj) hk hbk
  · intro W' hk
    exact (Kd.R_reads' (hN' W' hk)).2.2
  · rintro e w' ⟨he, ⟨v, hv, hr, _⟩, hw, hbl⟩
    exact ⟨he, ⟨_, v, hr, ⟨Kd.R_mono (hN' w' hw) (fun _ _ => trivial), hv⟩, hP _⟩, hw, hbl⟩
structure CF where
  a0 : Int
  a1 : Int
  a2 : Int
  a3 : Int
  a4 : Int
  nm : List ByteArray
  wk : List Wk
def conf_taken.f (k : Nat) (c : CF) (at_ : Nat) (s : ByteArray) : Option (Bool × CF) :=
  match at_ with
  | 0 => (conf_numbers.f k ((confWords s).drop 1) 5).bind fun n =>
    match n with
    | ([l0, l1, l2, l3, l4], true) =>
      if (((confWords s).getD 0 ByteArray.empty).toList == [99, 108, 117, 115, 116, 101, 114]) = true then (conf_Check.f k l0 l1 l2 l3 l4 [] [⟨1, 1, 0⟩]).bind fun e => some (e == 0, ⟨l0, l1, l2, l3, l4, c.nm, c.wk⟩)
      else some (false, c)
    | (_, true) => none
    | (_, false) => some (false, c)
  | 1 => if (((confWords s).getD 0 ByteArray.empty).toList == [110, 97, 109, 101, 115]) = true then (conf_Check.f k c.a0 c.a1 c.a2 c.a3 c.a4 ((confWords s).drop 1) [⟨1, 1, 0⟩]).bind fun e => some (e == 0, { c with nm := (confWords s).drop 1 })
    else some (false, { c with nm := (confWords s).drop 1 })
  | _ + 2 => (conf_worker.f k c.a0 c.a1 c.a2 c.a3 c.a4 c.nm c.wk (confWords s)).bind fun n =>
    if n.1 = true then (conf_Check.f k c.a0 c.a1 c.a2 c.a3 c.a4 c.nm n.2).bind fun e => some (e == 0, { c with wk := n.2 })
    else some (false, { c with wk := n.2 })
theorem conf_taken.calls (k B : Nat) (c c' : CF) (nmv wkv : Value) (at_ : Nat) (s : ByteArray) (w : World) (yes : Bool) (hL : Laid w) (hB9 : 9 ≤ B) (hBw : B ≤ w.heap.size) (hs : s.size < 4294967281) (hca : ConfAt B w c.nm c.wk nmv wkv)
    (hn1 : at_ = 1 → c.nm = [] ∧ nmv = .slice none 0 0) (hlen : (c.wk.length + 1) * 24 ≤ 140737488355328) (h : conf_taken.f k c at_ s = some (yes, c')) :
    Calls Tryd.prog 43 #[.agg #[.int .i64 c.a0, .int .i64 c.a1, .int .i64 c.a2, .int .i64 c.a3, .int .i64 c.a4, nmv, wkv], .int .i64 at_, .string s] w (TakenDone (fun v => at_ = 0 → v = nmv) B yes c'.a0 c'.a1 c'.a2 c'.a3 c'.a4 c'.nm c'.wk wkv w) := by
  obtain ⟨c0, c1, c2, c3, c4, nm, wk⟩ := c
  match at_, hn1, h with
  | 0, _, h =>
    simp only [conf_taken.f] at h
    obtain ⟨n, hn, h⟩ := Option.bind_eq_some_iff.mp h
    split at h
    · split at h
      · rename_i hy
        obtain ⟨e, he, h⟩ := Option.bind_eq_some_iff.mp h
        simp only [Option.some.injEq, Prod.mk.injEq] at h
        obtain ⟨rfl, rfl⟩ := h
        have z := conf_taken.way0 _ B true c0 c1 c2 c3 c4 nm wk nmv wkv _ _ _ _ _ nm wk s w hL hBw hs hca (conf_head.part_yes (fun v => (0 : Nat) = 0 → v = nmv) k B w.heap.size c0 c1 c2 c3 c4 nm wk nmv wkv (fun _ => rfl) s hs hBw _ _ _ _ _ hn hy) k e (fun _ => he)
        simpa using z
      · rename_i hy
        simp only [Option.some.injEq, Prod.mk.injEq] at h
        obtain ⟨rfl, rfl⟩ := h
        exact conf_taken.way0 _ B false c0 c1 c2 c3 c4 nm wk nmv wkv _ _ _ _ _ nm wk s w hL hBw hs hca (conf_head.part_no (fun v => (0 : Nat) = 0 → v = nmv) k B w.heap.size c0 c1 c2 c3 c4 nm wk nmv wkv (fun _ => rfl) s hs hBw _ _ hn (.inr (by simpa using hy))) k 0 (fun h => by cases h)
    · cases h
    · simp only [Option.some.injEq, Prod.mk.injEq] at h
      obtain ⟨rfl, rfl⟩ := h
      exact conf_taken.way0 _ B false c0 c1 c2 c3 c4 nm wk nmv wkv _ _ _ _ _ nm wk s w hL hBw hs hca (conf_head.part_no (fun v => (0 : Nat) = 0 → v = nmv) k B w.heap.size c0 c1 c2 c3 c4 nm wk nmv wkv (fun _ => rfl) s hs hBw _ _ hn (.inl rfl)) k 0 (fun h => by cases h)
  | 1, hn1, h =>
    obtain ⟨h0, h1⟩ := hn1 rfl
    simp only at h0
    subst h0 h1
    simp only [conf_taken.f] at h
    split at h
    · rename_i hy
      obtain ⟨e, he, h⟩ := Option.bind_eq_some_iff.mp h
      simp only [Option.some.injEq, Prod.mk.injEq] at h
      obtain ⟨rfl, rfl⟩ := h
      have z := conf_taken.way1 _ B _ c0 c1 c2 c3 c4 [] wk _ wkv _ _ _ _ _ _ wk s w hL hBw hs hca (conf_table.part (fun v => (1 : Nat) = 0 → v = .slice none 0 0) (fun _ h => by cases h) B w.heap.size c0 c1 c2 c3 c4 wk wkv s hs hBw) k e (fun _ => he)
      rw [hy] at z
      simpa using z
    · rename_i hy
      simp only [Option.some.injEq, Prod.mk.injEq] at h
      obtain ⟨rfl, rfl⟩ := h
      have z := conf_taken.way1 _ B _ c0 c1 c2 c3 c4 [] wk _ wkv _ _ _ _ _ _ wk s w hL hBw hs hca (conf_table.part (fun v => (1 : Nat) = 0 → v = .slice none 0 0) (fun _ h => by cases h) B w.heap.size c0 c1 c2 c3 c4 wk wkv s hs hBw) k 0 (fun h => absurd h hy)
      rw [Bool.eq_false_iff.mpr hy] at z
      simpa using z
  | n + 2, _, h =>
    simp only [conf_taken.f] at h
    obtain ⟨⟨y, wk'⟩, hn, h⟩ := Option.bind_eq_some_iff.mp h
    simp only at h
    split at h
    · rename_i hy
      obtain ⟨e, he, h⟩ := Option.bind_eq_some_iff.mp h
      simp only [Option.some.injEq, Prod.mk.injEq] at h
      obtain ⟨rfl, rfl⟩ := h
      have z := conf_taken.way2 _ B _ c0 c1 c2 c3 c4 nm wk nmv wkv _ _ _ _ _ nm wk' s w ((n + 2 : Nat) : Int) (by omega) hL hBw hs hca (conf_worker.part (fun v => n + 2 = 0 → v = nmv) (fun _ h => by cases h) k B w.heap.size c0 c1 c2 c3 c4 nm wk wk' nmv wkv s hs hBw hB9 hlen y hn) k e (fun _ => he)
      subst hy
      simpa using z
    · rename_i hy
      simp only [Option.some.injEq, Prod.mk.injEq] at h
      obtain ⟨rfl, rfl⟩ := h
      have z := conf_taken.way2 _ B _ c0 c1 c2 c3 c4 nm wk nmv wkv _ _ _ _ _ nm wk' s w ((n + 2 : Nat) : Int) (by omega) hL hBw hs hca (conf_worker.part (fun v => n + 2 = 0 → v = nmv) (fun _ h => by cases h) k B w.heap.size c0 c1 c2 c3 c4 nm wk wk' nmv wkv s hs hBw hB9 hlen y hn) k 0 (fun h => absurd h hy)
      rw [Bool.eq_false_iff.mpr hy] at z
      simpa using z
end Go.Proofs.YtmppkcdphgelcaaDoor.PConf
namespace Go.Proofs.YtmppkcdphgelcaaDoor.PConf
open Go.RowKit Go.Proofs.YtmppkcdphgelcaaDoorW.PrintWords Go.Proofs.YtmppkcdphgelcaaDoorW.PrintLast Go.Proofs.YtmppkcdphgelcaaDoorW.PrintMore
attribute [local go_sem] max2_int min2_int max_two min_two max_three min_three max_four min_four   -- for this text's walks alone
set_option linter.unusedVariables false
set_option linter.unusedSimpArgs false
attribute [local go_sem ↓] Go.wp_at_zero Go.wp_at_succ
def CF.zero : CF := ⟨0, 0, 0, 0, 0, [], []⟩
def conf_Read.l (k : Nat) : Nat → Nat → CF → ByteArray → Option (CF × Int × Int)
  | 0, _, _, _ => none
  | n + 1, at_, c, s => (strings_Cut.f s ⟨#[10]⟩).bind fun t =>
    if t.2.2 = true then (conf_taken.f k c at_ t.1).bind fun d => if d.1 = true then conf_Read.l k n (at_ + 1) d.2 t.2.1 else some (CF.zero, at_ + 1, 3)
    else if s.toList = [] ∧ ¬ at_ < 3 then some (c, 0, 0) else some (CF.zero, at_ + 1, 3)
def conf_Read.f (a0 : ByteArray) : Option (Int × Int × Int × Int × Int × List ByteArray × (List Wk) × Int × Int) :=
  (conf_Read.l (a0.size + 100) (a0.size + 1) 0 CF.zero a0).map fun r => (r.1.a0, r.1.a1, r.1.a2, r.1.a3, r.1.a4, r.1.nm, r.1.wk, r.2.1, r.2.2)
structure ReadInv (k : Nat) (r : CF × Int × Int) (N : Nat) (w : World) (kq : Nat) (s : ByteArray) (at_ : Nat) (c : CF) (nmv wkv : Value) (w' : World) : Prop where
  eqn : conf_Read.l k kq at_ c s = some r
  conf : ConfAt w.heap.size w' c.nm c.wk nmv wkv
  start : at_ ≤ 1 → c.nm = [] ∧ nmv = .slice none 0 0
  res : w'.heap[w.heap.size]? = some (.cells (confCells 0 0 0 0 0 (.slice none 0 0) (.slice none 0 0)) 49 (0, 0))
  cur : w'.heap[w.heap.size + 1]? = some (.cells (confCells c.a0 c.a1 c.a2 c.a3 c.a4 nmv wkv) 49 (0, 0))
  below : Below w.heap.size w w'
  size : s.size + at_ ≤ N
  wks : c.wk.length ≤ at_
structure ReadDone (r : CF × Int × Int) (w : World) (e : Ending) (w' : World) : Prop where
  val : ∃ nmv wkv, e = .returned (.tuple #[.agg (confCells r.1.a0 r.1.a1 r.1.a2 r.1.a3 r.1.a4 nmv wkv), .int .i64 r.2.1, .int .i64 r.2.2]) ∧ ConfAt w.heap.size w' r.1.nm r.1.wk nmv wkv
  below : Below w.heap.size w w'
theorem ConfAt.zero (B : Nat) (w : World) : ConfAt B w [] [] (.slice none 0 0) (.slice none 0 0) := ⟨Kd.R_nil _ _ _ _ _, Kd.R_nil _ _ _ _ _⟩
theorem cut_less (s : ByteArray) (h : (Lib.cut s.data.toList [10]).2.2 = true) : (⟨(Lib.cut s.data.toList [10]).2.1.toArray⟩ : ByteArray).size + 1 ≤ s.size := by
  have hs : s.size = s.data.toList.length := by rw [Array.length_toList]; rfl
  rw [hs]
  generalize s.data.toList = l at *
  unfold Lib.cut at *
  split at h
  · rename_i hi
    rw [if_pos hi]
    cases l with
    | nil => exact absurd hi (by decide)
    | cons x l =>
      simp [ByteArray.size]
  · cases h
theorem conf_worker.wks (k : Nat) (a0 a1 a2 a3 a4 : Int) (nm : List ByteArray) (wk wk' : List Wk) (ws : List ByteArray) (yes : Bool) (h : conf_worker.f k a0 a1 a2 a3 a4 nm wk ws = some (yes, wk')) : wk'.length ≤ wk.length + 1 := by
  unfold conf_worker.f at h
  split at h
  · obtain ⟨n, _, h⟩ := Option.bind_eq_some_iff.mp h
    obtain ⟨t, _, h⟩ := Option.bind_eq_some_iff.mp h
    split at h
    · obtain ⟨x, _, h⟩ := Option.bind_eq_some_iff.mp h
      obtain ⟨y, _, h⟩ := Option.bind_eq_some_iff.mp h
      simp only [Option.some.injEq, Prod.mk.injEq] at h
      rw [← h.2]; simp
    · simp only [Option.some.injEq, Prod.mk.injEq] at h
      rw [← h.2]; omega
  · simp only [Option.some.injEq, Prod.mk.injEq] at h
    rw [← h.2]; omega
theorem conf_taken.wks (k : Nat) (c c' : CF) (at_ : Nat) (s : ByteArray) (yes : Bool) (h : conf_taken.f k c at_ s = some (yes, c')) : c'.wk.length ≤ c.wk.length + 1 ∧ (at_ = 0 → c'.nm = c.nm) := by
  match at_, h with
  | 0, h =>
    simp only [conf_taken.f] at h
    obtain ⟨n, _, h⟩ := Option.bind_eq_some_iff.mp h
    split at h
    · split at h
      · obtain ⟨e, _, h⟩ := Option.bind_eq_some_iff.mp h
        simp only [Option.some.injEq, Prod.mk.injEq] at h
        rw [← h.2]; exact ⟨Nat.le_succ _, fun _ => rfl⟩
      · simp only [Option.some.injEq, Prod.mk.injEq] at h
        rw [← h.2]; exact ⟨Nat.le_succ _, fun _ => rfl⟩
    · cases h
    · simp only [Option.some.injEq, Prod.mk.injEq] at h
      rw [← h.2]; exact ⟨Nat.le_succ _, fun _ => rfl⟩
  | 1, h =>
    simp only [conf_taken.f] at h
    split at h
    · obtain ⟨e, _, h⟩ := Option.bind_eq_some_iff.mp h
      simp only [Option.some.injEq, Prod.mk.injEq] at h
      rw [← h.2]; exact ⟨Nat.le_succ _, fun h => by cases h⟩
    · simp only [Option.some.injEq, Prod.mk.injEq] at h
      rw [← h.2]; exact ⟨Nat.le_succ _, fun h => by cases h⟩
  | n + 2, h =>
    simp only [conf_taken.f] at h
    obtain ⟨⟨y, wk'⟩, hn, h⟩ := Option.bind_eq_some_iff.mp h
    have hw := conf_worker.wks _ _ _ _ _ _ _ _ _ _ _ hn
    split at h
    · obtain ⟨e, _, h⟩ := Option.bind_eq_some_iff.mp h
      simp only [Option.some.injEq, Prod.mk.injEq] at h
      rw [← h.2]; exact ⟨hw, fun h => by cases h⟩
    · simp only [Option.some.injEq, Prod.mk.injEq] at h
      rw [← h.2]; exact ⟨hw, fun h => by cases h⟩
theorem cut_facts (s text rest : ByteArray) (whole : Bool) (h : strings_Cut.f s ⟨#[10]⟩ = some (text, rest, whole)) : s.size < 4294967281 ∧ text.size ≤ s.size ∧ (whole = true → rest.size + 1 ≤ s.size) := by
  unfold strings_Cut.f at h
  split at h
  · rename_i hs
    simp only [Option.some.injEq, Prod.mk.injEq] at h
    obtain ⟨rfl, rfl, rfl⟩ := h
    refine ⟨hs, ?_, cut_less s⟩
    have hl : s.size = s.data.toList.length := by rw [Array.length_toList]; rfl
    rw [hl]
    generalize s.data.toList = l
    unfold Lib.cut
    split
    · simp [ByteArray.size]
      try omega
    · simp [ByteArray.size]
  · cases h
theorem next_size {a b c n : Nat} (h : a + 1 ≤ b) (k : b + c ≤ n) : a + (c + 1) ≤ n := by omega
theorem next_wks {a b c : Nat} (h : a ≤ b + 1) (k : b ≤ c) : a ≤ c + 1 := by omega
theorem zero_of {a : Nat} (h : a + 1 ≤ 1) : a = 0 := by omega
set_option maxHeartbeats 6400000 in
set_option maxRecDepth 100000 in
theorem conf_Read.walk (k n : Nat) (a0 : ByteArray) (r : CF × Int × Int) (w : World) (hL : Laid w) (hs : a0.size < 4294967281) (h : conf_Read.l k n 0 CF.zero a0 = some r) :
    Calls Tryd.prog 22 #[.string a0] w (ReadDone r w) := by
  have HL := Aside0.mk hL
  have HI := Aside0.mk (fun (w' : World) (hr : w'.heap[w.heap.size]? = some (.cells (confCells 0 0 0 0 0 (.slice none 0 0) (.slice none 0 0)) 49 (0, 0))) (hc : w'.heap[w.heap.size + 1]? = some (.cells (confCells 0 0 0 0 0 (.slice none 0 0) (.slice none 0 0)) 49 (0, 0))) (hb : Below w.heap.size w w') => (show ReadInv k r a0.size w n a0 0 CF.zero (.slice none 0 0) (.slice none 0 0) w' from ⟨h, ConfAt.zero _ _, fun _ => ⟨rfl, rfl⟩, hr, hc, hb, Nat.le_refl _, Nat.le_refl _⟩))
  clear h hL
  go_enter Tryd.func22, Tryd.ntmps22
  go_wp2_with fail
  obtain ⟨W0, hW0⟩ : ∃ W0, W0 = ((w.alloc (.cells #[.int .i64 0, .int .i64 0, .int .i64 0, .int .i64 0, .int .i64 0, .slice none 0 0, .slice none 0 0] 49)).alloc (.cells #[.int .i64 0, .int .i64 0, .int .i64 0, .int .i64 0, .int .i64 0, .slice none 0 0, .slice none 0 0] 49)) := ⟨_, rfl⟩
  have HI0 := Aside0.mk (HI.out W0 (by rw [hW0]; exact blk_alloc (blk_new w _) _) (by
    rw [hW0]
    have := blk_new (w.alloc (.cells (confCells 0 0 0 0 0 (.slice none 0 0) (.slice none 0 0)) 49)) (.cells (confCells 0 0 0 0 0 (.slice none 0 0) (.slice none 0 0)) 49)
    rw [show (w.alloc (.cells (confCells 0 0 0 0 0 (.slice none 0 0) (.slice none 0 0)) 49)).heap.size = w.heap.size + 1 by simp] at this
    exact this) (by rw [hW0]; exact below_alloc (below_alloc (Below.refl _ _) _) _))
  rw [← hW0]
  clear hW0 HI
  go_loopg [0, 6] n (fun kq v0 v6 w' => ∃ (s : ByteArray) (at_ : Nat) (c : CF) (nmv wkv : Value), v0 = .string s ∧ v6 = .int .i64 at_ ∧ Aside0 (ReadInv k r a0.size w kq s at_ c nmv wkv w'))
  case atStart => exact ⟨a0, 0, CF.zero, _, _, rfl, rfl, HI0⟩
  case round =>
    clear HI0
    obtain ⟨s, at_, c, nmv, wkv, rfl, rfl, HI⟩ := hrel
    cases gk with
    | zero => exact absurd HI.out.eqn (by simp [conf_Read.l])
    | succ k1 =>
      obtain ⟨hL1, ⟨⟨text, rest, whole⟩, hcut, h⟩⟩ : Laid wr ∧ ∃ t, strings_Cut.f s ⟨#[10]⟩ = some t ∧ (if t.2.2 = true then (conf_taken.f k c at_ t.1).bind fun d => if d.1 = true then conf_Read.l k k1 (at_ + 1) d.2 t.2.1 else some (CF.zero, at_ + 1, 3) else if s.toList = [] ∧ ¬ at_ < 3 then some (c, 0, 0) else some (CF.zero, at_ + 1, 3)) = some r := ⟨HL.out.below HI.out.below, by
        have := HI.out.eqn
        simp only [conf_Read.l] at this
        exact Option.bind_eq_some_iff.mp this⟩
      obtain ⟨An, cn, hAn⟩ := Kd.R_slice HI.out.conf.names
      obtain ⟨Aw, cw, hAw⟩ := Kd.R_slice HI.out.conf.workers
      subst hAn hAw
      have HC := Aside0.mk (strings_Cut.calls s ⟨#[10]⟩ text rest whole wr hL1 hcut)
      obtain ⟨c0, c1, c2, c3, c4, nm, wk⟩ := c
      have hat : (at_ : Int) < 9223372036854775807 := by have := HI.out.size; omega
      have hw1 : IntKind.i64.wrap ((at_ : Int) + 1) = (at_ : Int) + 1 := IntWalk.i64_in _ (by omega)
      cases whole
      · simp only [Bool.false_eq_true, if_false] at h
        by_cases hh : s.toList = [] ∧ ¬ at_ < 3
        · rw [if_pos hh] at h
          obtain ⟨hs0, hn3⟩ := hh
          have hs1 : (s.toList == ([] : List UInt8)) = true := beq_iff_eq.mpr hs0
          have hs2 : (s.toList != ([] : List UInt8)) = false := bne_eq_false_iff_eq.mpr hs0
          have hd3 : decide ((at_ : Int) < 3) = false := decide_eq_false (by omega)
          simp only [Option.some.injEq] at h
          subst h
          clear hs0
          go_wp2_with (go_at_call 27; refine HC.out.mono ?_; rintro e w1 ⟨rfl, hb1⟩; have HB1 := Aside0.mk hb1; have RES1 := Aside0.mk (blk_below HI.out.res hb1); have CUR1 := Aside0.mk (blk_below HI.out.cur hb1); have q0 := (show w1.cell? ⟨w.heap.size + 1, 0, none⟩ = some (.int .i64 c0) from (blk_cell CUR1.out 0).trans rfl); have q1 := (show w1.cell? ⟨w.heap.size + 1, 1, none⟩ = some (.int .i64 c1) from (blk_cell CUR1.out 1).trans rfl); have q2 := (show w1.cell? ⟨w.heap.size + 1, 2, none⟩ = some (.int .i64 c2) from (blk_cell CUR1.out 2).trans rfl); have q3 := (show w1.cell? ⟨w.heap.size + 1, 3, none⟩ = some (.int .i64 c3) from (blk_cell CUR1.out 3).trans rfl); have q4 := (show w1.cell? ⟨w.heap.size + 1, 4, none⟩ = some (.int .i64 c4) from (blk_cell CUR1.out 4).trans rfl); have q5 := (show w1.cell? ⟨w.heap.size + 1, 5, none⟩ = some (.slice An nm.length cn) from (blk_cell CUR1.out 5).trans rfl); have q6 := (show w1.cell? ⟨w.heap.size + 1, 6, none⟩ = some (.slice Aw wk.length cw) from (blk_cell CUR1.out 6).trans rfl); have p0 := (show w1.cell? ⟨w.heap.size, 0, none⟩ = some (.int .i64 0) from (blk_cell RES1.out 0).trans rfl); have p1 := (show w1.cell? ⟨w.heap.size, 1, none⟩ = some (.int .i64 0) from (blk_cell RES1.out 1).trans rfl); have p2 := (show w1.cell? ⟨w.heap.size, 2, none⟩ = some (.int .i64 0) from (blk_cell RES1.out 2).trans rfl); have p3 := (show w1.cell? ⟨w.heap.size, 3, none⟩ = some (.int .i64 0) from (blk_cell RES1.out 3).trans rfl); have p4 := (show w1.cell? ⟨w.heap.size, 4, none⟩ = some (.int .i64 0) from (blk_cell RES1.out 4).trans rfl); have p5 := (show w1.cell? ⟨w.heap.size, 5, none⟩ = some (.slice none 0 0) from (blk_cell RES1.out 5).trans rfl); have p6 := (show w1.cell? ⟨w.heap.size, 6, none⟩ = some (.slice none 0 0) from (blk_cell RES1.out 6).trans rfl); have f0 := blk_frozen RES1.out 0; have f1 := blk_frozen RES1.out 1; have f2 := blk_frozen RES1.out 2; have f3 := blk_frozen RES1.out 3; have f4 := blk_frozen RES1.out 4; have f5 := blk_frozen RES1.out 5; have f6 := blk_frozen RES1.out 6; have g0 := blk_frozen CUR1.out 0; have g1 := blk_frozen CUR1.out 1; have g2 := blk_frozen CUR1.out 2; have g3 := blk_frozen CUR1.out 3; have g4 := blk_frozen CUR1.out 4; have g5 := blk_frozen CUR1.out 5; have g6 := blk_frozen CUR1.out 6; clear hb1)
          have RR := Aside0.mk (confPut.at_ RES1.out c0 c1 c2 c3 c4 (.slice An nm.length cn) (.slice Aw wk.length cw))
          show bodyPost _ _ _ _ _ (confPut w1 w.heap.size c0 c1 c2 c3 c4 (.slice An nm.length cn) (.slice Aw wk.length cw))
          obtain ⟨W9, hW9⟩ : ∃ W9, W9 = (confPut w1 w.heap.size c0 c1 c2 c3 c4 (.slice An nm.length cn) (.slice Aw wk.length cw)) := ⟨_, rfl⟩
          rw [← hW9] at RR ⊢
          have s0 := (show W9.cell? ⟨w.heap.size, 0, none⟩ = some (.int .i64 c0) from (blk_cell RR.out 0).trans rfl)
          have s1 := (show W9.cell? ⟨w.heap.size, 1, none⟩ = some (.int .i64 c1) from (blk_cell RR.out 1).trans rfl)
          have s2 := (show W9.cell? ⟨w.heap.size, 2, none⟩ = some (.int .i64 c2) from (blk_cell RR.out 2).trans rfl)
          have s3 := (show W9.cell? ⟨w.heap.size, 3, none⟩ = some (.int .i64 c3) from (blk_cell RR.out 3).trans rfl)
          have s4 := (show W9.cell? ⟨w.heap.size, 4, none⟩ = some (.int .i64 c4) from (blk_cell RR.out 4).trans rfl)
          have s5 := (show W9.cell? ⟨w.heap.size, 5, none⟩ = some (.slice An nm.length cn) from (blk_cell RR.out 5).trans rfl)
          have s6 := (show W9.cell? ⟨w.heap.size, 6, none⟩ = some (.slice Aw wk.length cw) from (blk_cell RR.out 6).trans rfl)
          refine bodyPost_ret (v := .tuple #[.agg (confCells c0 c1 c2 c3 c4 (.slice An nm.length cn) (.slice Aw wk.length cw)), .int .i64 0, .int .i64 0]) (by simp [results, Tryd.results22, go_sem, s0, s1, s2, s3, s4, s5, s6, confCells]) rfl ⟨⟨_, _, rfl, ?_⟩, ?_⟩
          · rw [hW9]; exact ((HI.out.conf.below HB1.out).far RES1.out (confPut.near _ _ _ _ _ _ _ _))
          · rw [hW9]; exact confPut.below (Below.trans HI.out.below (HB1.out.mono HI.out.below.size)) (Nat.le_refl _) _ _ _ _ _ _ _
        · rw [if_neg hh] at h
          simp only [Option.some.injEq] at h
          subst h
          by_cases hs0 : s.toList = []
          · have hs1 : (s.toList == ([] : List UInt8)) = true := beq_iff_eq.mpr hs0
            have hs2 : (s.toList != ([] : List UInt8)) = false := bne_eq_false_iff_eq.mpr hs0
            have hd3 : decide ((at_ : Int) < 3) = true := decide_eq_true (by have : at_ < 3 := Decidable.byContradiction fun h3 => hh ⟨hs0, h3⟩
                                                                             omega)
            clear hs0 hh
            go_wp2_with (go_at_call 27; refine HC.out.mono ?_; rintro e w1 ⟨rfl, hb1⟩; have HB1 := Aside0.mk hb1; have RES1 := Aside0.mk (blk_below HI.out.res hb1); have CUR1 := Aside0.mk (blk_below HI.out.cur hb1); have q0 := (show w1.cell? ⟨w.heap.size + 1, 0, none⟩ = some (.int .i64 c0) from (blk_cell CUR1.out 0).trans rfl); have q1 := (show w1.cell? ⟨w.heap.size + 1, 1, none⟩ = some (.int .i64 c1) from (blk_cell CUR1.out 1).trans rfl); have q2 := (show w1.cell? ⟨w.heap.size + 1, 2, none⟩ = some (.int .i64 c2) from (blk_cell CUR1.out 2).trans rfl); have q3 := (show w1.cell? ⟨w.heap.size + 1, 3, none⟩ = some (.int .i64 c3) from (blk_cell CUR1.out 3).trans rfl); have q4 := (show w1.cell? ⟨w.heap.size + 1, 4, none⟩ = some (.int .i64 c4) from (blk_cell CUR1.out 4).trans rfl); have q5 := (show w1.cell? ⟨w.heap.size + 1, 5, none⟩ = some (.slice An nm.length cn) from (blk_cell CUR1.out 5).trans rfl); have q6 := (show w1.cell? ⟨w.heap.size + 1, 6, none⟩ = some (.slice Aw wk.length cw) from (blk_cell CUR1.out 6).trans rfl); have p0 := (show w1.cell? ⟨w.heap.size, 0, none⟩ = some (.int .i64 0) from (blk_cell RES1.out 0).trans rfl); have p1 := (show w1.cell? ⟨w.heap.size, 1, none⟩ = some (.int .i64 0) from (blk_cell RES1.out 1).trans rfl); have p2 := (show w1.cell? ⟨w.heap.size, 2, none⟩ = some (.int .i64 0) from (blk_cell RES1.out 2).trans rfl); have p3 := (show w1.cell? ⟨w.heap.size, 3, none⟩ = some (.int .i64 0) from (blk_cell RES1.out 3).trans rfl); have p4 := (show w1.cell? ⟨w.heap.size, 4, none⟩ = some (.int .i64 0) from (blk_cell RES1.out 4).trans rfl); have p5 := (show w1.cell? ⟨w.heap.size, 5, none⟩ = some (.slice none 0 0) from (blk_cell RES1.out 5).trans rfl); have p6 := (show w1.cell? ⟨w.heap.size, 6, none⟩ = some (.slice none 0 0) from (blk_cell RES1.out 6).trans rfl); have f0 := blk_frozen RES1.out 0; have f1 := blk_frozen RES1.out 1; have f2 := blk_frozen RES1.out 2; have f3 := blk_frozen RES1.out 3; have f4 := blk_frozen RES1.out 4; have f5 := blk_frozen RES1.out 5; have f6 := blk_frozen RES1.out 6; have g0 := blk_frozen CUR1.out 0; have g1 := blk_frozen CUR1.out 1; have g2 := blk_frozen CUR1.out 2; have g3 := blk_frozen CUR1.out 3; have g4 := blk_frozen CUR1.out 4; have g5 := blk_frozen CUR1.out 5; have g6 := blk_frozen CUR1.out 6; clear hb1)
            have RR := Aside0.mk (confPut.at_ RES1.out 0 0 0 0 0 (.slice none 0 0) (.slice none 0 0))
            show bodyPost _ _ _ _ _ (confPut w1 w.heap.size 0 0 0 0 0 (.slice none 0 0) (.slice none 0 0))
            obtain ⟨W9, hW9⟩ : ∃ W9, W9 = (confPut w1 w.heap.size 0 0 0 0 0 (.slice none 0 0) (.slice none 0 0)) := ⟨_, rfl⟩
            rw [← hW9] at RR ⊢
            have s0 := (show W9.cell? ⟨w.heap.size, 0, none⟩ = some (.int .i64 0) from (blk_cell RR.out 0).trans rfl)
            have s1 := (show W9.cell? ⟨w.heap.size, 1, none⟩ = some (.int .i64 0) from (blk_cell RR.out 1).trans rfl)
            have s2 := (show W9.cell? ⟨w.heap.size, 2, none⟩ = some (.int .i64 0) from (blk_cell RR.out 2).trans rfl)
            have s3 := (show W9.cell? ⟨w.heap.size, 3, none⟩ = some (.int .i64 0) from (blk_cell RR.out 3).trans rfl)
            have s4 := (show W9.cell? ⟨w.heap.size, 4, none⟩ = some (.int .i64 0) from (blk_cell RR.out 4).trans rfl)
            have s5 := (show W9.cell? ⟨w.heap.size, 5, none⟩ = some (.slice none 0 0) from (blk_cell RR.out 5).trans rfl)
            have s6 := (show W9.cell? ⟨w.heap.size, 6, none⟩ = some (.slice none 0 0) from (blk_cell RR.out 6).trans rfl)
            refine bodyPost_ret (v := .tuple #[.agg (confCells 0 0 0 0 0 (.slice none 0 0) (.slice none 0 0)), .int .i64 (at_ + 1), .int .i64 3]) (by simp [results, Tryd.results22, go_sem, s0, s1, s2, s3, s4, s5, s6, confCells]) rfl ⟨⟨_, _, rfl, ?_⟩, ?_⟩
            · rw [hW9]; exact ConfAt.zero _ _
            · rw [hW9]; exact confPut.below (Below.trans HI.out.below (HB1.out.mono HI.out.below.size)) (Nat.le_refl _) _ _ _ _ _ _ _
          · have hs1 : (s.toList == ([] : List UInt8)) = false := beq_eq_false_iff_ne.mpr hs0
            have hs2 : (s.toList != ([] : List UInt8)) = true := bne_iff_ne.mpr hs0
            clear hs0 hh
            go_wp2_with (go_at_call 27; refine HC.out.mono ?_; rintro e w1 ⟨rfl, hb1⟩; have HB1 := Aside0.mk hb1; have RES1 := Aside0.mk (blk_below HI.out.res hb1); have CUR1 := Aside0.mk (blk_below HI.out.cur hb1); have q0 := (show w1.cell? ⟨w.heap.size + 1, 0, none⟩ = some (.int .i64 c0) from (blk_cell CUR1.out 0).trans rfl); have q1 := (show w1.cell? ⟨w.heap.size + 1, 1, none⟩ = some (.int .i64 c1) from (blk_cell CUR1.out 1).trans rfl); have q2 := (show w1.cell? ⟨w.heap.size + 1, 2, none⟩ = some (.int .i64 c2) from (blk_cell CUR1.out 2).trans rfl); have q3 := (show w1.cell? ⟨w.heap.size + 1, 3, none⟩ = some (.int .i64 c3) from (blk_cell CUR1.out 3).trans rfl); have q4 := (show w1.cell? ⟨w.heap.size + 1, 4, none⟩ = some (.int .i64 c4) from (blk_cell CUR1.out 4).trans rfl); have q5 := (show w1.cell? ⟨w.heap.size + 1, 5, none⟩ = some (.slice An nm.length cn) from (blk_cell CUR1.out 5).trans rfl); have q6 := (show w1.cell? ⟨w.heap.size + 1, 6, none⟩ = some (.slice Aw wk.length cw) from (blk_cell CUR1.out 6).trans rfl); have p0 := (show w1.cell? ⟨w.heap.size, 0, none⟩ = some (.int .i64 0) from (blk_cell RES1.out 0).trans rfl); have p1 := (show w1.cell? ⟨w.heap.size, 1, none⟩ = some (.int .i64 0) from (blk_cell RES1.out 1).trans rfl); have p2 := (show w1.cell? ⟨w.heap.size, 2, none⟩ = some (.int .i64 0) from (blk_cell RES1.out 2).trans rfl); have p3 := (show w1.cell? ⟨w.heap.size, 3, none⟩ = some (.int .i64 0) from (blk_cell RES1.out 3).trans rfl); have p4 := (show w1.cell? ⟨w.heap.size, 4, none⟩ = some (.int .i64 0) from (blk_cell RES1.out 4).trans rfl); have p5 := (show w1.cell? ⟨w.heap.size, 5, none⟩ = some (.slice none 0 0) from (blk_cell RES1.out 5).trans rfl); have p6 := (show w1.cell? ⟨w.heap.size, 6, none⟩ = some (.slice none 0 0) from (blk_cell RES1.out 6).trans rfl); have f0 := blk_frozen RES1.out 0; have f1 := blk_frozen RES1.out 1; have f2 := blk_frozen RES1.out 2; have f3 := blk_frozen RES1.out 3; have f4 := blk_frozen RES1.out 4; have f5 := blk_frozen RES1.out 5; have f6 := blk_frozen RES1.out 6; have g0 := blk_frozen CUR1.out 0; have g1 := blk_frozen CUR1.out 1; have g2 := blk_frozen CUR1.out 2; have g3 := blk_frozen CUR1.out 3; have g4 := blk_frozen CUR1.out 4; have g5 := blk_frozen CUR1.out 5; have g6 := blk_frozen CUR1.out 6; clear hb1)
            have RR := Aside0.mk (confPut.at_ RES1.out 0 0 0 0 0 (.slice none 0 0) (.slice none 0 0))
            show bodyPost _ _ _ _ _ (confPut w1 w.heap.size 0 0 0 0 0 (.slice none 0 0) (.slice none 0 0))
            obtain ⟨W9, hW9⟩ : ∃ W9, W9 = (confPut w1 w.heap.size 0 0 0 0 0 (.slice none 0 0) (.slice none 0 0)) := ⟨_, rfl⟩
            rw [← hW9] at RR ⊢
            have s0 := (show W9.cell? ⟨w.heap.size, 0, none⟩ = some (.int .i64 0) from (blk_cell RR.out 0).trans rfl)
            have s1 := (show W9.cell? ⟨w.heap.size, 1, none⟩ = some (.int .i64 0) from (blk_cell RR.out 1).trans rfl)
            have s2 := (show W9.cell? ⟨w.heap.size, 2, none⟩ = some (.int .i64 0) from (blk_cell RR.out 2).trans rfl)
            have s3 := (show W9.cell? ⟨w.heap.size, 3, none⟩ = some (.int .i64 0) from (blk_cell RR.out 3).trans rfl)
            have s4 := (show W9.cell? ⟨w.heap.size, 4, none⟩ = some (.int .i64 0) from (blk_cell RR.out 4).trans rfl)
            have s5 := (show W9.cell? ⟨w.heap.size, 5, none⟩ = some (.slice none 0 0) from (blk_cell RR.out 5).trans rfl)
            have s6 := (show W9.cell? ⟨w.heap.size, 6, none⟩ = some (.slice none 0 0) from (blk_cell RR.out 6).trans rfl)
            refine bodyPost_ret (v := .tuple #[.agg (confCells 0 0 0 0 0 (.slice none 0 0) (.slice none 0 0)), .int .i64 (at_ + 1), .int .i64 3]) (by simp [results, Tryd.results22, go_sem, s0, s1, s2, s3, s4, s5, s6, confCells]) rfl ⟨⟨_, _, rfl, ?_⟩, ?_⟩
            · rw [hW9]; exact ConfAt.zero _ _
            · rw [hW9]; exact confPut.below (Below.trans HI.out.below (HB1.out.mono HI.out.below.size)) (Nat.le_refl _) _ _ _ _ _ _ _
      · simp only [if_true] at h
        obtain ⟨⟨yes, ⟨d0, d1, d2, d3, d4, nm2, wk2⟩⟩, htk, h⟩ := Option.bind_eq_some_iff.mp h
        simp only at h
        have hcf := Aside0.mk (cut_facts s text rest true hcut)
        have hcr := Aside0.mk ((cut_facts s text rest true hcut).2.2 rfl)
        have hss : text.size < 4294967281 := Nat.lt_of_le_of_lt hcf.out.2.1 hcf.out.1
        have HTW := Aside0.mk (conf_taken.wks k _ _ at_ text yes htk)
        have HT := Aside0.mk (fun (W : World) (hW : Below wr.heap.size wr W) => show Calls Tryd.prog 43 #[.agg #[.int .i64 c0, .int .i64 c1, .int .i64 c2, .int .i64 c3, .int .i64 c4, .slice An nm.length cn, .slice Aw wk.length cw], .int .i64 at_, .string text] W (fun e w' => ∃ nmv' wkv', e = .returned (.tuple #[.agg #[.int .i64 d0, .int .i64 d1, .int .i64 d2, .int .i64 d3, .int .i64 d4, nmv', wkv'], .bool yes]) ∧ ConfAt w.heap.size w' nm2 wk2 nmv' wkv' ∧ (at_ = 0 → nmv' = .slice An nm.length cn) ∧ Kept W w' (fun k => some k = (Value.slice Aw wk.length cw).ownBlock) ∧ Below w.heap.size W w') from (conf_taken.calls k w.heap.size ⟨c0, c1, c2, c3, c4, nm, wk⟩ ⟨d0, d1, d2, d3, d4, nm2, wk2⟩ (.slice An nm.length cn) (.slice Aw wk.length cw) at_ text W yes (hL1.below hW) HL.out.size (Nat.le_trans HI.out.below.size hW.size) hss (HI.out.conf.below hW) (fun e => HI.out.start (by omega)) (by have := HI.out.wks; have := HI.out.size; simp only at *; omega) htk).mono (fun e w' hh => by
          obtain ⟨⟨a, b, h1, h2, h3⟩, h4, h5⟩ := hh
          exact ⟨a, b, h1, h2, h3, h4, h5⟩))
        have HNR := Aside0.mk (show ¬ (some w.heap.size = (Value.slice Aw wk.length cw).ownBlock) from Kd.R_ne HI.out.conf.workers HI.out.res (by decide))
        have HNC := Aside0.mk (show ¬ (some (w.heap.size + 1) = (Value.slice Aw wk.length cw).ownBlock) from Kd.R_ne HI.out.conf.workers HI.out.cur (by decide))
        cases yes
        · simp only [Bool.false_eq_true, if_false, Option.some.injEq] at h
          subst h
          go_wp2_with (first | (go_at_call 27; refine HC.out.mono ?_; rintro e w1 ⟨rfl, hb1⟩; have HB1 := Aside0.mk hb1; have RES1 := Aside0.mk (blk_below HI.out.res hb1); have CUR1 := Aside0.mk (blk_below HI.out.cur hb1); have q0 := (show w1.cell? ⟨w.heap.size + 1, 0, none⟩ = some (.int .i64 c0) from (blk_cell CUR1.out 0).trans rfl); have q1 := (show w1.cell? ⟨w.heap.size + 1, 1, none⟩ = some (.int .i64 c1) from (blk_cell CUR1.out 1).trans rfl); have q2 := (show w1.cell? ⟨w.heap.size + 1, 2, none⟩ = some (.int .i64 c2) from (blk_cell CUR1.out 2).trans rfl); have q3 := (show w1.cell? ⟨w.heap.size + 1, 3, none⟩ = some (.int .i64 c3) from (blk_cell CUR1.out 3).trans rfl); have q4 := (show w1.cell? ⟨w.heap.size + 1, 4, none⟩ = some (.int .i64 c4) from (blk_cell CUR1.out 4).trans rfl); have q5 := (show w1.cell? ⟨w.heap.size + 1, 5, none⟩ = some (.slice An nm.length cn) from (blk_cell CUR1.out 5).trans rfl); have q6 := (show w1.cell? ⟨w.heap.size + 1, 6, none⟩ = some (.slice Aw wk.length cw) from (blk_cell CUR1.out 6).trans rfl); have p0 := (show w1.cell? ⟨w.heap.size, 0, none⟩ = some (.int .i64 0) from (blk_cell RES1.out 0).trans rfl); have p1 := (show w1.cell? ⟨w.heap.size, 1, none⟩ = some (.int .i64 0) from (blk_cell RES1.out 1).trans rfl); have p2 := (show w1.cell? ⟨w.heap.size, 2, none⟩ = some (.int .i64 0) from (blk_cell RES1.out 2).trans rfl); have p3 := (show w1.cell? ⟨w.heap.size, 3, none⟩ = some (.int .i64 0) from (blk_cell RES1.out 3).trans rfl); have p4 := (show w1.cell? ⟨w.heap.size, 4, none⟩ = some (.int .i64 0) from (blk_cell RES1.out 4).trans rfl); have p5 := (show w1.cell? ⟨w.heap.size, 5, none⟩ = some (.slice none 0 0) from (blk_cell RES1.out 5).trans rfl); have p6 := (show w1.cell? ⟨w.heap.size, 6, none⟩ = some (.slice none 0 0) from (blk_cell RES1.out 6).trans rfl); have f0 := blk_frozen RES1.out 0; have f1 := blk_frozen RES1.out 1; have f2 := blk_frozen RES1.out 2; have f3 := blk_frozen RES1.out 3; have f4 := blk_frozen RES1.out 4; have f5 := blk_frozen RES1.out 5; have f6 := blk_frozen RES1.out 6; have g0 := blk_frozen CUR1.out 0; have g1 := blk_frozen CUR1.out 1; have g2 := blk_frozen CUR1.out 2; have g3 := blk_frozen CUR1.out 3; have g4 := blk_frozen CUR1.out 4; have g5 := blk_frozen CUR1.out 5; have g6 := blk_frozen CUR1.out 6; clear hb1) | (go_at_call 43; go_must ((with_reducible refine (HT.out _ HB1.out).mono ?_); rintro e w2 ⟨nmv2, wkv2, rfl, hc2, hs2, hk2, hb2⟩; obtain ⟨An2, cn2, hAn2⟩ := Kd.R_slice hc2.names; obtain ⟨Aw2, cw2, hAw2⟩ := Kd.R_slice hc2.workers; subst hAn2 hAw2; have HS2 := Aside0.mk hs2; have CF2 := Aside0.mk hc2; have HB2 := Aside0.mk hb2; have HK2 := Aside0.mk hk2; have RES2 := Aside0.mk (cells_kept RES1.out hk2 HNR.out); have CUR2 := Aside0.mk (cells_kept CUR1.out hk2 HNC.out); clear q0 p0 f0 g0 q1 p1 f1 g1 q2 p2 f2 g2 q3 p3 f3 g3 q4 p4 f4 g4 q5 p5 f5 g5 q6 p6 f6 g6; have q0 := (show w2.cell? ⟨w.heap.size + 1, 0, none⟩ = some (.int .i64 c0) from (blk_cell CUR2.out 0).trans rfl); have q1 := (show w2.cell? ⟨w.heap.size + 1, 1, none⟩ = some (.int .i64 c1) from (blk_cell CUR2.out 1).trans rfl); have q2 := (show w2.cell? ⟨w.heap.size + 1, 2, none⟩ = some (.int .i64 c2) from (blk_cell CUR2.out 2).trans rfl); have q3 := (show w2.cell? ⟨w.heap.size + 1, 3, none⟩ = some (.int .i64 c3) from (blk_cell CUR2.out 3).trans rfl); have q4 := (show w2.cell? ⟨w.heap.size + 1, 4, none⟩ = some (.int .i64 c4) from (blk_cell CUR2.out 4).trans rfl); have q5 := (show w2.cell? ⟨w.heap.size + 1, 5, none⟩ = some (.slice An nm.length cn) from (blk_cell CUR2.out 5).trans rfl); have q6 := (show w2.cell? ⟨w.heap.size + 1, 6, none⟩ = some (.slice Aw wk.length cw) from (blk_cell CUR2.out 6).trans rfl); have p0 := (show w2.cell? ⟨w.heap.size, 0, none⟩ = some (.int .i64 0) from (blk_cell RES2.out 0).trans rfl); have p1 := (show w2.cell? ⟨w.heap.size, 1, none⟩ = some (.int .i64 0) from (blk_cell RES2.out 1).trans rfl); have p2 := (show w2.cell? ⟨w.heap.size, 2, none⟩ = some (.int .i64 0) from (blk_cell RES2.out 2).trans rfl); have p3 := (show w2.cell? ⟨w.heap.size, 3, none⟩ = some (.int .i64 0) from (blk_cell RES2.out 3).trans rfl); have p4 := (show w2.cell? ⟨w.heap.size, 4, none⟩ = some (.int .i64 0) from (blk_cell RES2.out 4).trans rfl); have p5 := (show w2.cell? ⟨w.heap.size, 5, none⟩ = some (.slice none 0 0) from (blk_cell RES2.out 5).trans rfl); have p6 := (show w2.cell? ⟨w.heap.size, 6, none⟩ = some (.slice none 0 0) from (blk_cell RES2.out 6).trans rfl); have f0 := blk_frozen RES2.out 0; have f1 := blk_frozen RES2.out 1; have f2 := blk_frozen RES2.out 2; have f3 := blk_frozen RES2.out 3; have f4 := blk_frozen RES2.out 4; have f5 := blk_frozen RES2.out 5; have f6 := blk_frozen RES2.out 6; have g0 := blk_frozen CUR2.out 0; have g1 := blk_frozen CUR2.out 1; have g2 := blk_frozen CUR2.out 2; have g3 := blk_frozen CUR2.out 3; have g4 := blk_frozen CUR2.out 4; have g5 := blk_frozen CUR2.out 5; have g6 := blk_frozen CUR2.out 6; clear hc2 hs2 hk2 hb2)) | ((with_reducible refine gate_dst (N := 10) rfl ?_); refine box_event ?hg (N := 10) ?hd (cs := #[.int .i64 0, .int .i64 0, .int .i64 0, .int .i64 0, .int .i64 0, .slice none 0 0, .slice none 0 0]) (t := 49) ?hr ?_; (case hd => rfl); (case hg => rfl); (case hr => first | (go_simp; done) | (go_simp; rfl)); intro gd hg w3 hbox hb3; clear q0 p0 f0 g0 q1 p1 f1 g1 q2 p2 f2 g2 q3 p3 f3 g3 q4 p4 f4 g4 q5 p5 f5 g5 q6 p6 f6 g6; have GD3 := Aside0.mk hbox; have GDE := Aside0.mk hg; have HB3 := Aside0.mk hb3; have RES3 := Aside0.mk (blk_below RES2.out hb3); have CUR3 := Aside0.mk (blk_below CUR2.out hb3); have n1 : ¬ gd = w.heap.size := fun e => Nat.ne_of_lt (blk_lt RES2.out) (e.symm.trans hg); have n2 : ¬ gd = w.heap.size + 1 := fun e => Nat.ne_of_lt (blk_lt CUR2.out) (e.symm.trans hg); have n3 : ¬ w.heap.size = gd := fun e => n1 e.symm; have n4 : ¬ w.heap.size + 1 = gd := fun e => n2 e.symm; have q0 := (show w3.cell? ⟨w.heap.size + 1, 0, none⟩ = some (.int .i64 c0) from (blk_cell CUR3.out 0).trans rfl); have q1 := (show w3.cell? ⟨w.heap.size + 1, 1, none⟩ = some (.int .i64 c1) from (blk_cell CUR3.out 1).trans rfl); have q2 := (show w3.cell? ⟨w.heap.size + 1, 2, none⟩ = some (.int .i64 c2) from (blk_cell CUR3.out 2).trans rfl); have q3 := (show w3.cell? ⟨w.heap.size + 1, 3, none⟩ = some (.int .i64 c3) from (blk_cell CUR3.out 3).trans rfl); have q4 := (show w3.cell? ⟨w.heap.size + 1, 4, none⟩ = some (.int .i64 c4) from (blk_cell CUR3.out 4).trans rfl); have q5 := (show w3.cell? ⟨w.heap.size + 1, 5, none⟩ = some (.slice An nm.length cn) from (blk_cell CUR3.out 5).trans rfl); have q6 := (show w3.cell? ⟨w.heap.size + 1, 6, none⟩ = some (.slice Aw wk.length cw) from (blk_cell CUR3.out 6).trans rfl); have p0 := (show w3.cell? ⟨w.heap.size, 0, none⟩ = some (.int .i64 0) from (blk_cell RES3.out 0).trans rfl); have p1 := (show w3.cell? ⟨w.heap.size, 1, none⟩ = some (.int .i64 0) from (blk_cell RES3.out 1).trans rfl); have p2 := (show w3.cell? ⟨w.heap.size, 2, none⟩ = some (.int .i64 0) from (blk_cell RES3.out 2).trans rfl); have p3 := (show w3.cell? ⟨w.heap.size, 3, none⟩ = some (.int .i64 0) from (blk_cell RES3.out 3).trans rfl); have p4 := (show w3.cell? ⟨w.heap.size, 4, none⟩ = some (.int .i64 0) from (blk_cell RES3.out 4).trans rfl); have p5 := (show w3.cell? ⟨w.heap.size, 5, none⟩ = some (.slice none 0 0) from (blk_cell RES3.out 5).trans rfl); have p6 := (show w3.cell? ⟨w.heap.size, 6, none⟩ = some (.slice none 0 0) from (blk_cell RES3.out 6).trans rfl); have f0 := blk_frozen RES3.out 0; have f1 := blk_frozen RES3.out 1; have f2 := blk_frozen RES3.out 2; have f3 := blk_frozen RES3.out 3; have f4 := blk_frozen RES3.out 4; have f5 := blk_frozen RES3.out 5; have f6 := blk_frozen RES3.out 6; have g0 := blk_frozen CUR3.out 0; have g1 := blk_frozen CUR3.out 1; have g2 := blk_frozen CUR3.out 2; have g3 := blk_frozen CUR3.out 3; have g4 := blk_frozen CUR3.out 4; have g5 := blk_frozen CUR3.out 5; have g6 := blk_frozen CUR3.out 6; have y0 := (show w3.cell? ⟨gd, 0, none⟩ = some (.int .i64 0) from (blk_cell GD3.out 0).trans rfl); have y1 := (show w3.cell? ⟨gd, 1, none⟩ = some (.int .i64 0) from (blk_cell GD3.out 1).trans rfl); have y2 := (show w3.cell? ⟨gd, 2, none⟩ = some (.int .i64 0) from (blk_cell GD3.out 2).trans rfl); have y3 := (show w3.cell? ⟨gd, 3, none⟩ = some (.int .i64 0) from (blk_cell GD3.out 3).trans rfl); have y4 := (show w3.cell? ⟨gd, 4, none⟩ = some (.int .i64 0) from (blk_cell GD3.out 4).trans rfl); have y5 := (show w3.cell? ⟨gd, 5, none⟩ = some (.slice none 0 0) from (blk_cell GD3.out 5).trans rfl); have y6 := (show w3.cell? ⟨gd, 6, none⟩ = some (.slice none 0 0) from (blk_cell GD3.out 6).trans rfl); have z0 := blk_frozen GD3.out 0; have z1 := blk_frozen GD3.out 1; have z2 := blk_frozen GD3.out 2; have z3 := blk_frozen GD3.out 3; have z4 := blk_frozen GD3.out 4; have z5 := blk_frozen GD3.out 5; have z6 := blk_frozen GD3.out 6; clear hg hbox hb3))
          have RES4 := Aside0.mk (blk_kept RES3.out (confPut.near (W := w3) gd d0 d1 d2 d3 d4 (.slice An2 nm2.length cn2) (.slice Aw2 wk2.length cw2)) n3)
          have RR := Aside0.mk (confPut.at_ RES4.out 0 0 0 0 0 (.slice none 0 0) (.slice none 0 0))
          show bodyPost _ _ _ _ _ (confPut (confPut w3 gd d0 d1 d2 d3 d4 (.slice An2 nm2.length cn2) (.slice Aw2 wk2.length cw2)) w.heap.size 0 0 0 0 0 (.slice none 0 0) (.slice none 0 0))
          obtain ⟨W9, hW9⟩ : ∃ W9, W9 = (confPut (confPut w3 gd d0 d1 d2 d3 d4 (.slice An2 nm2.length cn2) (.slice Aw2 wk2.length cw2)) w.heap.size 0 0 0 0 0 (.slice none 0 0) (.slice none 0 0)) := ⟨_, rfl⟩
          rw [← hW9] at RR ⊢
          have s0 := (show W9.cell? ⟨w.heap.size, 0, none⟩ = some (.int .i64 0) from (blk_cell RR.out 0).trans rfl)
          have s1 := (show W9.cell? ⟨w.heap.size, 1, none⟩ = some (.int .i64 0) from (blk_cell RR.out 1).trans rfl)
          have s2 := (show W9.cell? ⟨w.heap.size, 2, none⟩ = some (.int .i64 0) from (blk_cell RR.out 2).trans rfl)
          have s3 := (show W9.cell? ⟨w.heap.size, 3, none⟩ = some (.int .i64 0) from (blk_cell RR.out 3).trans rfl)
          have s4 := (show W9.cell? ⟨w.heap.size, 4, none⟩ = some (.int .i64 0) from (blk_cell RR.out 4).trans rfl)
          have s5 := (show W9.cell? ⟨w.heap.size, 5, none⟩ = some (.slice none 0 0) from (blk_cell RR.out 5).trans rfl)
          have s6 := (show W9.cell? ⟨w.heap.size, 6, none⟩ = some (.slice none 0 0) from (blk_cell RR.out 6).trans rfl)
          refine bodyPost_ret (v := .tuple #[.agg (confCells 0 0 0 0 0 (.slice none 0 0) (.slice none 0 0)), .int .i64 (at_ + 1), .int .i64 3]) (by simp [results, Tryd.results22, go_sem, s0, s1, s2, s3, s4, s5, s6, confCells]) rfl ⟨⟨_, _, rfl, ?_⟩, ?_⟩
          · rw [hW9]; exact ConfAt.zero _ _
          · rw [hW9]; exact confPut.below (confPut.below (Below.trans (Below.trans (Below.trans HI.out.below (HB1.out.mono HI.out.below.size)) HB2.out) (HB3.out.mono (Nat.le_trans HI.out.below.size (Nat.le_trans HB1.out.size HB2.out.size)))) (Nat.le_of_lt (Nat.lt_of_lt_of_le (blk_lt RES2.out) (Nat.le_of_eq GDE.out.symm))) d0 d1 d2 d3 d4 (.slice An2 nm2.length cn2) (.slice Aw2 wk2.length cw2)) (Nat.le_refl _) _ _ _ _ _ _ _
        · simp only [if_true] at h
          go_wp2_with (first | (go_at_call 27; refine HC.out.mono ?_; rintro e w1 ⟨rfl, hb1⟩; have HB1 := Aside0.mk hb1; have RES1 := Aside0.mk (blk_below HI.out.res hb1); have CUR1 := Aside0.mk (blk_below HI.out.cur hb1); have q0 := (show w1.cell? ⟨w.heap.size + 1, 0, none⟩ = some (.int .i64 c0) from (blk_cell CUR1.out 0).trans rfl); have q1 := (show w1.cell? ⟨w.heap.size + 1, 1, none⟩ = some (.int .i64 c1) from (blk_cell CUR1.out 1).trans rfl); have q2 := (show w1.cell? ⟨w.heap.size + 1, 2, none⟩ = some (.int .i64 c2) from (blk_cell CUR1.out 2).trans rfl); have q3 := (show w1.cell? ⟨w.heap.size + 1, 3, none⟩ = some (.int .i64 c3) from (blk_cell CUR1.out 3).trans rfl); have q4 := (show w1.cell? ⟨w.heap.size + 1, 4, none⟩ = some (.int .i64 c4) from (blk_cell CUR1.out 4).trans rfl); have q5 := (show w1.cell? ⟨w.heap.size + 1, 5, none⟩ = some (.slice An nm.length cn) from (blk_cell CUR1.out 5).trans rfl); have q6 := (show w1.cell? ⟨w.heap.size + 1, 6, none⟩ = some (.slice Aw wk.length cw) from (blk_cell CUR1.out 6).trans rfl); have p0 := (show w1.cell? ⟨w.heap.size, 0, none⟩ = some (.int .i64 0) from (blk_cell RES1.out 0).trans rfl); have p1 := (show w1.cell? ⟨w.heap.size, 1, none⟩ = some (.int .i64 0) from (blk_cell RES1.out 1).trans rfl); have p2 := (show w1.cell? ⟨w.heap.size, 2, none⟩ = some (.int .i64 0) from (blk_cell RES1.out 2).trans rfl); have p3 := (show w1.cell? ⟨w.heap.size, 3, none⟩ = some (.int .i64 0) from (blk_cell RES1.out 3).trans rfl); have p4 := (show w1.cell? ⟨w.heap.size, 4, none⟩ = some (.int .i64 0) from (blk_cell RES1.out 4).trans rfl); have p5 := (show w1.cell? ⟨w.heap.size, 5, none⟩ = some (.slice none 0 0) from (blk_cell RES1.out 5).trans rfl); have p6 := (show w1.cell? ⟨w.heap.size, 6, none⟩ = some (.slice none 0 0) from (blk_cell RES1.out 6).trans rfl); have f0 := blk_frozen RES1.out 0; have f1 := blk_frozen RES1.out 1; have f2 := blk_frozen RES1.out 2; have f3 := blk_frozen RES1.out 3; have f4 := blk_frozen RES1.out 4; have f5 := blk_frozen RES1.out 5; have f6 := blk_frozen RES1.out 6; have g0 := blk_frozen CUR1.out 0; have g1 := blk_frozen CUR1.out 1; have g2 := blk_frozen CUR1.out 2; have g3 := blk_frozen CUR1.out 3; have g4 := blk_frozen CUR1.out 4; have g5 := blk_frozen CUR1.out 5; have g6 := blk_frozen CUR1.out 6; clear hb1) | (go_at_call 43; go_must ((with_reducible refine (HT.out _ HB1.out).mono ?_); rintro e w2 ⟨nmv2, wkv2, rfl, hc2, hs2, hk2, hb2⟩; obtain ⟨An2, cn2, hAn2⟩ := Kd.R_slice hc2.names; obtain ⟨Aw2, cw2, hAw2⟩ := Kd.R_slice hc2.workers; subst hAn2 hAw2; have HS2 := Aside0.mk hs2; have CF2 := Aside0.mk hc2; have HB2 := Aside0.mk hb2; have HK2 := Aside0.mk hk2; have RES2 := Aside0.mk (cells_kept RES1.out hk2 HNR.out); have CUR2 := Aside0.mk (cells_kept CUR1.out hk2 HNC.out); clear q0 p0 f0 g0 q1 p1 f1 g1 q2 p2 f2 g2 q3 p3 f3 g3 q4 p4 f4 g4 q5 p5 f5 g5 q6 p6 f6 g6; have q0 := (show w2.cell? ⟨w.heap.size + 1, 0, none⟩ = some (.int .i64 c0) from (blk_cell CUR2.out 0).trans rfl); have q1 := (show w2.cell? ⟨w.heap.size + 1, 1, none⟩ = some (.int .i64 c1) from (blk_cell CUR2.out 1).trans rfl); have q2 := (show w2.cell? ⟨w.heap.size + 1, 2, none⟩ = some (.int .i64 c2) from (blk_cell CUR2.out 2).trans rfl); have q3 := (show w2.cell? ⟨w.heap.size + 1, 3, none⟩ = some (.int .i64 c3) from (blk_cell CUR2.out 3).trans rfl); have q4 := (show w2.cell? ⟨w.heap.size + 1, 4, none⟩ = some (.int .i64 c4) from (blk_cell CUR2.out 4).trans rfl); have q5 := (show w2.cell? ⟨w.heap.size + 1, 5, none⟩ = some (.slice An nm.length cn) from (blk_cell CUR2.out 5).trans rfl); have q6 := (show w2.cell? ⟨w.heap.size + 1, 6, none⟩ = some (.slice Aw wk.length cw) from (blk_cell CUR2.out 6).trans rfl); have p0 := (show w2.cell? ⟨w.heap.size, 0, none⟩ = some (.int .i64 0) from (blk_cell RES2.out 0).trans rfl); have p1 := (show w2.cell? ⟨w.heap.size, 1, none⟩ = some (.int .i64 0) from (blk_cell RES2.out 1).trans rfl); have p2 := (show w2.cell? ⟨w.heap.size, 2, none⟩ = some (.int .i64 0) from (blk_cell RES2.out 2).trans rfl); have p3 := (show w2.cell? ⟨w.heap.size, 3, none⟩ = some (.int .i64 0) from (blk_cell RES2.out 3).trans rfl); have p4 := (show w2.cell? ⟨w.heap.size, 4, none⟩ = some (.int .i64 0) from (blk_cell RES2.out 4).trans rfl); have p5 := (show w2.cell? ⟨w.heap.size, 5, none⟩ = some (.slice none 0 0) from (blk_cell RES2.out 5).trans rfl); have p6 := (show w2.cell? ⟨w.heap.size, 6, none⟩ = some (.slice none 0 0) from (blk_cell RES2.out 6).trans rfl); have f0 := blk_frozen RES2.out 0; have f1 := blk_frozen RES2.out 1; have f2 := blk_frozen RES2.out 2; have f3 := blk_frozen RES2.out 3; have f4 := blk_frozen RES2.out 4; have f5 := blk_frozen RES2.out 5; have f6 := blk_frozen RES2.out 6; have g0 := blk_frozen CUR2.out 0; have g1 := blk_frozen CUR2.out 1; have g2 := blk_frozen CUR2.out 2; have g3 := blk_frozen CUR2.out 3; have g4 := blk_frozen CUR2.out 4; have g5 := blk_frozen CUR2.out 5; have g6 := blk_frozen CUR2.out 6; clear hc2 hs2 hk2 hb2)) | ((with_reducible refine gate_dst (N := 10) rfl ?_); refine box_event ?hg (N := 10) ?hd (cs := #[.int .i64 0, .int .i64 0, .int .i64 0, .int .i64 0, .int .i64 0, .slice none 0 0, .slice none 0 0]) (t := 49) ?hr ?_; (case hd => rfl); (case hg => rfl); (case hr => first | (go_simp; done) | (go_simp; rfl)); intro gd hg w3 hbox hb3; clear q0 p0 f0 g0 q1 p1 f1 g1 q2 p2 f2 g2 q3 p3 f3 g3 q4 p4 f4 g4 q5 p5 f5 g5 q6 p6 f6 g6; have GD3 := Aside0.mk hbox; have GDE := Aside0.mk hg; have HB3 := Aside0.mk hb3; have RES3 := Aside0.mk (blk_below RES2.out hb3); have CUR3 := Aside0.mk (blk_below CUR2.out hb3); have n1 : ¬ gd = w.heap.size := fun e => Nat.ne_of_lt (blk_lt RES2.out) (e.symm.trans hg); have n2 : ¬ gd = w.heap.size + 1 := fun e => Nat.ne_of_lt (blk_lt CUR2.out) (e.symm.trans hg); have n3 : ¬ w.heap.size = gd := fun e => n1 e.symm; have n4 : ¬ w.heap.size + 1 = gd := fun e => n2 e.symm; have q0 := (show w3.cell? ⟨w.heap.size + 1, 0, none⟩ = some (.int .i64 c0) from (blk_cell CUR3.out 0).trans rfl); have q1 := (show w3.cell? ⟨w.heap.size + 1, 1, none⟩ = some (.int .i64 c1) from (blk_cell CUR3.out 1).trans rfl); have q2 := (show w3.cell? ⟨w.heap.size + 1, 2, none⟩ = some (.int .i64 c2) from (blk_cell CUR3.out 2).trans rfl); have q3 := (show w3.cell? ⟨w.heap.size + 1, 3, none⟩ = some (.int .i64 c3) from (blk_cell CUR3.out 3).trans rfl); have q4 := (show w3.cell? ⟨w.heap.size + 1, 4, none⟩ = some (.int .i64 c4) from (blk_cell CUR3.out 4).trans rfl); have q5 := (show w3.cell? ⟨w.heap.size + 1, 5, none⟩ = some (.slice An nm.length cn) from (blk_cell CUR3.out 5).trans rfl); have q6 := (show w3.cell? ⟨w.heap.size + 1, 6, none⟩ = some (.slice Aw wk.length cw) from (blk_cell CUR3.out 6).trans rfl); have p0 := (show w3.cell? ⟨w.heap.size, 0, none⟩ = some (.int .i64 0) from (blk_cell RES3.out 0).trans rfl); have p1 := (show w3.cell? ⟨w.heap.size, 1, none⟩ = some (.int .i64 0) from (blk_cell RES3.out 1).trans rfl); have p2 := (show w3.cell? ⟨w.heap.size, 2, none⟩ = some (.int .i64 0) from (blk_cell RES3.out 2).trans rfl); have p3 := (show w3.cell? ⟨w.heap.size, 3, none⟩ = some (.int .i64 0) from (blk_cell RES3.out 3).trans rfl); have p4 := (show w3.cell? ⟨w.heap.size, 4, none⟩ = some (.int .i64 0) from (blk_cell RES3.out 4).trans rfl); have p5 := (show w3.cell? ⟨w.heap.size, 5, none⟩ = some (.slice none 0 0) from (blk_cell RES3.out 5).trans rfl); have p6 := (show w3.cell? ⟨w.heap.size, 6, none⟩ = some (.slice none 0 0) from (blk_cell RES3.out 6).trans rfl); have f0 := blk_frozen RES3.out 0; have f1 := blk_frozen RES3.out 1; have f2 := blk_frozen RES3.out 2; have f3 := blk_frozen RES3.out 3; have f4 := blk_frozen RES3.out 4; have f5 := blk_frozen RES3.out 5; have f6 := blk_frozen RES3.out 6; have g0 := blk_frozen CUR3.out 0; have g1 := blk_frozen CUR3.out 1; have g2 := blk_frozen CUR3.out 2; have g3 := blk_frozen CUR3.out 3; have g4 := blk_frozen CUR3.out 4; have g5 := blk_frozen CUR3.out 5; have g6 := blk_frozen CUR3.out 6; have y0 := (show w3.cell? ⟨gd, 0, none⟩ = some (.int .i64 0) from (blk_cell GD3.out 0).trans rfl); have y1 := (show w3.cell? ⟨gd, 1, none⟩ = some (.int .i64 0) from (blk_cell GD3.out 1).trans rfl); have y2 := (show w3.cell? ⟨gd, 2, none⟩ = some (.int .i64 0) from (blk_cell GD3.out 2).trans rfl); have y3 := (show w3.cell? ⟨gd, 3, none⟩ = some (.int .i64 0) from (blk_cell GD3.out 3).trans rfl); have y4 := (show w3.cell? ⟨gd, 4, none⟩ = some (.int .i64 0) from (blk_cell GD3.out 4).trans rfl); have y5 := (show w3.cell? ⟨gd, 5, none⟩ = some (.slice none 0 0) from (blk_cell GD3.out 5).trans rfl); have y6 := (show w3.cell? ⟨gd, 6, none⟩ = some (.slice none 0 0) from (blk_cell GD3.out 6).trans rfl); have z0 := blk_frozen GD3.out 0; have z1 := blk_frozen GD3.out 1; have z2 := blk_frozen GD3.out 2; have z3 := blk_frozen GD3.out 3; have z4 := blk_frozen GD3.out 4; have z5 := blk_frozen GD3.out 5; have z6 := blk_frozen GD3.out 6; clear hg hbox hb3))
          go_roundg k1
          case measure => exact Nat.lt_succ_self _
          case rel =>
            have RES4 := Aside0.mk (blk_kept RES3.out (confPut.near (W := w3) gd d0 d1 d2 d3 d4 (.slice An2 nm2.length cn2) (.slice Aw2 wk2.length cw2)) n3)
            have CUR4 := Aside0.mk (blk_kept CUR3.out (confPut.near (W := w3) gd d0 d1 d2 d3 d4 (.slice An2 nm2.length cn2) (.slice Aw2 wk2.length cw2)) n4)
            refine ⟨rest, at_ + 1, ⟨d0, d1, d2, d3, d4, nm2, wk2⟩, .slice An2 nm2.length cn2, .slice Aw2 wk2.length cw2, rfl, rfl, ⟨?_⟩⟩
            show ReadInv k r a0.size w k1 rest (at_ + 1) ⟨d0, d1, d2, d3, d4, nm2, wk2⟩ (.slice An2 nm2.length cn2) (.slice Aw2 wk2.length cw2) (confPut (confPut w3 gd d0 d1 d2 d3 d4 (.slice An2 nm2.length cn2) (.slice Aw2 wk2.length cw2)) (w.heap.size + 1) d0 d1 d2 d3 d4 (.slice An2 nm2.length cn2) (.slice Aw2 wk2.length cw2))
            exact ⟨h, ((CF2.out.below HB3.out).far GD3.out (confPut.near (W := w3) gd d0 d1 d2 d3 d4 (.slice An2 nm2.length cn2) (.slice Aw2 wk2.length cw2))).far CUR4.out (confPut.near _ _ _ _ _ _ _ _),
              fun e => ⟨(HTW.out.2 (zero_of e)).trans (HI.out.start (Nat.le_of_succ_le e)).1, (HS2.out (zero_of e)).trans (HI.out.start (Nat.le_of_succ_le e)).2⟩,
              blk_kept RES4.out (confPut.near _ _ _ _ _ _ _ _) (Nat.ne_of_lt (Nat.lt_succ_self _)), confPut.at_ CUR4.out _ _ _ _ _ _ _, confPut.below (confPut.below (Below.trans (Below.trans (Below.trans HI.out.below (HB1.out.mono HI.out.below.size)) HB2.out) (HB3.out.mono (Nat.le_trans HI.out.below.size (Nat.le_trans HB1.out.size HB2.out.size)))) (Nat.le_of_lt (Nat.lt_of_lt_of_le (blk_lt RES2.out) (Nat.le_of_eq GDE.out.symm))) d0 d1 d2 d3 d4 (.slice An2 nm2.length cn2) (.slice Aw2 wk2.length cw2)) (Nat.le_succ _) _ _ _ _ _ _ _,
              next_size hcr.out HI.out.size, next_wks HTW.out.1 HI.out.wks⟩
theorem conf_Read.calls (a0 : ByteArray) (r1 : Int) (r2 : Int) (r3 : Int) (r4 : Int) (r5 : Int) (r6 : List ByteArray) (r7 : List Wk) (r8 : Int) (r9 : Int) (w : World) (hL_ : Laid w) (h : conf_Read.f a0 = some (r1, r2, r3, r4, r5, r6, r7, r8, r9)) :
    Calls Tryd.prog 22 #[.string a0] w fun e w' => ∃ v5_ v6_ : Value, e = .returned (.tuple #[.agg #[.int .i64 r1, .int .i64 r2, .int .i64 r3, .int .i64 r4, .int .i64 r5, v5_, v6_], .int .i64 r8, .int .i64 r9]) ∧ Kd.R Kd.string 9 w' w.heap.size (fun _ => True) v5_ r6 ∧ Kd.R k79 79 w' w.heap.size (fun _ => True) v6_ r7 ∧ Below w.heap.size w w' := by
  unfold conf_Read.f at h
  obtain ⟨r, hr, h⟩ := Option.map_eq_some_iff.mp h
  have hs : a0.size < 4294967281 := by
    have z := hr
    simp only [conf_Read.l] at z
    obtain ⟨⟨a, b, c⟩, hc, _⟩ := Option.bind_eq_some_iff.mp z
    exact (cut_facts _ _ _ _ hc).1
  obtain ⟨⟨d0, d1, d2, d3, d4, nm, wk⟩, b, c⟩ := r
  simp only [Prod.mk.injEq] at h
  obtain ⟨rfl, rfl, rfl, rfl, rfl, rfl, rfl, rfl, rfl⟩ := h
  refine (conf_Read.walk _ _ a0 _ w hL_ hs hr).mono ?_
  rintro e w' ⟨⟨u, v, he, hca⟩, hb⟩
  exact ⟨u, v, he, hca.names, hca.workers, hb⟩
end Go.Proofs.YtmppkcdphgelcaaDoor.PConf
namespace Go.Proofs.YtmppkcdphgelcaaDoor.PConf
open Go.RowKit Go.Proofs.YtmppkcdphgelcaaDoorW.PrintWords Go.Proofs.YtmppkcdphgelcaaDoorW.PrintLast Go.Proofs.YtmppkcdphgelcaaDoorW.PrintMore
attribute [local go_sem] max2_int min2_int max_two min_two max_three min_three max_four min_four   -- for this text's walks alone
set_option linter.unusedVariables false
set_option linter.unusedSimpArgs false
attribute [local go_sem high] eqA79
def siskinlaw14_works.f (k : Nat)  : Option (Bool) := (conf_Read.f (⟨#[99, 108, 117, 115, 116, 101, 114, 32, 50, 32, 57, 32, 51, 32, 53, 48, 48, 32, 52, 10, 110, 97, 109, 101, 115, 32, 103, 112, 117, 10, 119, 111, 114, 107, 101, 114, 32, 49, 32, 50, 10, 119, 111, 114, 107, 101, 114, 32, 51, 32, 49, 32, 103, 112, 117, 10]⟩ : ByteArray)).bind fun bt159 => (if bt159.2.2.2.2.2.2.2.2 = 0 then (if (bt159.2.2.2.2.2.2.1.length : Int) = 2 then (if 1 < (bt159.2.2.2.2.2.2.1.length : Int) then (if (((rd_T79 bt159.2.2.2.2.2.2.1 1).f0) == 3 && (((rd_T79 bt159.2.2.2.2.2.2.1 1).f1) == 1 && (((rd_T79 bt159.2.2.2.2.2.2.1 1).f2) == 1))) = true then ((conf_Text.f k bt159.1 bt159.2.1 bt159.2.2.1 bt159.2.2.2.1 bt159.2.2.2.2.1 bt159.2.2.2.2.2.1 bt159.2.2.2.2.2.2.1).bind fun t174 => (some (t174.toList == ([99, 108, 117, 115, 116, 101, 114, 32, 50, 32, 57, 32, 51, 32, 53, 48, 48, 32, 52, 10, 110, 97, 109, 101, 115, 32, 103, 112, 117, 10, 119, 111, 114, 107, 101, 114, 32, 49, 32, 50, 10, 119, 111, 114, 107, 101, 114, 32, 51, 32, 49, 32, 103, 112, 117, 10] : List UInt8)))) else (some false)) else (none)) else (some false)) else (some false))
theorem siskinlaw14_works.mono : ∀ k, LeO (siskinlaw14_works.f k ) (siskinlaw14_works.f (k + 1) ) := by
  intro  k
  unfold siskinlaw14_works.f
  repeat' first
      | (with_reducible exact conf_Text.mono _ _ _ _ _ _ _ _)
      | (with_reducible exact LeO.refl _)
      | (with_reducible exact LeO.none _)
      | (with_reducible refine LeO.ite ?_ ?_)
      | (with_reducible refine LeO.bind ?_ (fun _ => ?_))
      | exact conf_Text.mono _ _ _ _ _ _ _ _
      | exact LeO.none _
      | refine LeO.ite ?_ ?_
      | refine LeO.bind ?_ (fun _ => ?_)
set_option maxHeartbeats 8000000 in
set_option maxRecDepth 100000 in
theorem siskinlaw14_works.calls (k : Nat)  (r : Bool) (w : World) (hL_ : Laid w) (h : siskinlaw14_works.f k  = some r) :
    Calls Tryd.prog 14 #[] w fun e w' => e = .returned (.bool r) ∧ Below w.heap.size w w' := by
  have hu49 := Tryd.underlying49
  have hu79 := Tryd.underlying79
  have HLD := Aside0.mk hL_
  clear hL_
  have HB := Aside0.mk (Below.refl w.heap.size w)
  have H : ((conf_Read.f (⟨#[99, 108, 117, 115, 116, 101, 114, 32, 50, 32, 57, 32, 51, 32, 53, 48, 48, 32, 52, 10, 110, 97, 109, 101, 115, 32, 103, 112, 117, 10, 119, 111, 114, 107, 101, 114, 32, 49, 32, 50, 10, 119, 111, 114, 107, 101, 114, 32, 51, 32, 49, 32, 103, 112, 117, 10]⟩ : ByteArray)).bind fun bt159 => (if bt159.2.2.2.2.2.2.2.2 = 0 then (if (bt159.2.2.2.2.2.2.1.length : Int) = 2 then (if 1 < (bt159.2.2.2.2.2.2.1.length : Int) then (if (((rd_T79 bt159.2.2.2.2.2.2.1 1).f0) == 3 && (((rd_T79 bt159.2.2.2.2.2.2.1 1).f1) == 1 && (((rd_T79 bt159.2.2.2.2.2.2.1 1).f2) == 1))) = true then ((conf_Text.f k bt159.1 bt159.2.1 bt159.2.2.1 bt159.2.2.2.1 bt159.2.2.2.2.1 bt159.2.2.2.2.2.1 bt159.2.2.2.2.2.2.1).bind fun t174 => (some (t174.toList == ([99, 108, 117, 115, 116, 101, 114, 32, 50, 32, 57, 32, 51, 32, 53, 48, 48, 32, 52, 10, 110, 97, 109, 101, 115, 32, 103, 112, 117, 10, 119, 111, 114, 107, 101, 114, 32, 49, 32, 50, 10, 119, 111, 114, 107, 101, 114, 32, 51, 32, 49, 32, 103, 112, 117, 10] : List UInt8)))) else (some false)) else (none)) else (some false)) else (some false))) = some r := h
  clear h
  replace H := Option.bind_eq_some_iff.mp H
  obtain ⟨⟨t159, t160, t161, t162, t163, t164, t167, t170, t171⟩, A10, H⟩ := H
  replace H : (if t171 = 0 then (if (t167.length : Int) = 2 then (if 1 < (t167.length : Int) then (if (((rd_T79 t167 1).f0) == 3 && (((rd_T79 t167 1).f1) == 1 && (((rd_T79 t167 1).f2) == 1))) = true then ((conf_Text.f k t159 t160 t161 t162 t163 t164 t167).bind fun t174 => (some (t174.toList == ([99, 108, 117, 115, 116, 101, 114, 32, 50, 32, 57, 32, 51, 32, 53, 48, 48, 32, 52, 10, 110, 97, 109, 101, 115, 32, 103, 112, 117, 10, 119, 111, 114, 107, 101, 114, 32, 49, 32, 50, 10, 119, 111, 114, 107, 101, 114, 32, 51, 32, 49, 32, 103, 112, 117, 10] : List UInt8)))) else (some false)) else (none)) else (some false)) else (some false)) = some r := H
  have A1 := Aside0.mk A10
  clear A10
  by_cases c2 : t171 = 0
  · rw [if_pos c2] at H
    have c2b0 : (t171 == 0) = true := beq_iff_eq.mpr c2
    have c2b1 : (t171 != 0) = false := bne_eq_false_iff_eq.mpr c2
    clear c2
    by_cases c3 : (t167.length : Int) = 2
    · rw [if_pos c3] at H
      have c3b0 : ((t167.length : Int) == 2) = true := beq_iff_eq.mpr c3
      have c3b1 : ((t167.length : Int) != 2) = false := bne_eq_false_iff_eq.mpr c3
      clear c3
      by_cases c4 : 1 < (t167.length : Int)
      · rw [if_pos c4] at H
        have c4b0 : decide (1 < (t167.length : Int)) = true := decide_eq_true c4
        have c4b1 : decide (1 < t167.length) = true := decide_eq_true (by omega)
        clear c4
        by_cases c5 : (((rd_T79 t167 1).f0) == 3 && (((rd_T79 t167 1).f1) == 1 && (((rd_T79 t167 1).f2) == 1))) = true
        · rw [if_pos c5] at H
          have c5b0 : (((rd_T79 t167 1).f0) == 3 && (((rd_T79 t167 1).f1) == 1 && (((rd_T79 t167 1).f2) == 1))) = true := c5
          (try (have c5b1 : decide (((rd_T79 t167 1).f0) = 3 && (((rd_T79 t167 1).f1) == 1 && (((rd_T79 t167 1).f2) == 1))) = true := by simpa using c5))
          (try (have c5b2 : (((rd_T79 t167 1).f0) == 3 && (((rd_T79 t167 1).f1) == 1 && (((rd_T79 t167 1).f2) == 1))) = true := by simpa using c5))
          clear c5
          replace H := Option.bind_eq_some_iff.mp H
          obtain ⟨t174, A60, H⟩ := H
          replace H : (some (t174.toList == ([99, 108, 117, 115, 116, 101, 114, 32, 50, 32, 57, 32, 51, 32, 53, 48, 48, 32, 52, 10, 110, 97, 109, 101, 115, 32, 103, 112, 117, 10, 119, 111, 114, 107, 101, 114, 32, 49, 32, 50, 10, 119, 111, 114, 107, 101, 114, 32, 51, 32, 49, 32, 103, 112, 117, 10] : List UInt8))) = some r := H
          have A6 := Aside0.mk A60
          clear A60
          obtain rfl := Option.some.inj H
          go_enter Tryd.func14, Tryd.ntmps14
          go_wp2_with (first | ((with_reducible refine gate_callee (f := 22) rfl ?_); refine goesL_ (some 7) rfl rfl Tryd.func22 (by kernel_rfl) rfl #[.string (⟨#[99, 108, 117, 115, 116, 101, 114, 32, 50, 32, 57, 32, 51, 32, 53, 48, 48, 32, 52, 10, 110, 97, 109, 101, 115, 32, 103, 112, 117, 10, 119, 111, 114, 107, 101, 114, 32, 49, 32, 50, 10, 119, 111, 114, 107, 101, 114, 32, 51, 32, 49, 32, 103, 112, 117, 10]⟩ : ByteArray)] rfl (by (try simp only [List.map_toArray, List.map_cons, List.map_nil]); first | done | rfl | (simp only [List.length_drop, List.length_take]; rfl)) ?_; (with_reducible refine (conf_Read.calls (⟨#[99, 108, 117, 115, 116, 101, 114, 32, 50, 32, 57, 32, 51, 32, 53, 48, 48, 32, 52, 10, 110, 97, 109, 101, 115, 32, 103, 112, 117, 10, 119, 111, 114, 107, 101, 114, 32, 49, 32, 50, 10, 119, 111, 114, 107, 101, 114, 32, 51, 32, 49, 32, 103, 112, 117, 10]⟩ : ByteArray) t159 t160 t161 t162 t163 t164 t167 t170 t171 _ ?side1 A1.out).mono ?_); (case side1 => exact Laid.below HLD.out (by repeat (first | (with_reducible first | exact HB.out | apply below_alloc | apply pw_below_drewN | apply below_drew1) | exact HB.out))); rintro e w7 ⟨v165, v168, rfl, ho0, ho1, hb⟩; refine ⟨_, rfl, ?_⟩; have n0_ := Aside0.mk (Kd.R_lower ho0 (below_size (by repeat (first | (with_reducible first | exact HB.out | apply below_alloc | apply pw_below_drewN | apply below_drew1) | exact HB.out)))); have n1_ := Aside0.mk (Kd.R_lower ho1 (below_size (by repeat (first | (with_reducible first | exact HB.out | apply below_alloc | apply pw_below_drewN | apply below_drew1) | exact HB.out)))); have n2_ := Aside0.mk (below_step (by repeat (first | (with_reducible first | exact HB.out | apply below_alloc | apply pw_below_drewN | apply below_drew1) | exact HB.out)) hb); clear HB; have HO166 := n0_; have HO169 := n1_; have HB := n2_; clear n0_ n1_ n2_; (try clear hb); (try clear hb2); (try clear hk); (try clear hi); (try clear ho0); (try clear ho1)) | ((with_reducible refine gate_dst (N := 2) rfl ?_); (try (refine gate_guard (by rfl) ?_; dsimp only)); refine box_event ?hg (N := 2) ?hd (cs := #[.int .i64 0, .int .i64 0, .int .i64 0, .int .i64 0, .int .i64 0, .slice none 0 0, .slice none 0 0]) (t := 49) ?hr ?_; (case hd => rfl); (case hg => rfl); (case hr => first | (go_simp; done) | (go_simp; rfl)); intro gb172 hg w8 hbox hb; have n0_ := Aside0.mk (Kd.R_below (by (with_reducible repeat (first | apply Kd.R_alloc | apply Kd.R_drewN | apply Kd.R_drew)); exact HO166.out) hb); have n1_ := Aside0.mk (Kd.R_below (by (with_reducible repeat (first | apply Kd.R_alloc | apply Kd.R_drewN | apply Kd.R_drew)); exact HO169.out) hb); have n2_ := Aside0.mk (below_step (by repeat (first | (with_reducible first | exact HB.out | apply below_alloc | apply pw_below_drewN | apply below_drew1) | exact HB.out)) hb); have n3_ := Aside0.mk (hbox); have n4_ := Aside0.mk ((by rw [hg]; exact (below_size (by repeat (first | (with_reducible first | exact HB.out | apply below_alloc | apply pw_below_drewN | apply below_drew1) | exact HB.out))) : w.heap.size ≤ gb172)); have n5_ := Aside0.mk ((by rw [hg]; exact (below_size (by repeat (first | (with_reducible first | exact HB.out | apply below_alloc | apply pw_below_drewN | apply below_drew1) | exact HB.out))) : w.heap.size ≤ gb172)); clear HO166; clear HO169; clear HB; have HO166 := n0_; have HO169 := n1_; have HB := n2_; have BK172 := n3_; have GW172 := n4_; have GE172 := n5_; clear n0_ n1_ n2_ n3_ n4_ n5_; clear hb hbox hg; have hcz9_0 : w8.cell? ⟨gb172, 0, none⟩ = some (.int .i64 0) := (blk_cell BK172.out 0).trans rfl; have hcz9_1 : w8.cell? ⟨gb172, 1, none⟩ = some (.int .i64 0) := (blk_cell BK172.out 1).trans rfl; have hcz9_2 : w8.cell? ⟨gb172, 2, none⟩ = some (.int .i64 0) := (blk_cell BK172.out 2).trans rfl; have hcz9_3 : w8.cell? ⟨gb172, 3, none⟩ = some (.int .i64 0) := (blk_cell BK172.out 3).trans rfl; have hcz9_4 : w8.cell? ⟨gb172, 4, none⟩ = some (.int .i64 0) := (blk_cell BK172.out 4).trans rfl; have hcz9_5 : w8.cell? ⟨gb172, 5, none⟩ = some (.slice none 0 0) := (blk_cell BK172.out 5).trans rfl; have hcz9_6 : w8.cell? ⟨gb172, 6, none⟩ = some (.slice none 0 0) := (blk_cell BK172.out 6).trans rfl; have hfz9_0 := blk_frozen BK172.out 0; have hfz9_1 := blk_frozen BK172.out 1; have hfz9_2 := blk_frozen BK172.out 2; have hfz9_3 := blk_frozen BK172.out 3; have hfz9_4 := blk_frozen BK172.out 4; have hfz9_5 := blk_frozen BK172.out 5; have hfz9_6 := blk_frozen BK172.out 6; obtain ⟨Ao10, co10, eo10⟩ := Kd.R_slice HO166.out; subst eo10; obtain ⟨Ao11, co11, eo11⟩ := Kd.R_slice HO169.out; subst eo11; have p173 : 0 ≤ (1 : Int) := (by omega); have q173 : 1 < (t167.length : Int) := of_decide_eq_true (by first | (with_reducible assumption) | assumption); obtain ⟨ad173, e173, hx173_0, hx173_1, hx173_2⟩ := at_T79 (Kd.R_reads' HO169.out).2.2 1 p173 q173; cases e173; (try simp only [show (1 : Int).toNat = 1 from rfl, Nat.reduceMul, Nat.reduceEqDiff, Go.Addr.add, ↓reduceIte] at hx173_0); (try simp only [show (1 : Int).toNat = 1 from rfl, Nat.reduceMul, Nat.reduceEqDiff, Go.Addr.add, ↓reduceIte] at hx173_1); (try simp only [show (1 : Int).toNat = 1 from rfl, Nat.reduceMul, Nat.reduceEqDiff, Go.Addr.add, ↓reduceIte] at hx173_2); have qi173 : (1 < t167.length) = True := eq_true (by omega); (try rw [show ((1 : Int)).toNat = 1 from rfl] at hx173_0); (try rw [show 1 * 3 = 3 from rfl] at hx173_0); (try rw [show ((1 : Int)).toNat = 1 from rfl] at hx173_1); (try rw [show 1 * 3 = 3 from rfl] at hx173_1); (try rw [show ((1 : Int)).toNat = 1 from rfl] at hx173_2); (try rw [show 1 * 3 = 3 from rfl] at hx173_2); have hn173_0 : ad173.block ≠ gb172 := Kd.own_blk (Kd.R_ne HO169.out BK172.out (by decide)); have hn173_1 : ad173.block ≠ gb172 := Kd.own_blk (Kd.R_ne HO169.out BK172.out (by decide)); have hn173_2 : ad173.block ≠ gb172 := Kd.own_blk (Kd.R_ne HO169.out BK172.out (by decide)); have hn173_3 : ad173.block ≠ gb172 := Kd.own_blk (Kd.R_ne HO169.out BK172.out (by decide)); have hn173_4 : ad173.block ≠ gb172 := Kd.own_blk (Kd.R_ne HO169.out BK172.out (by decide)); have hn173_5 : ad173.block ≠ gb172 := Kd.own_blk (Kd.R_ne HO169.out BK172.out (by decide)); have hn173_6 : ad173.block ≠ gb172 := Kd.own_blk (Kd.R_ne HO169.out BK172.out (by decide)); replace hx173_0 := (cell_far (p := ⟨gb172, 0, none⟩) (by first | (rw [add_block]; exact hn173_0) | (show (Addr.add _ _).block ≠ _; rw [add_block]; exact hn173_0) | exact hn173_0) (.int .i64 t159)).trans hx173_0; replace hx173_1 := (cell_far (p := ⟨gb172, 0, none⟩) (by first | (rw [add_block]; exact hn173_0) | (show (Addr.add _ _).block ≠ _; rw [add_block]; exact hn173_0) | exact hn173_0) (.int .i64 t159)).trans hx173_1; replace hx173_2 := (cell_far (p := ⟨gb172, 0, none⟩) (by first | (rw [add_block]; exact hn173_0) | (show (Addr.add _ _).block ≠ _; rw [add_block]; exact hn173_0) | exact hn173_0) (.int .i64 t159)).trans hx173_2; replace hx173_0 := (cell_far (p := ⟨gb172, 1, none⟩) (by first | (rw [add_block]; exact hn173_1) | (show (Addr.add _ _).block ≠ _; rw [add_block]; exact hn173_1) | exact hn173_1) (.int .i64 t160)).trans hx173_0; replace hx173_1 := (cell_far (p := ⟨gb172, 1, none⟩) (by first | (rw [add_block]; exact hn173_1) | (show (Addr.add _ _).block ≠ _; rw [add_block]; exact hn173_1) | exact hn173_1) (.int .i64 t160)).trans hx173_1; replace hx173_2 := (cell_far (p := ⟨gb172, 1, none⟩) (by first | (rw [add_block]; exact hn173_1) | (show (Addr.add _ _).block ≠ _; rw [add_block]; exact hn173_1) | exact hn173_1) (.int .i64 t160)).trans hx173_2; replace hx173_0 := (cell_far (p := ⟨gb172, 2, none⟩) (by first | (rw [add_block]; exact hn173_2) | (show (Addr.add _ _).block ≠ _; rw [add_block]; exact hn173_2) | exact hn173_2) (.int .i64 t161)).trans hx173_0; replace hx173_1 := (cell_far (p := ⟨gb172, 2, none⟩) (by first | (rw [add_block]; exact hn173_2) | (show (Addr.add _ _).block ≠ _; rw [add_block]; exact hn173_2) | exact hn173_2) (.int .i64 t161)).trans hx173_1; replace hx173_2 := (cell_far (p := ⟨gb172, 2, none⟩) (by first | (rw [add_block]; exact hn173_2) | (show (Addr.add _ _).block ≠ _; rw [add_block]; exact hn173_2) | exact hn173_2) (.int .i64 t161)).trans hx173_2; replace hx173_0 := (cell_far (p := ⟨gb172, 3, none⟩) (by first | (rw [add_block]; exact hn173_3) | (show (Addr.add _ _).block ≠ _; rw [add_block]; exact hn173_3) | exact hn173_3) (.int .i64 t162)).trans hx173_0; replace hx173_1 := (cell_far (p := ⟨gb172, 3, none⟩) (by first | (rw [add_block]; exact hn173_3) | (show (Addr.add _ _).block ≠ _; rw [add_block]; exact hn173_3) | exact hn173_3) (.int .i64 t162)).trans hx173_1; replace hx173_2 := (cell_far (p := ⟨gb172, 3, none⟩) (by first | (rw [add_block]; exact hn173_3) | (show (Addr.add _ _).block ≠ _; rw [add_block]; exact hn173_3) | exact hn173_3) (.int .i64 t162)).trans hx173_2; replace hx173_0 := (cell_far (p := ⟨gb172, 4, none⟩) (by first | (rw [add_block]; exact hn173_4) | (show (Addr.add _ _).block ≠ _; rw [add_block]; exact hn173_4) | exact hn173_4) (.int .i64 t163)).trans hx173_0; replace hx173_1 := (cell_far (p := ⟨gb172, 4, none⟩) (by first | (rw [add_block]; exact hn173_4) | (show (Addr.add _ _).block ≠ _; rw [add_block]; exact hn173_4) | exact hn173_4) (.int .i64 t163)).trans hx173_1; replace hx173_2 := (cell_far (p := ⟨gb172, 4, none⟩) (by first | (rw [add_block]; exact hn173_4) | (show (Addr.add _ _).block ≠ _; rw [add_block]; exact hn173_4) | exact hn173_4) (.int .i64 t163)).trans hx173_2; replace hx173_0 := (cell_far (p := ⟨gb172, 5, none⟩) (by first | (rw [add_block]; exact hn173_5) | (show (Addr.add _ _).block ≠ _; rw [add_block]; exact hn173_5) | exact hn173_5) (.slice Ao10 t164.length co10)).trans hx173_0; replace hx173_1 := (cell_far (p := ⟨gb172, 5, none⟩) (by first | (rw [add_block]; exact hn173_5) | (show (Addr.add _ _).block ≠ _; rw [add_block]; exact hn173_5) | exact hn173_5) (.slice Ao10 t164.length co10)).trans hx173_1; replace hx173_2 := (cell_far (p := ⟨gb172, 5, none⟩) (by first | (rw [add_block]; exact hn173_5) | (show (Addr.add _ _).block ≠ _; rw [add_block]; exact hn173_5) | exact hn173_5) (.slice Ao10 t164.length co10)).trans hx173_2; replace hx173_0 := (cell_far (p := ⟨gb172, 6, none⟩) (by first | (rw [add_block]; exact hn173_6) | (show (Addr.add _ _).block ≠ _; rw [add_block]; exact hn173_6) | exact hn173_6) (.slice (some ad173) t167.length co11)).trans hx173_0; replace hx173_1 := (cell_far (p := ⟨gb172, 6, none⟩) (by first | (rw [add_block]; exact hn173_6) | (show (Addr.add _ _).block ≠ _; rw [add_block]; exact hn173_6) | exact hn173_6) (.slice (some ad173) t167.length co11)).trans hx173_1; replace hx173_2 := (cell_far (p := ⟨gb172, 6, none⟩) (by first | (rw [add_block]; exact hn173_6) | (show (Addr.add _ _).block ≠ _; rw [add_block]; exact hn173_6) | exact hn173_6) (.slice (some ad173) t167.length co11)).trans hx173_2; clear hn173_0; clear hn173_1; clear hn173_2; clear hn173_3; clear hn173_4; clear hn173_5; clear hn173_6; replace p173 := eq_true p173; replace q173 := eq_true q173) | (go_at_call 21; (with_reducible refine (conf_Text.calls k t159 t160 t161 t162 t163 _ _ t164 _ _ t167 t174 _ ?side1 ?side2 ?side3 ?side4 ?side5 A6.out).mono ?_); (case side1 => refine (Kd.R_reads' (e := 9) (base := w.heap.size) (ok := fun k_ => True) (n := t164.length) (c := co10) ?_).2.2; exact (by (with_reducible repeat (first | apply Kd.R_alloc | apply Kd.R_drewN | apply Kd.R_drew)); exact (Kd.R_mono (Kd.R_far (p := ⟨gb172, 6, none⟩) (Kd.R_far (p := ⟨gb172, 5, none⟩) (Kd.R_far (p := ⟨gb172, 4, none⟩) (Kd.R_far (p := ⟨gb172, 3, none⟩) (Kd.R_far (p := ⟨gb172, 2, none⟩) (Kd.R_far (p := ⟨gb172, 1, none⟩) (Kd.R_far (p := ⟨gb172, 0, none⟩) (Kd.R_types HO166.out BK172.out (by decide)) (fun _ hk => hk.2) (.int .i64 t159)) (fun _ hk => hk.2) (.int .i64 t160)) (fun _ hk => hk.2) (.int .i64 t161)) (fun _ hk => hk.2) (.int .i64 t162)) (fun _ hk => hk.2) (.int .i64 t163)) (fun _ hk => hk.2) (.slice Ao10 t164.length co10)) (fun _ hk => hk.2) (.slice (some ad173) t167.length co11)) (fun _ h_ => h_.1)))); (case side2 => exact (Kd.R_reads' HO166.out).2.1); (case side3 => refine (Kd.R_reads' (e := 79) (base := w.heap.size) (ok := fun k_ => True) (n := t167.length) (c := co11) ?_).2.2; exact (by (with_reducible repeat (first | apply Kd.R_alloc | apply Kd.R_drewN | apply Kd.R_drew)); exact (Kd.R_mono (Kd.R_far (p := ⟨gb172, 6, none⟩) (Kd.R_far (p := ⟨gb172, 5, none⟩) (Kd.R_far (p := ⟨gb172, 4, none⟩) (Kd.R_far (p := ⟨gb172, 3, none⟩) (Kd.R_far (p := ⟨gb172, 2, none⟩) (Kd.R_far (p := ⟨gb172, 1, none⟩) (Kd.R_far (p := ⟨gb172, 0, none⟩) (Kd.R_types HO169.out BK172.out (by decide)) (fun _ hk => hk.2) (.int .i64 t159)) (fun _ hk => hk.2) (.int .i64 t160)) (fun _ hk => hk.2) (.int .i64 t161)) (fun _ hk => hk.2) (.int .i64 t162)) (fun _ hk => hk.2) (.int .i64 t163)) (fun _ hk => hk.2) (.slice Ao10 t164.length co10)) (fun _ hk => hk.2) (.slice (some ad173) t167.length co11)) (fun _ h_ => h_.1)))); (case side4 => exact (Kd.R_reads' HO169.out).2.1); (case side5 => exact Laid.below HLD.out (by repeat (first | (with_reducible first | exact HB.out | apply below_alloc | apply pw_below_drewN | apply below_drew1 | refine below_set ?_ GE172.out) | exact HB.out))); rintro e w12 ⟨rfl, hb⟩; have n0_ := Aside0.mk (Kd.R_below (by (with_reducible repeat (first | apply Kd.R_alloc | apply Kd.R_drewN | apply Kd.R_drew)); exact (Kd.R_mono (Kd.R_far (p := ⟨gb172, 6, none⟩) (Kd.R_far (p := ⟨gb172, 5, none⟩) (Kd.R_far (p := ⟨gb172, 4, none⟩) (Kd.R_far (p := ⟨gb172, 3, none⟩) (Kd.R_far (p := ⟨gb172, 2, none⟩) (Kd.R_far (p := ⟨gb172, 1, none⟩) (Kd.R_far (p := ⟨gb172, 0, none⟩) (Kd.R_types HO166.out BK172.out (by decide)) (fun _ hk => hk.2) (.int .i64 t159)) (fun _ hk => hk.2) (.int .i64 t160)) (fun _ hk => hk.2) (.int .i64 t161)) (fun _ hk => hk.2) (.int .i64 t162)) (fun _ hk => hk.2) (.int .i64 t163)) (fun _ hk => hk.2) (.slice Ao10 t164.length co10)) (fun _ hk => hk.2) (.slice (some ad173) t167.length co11)) (fun _ h_ => h_.1))) hb); have n1_ := Aside0.mk (Kd.R_below (by (with_reducible repeat (first | apply Kd.R_alloc | apply Kd.R_drewN | apply Kd.R_drew)); exact (Kd.R_mono (Kd.R_far (p := ⟨gb172, 6, none⟩) (Kd.R_far (p := ⟨gb172, 5, none⟩) (Kd.R_far (p := ⟨gb172, 4, none⟩) (Kd.R_far (p := ⟨gb172, 3, none⟩) (Kd.R_far (p := ⟨gb172, 2, none⟩) (Kd.R_far (p := ⟨gb172, 1, none⟩) (Kd.R_far (p := ⟨gb172, 0, none⟩) (Kd.R_types HO169.out BK172.out (by decide)) (fun _ hk => hk.2) (.int .i64 t159)) (fun _ hk => hk.2) (.int .i64 t160)) (fun _ hk => hk.2) (.int .i64 t161)) (fun _ hk => hk.2) (.int .i64 t162)) (fun _ hk => hk.2) (.int .i64 t163)) (fun _ hk => hk.2) (.slice Ao10 t164.length co10)) (fun _ hk => hk.2) (.slice (some ad173) t167.length co11)) (fun _ h_ => h_.1))) hb); have n2_ := Aside0.mk (blk_below (g := gb172) (o := .cells #[.int .i64 t159, .int .i64 t160, .int .i64 t161, .int .i64 t162, .int .i64 t163, .slice Ao10 t164.length co10, .slice (some ad173) t167.length co11] 49 (0, 0)) (by (with_reducible repeat (first | refine blk_drewN ?_ _ | refine blk_drew ?_ | refine blk_alloc ?_ _)); refine blk_put (cs := #[.int .i64 t159, .int .i64 t160, .int .i64 t161, .int .i64 t162, .int .i64 t163, .slice Ao10 t164.length co10, .slice none 0 0]) ?_ 6 _ rfl; (with_reducible repeat (first | refine blk_drewN ?_ _ | refine blk_drew ?_ | refine blk_alloc ?_ _)); refine blk_put (cs := #[.int .i64 t159, .int .i64 t160, .int .i64 t161, .int .i64 t162, .int .i64 t163, .slice none 0 0, .slice none 0 0]) ?_ 5 _ rfl; (with_reducible repeat (first | refine blk_drewN ?_ _ | refine blk_drew ?_ | refine blk_alloc ?_ _)); refine blk_put (cs := #[.int .i64 t159, .int .i64 t160, .int .i64 t161, .int .i64 t162, .int .i64 0, .slice none 0 0, .slice none 0 0]) ?_ 4 _ rfl; (with_reducible repeat (first | refine blk_drewN ?_ _ | refine blk_drew ?_ | refine blk_alloc ?_ _)); refine blk_put (cs := #[.int .i64 t159, .int .i64 t160, .int .i64 t161, .int .i64 0, .int .i64 0, .slice none 0 0, .slice none 0 0]) ?_ 3 _ rfl; (with_reducible repeat (first | refine blk_drewN ?_ _ | refine blk_drew ?_ | refine blk_alloc ?_ _)); refine blk_put (cs := #[.int .i64 t159, .int .i64 t160, .int .i64 0, .int .i64 0, .int .i64 0, .slice none 0 0, .slice none 0 0]) ?_ 2 _ rfl; (with_reducible repeat (first | refine blk_drewN ?_ _ | refine blk_drew ?_ | refine blk_alloc ?_ _)); refine blk_put (cs := #[.int .i64 t159, .int .i64 0, .int .i64 0, .int .i64 0, .int .i64 0, .slice none 0 0, .slice none 0 0]) ?_ 1 _ rfl; (with_reducible repeat (first | refine blk_drewN ?_ _ | refine blk_drew ?_ | refine blk_alloc ?_ _)); refine blk_put (cs := #[.int .i64 0, .int .i64 0, .int .i64 0, .int .i64 0, .int .i64 0, .slice none 0 0, .slice none 0 0]) ?_ 0 _ rfl; (with_reducible repeat (first | refine blk_drewN ?_ _ | refine blk_drew ?_ | refine blk_alloc ?_ _)); exact BK172.out) hb); have n3_ := Aside0.mk (below_step (by repeat (first | (with_reducible first | exact HB.out | apply below_alloc | apply pw_below_drewN | apply below_drew1 | refine below_set ?_ GE172.out) | exact HB.out)) hb); clear HO166; clear HO169; clear BK172; clear HB; have HO166 := n0_; have HO169 := n1_; have BK172 := n2_; have HB := n3_; clear n0_ n1_ n2_ n3_; (try clear hb); (try clear hb2); (try clear hk); (try clear hi)))
          go_ret
          exact ⟨by first | rfl | (simp [errW_none, errW_some] <;> rfl) | (simp [*, errW_none, errW_some] <;> rfl), by repeat (first | (with_reducible first | exact HB.out | apply below_alloc | apply pw_below_drewN | apply below_drew1 | refine below_set ?_ GE172.out) | exact HB.out)⟩
        · rw [if_neg c5] at H
          have c5b0 : (((rd_T79 t167 1).f0) == 3 && (((rd_T79 t167 1).f1) == 1 && (((rd_T79 t167 1).f2) == 1))) = false := by simpa using c5
          (try (have c5b1 : decide (((rd_T79 t167 1).f0) = 3 && (((rd_T79 t167 1).f1) == 1 && (((rd_T79 t167 1).f2) == 1))) = false := by simpa using c5))
          (try (have c5b2 : (((rd_T79 t167 1).f0) == 3 && (((rd_T79 t167 1).f1) == 1 && (((rd_T79 t167 1).f2) == 1))) = false := by simpa using c5))
          (try (have c5b3 : ¬ (((rd_T79 t167 1).f0) = 3 && (((rd_T79 t167 1).f1) == 1 && (((rd_T79 t167 1).f2) == 1))) := by simpa using c5))
          clear c5
          obtain rfl := Option.some.inj H
          go_enter Tryd.func14, Tryd.ntmps14
          go_wp2_with (first | ((with_reducible refine gate_callee (f := 22) rfl ?_); refine goesL_ (some 7) rfl rfl Tryd.func22 (by kernel_rfl) rfl #[.string (⟨#[99, 108, 117, 115, 116, 101, 114, 32, 50, 32, 57, 32, 51, 32, 53, 48, 48, 32, 52, 10, 110, 97, 109, 101, 115, 32, 103, 112, 117, 10, 119, 111, 114, 107, 101, 114, 32, 49, 32, 50, 10, 119, 111, 114, 107, 101, 114, 32, 51, 32, 49, 32, 103, 112, 117, 10]⟩ : ByteArray)] rfl (by (try simp only [List.map_toArray, List.map_cons, List.map_nil]); first | done | rfl | (simp only [List.length_drop, List.length_take]; rfl)) ?_; (with_reducible refine (conf_Read.calls (⟨#[99, 108, 117, 115, 116, 101, 114, 32, 50, 32, 57, 32, 51, 32, 53, 48, 48, 32, 52, 10, 110, 97, 109, 101, 115, 32, 103, 112, 117, 10, 119, 111, 114, 107, 101, 114, 32, 49, 32, 50, 10, 119, 111, 114, 107, 101, 114, 32, 51, 32, 49, 32, 103, 112, 117, 10]⟩ : ByteArray) t159 t160 t161 t162 t163 t164 t167 t170 t171 _ ?side1 A1.out).mono ?_); (case side1 => exact Laid.below HLD.out (by repeat (first | (with_reducible first | exact HB.out | apply below_alloc | apply pw_below_drewN | apply below_drew1) | exact HB.out))); rintro e w13 ⟨v165, v168, rfl, ho0, ho1, hb⟩; refine ⟨_, rfl, ?_⟩; have n0_ := Aside0.mk (Kd.R_lower ho0 (below_size (by repeat (first | (with_reducible first | exact HB.out | apply below_alloc | apply pw_below_drewN | apply below_drew1) | exact HB.out)))); have n1_ := Aside0.mk (Kd.R_lower ho1 (below_size (by repeat (first | (with_reducible first | exact HB.out | apply below_alloc | apply pw_below_drewN | apply below_drew1) | exact HB.out)))); have n2_ := Aside0.mk (below_step (by repeat (first | (with_reducible first | exact HB.out | apply below_alloc | apply pw_below_drewN | apply below_drew1) | exact HB.out)) hb); clear HB; have HO166 := n0_; have HO169 := n1_; have HB := n2_; clear n0_ n1_ n2_; (try clear hb); (try clear hb2); (try clear hk); (try clear hi); (try clear ho0); (try clear ho1)) | ((with_reducible refine gate_dst (N := 2) rfl ?_); (try (refine gate_guard (by rfl) ?_; dsimp only)); refine box_event ?hg (N := 2) ?hd (cs := #[.int .i64 0, .int .i64 0, .int .i64 0, .int .i64 0, .int .i64 0, .slice none 0 0, .slice none 0 0]) (t := 49) ?hr ?_; (case hd => rfl); (case hg => rfl); (case hr => first | (go_simp; done) | (go_simp; rfl)); intro gb172 hg w14 hbox hb; have n0_ := Aside0.mk (Kd.R_below (by (with_reducible repeat (first | apply Kd.R_alloc | apply Kd.R_drewN | apply Kd.R_drew)); exact HO166.out) hb); have n1_ := Aside0.mk (Kd.R_below (by (with_reducible repeat (first | apply Kd.R_alloc | apply Kd.R_drewN | apply Kd.R_drew)); exact HO169.out) hb); have n2_ := Aside0.mk (below_step (by repeat (first | (with_reducible first | exact HB.out | apply below_alloc | apply pw_below_drewN | apply below_drew1) | exact HB.out)) hb); have n3_ := Aside0.mk (hbox); have n4_ := Aside0.mk ((by rw [hg]; exact (below_size (by repeat (first | (with_reducible first | exact HB.out | apply below_alloc | apply pw_below_drewN | apply below_drew1) | exact HB.out))) : w.heap.size ≤ gb172)); have n5_ := Aside0.mk ((by rw [hg]; exact (below_size (by repeat (first | (with_reducible first | exact HB.out | apply below_alloc | apply pw_below_drewN | apply below_drew1) | exact HB.out))) : w.heap.size ≤ gb172)); clear HO166; clear HO169; clear HB; have HO166 := n0_; have HO169 := n1_; have HB := n2_; have BK172 := n3_; have GW172 := n4_; have GE172 := n5_; clear n0_ n1_ n2_ n3_ n4_ n5_; clear hb hbox hg; have hcz15_0 : w14.cell? ⟨gb172, 0, none⟩ = some (.int .i64 0) := (blk_cell BK172.out 0).trans rfl; have hcz15_1 : w14.cell? ⟨gb172, 1, none⟩ = some (.int .i64 0) := (blk_cell BK172.out 1).trans rfl; have hcz15_2 : w14.cell? ⟨gb172, 2, none⟩ = some (.int .i64 0) := (blk_cell BK172.out 2).trans rfl; have hcz15_3 : w14.cell? ⟨gb172, 3, none⟩ = some (.int .i64 0) := (blk_cell BK172.out 3).trans rfl; have hcz15_4 : w14.cell? ⟨gb172, 4, none⟩ = some (.int .i64 0) := (blk_cell BK172.out 4).trans rfl; have hcz15_5 : w14.cell? ⟨gb172, 5, none⟩ = some (.slice none 0 0) := (blk_cell BK172.out 5).trans rfl; have hcz15_6 : w14.cell? ⟨gb172, 6, none⟩ = some (.slice none 0 0) := (blk_cell BK172.out 6).trans rfl; have hfz15_0 := blk_frozen BK172.out 0; have hfz15_1 := blk_frozen BK172.out 1; have hfz15_2 := blk_frozen BK172.out 2; have hfz15_3 := blk_frozen BK172.out 3; have hfz15_4 := blk_frozen BK172.out 4; have hfz15_5 := blk_frozen BK172.out 5; have hfz15_6 := blk_frozen BK172.out 6; obtain ⟨Ao16, co16, eo16⟩ := Kd.R_slice HO166.out; subst eo16; obtain ⟨Ao17, co17, eo17⟩ := Kd.R_slice HO169.out; subst eo17; have p173 : 0 ≤ (1 : Int) := (by omega); have q173 : 1 < (t167.length : Int) := of_decide_eq_true (by first | (with_reducible assumption) | assumption); obtain ⟨ad173, e173, hx173_0, hx173_1, hx173_2⟩ := at_T79 (Kd.R_reads' HO169.out).2.2 1 p173 q173; cases e173; (try simp only [show (1 : Int).toNat = 1 from rfl, Nat.reduceMul, Nat.reduceEqDiff, Go.Addr.add, ↓reduceIte] at hx173_0); (try simp only [show (1 : Int).toNat = 1 from rfl, Nat.reduceMul, Nat.reduceEqDiff, Go.Addr.add, ↓reduceIte] at hx173_1); (try simp only [show (1 : Int).toNat = 1 from rfl, Nat.reduceMul, Nat.reduceEqDiff, Go.Addr.add, ↓reduceIte] at hx173_2); have qi173 : (1 < t167.length) = True := eq_true (by omega); (try rw [show ((1 : Int)).toNat = 1 from rfl] at hx173_0); (try rw [show 1 * 3 = 3 from rfl] at hx173_0); (try rw [show ((1 : Int)).toNat = 1 from rfl] at hx173_1); (try rw [show 1 * 3 = 3 from rfl] at hx173_1); (try rw [show ((1 : Int)).toNat = 1 from rfl] at hx173_2); (try rw [show 1 * 3 = 3 from rfl] at hx173_2); have hn173_0 : ad173.block ≠ gb172 := Kd.own_blk (Kd.R_ne HO169.out BK172.out (by decide)); have hn173_1 : ad173.block ≠ gb172 := Kd.own_blk (Kd.R_ne HO169.out BK172.out (by decide)); have hn173_2 : ad173.block ≠ gb172 := Kd.own_blk (Kd.R_ne HO169.out BK172.out (by decide)); have hn173_3 : ad173.block ≠ gb172 := Kd.own_blk (Kd.R_ne HO169.out BK172.out (by decide)); have hn173_4 : ad173.block ≠ gb172 := Kd.own_blk (Kd.R_ne HO169.out BK172.out (by decide)); have hn173_5 : ad173.block ≠ gb172 := Kd.own_blk (Kd.R_ne HO169.out BK172.out (by decide)); have hn173_6 : ad173.block ≠ gb172 := Kd.own_blk (Kd.R_ne HO169.out BK172.out (by decide)); replace hx173_0 := (cell_far (p := ⟨gb172, 0, none⟩) (by first | (rw [add_block]; exact hn173_0) | (show (Addr.add _ _).block ≠ _; rw [add_block]; exact hn173_0) | exact hn173_0) (.int .i64 t159)).trans hx173_0; replace hx173_1 := (cell_far (p := ⟨gb172, 0, none⟩) (by first | (rw [add_block]; exact hn173_0) | (show (Addr.add _ _).block ≠ _; rw [add_block]; exact hn173_0) | exact hn173_0) (.int .i64 t159)).trans hx173_1; replace hx173_2 := (cell_far (p := ⟨gb172, 0, none⟩) (by first | (rw [add_block]; exact hn173_0) | (show (Addr.add _ _).block ≠ _; rw [add_block]; exact hn173_0) | exact hn173_0) (.int .i64 t159)).trans hx173_2; replace hx173_0 := (cell_far (p := ⟨gb172, 1, none⟩) (by first | (rw [add_block]; exact hn173_1) | (show (Addr.add _ _).block ≠ _; rw [add_block]; exact hn173_1) | exact hn173_1) (.int .i64 t160)).trans hx173_0; replace hx173_1 := (cell_far (p := ⟨gb172, 1, none⟩) (by first | (rw [add_block]; exact hn173_1) | (show (Addr.add _ _).block ≠ _; rw [add_block]; exact hn173_1) | exact hn173_1) (.int .i64 t160)).trans hx173_1; replace hx173_2 := (cell_far (p := ⟨gb172, 1, none⟩) (by first | (rw [add_block]; exact hn173_1) | (show (Addr.add _ _).block ≠ _; rw [add_block]; exact hn173_1) | exact hn173_1) (.int .i64 t160)).trans hx173_2; replace hx173_0 := (cell_far (p := ⟨gb172, 2, none⟩) (by first | (rw [add_block]; exact hn173_2) | (show (Addr.add _ _).block ≠ _; rw [add_block]; exact hn173_2) | exact hn173_2) (.int .i64 t161)).trans hx173_0; replace hx173_1 := (cell_far (p := ⟨gb172, 2, none⟩) (by first | (rw [add_block]; exact hn173_2) | (show (Addr.add _ _).block ≠ _; rw [add_block]; exact hn173_2) | exact hn173_2) (.int .i64 t161)).trans hx173_1; replace hx173_2 := (cell_far (p := ⟨gb172, 2, none⟩) (by first | (rw [add_block]; exact hn173_2) | (show (Addr.add _ _).block ≠ _; rw [add_block]; exact hn173_2) | exact hn173_2) (.int .i64 t161)).trans hx173_2; replace hx173_0 := (cell_far (p := ⟨gb172, 3, none⟩) (by first | (rw [add_block]; exact hn173_3) | (show (Addr.add _ _).block ≠ _; rw [add_block]; exact hn173_3) | exact hn173_3) (.int .i64 t162)).trans hx173_0; replace hx173_1 := (cell_far (p := ⟨gb172, 3, none⟩) (by first | (rw [add_block]; exact hn173_3) | (show (Addr.add _ _).block ≠ _; rw [add_block]; exact hn173_3) | exact hn173_3) (.int .i64 t162)).trans hx173_1; replace hx173_2 := (cell_far (p := ⟨gb172, 3, none⟩) (by first | (rw [add_block]; exact hn173_3) | (show (Addr.add _ _).block ≠ _; rw [add_block]; exact hn173_3) | exact hn173_3) (.int .i64 t162)).trans hx173_2; replace hx173_0 := (cell_far (p := ⟨gb172, 4, none⟩) (by first | (rw [add_block]; exact hn173_4) | (show (Addr.add _ _).block ≠ _; rw [add_block]; exact hn173_4) | exact hn173_4) (.int .i64 t163)).trans hx173_0; replace hx173_1 := (cell_far (p := ⟨gb172, 4, none⟩) (by first | (rw [add_block]; exact hn173_4) | (show (Addr.add _ _).block ≠ _; rw [add_block]; exact hn173_4) | exact hn173_4) (.int .i64 t163)).trans hx173_1; replace hx173_2 := (cell_far (p := ⟨gb172, 4, none⟩) (by first | (rw [add_block]; exact hn173_4) | (show (Addr.add _ _).block ≠ _; rw [add_block]; exact hn173_4) | exact hn173_4) (.int .i64 t163)).trans hx173_2; replace hx173_0 := (cell_far (p := ⟨gb172, 5, none⟩) (by first | (rw [add_block]; exact hn173_5) | (show (Addr.add _ _).block ≠ _; rw [add_block]; exact hn173_5) | exact hn173_5) (.slice Ao16 t164.length co16)).trans hx173_0; replace hx173_1 := (cell_far (p := ⟨gb172, 5, none⟩) (by first | (rw [add_block]; exact hn173_5) | (show (Addr.add _ _).block ≠ _; rw [add_block]; exact hn173_5) | exact hn173_5) (.slice Ao16 t164.length co16)).trans hx173_1; replace hx173_2 := (cell_far (p := ⟨gb172, 5, none⟩) (by first | (rw [add_block]; exact hn173_5) | (show (Addr.add _ _).block ≠ _; rw [add_block]; exact hn173_5) | exact hn173_5) (.slice Ao16 t164.length co16)).trans hx173_2; replace hx173_0 := (cell_far (p := ⟨gb172, 6, none⟩) (by first | (rw [add_block]; exact hn173_6) | (show (Addr.add _ _).block ≠ _; rw [add_block]; exact hn173_6) | exact hn173_6) (.slice (some ad173) t167.length co17)).trans hx173_0; replace hx173_1 := (cell_far (p := ⟨gb172, 6, none⟩) (by first | (rw [add_block]; exact hn173_6) | (show (Addr.add _ _).block ≠ _; rw [add_block]; exact hn173_6) | exact hn173_6) (.slice (some ad173) t167.length co17)).trans hx173_1; replace hx173_2 := (cell_far (p := ⟨gb172, 6, none⟩) (by first | (rw [add_block]; exact hn173_6) | (show (Addr.add _ _).block ≠ _; rw [add_block]; exact hn173_6) | exact hn173_6) (.slice (some ad173) t167.length co17)).trans hx173_2; clear hn173_0; clear hn173_1; clear hn173_2; clear hn173_3; clear hn173_4; clear hn173_5; clear hn173_6; replace p173 := eq_true p173; replace q173 := eq_true q173))
          go_ret
          exact ⟨by first | rfl | (simp [errW_none, errW_some] <;> rfl) | (simp [*, errW_none, errW_some] <;> rfl), by repeat (first | (with_reducible first | exact HB.out | apply below_alloc | apply pw_below_drewN | apply below_drew1 | refine below_set ?_ GE172.out) | exact HB.out)⟩
      · rw [if_neg c4] at H
        exact absurd H (by simp)
    · rw [if_neg c3] at H
      have c3b0 : ((t167.length : Int) == 2) = false := beq_eq_false_iff_ne.mpr c3
      have c3b1 : ((t167.length : Int) != 2) = true := bne_iff_ne.mpr c3
      obtain rfl := Option.some.inj H
      go_enter Tryd.func14, Tryd.ntmps14
      go_wp2_with (first | ((with_reducible refine gate_callee (f := 22) rfl ?_); refine goesL_ (some 7) rfl rfl Tryd.func22 (by kernel_rfl) rfl #[.string (⟨#[99, 108, 117, 115, 116, 101, 114, 32, 50, 32, 57, 32, 51, 32, 53, 48, 48, 32, 52, 10, 110, 97, 109, 101, 115, 32, 103, 112, 117, 10, 119, 111, 114, 107, 101, 114, 32, 49, 32, 50, 10, 119, 111, 114, 107, 101, 114, 32, 51, 32, 49, 32, 103, 112, 117, 10]⟩ : ByteArray)] rfl (by (try simp only [List.map_toArray, List.map_cons, List.map_nil]); first | done | rfl | (simp only [List.length_drop, List.length_take]; rfl)) ?_; (with_reducible refine (conf_Read.calls (⟨#[99, 108, 117, 115, 116, 101, 114, 32, 50, 32, 57, 32, 51, 32, 53, 48, 48, 32, 52, 10, 110, 97, 109, 101, 115, 32, 103, 112, 117, 10, 119, 111, 114, 107, 101, 114, 32, 49, 32, 50, 10, 119, 111, 114, 107, 101, 114, 32, 51, 32, 49, 32, 103, 112, 117, 10]⟩ : ByteArray) t159 t160 t161 t162 t163 t164 t167 t170 t171 _ ?side1 A1.out).mono ?_); (case side1 => exact Laid.below HLD.out (by repeat (first | (with_reducible first | exact HB.out | apply below_alloc | apply pw_below_drewN | apply below_drew1) | exact HB.out))); rintro e w18 ⟨v165, v168, rfl, ho0, ho1, hb⟩; refine ⟨_, rfl, ?_⟩; have n0_ := Aside0.mk (Kd.R_lower ho0 (below_size (by repeat (first | (with_reducible first | exact HB.out | apply below_alloc | apply pw_below_drewN | apply below_drew1) | exact HB.out)))); have n1_ := Aside0.mk (Kd.R_lower ho1 (below_size (by repeat (first | (with_reducible first | exact HB.out | apply below_alloc | apply pw_below_drewN | apply below_drew1) | exact HB.out)))); have n2_ := Aside0.mk (below_step (by repeat (first | (with_reducible first | exact HB.out | apply below_alloc | apply pw_below_drewN | apply below_drew1) | exact HB.out)) hb); clear HB; have HO166 := n0_; have HO169 := n1_; have HB := n2_; clear n0_ n1_ n2_; (try clear hb); (try clear hb2); (try clear hk); (try clear hi); (try clear ho0); (try clear ho1)) | ((with_reducible refine gate_dst (N := 2) rfl ?_); (try (refine gate_guard (by rfl) ?_; dsimp only)); refine box_event ?hg (N := 2) ?hd (cs := #[.int .i64 0, .int .i64 0, .int .i64 0, .int .i64 0, .int .i64 0, .slice none 0 0, .slice none 0 0]) (t := 49) ?hr ?_; (case hd => rfl); (case hg => rfl); (case hr => first | (go_simp; done) | (go_simp; rfl)); intro gb172 hg w19 hbox hb; have n0_ := Aside0.mk (Kd.R_below (by (with_reducible repeat (first | apply Kd.R_alloc | apply Kd.R_drewN | apply Kd.R_drew)); exact HO166.out) hb); have n1_ := Aside0.mk (Kd.R_below (by (with_reducible repeat (first | apply Kd.R_alloc | apply Kd.R_drewN | apply Kd.R_drew)); exact HO169.out) hb); have n2_ := Aside0.mk (below_step (by repeat (first | (with_reducible first | exact HB.out | apply below_alloc | apply pw_below_drewN | apply below_drew1) | exact HB.out)) hb); have n3_ := Aside0.mk (hbox); have n4_ := Aside0.mk ((by rw [hg]; exact (below_size (by repeat (first | (with_reducible first | exact HB.out | apply below_alloc | apply pw_below_drewN | apply below_drew1) | exact HB.out))) : w.heap.size ≤ gb172)); have n5_ := Aside0.mk ((by rw [hg]; exact (below_size (by repeat (first | (with_reducible first | exact HB.out | apply below_alloc | apply pw_below_drewN | apply below_drew1) | exact HB.out))) : w.heap.size ≤ gb172)); clear HO166; clear HO169; clear HB; have HO166 := n0_; have HO169 := n1_; have HB := n2_; have BK172 := n3_; have GW172 := n4_; have GE172 := n5_; clear n0_ n1_ n2_ n3_ n4_ n5_; clear hb hbox hg; have hcz20_0 : w19.cell? ⟨gb172, 0, none⟩ = some (.int .i64 0) := (blk_cell BK172.out 0).trans rfl; have hcz20_1 : w19.cell? ⟨gb172, 1, none⟩ = some (.int .i64 0) := (blk_cell BK172.out 1).trans rfl; have hcz20_2 : w19.cell? ⟨gb172, 2, none⟩ = some (.int .i64 0) := (blk_cell BK172.out 2).trans rfl; have hcz20_3 : w19.cell? ⟨gb172, 3, none⟩ = some (.int .i64 0) := (blk_cell BK172.out 3).trans rfl; have hcz20_4 : w19.cell? ⟨gb172, 4, none⟩ = some (.int .i64 0) := (blk_cell BK172.out 4).trans rfl; have hcz20_5 : w19.cell? ⟨gb172, 5, none⟩ = some (.slice none 0 0) := (blk_cell BK172.out 5).trans rfl; have hcz20_6 : w19.cell? ⟨gb172, 6, none⟩ = some (.slice none 0 0) := (blk_cell BK172.out 6).trans rfl; have hfz20_0 := blk_frozen BK172.out 0; have hfz20_1 := blk_frozen BK172.out 1; have hfz20_2 := blk_frozen BK172.out 2; have hfz20_3 := blk_frozen BK172.out 3; have hfz20_4 := blk_frozen BK172.out 4; have hfz20_5 := blk_frozen BK172.out 5; have hfz20_6 := blk_frozen BK172.out 6; obtain ⟨Ao21, co21, eo21⟩ := Kd.R_slice HO166.out; subst eo21; obtain ⟨Ao22, co22, eo22⟩ := Kd.R_slice HO169.out; subst eo22))
      go_ret
      exact ⟨by first | rfl | (simp [errW_none, errW_some] <;> rfl) | (simp [*, errW_none, errW_some] <;> rfl), by repeat (first | (with_reducible first | exact HB.out | apply below_alloc | apply pw_below_drewN | apply below_drew1 | refine below_set ?_ GE172.out) | exact HB.out)⟩
  · rw [if_neg c2] at H
    have c2b0 : (t171 == 0) = false := beq_eq_false_iff_ne.mpr c2
    have c2b1 : (t171 != 0) = true := bne_iff_ne.mpr c2
    obtain rfl := Option.some.inj H
    go_enter Tryd.func14, Tryd.ntmps14
    go_wp2_with (first | ((with_reducible refine gate_callee (f := 22) rfl ?_); refine goesL_ (some 7) rfl rfl Tryd.func22 (by kernel_rfl) rfl #[.string (⟨#[99, 108, 117, 115, 116, 101, 114, 32, 50, 32, 57, 32, 51, 32, 53, 48, 48, 32, 52, 10, 110, 97, 109, 101, 115, 32, 103, 112, 117, 10, 119, 111, 114, 107, 101, 114, 32, 49, 32, 50, 10, 119, 111, 114, 107, 101, 114, 32, 51, 32, 49, 32, 103, 112, 117, 10]⟩ : ByteArray)] rfl (by (try simp only [List.map_toArray, List.map_cons, List.map_nil]); first | done | rfl | (simp only [List.length_drop, List.length_take]; rfl)) ?_; (with_reducible refine (conf_Read.calls (⟨#[99, 108, 117, 115, 116, 101, 114, 32, 50, 32, 57, 32, 51, 32, 53, 48, 48, 32, 52, 10, 110, 97, 109, 101, 115, 32, 103, 112, 117, 10, 119, 111, 114, 107, 101, 114, 32, 49, 32, 50, 10, 119, 111, 114, 107, 101, 114, 32, 51, 32, 49, 32, 103, 112, 117, 10]⟩ : ByteArray) t159 t160 t161 t162 t163 t164 t167 t170 t171 _ ?side1 A1.out).mono ?_); (case side1 => exact Laid.below HLD.out (by repeat (first | (with_reducible first | exact HB.out | apply below_alloc | apply pw_below_drewN | apply below_drew1) | exact HB.out))); rintro e w23 ⟨v165, v168, rfl, ho0, ho1, hb⟩; refine ⟨_, rfl, ?_⟩; have n0_ := Aside0.mk (Kd.R_lower ho0 (below_size (by repeat (first | (with_reducible first | exact HB.out | apply below_alloc | apply pw_below_drewN | apply below_drew1) | exact HB.out)))); have n1_ := Aside0.mk (Kd.R_lower ho1 (below_size (by repeat (first | (with_reducible first | exact HB.out | apply below_alloc | apply pw_below_drewN | apply below_drew1) | exact HB.out)))); have n2_ := Aside0.mk (below_step (by repeat (first | (with_reducible first | exact HB.out | apply below_alloc | apply pw_below_drewN | apply below_drew1) | exact HB.out)) hb); clear HB; have HO166 := n0_; have HO169 := n1_; have HB := n2_; clear n0_ n1_ n2_; (try clear hb); (try clear hb2); (try clear hk); (try clear hi); (try clear ho0); (try clear ho1)) | ((with_reducible refine gate_dst (N := 2) rfl ?_); (try (refine gate_guard (by rfl) ?_; dsimp only)); refine box_event ?hg (N := 2) ?hd (cs := #[.int .i64 0, .int .i64 0, .int .i64 0, .int .i64 0, .int .i64 0, .slice none 0 0, .slice none 0 0]) (t := 49) ?hr ?_; (case hd => rfl); (case hg => rfl); (case hr => first | (go_simp; done) | (go_simp; rfl)); intro gb172 hg w24 hbox hb; have n0_ := Aside0.mk (Kd.R_below (by (with_reducible repeat (first | apply Kd.R_alloc | apply Kd.R_drewN | apply Kd.R_drew)); exact HO166.out) hb); have n1_ := Aside0.mk (Kd.R_below (by (with_reducible repeat (first | apply Kd.R_alloc | apply Kd.R_drewN | apply Kd.R_drew)); exact HO169.out) hb); have n2_ := Aside0.mk (below_step (by repeat (first | (with_reducible first | exact HB.out | apply below_alloc | apply pw_below_drewN | apply below_drew1) | exact HB.out)) hb); have n3_ := Aside0.mk (hbox); have n4_ := Aside0.mk ((by rw [hg]; exact (below_size (by repeat (first | (with_reducible first | exact HB.out | apply below_alloc | apply pw_below_drewN | apply below_drew1) | exact HB.out))) : w.heap.size ≤ gb172)); have n5_ := Aside0.mk ((by rw [hg]; exact (below_size (by repeat (first | (with_reducible first | exact HB.out | apply below_alloc | apply pw_below_drewN | apply below_drew1) | exact HB.out))) : w.heap.size ≤ gb172)); clear HO166; clear HO169; clear HB; have HO166 := n0_; have HO169 := n1_; have HB := n2_; have BK172 := n3_; have GW172 := n4_; have GE172 := n5_; clear n0_ n1_ n2_ n3_ n4_ n5_; clear hb hbox hg; have hcz25_0 : w24.cell? ⟨gb172, 0, none⟩ = some (.int .i64 0) := (blk_cell BK172.out 0).trans rfl; have hcz25_1 : w24.cell? ⟨gb172, 1, none⟩ = some (.int .i64 0) := (blk_cell BK172.out 1).trans rfl; have hcz25_2 : w24.cell? ⟨gb172, 2, none⟩ = some (.int .i64 0) := (blk_cell BK172.out 2).trans rfl; have hcz25_3 : w24.cell? ⟨gb172, 3, none⟩ = some (.int .i64 0) := (blk_cell BK172.out 3).trans rfl; have hcz25_4 : w24.cell? ⟨gb172, 4, none⟩ = some (.int .i64 0) := (blk_cell BK172.out 4).trans rfl; have hcz25_5 : w24.cell? ⟨gb172, 5, none⟩ = some (.slice none 0 0) := (blk_cell BK172.out 5).trans rfl; have hcz25_6 : w24.cell? ⟨gb172, 6, none⟩ = some (.slice none 0 0) := (blk_cell BK172.out 6).trans rfl; have hfz25_0 := blk_frozen BK172.out 0; have hfz25_1 := blk_frozen BK172.out 1; have hfz25_2 := blk_frozen BK172.out 2; have hfz25_3 := blk_frozen BK172.out 3; have hfz25_4 := blk_frozen BK172.out 4; have hfz25_5 := blk_frozen BK172.out 5; have hfz25_6 := blk_frozen BK172.out 6; obtain ⟨Ao26, co26, eo26⟩ := Kd.R_slice HO166.out; subst eo26; obtain ⟨Ao27, co27, eo27⟩ := Kd.R_slice HO169.out; subst eo27))
    go_ret
    exact ⟨by first | rfl | (simp [errW_none, errW_some] <;> rfl) | (simp [*, errW_none, errW_some] <;> rfl), by repeat (first | (with_reducible first | exact HB.out | apply below_alloc | apply pw_below_drewN | apply below_drew1 | refine below_set ?_ GE172.out) | exact HB.out)⟩
end Go.Proofs.YtmppkcdphgelcaaDoor.PConf
namespace Go.Proofs.YtmppkcdphgelcaaDoor.PConf
open Go.RowKit Go.Proofs.YtmppkcdphgelcaaDoorW.PrintWords Go.Proofs.YtmppkcdphgelcaaDoorW.PrintLast Go.Proofs.YtmppkcdphgelcaaDoorW.PrintMore
attribute [local go_sem] max2_int min2_int max_two min_two max_three min_three max_four min_four   -- for this text's walks alone
set_option linter.unusedVariables false
set_option linter.unusedSimpArgs false
mutual
def siskinref14_Digits.j0 : Nat → ByteArray → Int → Bool → Option (Int × Bool)
  | 0, _, _, _ => none
  | k + 1, x0, x4, x23 => if x23 = true then (some (0, false)) else (siskinref14_Digits.l0 k x0 x4 0)
def siskinref14_Digits.l0 : Nat → ByteArray → Int → Int → Option (Int × Bool)
  | 0, _, _, _ => none
  | k + 1, x0, x4, x5 => if x5 < (x0.size : Int) then (if 0 ≤ x5 then (if (bt x0 x5) < 48 then (some (0, false)) else (if (bt x0 x5) > 57 then (some (0, false)) else (siskinref14_Digits.l0 k x0 (wrap64 ((wrap64 ((wrap64 (x4 * 10)) + (wrap64 (bt x0 x5)))) - 48)) (wrap64 (x5 + 1))))) else (none)) else (if x4 > 72057594037927935 then (some (0, false)) else (some (x4, true)))
end
def siskinref14_Digits.f (k : Nat) (a0 : ByteArray) : Option (Int × Bool) := if (a0.size : Int) < 1 then (siskinref14_Digits.j0 k a0 0 true) else (if (a0.size : Int) > 17 then (siskinref14_Digits.j0 k a0 0 true) else (if 0 < (a0.size : Int) then (if (bt a0 0) = 48 then (siskinref14_Digits.j0 k a0 0 (decide ((a0.size : Int) > 1))) else (siskinref14_Digits.j0 k a0 0 false)) else (none)))
theorem siskinref14_Digits.mono_l : ∀ k, (∀ y0 y1 y2, LeO (siskinref14_Digits.j0 k y0 y1 y2) (siskinref14_Digits.j0 (k + 1) y0 y1 y2)) ∧ (∀ y0 y1 y2, LeO (siskinref14_Digits.l0 k y0 y1 y2) (siskinref14_Digits.l0 (k + 1) y0 y1 y2))
  | 0 => ⟨fun _ _ _ r h => by simp [siskinref14_Digits.j0] at h, fun _ _ _ r h => by simp [siskinref14_Digits.l0] at h⟩
  | k + 1 => by
    obtain ⟨ih0, ih1⟩ := siskinref14_Digits.mono_l k
    refine ⟨?_, ?_⟩
    · intro y0 y1 y2
      unfold siskinref14_Digits.j0
      repeat' first
      | (with_reducible exact ih0 _ _ _)
      | (with_reducible exact ih1 _ _ _)
      | (with_reducible exact LeO.refl _)
      | (with_reducible exact LeO.none _)
      | (with_reducible refine LeO.ite ?_ ?_)
      | (with_reducible refine LeO.bind ?_ (fun _ => ?_))
      | exact ih0 _ _ _
      | exact ih1 _ _ _
      | exact LeO.none _
      | refine LeO.ite ?_ ?_
      | refine LeO.bind ?_ (fun _ => ?_)
    · intro y0 y1 y2
      unfold siskinref14_Digits.l0
      repeat' first
      | (with_reducible exact ih0 _ _ _)
      | (with_reducible exact ih1 _ _ _)
      | (with_reducible exact LeO.refl _)
      | (with_reducible exact LeO.none _)
      | (with_reducible refine LeO.ite ?_ ?_)
      | (with_reducible refine LeO.bind ?_ (fun _ => ?_))
      | exact ih0 _ _ _
      | exact ih1 _ _ _
      | exact LeO.none _
      | refine LeO.ite ?_ ?_
      | refine LeO.bind ?_ (fun _ => ?_)
theorem siskinref14_Digits.mono : ∀ a0 k, LeO (siskinref14_Digits.f k a0) (siskinref14_Digits.f (k + 1) a0) := by
  intro a0 k
  obtain ⟨ih0, ih1⟩ := siskinref14_Digits.mono_l k
  unfold siskinref14_Digits.f
  repeat' first
      | (with_reducible exact ih0 _ _ _)
      | (with_reducible exact ih1 _ _ _)
      | (with_reducible exact LeO.refl _)
      | (with_reducible exact LeO.none _)
      | (with_reducible refine LeO.ite ?_ ?_)
      | (with_reducible refine LeO.bind ?_ (fun _ => ?_))
      | exact ih0 _ _ _
      | exact ih1 _ _ _
      | exact LeO.none _
      | refine LeO.ite ?_ ?_
      | refine LeO.bind ?_ (fun _ => ?_)
set_option maxHeartbeats 8000000 in
set_option maxRecDepth 100000 in
theorem siskinref14_Digits.calls (k : Nat) (a0 : ByteArray) (r1 : Int) (r2 : Bool) (w : World) (h : siskinref14_Digits.f k a0 = some (r1, r2)) :
    Calls Tryd.prog 16 #[.string a0] w fun e w' => e = .returned (.tuple #[.int .i64 r1, .bool r2]) ∧ Drawn0 w w' := by
  have H : (if (a0.size : Int) < 1 then (siskinref14_Digits.j0 k a0 0 true) else (if (a0.size : Int) > 17 then (siskinref14_Digits.j0 k a0 0 true) else (if 0 < (a0.size : Int) then (if (bt a0 0) = 48 then (siskinref14_Digits.j0 k a0 0 (decide ((a0.size : Int) > 1))) else (siskinref14_Digits.j0 k a0 0 false)) else (none)))) = some (r1, r2) := h
  clear h
  have HC2 := Aside0.mk H
  clear H
  go_enter Tryd.func16, Tryd.ntmps16
  go_upto_region 2 with (fail)
  go_cut [23] (fun v23 wc => ∃ (kq : Nat) (x23_1 : Bool), v23 = .bool x23_1 ∧ Aside0 (siskinref14_Digits.j0 kq a0 0 x23_1 = some (r1, r2)) ∧ Aside0 (kq ≤ k) ∧ Drawn0 w wc)
  case first =>
    have H := HC2.out
    clear HC2
    by_cases c3 : (a0.size : Int) < 1
    · rw [if_pos c3] at H
      have c3b0 : decide ((a0.size : Int) < 1) = true := decide_eq_true c3
      have c3b1 : decide (a0.size < 1) = true := decide_eq_true (by omega)
      clear c3
      (first | rw [c3b0] | (simp only [i64_w, i32_w]; rw [c3b0]) | skip)
      have H' := Aside0.mk H
      clear H
      go_wp2
      go_meet
      case rel => exact ⟨_, (true), (by first | rfl | (simp; done) | (simp [*]; done)), H', ⟨by first | omega | exact Nat.le_refl _⟩, by repeat (first | exact Drawn0.refl _ | apply Drawn0.step)⟩
    · rw [if_neg c3] at H
      have c3b0 : decide ((a0.size : Int) < 1) = false := decide_eq_false c3
      have c3b1 : decide (a0.size < 1) = false := decide_eq_false (by omega)
      clear c3
      (first | rw [c3b0] | (simp only [i64_w, i32_w]; rw [c3b0]) | skip)
      by_cases c4 : (a0.size : Int) > 17
      · rw [if_pos c4] at H
        have c4b0 : decide (17 < (a0.size : Int)) = true := decide_eq_true c4
        have c4b1 : decide (17 < a0.size) = true := decide_eq_true (by omega)
        clear c4
        have H' := Aside0.mk H
        clear H
        go_wp2
        go_meet
        case rel => exact ⟨_, (true), (by first | rfl | (simp; done) | (simp [*]; done)), H', ⟨by first | omega | exact Nat.le_refl _⟩, by repeat (first | exact Drawn0.refl _ | apply Drawn0.step)⟩
      · rw [if_neg c4] at H
        have c4b0 : decide (17 < (a0.size : Int)) = false := decide_eq_false c4
        have c4b1 : decide (17 < a0.size) = false := decide_eq_false (by omega)
        clear c4
        by_cases c5 : 0 < (a0.size : Int)
        · rw [if_pos c5] at H
          have c5b0 : decide (0 < (a0.size : Int)) = true := decide_eq_true c5
          have c5b1 : decide (0 < a0.size) = true := decide_eq_true (by omega)
          clear c5
          by_cases c7 : (bt a0 0) = 48
          · rw [if_pos c7] at H
            have c7b0 : ((bt a0 0) == 48) = true := beq_iff_eq.mpr c7
            have c7b1 : ((bt a0 0) != 48) = false := bne_eq_false_iff_eq.mpr c7
            clear c7
            have H' := Aside0.mk H
            clear H
            have p6 : 0 ≤ (0 : Int) := (by omega)
            have q6 : 0 < a0.size := (by have : (0 : Int) < (a0.size : Int) := of_decide_eq_true (by first | (with_reducible assumption) | assumption); omega)
            have hx6 : ∀ h : 0 < a0.size, ((a0[0]'h).toNat : Int) = bt a0 0 := bt_at a0 0
            clear p6
            have qi6 : (0 < (a0.size : Int)) = True := eq_true (of_decide_eq_true (by first | (with_reducible assumption) | assumption))
            replace q6 := eq_true q6
            go_wp2
            go_meet
            case rel => exact ⟨_, (decide ((a0.size : Int) > 1)), (by first | rfl | (simp; done) | (simp [*]; done)), H', ⟨by first | omega | exact Nat.le_refl _⟩, by repeat (first | exact Drawn0.refl _ | apply Drawn0.step)⟩
          · rw [if_neg c7] at H
            have c7b0 : ((bt a0 0) == 48) = false := beq_eq_false_iff_ne.mpr c7
            have c7b1 : ((bt a0 0) != 48) = true := bne_iff_ne.mpr c7
            have H' := Aside0.mk H
            clear H
            have p6 : 0 ≤ (0 : Int) := (by omega)
            have q6 : 0 < a0.size := (by have : (0 : Int) < (a0.size : Int) := of_decide_eq_true (by first | (with_reducible assumption) | assumption); omega)
            have hx6 : ∀ h : 0 < a0.size, ((a0[0]'h).toNat : Int) = bt a0 0 := bt_at a0 0
            clear p6
            have qi6 : (0 < (a0.size : Int)) = True := eq_true (of_decide_eq_true (by first | (with_reducible assumption) | assumption))
            replace q6 := eq_true q6
            go_wp2
            go_meet
            case rel => exact ⟨_, (false), (by first | rfl | (simp; done) | (simp [*]; done)), H', ⟨by first | omega | exact Nat.le_refl _⟩, by repeat (first | exact Drawn0.refl _ | apply Drawn0.step)⟩
        · rw [if_neg c5] at H
          exact absurd H (by simp)
  case rest =>
    clear HC2
    try clear c1
    try clear p2
    try clear c3
    try clear c3b0
    try clear c3b1
    try clear c4
    try clear c4b0
    try clear c4b1
    try clear c5
    try clear c5b0
    try clear c5b1
    try clear p6
    try clear q6
    try clear hx6
    try clear qi6
    try clear c7
    try clear c7b0
    try clear c7b1
    try clear p6
    try clear q6
    obtain ⟨kq, x23_1, rfl, HA, HJ1, ⟨mc1, rfl⟩⟩ := hcut
    cases kq with
    | zero => exact absurd HA.out (by simp [siskinref14_Digits.j0])
    | succ kj1 =>
      have H := HA.out
      clear HA
      simp only [siskinref14_Digits.j0] at H
      by_cases c8 : x23_1 = true
      · subst c8
        have H1 : (some (0, false)) = some (r1, r2) := by rw [if_pos rfl] at H; exact H
        clear H
        have H := H1
        clear H1
        simp only [Option.some.injEq, Prod.mk.injEq] at H
        obtain ⟨rfl, rfl⟩ := H
        go_wp2
        go_ret2
        exact ⟨by first | rfl | (simp; done) | (simp [*]; done), by repeat (first | exact Drawn0.refl _ | apply Drawn0.step)⟩
      · replace c8 := Bool.eq_false_iff.mpr c8
        subst c8
        have H1 : (siskinref14_Digits.l0 kj1 a0 0 0) = some (r1, r2) := by rw [if_neg (show ¬ (false = true) by decide)] at H; exact H
        clear H
        have H := H1
        clear H1
        have H' := Aside0.mk H
        clear H
        go_wp2
        go_loopg [4, 5] kj1 (fun kq v4 v5 w' => ∃ (x4_2 : Int) (x5_2 : Int), v4 = .int .i64 x4_2 ∧ v5 = .int .i64 x5_2 ∧ Aside0 (siskinref14_Digits.l0 kq a0 x4_2 x5_2 = some (r1, r2)) ∧ Aside0 (kq ≤ kj1) ∧ Drawn0 w w')
        case atStart => exact ⟨(0), (0), (by first | rfl | (simp; done) | (simp [*]; done)), (by first | rfl | (simp; done) | (simp [*]; done)), H', ⟨Nat.le_refl _⟩, by repeat (first | exact Drawn0.refl _ | apply Drawn0.step)⟩
        case round =>
          clear H'
          try clear c1
          try clear p2
          try clear c3
          try clear c3b0
          try clear c3b1
          try clear c4
          try clear c4b0
          try clear c4b1
          try clear c5
          try clear c5b0
          try clear c5b1
          try clear p6
          try clear q6
          try clear hx6
          try clear qi6
          try clear c7
          try clear c7b0
          try clear c7b1
          try clear c8
          try clear p2
          try clear p6
          try clear q6
          obtain ⟨x4_2, x5_2, rfl, rfl, HA, HK2, ⟨m2, rfl⟩⟩ := hrel
          cases gk with
          | zero => exact absurd HA.out (by simp [siskinref14_Digits.l0])
          | succ k2 =>
            have H := HA.out
            clear HA
            simp only [siskinref14_Digits.l0] at H
            by_cases c9 : x5_2 < (a0.size : Int)
            · rw [if_pos c9] at H
              have c9b0 : decide (x5_2 < (a0.size : Int)) = true := decide_eq_true c9
              clear c9
              by_cases c10 : 0 ≤ x5_2
              · rw [if_pos c10] at H
                have c10b0 : decide (0 ≤ x5_2) = true := decide_eq_true c10
                clear c10
                by_cases c12 : (bt a0 x5_2) < 48
                · rw [if_pos c12] at H
                  have c12b0 : decide ((bt a0 x5_2) < 48) = true := decide_eq_true c12
                  clear c12
                  simp only [Option.some.injEq, Prod.mk.injEq] at H
                  obtain ⟨rfl, rfl⟩ := H
                  have p11 : 0 ≤ (x5_2 : Int) := of_decide_eq_true (by first | (with_reducible assumption) | assumption)
                  have q11 : x5_2 < (a0.size : Int) := of_decide_eq_true (by first | (with_reducible assumption) | assumption)
                  have hx11 := bt_at a0 x5_2
                  replace p11 := eq_true p11
                  replace q11 := eq_true q11
                  go_wp2
                  go_ret2
                  exact ⟨by first | rfl | (simp; done) | (simp [*]; done), by repeat (first | exact Drawn0.refl _ | apply Drawn0.step)⟩
                · rw [if_neg c12] at H
                  have c12b0 : decide ((bt a0 x5_2) < 48) = false := decide_eq_false c12
                  clear c12
                  by_cases c14 : (bt a0 x5_2) > 57
                  · rw [if_pos c14] at H
                    have c14b0 : decide (57 < (bt a0 x5_2)) = true := decide_eq_true c14
                    clear c14
                    simp only [Option.some.injEq, Prod.mk.injEq] at H
                    obtain ⟨rfl, rfl⟩ := H
                    have p11 : 0 ≤ (x5_2 : Int) := of_decide_eq_true (by first | (with_reducible assumption) | assumption)
                    have q11 : x5_2 < (a0.size : Int) := of_decide_eq_true (by first | (with_reducible assumption) | assumption)
                    have hx11 := bt_at a0 x5_2
                    replace p11 := eq_true p11
                    replace q11 := eq_true q11
                    have p13 : 0 ≤ (x5_2 : Int) := of_decide_eq_true (by first | (with_reducible assumption) | assumption)
                    have q13 : x5_2 < (a0.size : Int) := of_decide_eq_true (by first | (with_reducible assumption) | assumption)
                    have hx13 := bt_at a0 x5_2
                    replace p13 := eq_true p13
                    replace q13 := eq_true q13
                    go_wp2
                    go_ret2
                    exact ⟨by first | rfl | (simp; done) | (simp [*]; done), by repeat (first | exact Drawn0.refl _ | apply Drawn0.step)⟩
                  · rw [if_neg c14] at H
                    have c14b0 : decide (57 < (bt a0 x5_2)) = false := decide_eq_false c14
                    clear c14
                    have H' := Aside0.mk H
                    clear H
                    have p11 : 0 ≤ (x5_2 : Int) := of_decide_eq_true (by first | (with_reducible assumption) | assumption)
                    have q11 : x5_2 < (a0.size : Int) := of_decide_eq_true (by first | (with_reducible assumption) | assumption)
                    have hx11 := bt_at a0 x5_2
                    replace p11 := eq_true p11
                    replace q11 := eq_true q11
                    have p13 : 0 ≤ (x5_2 : Int) := of_decide_eq_true (by first | (with_reducible assumption) | assumption)
                    have q13 : x5_2 < (a0.size : Int) := of_decide_eq_true (by first | (with_reducible assumption) | assumption)
                    have hx13 := bt_at a0 x5_2
                    replace p13 := eq_true p13
                    replace q13 := eq_true q13
                    have p15 : 0 ≤ (x5_2 : Int) := of_decide_eq_true (by first | (with_reducible assumption) | assumption)
                    have q15 : x5_2 < (a0.size : Int) := of_decide_eq_true (by first | (with_reducible assumption) | assumption)
                    have hx15 := bt_at a0 x5_2
                    replace p15 := eq_true p15
                    replace q15 := eq_true q15
                    go_wp2
                    go_roundg k2
                    case measure => have := HJ1.out; have := HK2.out; omega
                    case rel => exact ⟨(wrap64 ((wrap64 ((wrap64 (x4_2 * 10)) + (wrap64 (bt a0 x5_2)))) - 48)), (wrap64 (x5_2 + 1)), (by first | rfl | (simp; done) | (simp [*]; done)), (by first | rfl | (simp; done) | (simp [*]; done)), H', ⟨by have := HJ1.out; have := HK2.out; omega⟩, by repeat (first | exact Drawn0.refl _ | apply Drawn0.step)⟩
              · rw [if_neg c10] at H
                exact absurd H (by simp)
            · rw [if_neg c9] at H
              have c9b0 : decide (x5_2 < (a0.size : Int)) = false := decide_eq_false c9
              clear c9
              by_cases c16 : x4_2 > 72057594037927935
              · rw [if_pos c16] at H
                have c16b0 : decide (72057594037927935 < x4_2) = true := decide_eq_true c16
                clear c16
                simp only [Option.some.injEq, Prod.mk.injEq] at H
                obtain ⟨rfl, rfl⟩ := H
                go_wp2
                go_ret2
                exact ⟨by first | rfl | (simp; done) | (simp [*]; done), by repeat (first | exact Drawn0.refl _ | apply Drawn0.step)⟩
              · rw [if_neg c16] at H
                have c16b0 : decide (72057594037927935 < x4_2) = false := decide_eq_false c16
                clear c16
                simp only [Option.some.injEq, Prod.mk.injEq] at H
                obtain ⟨rfl, rfl⟩ := H
                go_wp2
                go_ret2
                exact ⟨by first | rfl | (simp; done) | (simp [*]; done), by repeat (first | exact Drawn0.refl _ | apply Drawn0.step)⟩
end Go.Proofs.YtmppkcdphgelcaaDoor.PConf
namespace Go.Proofs.YtmppkcdphgelcaaDoor.PConf
open Go.RowKit Go.Proofs.YtmppkcdphgelcaaDoorW.PrintWords Go.Proofs.YtmppkcdphgelcaaDoorW.PrintLast Go.Proofs.YtmppkcdphgelcaaDoorW.PrintMore
attribute [local go_sem] max2_int min2_int max_two min_two max_three min_three max_four min_four   -- for this text's walks alone
set_option linter.unusedVariables false
set_option linter.unusedSimpArgs false
def siskinref14_Number.f (a0 : Int) : Option (ByteArray) :=
  if -9223372036854775808 ≤ a0 ∧ a0 ≤ 9223372036854775807 then some ⟨(Lib.itoa a0).toArray⟩ else none
theorem siskinref14_Number.len (u : Nat) : (Lib.decDigits u).length ≤ u / 2 + 1 := by
  induction u using Nat.strongRecOn with
  | _ u ih =>
    rw [Lib.decDigits]
    split
    · simp
    · have := ih (u / 10) (by omega)
      rw [List.length_append, List.length_singleton]
      omega
structure siskinref14_Number.Inv (u m : Nat) (s : ByteArray) : Prop where
  zero : m = 0 → s.data.toList = Lib.decDigits u
  pos : 0 < m → Lib.decDigits m ++ s.data.toList = Lib.decDigits u
theorem siskinref14_Number.Inv.size {u m : Nat} {s : ByteArray} (h : siskinref14_Number.Inv u m s) : s.size ≤ u / 2 + 1 := by
  have hl := siskinref14_Number.len u
  rw [← data_length]
  rcases Nat.eq_zero_or_pos m with h0 | h0
  · rw [h.zero h0]; exact hl
  · rw [← h.pos h0, List.length_append] at hl; omega
theorem siskinref14_Number.Inv.step {u m : Nat} {s : ByteArray} (h : siskinref14_Number.Inv u m s) (h0 : 0 < m) : siskinref14_Number.Inv u (m / 10) (strOfNums [((48 + (m % 10 : Nat)) : Int)] ++ s) := by
  have hd : (strOfNums [((48 + (m % 10 : Nat)) : Int)] ++ s).data.toList = UInt8.ofNat (48 + m % 10) :: s.data.toList := by
    rw [ByteArray.data_append, Array.toList_append]
    rfl
  refine ⟨fun hz => ?_, fun hp => ?_⟩
  · have hlt : m < 10 := by omega
    have := h.pos h0
    rw [Lib.decDigits_one hlt] at this
    rw [hd, ← this, Nat.mod_eq_of_lt hlt]; rfl
  · have hge : ¬ m < 10 := by omega
    have := h.pos h0
    rw [Lib.decDigits, dif_neg hge] at this
    rw [hd, ← this, List.append_assoc]; rfl
theorem siskinref14_Number.conv (d : Nat) (hd : d ≤ 9) : ∀ W : World, (convert 65 9 (.slice (some ⟨W.heap.size, 0, none⟩) 1 1)).run Tryd.prog (W.alloc (.cells #[.int .u8 (48 + (d : Int))] 5)) = .ok (.string (strOfNums [(48 + (d : Int))])) (W.alloc (.cells #[.int .u8 (48 + (d : Int))] 5)) := by
  intro W
  refine run_convert_bytes_arg _ 65 5 Tryd.underlying65 Tryd.underlying5 W.heap.size 0 1 1 [48 + (d : Int)] rfl (fun i hi => ?_) 9 Tryd.underlying9
  obtain rfl : i = 0 := by simp at hi; omega
  rw [World.cell?_alloc_at _ _ _ _ rfl]
  rfl
theorem siskinref14_Number.fin {t : ByteArray} {l : List UInt8} (h : t.data.toList = l) : (⟨#[45]⟩ : ByteArray) ++ t = ⟨(45 :: l).toArray⟩ := by
  subst h
  apply ByteArray.ext
  rw [ByteArray.data_append]
  apply Array.ext'
  rw [Array.toList_append]
  rfl
set_option maxHeartbeats 3200000 in
theorem siskinref14_Number.neg (u : Nat) (h1 : 1 ≤ u) (h2 : u ≤ 9223372036854775808) (w : World) :
    Calls Tryd.prog 18 #[.int .i64 (-(u : Int))] w fun e w' => e = .returned (.string ⟨(45 :: Lib.decDigits u).toArray⟩) ∧ Below w.heap.size w w' := by
  have hz : ((-(u : Int)) == 0) = false := beq_eq_false_iff_ne.mpr (by omega)
  have hn : decide ((-(u : Int)) < 0) = true := decide_eq_true (by omega)
  have hI : siskinref14_Number.Inv u u ⟨#[]⟩ := ⟨fun h => by omega, fun _ => by simp⟩
  have HI := Aside0.mk hI
  have HB := Aside0.mk (Below.refl w.heap.size w)
  clear hI
  go_enter Tryd.func18, Tryd.ntmps18
  go_wp2
  go_loopw [0, 3, 5] (fun n s d wr => ∃ (m : Nat) (t : ByteArray), n = .int .i64 (-(m : Int)) ∧ s = .string t ∧ m ≤ u ∧ Aside0 (siskinref14_Number.Inv u m t) ∧ Aside0 (Below w.heap.size w wr)) (fun n _ _ _ => (-(intOf n)).toNat)
  case atStart => exact ⟨u, ⟨#[]⟩, rfl, rfl, Nat.le_refl _, HI, HB⟩
  case round =>
    clear HI
    obtain ⟨m, t, rfl, rfl, hm, HI, HBw⟩ := hrel
    have hsz := HI.out.size
    by_cases h0 : 0 < m
    · have hm0 : ((-(m : Int)) == 0) = false := beq_eq_false_iff_ne.mpr (by omega)
      have hm1 : ((-(m : Int)) != 0) = true := bne_iff_ne.mpr (by omega)
      have ht : Int.tmod (-(m : Int)) 10 = -((m % 10 : Nat) : Int) := by rw [Int.neg_tmod, Int.tmod_eq_emod_of_nonneg (by omega)]; omega
      have hq : Int.tdiv (-(m : Int)) 10 = -((m / 10 : Nat) : Int) := by rw [Int.neg_tdiv, Int.tdiv_eq_ediv_of_nonneg (by omega)]; omega
      have HS := Aside0.mk (HI.out.step h0)
      obtain ⟨d, hd⟩ : ∃ d, d = m % 10 := ⟨_, rfl⟩
      rw [← hd] at ht HS
      have hd9 : d ≤ 9 := by omega
      have hcv : ∀ W : World, (convert 65 9 (.slice (some ⟨W.heap.size, 0, none⟩) 1 1)).run Tryd.prog (W.alloc (.cells #[.int .u8 (48 + (d : Int))] 5)) = .ok (.string (strOfNums [(48 + (d : Int))])) (W.alloc (.cells #[.int .u8 (48 + (d : Int))] 5)) := siskinref14_Number.conv d hd9
      have hsz2 : (strOfNums [(48 + (d : Int))]).size + t.size ≤ 9223372036854775807 := by rw [strOfNums_size]; simp; omega
      have hu8 : (48 + (d : Int)) % 256 = 48 + (d : Int) := by omega
      clear hd
      rcases Nat.eq_zero_or_pos d with hd0 | hd0
      · subst hd0
        have ht0 : Int.tmod (-(m : Int)) 10 = 0 := ht
        have hcv0 : ∀ W : World, (convert 65 9 (.slice (some ⟨W.heap.size, 0, none⟩) 1 1)).run Tryd.prog (W.alloc (.cells #[.int .u8 48] 5)) = .ok (.string (strOfNums [48])) (W.alloc (.cells #[.int .u8 48] 5)) := hcv
        have hsz3 : (strOfNums [48]).size + t.size ≤ 9223372036854775807 := hsz2
        have HS0 : Aside0 (siskinref14_Number.Inv u (m / 10) (strOfNums [48] ++ t)) := HS
        clear ht hcv hsz2 hu8 HS hd9
        go_wp2
        go_roundw
        case rel => exact ⟨m / 10, strOfNums [48] ++ t, by go_num, rfl, by omega, HS0, ⟨below_alloc HBw.out _⟩⟩
        case measure => simp [intOf]; omega
      · have hneg : decide (-(d : Int) < 0) = true := decide_eq_true (by omega)
        go_wp2
        go_roundw
        case rel => exact ⟨m / 10, strOfNums [(48 + (d : Int))] ++ t, by go_num, rfl, by omega, HS, ⟨below_alloc HBw.out _⟩⟩
        case measure => simp [intOf]; omega
    · obtain rfl : m = 0 := by omega
      have HF := Aside0.mk (HI.out.zero rfl)
      clear HI h0 hm
      have hsz2 : 1 + t.size ≤ 9223372036854775807 := by omega
      go_wp2
      go_ret
      refine ⟨?_, HBw.out⟩
      exact congrArg (fun z => Ending.returned (.string z)) (siskinref14_Number.fin HF.out)
set_option maxHeartbeats 3200000 in
theorem siskinref14_Number.plus (u : Nat) (h1 : 1 ≤ u) (h2 : u ≤ 9223372036854775807) (w : World) :
    Calls Tryd.prog 18 #[.int .i64 (u : Int)] w fun e w' => e = .returned (.string ⟨(Lib.decDigits u).toArray⟩) ∧ Below w.heap.size w w' := by
  have hz : ((u : Int) == 0) = false := beq_eq_false_iff_ne.mpr (by omega)
  have hn : decide ((u : Int) < 0) = false := decide_eq_false (by omega)
  have hI : siskinref14_Number.Inv u u ⟨#[]⟩ := ⟨fun h => by omega, fun _ => by simp⟩
  have HI := Aside0.mk hI
  have HB := Aside0.mk (Below.refl w.heap.size w)
  clear hI
  go_enter Tryd.func18, Tryd.ntmps18
  go_wp2
  go_loopw [0, 3, 5] (fun n s d wr => ∃ (m : Nat) (t : ByteArray), n = .int .i64 (m : Int) ∧ s = .string t ∧ m ≤ u ∧ Aside0 (siskinref14_Number.Inv u m t) ∧ Aside0 (Below w.heap.size w wr)) (fun n _ _ _ => (intOf n).toNat)
  case atStart => exact ⟨u, ⟨#[]⟩, rfl, rfl, Nat.le_refl _, HI, HB⟩
  case round =>
    clear HI
    obtain ⟨m, t, rfl, rfl, hm, HI, HBw⟩ := hrel
    have hsz := HI.out.size
    by_cases h0 : 0 < m
    · have hm0 : ((m : Int) == 0) = false := beq_eq_false_iff_ne.mpr (by omega)
      have hm1 : ((m : Int) != 0) = true := bne_iff_ne.mpr (by omega)
      have HS := Aside0.mk (HI.out.step h0)
      have hd9 : m % 10 ≤ 9 := by omega
      have hcv := siskinref14_Number.conv (m % 10) hd9
      have hmc : ((m % 10 : Nat) : Int) = (m : Int) % 10 := by omega
      rw [hmc] at HS hcv
      have hsz2 : (strOfNums [(48 + (m : Int) % 10)]).size + t.size ≤ 9223372036854775807 := by rw [strOfNums_size]; simp; omega
      have hu8 : (48 + (m : Int) % 10) % 256 = 48 + (m : Int) % 10 := by omega
      have hneg : decide ((m : Int) % 10 < 0) = false := decide_eq_false (by omega)
      clear hmc
      go_wp2
      go_roundw
      case rel => exact ⟨m / 10, strOfNums [(48 + (m : Int) % 10)] ++ t, by go_num, rfl, by omega, HS, ⟨below_alloc HBw.out _⟩⟩
      case measure => simp [intOf]; omega
    · obtain rfl : m = 0 := by omega
      have HF := Aside0.mk (HI.out.zero rfl)
      clear HI h0 hm
      go_wp2
      go_ret
      refine ⟨?_, HBw.out⟩
      exact congrArg (fun z => Ending.returned (.string z)) (ByteArray.ext (Array.ext' HF.out))
theorem siskinref14_Number.calls (a0 : Int) (r : ByteArray) (w : World) (h : siskinref14_Number.f a0 = some r) :
    Calls Tryd.prog 18 #[.int .i64 a0] w fun e w' => e = .returned (.string r) ∧ Below w.heap.size w w' := by
  unfold siskinref14_Number.f at h
  by_cases hs : -9223372036854775808 ≤ a0 ∧ a0 ≤ 9223372036854775807
  · rw [if_pos hs] at h
    obtain rfl := Option.some.inj h
    by_cases h0 : a0 = 0
    · subst h0
      have HV := Aside0.mk (show (⟨#[48]⟩ : ByteArray) = ⟨(Lib.itoa 0).toArray⟩ by rw [Lib.itoa, if_neg (by omega), show Int.toNat 0 = 0 from rfl, Lib.decDigits_one (by omega)]; rfl)
      go_enter Tryd.func18, Tryd.ntmps18
      go_wp2
      go_ret
      exact ⟨congrArg (fun z => Ending.returned (.string z)) HV.out, Below.refl _ _⟩
    · by_cases hneg : a0 < 0
      · obtain ⟨u, rfl⟩ : ∃ u : Nat, a0 = -(u : Int) := ⟨a0.natAbs, by omega⟩
        rw [Lib.itoa, if_pos hneg, show (-(u : Int)).natAbs = u by omega]
        exact siskinref14_Number.neg u (by omega) (by omega) w
      · obtain ⟨u, rfl⟩ := Int.eq_ofNat_of_zero_le (show 0 ≤ a0 by omega)
        rw [Lib.itoa, if_neg hneg, Int.toNat_natCast]
        exact siskinref14_Number.plus u (by omega) (by omega) w
  · rw [if_neg hs] at h
    cases h
end Go.Proofs.YtmppkcdphgelcaaDoor.PConf
namespace Go.Proofs.YtmppkcdphgelcaaDoor.PConf
open Go.RowKit Go.Proofs.YtmppkcdphgelcaaDoorW.PrintWords Go.Proofs.YtmppkcdphgelcaaDoorW.PrintLast Go.Proofs.YtmppkcdphgelcaaDoorW.PrintMore
attribute [local go_sem] max2_int min2_int max_two min_two max_three min_three max_four min_four   -- for this text's walks alone
set_option linter.unusedVariables false
set_option linter.unusedSimpArgs false
def siskinlaw14_ConfNumbers.f (k : Nat) (a0 : Int) (a1 : ByteArray) : Option (Bool) := if (a1.size : Int) > 100 then ((siskinlaw14_works.f k).bind fun t209 => (some t209)) else ((conf_Digits.f a1).bind fun bt210 => ((siskinref14_Digits.f k a1).bind fun bt212 => ((conf_Number.f a0).bind fun t214 => ((siskinref14_Number.f a0).bind fun t215 => (if t214.toList = t215.toList then (if bt210.1 = bt212.1 then (if (bt210.2 == bt212.2) = true then ((siskinlaw14_works.f k).bind fun t216 => (some t216)) else (some false)) else (some false)) else (some false))))))
theorem siskinlaw14_ConfNumbers.mono : ∀ a0 a1 k, LeO (siskinlaw14_ConfNumbers.f k a0 a1) (siskinlaw14_ConfNumbers.f (k + 1) a0 a1) := by
  intro a0 a1 k
  unfold siskinlaw14_ConfNumbers.f
  repeat' first
      | (with_reducible exact siskinlaw14_works.mono _)
      | (with_reducible exact siskinref14_Digits.mono _ _)
      | (with_reducible exact LeO.refl _)
      | (with_reducible exact LeO.none _)
      | (with_reducible refine LeO.ite ?_ ?_)
      | (with_reducible refine LeO.bind ?_ (fun _ => ?_))
      | exact siskinlaw14_works.mono _
      | exact siskinref14_Digits.mono _ _
      | exact LeO.none _
      | refine LeO.ite ?_ ?_
      | refine LeO.bind ?_ (fun _ => ?_)
set_option maxHeartbeats 8000000 in
set_option maxRecDepth 100000 in
theorem siskinlaw14_ConfNumbers.calls (k : Nat) (a0 : Int) (a1 : ByteArray) (r : Bool) (w : World) (hL_ : Laid w) (h : siskinlaw14_ConfNumbers.f k a0 a1 = some r) :
    Calls Tryd.prog 4 #[.int .i64 a0, .string a1] w fun e w' => e = .returned (.bool r) ∧ Below w.heap.size w w' := by
  have HLD := Aside0.mk hL_
  clear hL_
  have HB := Aside0.mk (Below.refl w.heap.size w)
  have H : (if (a1.size : Int) > 100 then ((siskinlaw14_works.f k).bind fun t209 => (some t209)) else ((conf_Digits.f a1).bind fun bt210 => ((siskinref14_Digits.f k a1).bind fun bt212 => ((conf_Number.f a0).bind fun t214 => ((siskinref14_Number.f a0).bind fun t215 => (if t214.toList = t215.toList then (if bt210.1 = bt212.1 then (if (bt210.2 == bt212.2) = true then ((siskinlaw14_works.f k).bind fun t216 => (some t216)) else (some false)) else (some false)) else (some false))))))) = some r := h
  clear h
  by_cases c3 : (a1.size : Int) > 100
  · rw [if_pos c3] at H
    have c3b0 : decide (100 < (a1.size : Int)) = true := decide_eq_true c3
    have c3b1 : decide (100 < a1.size) = true := decide_eq_true (by omega)
    clear c3
    replace H := Option.bind_eq_some_iff.mp H
    obtain ⟨t209, A40, H⟩ := H
    replace H : (some t209) = some r := H
    have A4 := Aside0.mk A40
    clear A40
    obtain rfl := Option.some.inj H
    go_enter Tryd.func4, Tryd.ntmps4
    go_wp2_with (first | ((with_reducible refine gate_callee (f := 14) rfl ?_); refine goesL_ (some 12) rfl rfl Tryd.func14 (by kernel_rfl) rfl #[] rfl (by (try simp only [List.map_toArray, List.map_cons, List.map_nil]); first | done | rfl | (simp only [List.length_drop, List.length_take]; rfl)) ?_; (with_reducible refine (siskinlaw14_works.calls k  t209 _ ?side1 A4.out).mono ?_); (case side1 => exact Laid.below HLD.out (by repeat (first | (with_reducible first | exact HB.out | apply below_alloc | apply pw_below_drewN | apply below_drew1) | exact HB.out))); rintro e w5 ⟨rfl, hb⟩; refine ⟨_, rfl, ?_⟩; have n0_ := Aside0.mk (below_step (by repeat (first | (with_reducible first | exact HB.out | apply below_alloc | apply pw_below_drewN | apply below_drew1) | exact HB.out)) hb); clear HB; have HB := n0_; clear n0_; (try clear hb); (try clear hb2); (try clear hk); (try clear hi)))
    go_ret
    exact ⟨by first | rfl | (simp [errW_none, errW_some] <;> rfl) | (simp [*, errW_none, errW_some] <;> rfl), by repeat (first | (with_reducible first | exact HB.out | apply below_alloc | apply pw_below_drewN | apply below_drew1) | exact HB.out)⟩
  · rw [if_neg c3] at H
    have c3b0 : decide (100 < (a1.size : Int)) = false := decide_eq_false c3
    have c3b1 : decide (100 < a1.size) = false := decide_eq_false (by omega)
    clear c3
    replace H := Option.bind_eq_some_iff.mp H
    obtain ⟨⟨t210, t211⟩, A60, H⟩ := H
    replace H : ((siskinref14_Digits.f k a1).bind fun bt212 => ((conf_Number.f a0).bind fun t214 => ((siskinref14_Number.f a0).bind fun t215 => (if t214.toList = t215.toList then (if t210 = bt212.1 then (if (t211 == bt212.2) = true then ((siskinlaw14_works.f k).bind fun t216 => (some t216)) else (some false)) else (some false)) else (some false))))) = some r := H
    have A6 := Aside0.mk A60
    clear A60
    replace H := Option.bind_eq_some_iff.mp H
    obtain ⟨⟨t212, t213⟩, A70, H⟩ := H
    replace H : ((conf_Number.f a0).bind fun t214 => ((siskinref14_Number.f a0).bind fun t215 => (if t214.toList = t215.toList then (if t210 = t212 then (if (t211 == t213) = true then ((siskinlaw14_works.f k).bind fun t216 => (some t216)) else (some false)) else (some false)) else (some false)))) = some r := H
    have A7 := Aside0.mk A70
    clear A70
    replace H := Option.bind_eq_some_iff.mp H
    obtain ⟨t214, A80, H⟩ := H
    replace H : ((siskinref14_Number.f a0).bind fun t215 => (if t214.toList = t215.toList then (if t210 = t212 then (if (t211 == t213) = true then ((siskinlaw14_works.f k).bind fun t216 => (some t216)) else (some false)) else (some false)) else (some false))) = some r := H
    have A8 := Aside0.mk A80
    clear A80
    replace H := Option.bind_eq_some_iff.mp H
    obtain ⟨t215, A90, H⟩ := H
    replace H : (if t214.toList = t215.toList then (if t210 = t212 then (if (t211 == t213) = true then ((siskinlaw14_works.f k).bind fun t216 => (some t216)) else (some false)) else (some false)) else (some false)) = some r := H
    have A9 := Aside0.mk A90
    clear A90
    by_cases c10 : t214.toList = t215.toList
    · rw [if_pos c10] at H
      have c10b0 : (t214.toList == t215.toList) = true := beq_iff_eq.mpr c10
      have c10b1 : (t214.toList != t215.toList) = false := bne_eq_false_iff_eq.mpr c10
      clear c10
      by_cases c11 : t210 = t212
      · rw [if_pos c11] at H
        have c11b0 : (t210 == t212) = true := beq_iff_eq.mpr c11
        have c11b1 : (t210 != t212) = false := bne_eq_false_iff_eq.mpr c11
        clear c11
        by_cases c12 : (t211 == t213) = true
        · rw [if_pos c12] at H
          have c12b0 : (t211 == t213) = true := c12
          (try (have c12b1 : decide (t211 = t213) = true := by simpa using c12))
          (try (have c12b2 : (t211 == t213) = true := by simpa using c12))
          clear c12
          replace H := Option.bind_eq_some_iff.mp H
          obtain ⟨t216, A130, H⟩ := H
          replace H : (some t216) = some r := H
          have A13 := Aside0.mk A130
          clear A130
          obtain rfl := Option.some.inj H
          go_enter Tryd.func4, Tryd.ntmps4
          go_wp2_with (first | ((with_reducible refine gate_callee (f := 15) rfl ?_); refine goesL_ (some 15) rfl rfl Tryd.func15 (by kernel_rfl) rfl #[.string a1] rfl (by (try simp only [List.map_toArray, List.map_cons, List.map_nil]); first | done | rfl | (simp only [List.length_drop, List.length_take]; rfl)) ?_; (with_reducible refine (conf_Digits.calls a1 t210 t211 _ ?side1 A6.out).mono ?_); (case side1 => exact Laid.below HLD.out (by repeat (first | (with_reducible first | exact HB.out | apply below_alloc | apply pw_below_drewN | apply below_drew1) | exact HB.out))); rintro e w14 ⟨rfl, hb⟩; refine ⟨_, rfl, ?_⟩; have n0_ := Aside0.mk (below_step (by repeat (first | (with_reducible first | exact HB.out | apply below_alloc | apply pw_below_drewN | apply below_drew1) | exact HB.out)) hb); clear HB; have HB := n0_; clear n0_; (try clear hb); (try clear hb2); (try clear hk); (try clear hi)) | ((with_reducible refine gate_callee (f := 16) rfl ?_); refine goesL_ (some 20) rfl rfl Tryd.func16 (by kernel_rfl) rfl #[.string a1] rfl (by (try simp only [List.map_toArray, List.map_cons, List.map_nil]); first | done | rfl | (simp only [List.length_drop, List.length_take]; rfl)) ?_; (with_reducible refine (siskinref14_Digits.calls k a1 t212 t213 _ A7.out).mono ?_); rintro e w' ⟨rfl, ⟨nd, rfl⟩⟩; refine ⟨_, rfl, ?_⟩) | ((with_reducible refine gate_callee (f := 17) rfl ?_); refine goesL_ (some 24) rfl rfl Tryd.func17 (by kernel_rfl) rfl #[.int .i64 a0] rfl (by (try simp only [List.map_toArray, List.map_cons, List.map_nil]); first | done | rfl | (simp only [List.length_drop, List.length_take]; rfl)) ?_; (with_reducible refine (conf_Number.calls a0 t214 _ ?side1 A8.out).mono ?_); (case side1 => exact Laid.below HLD.out (by repeat (first | (with_reducible first | exact HB.out | apply below_alloc | apply pw_below_drewN | apply below_drew1) | exact HB.out))); rintro e w15 ⟨rfl, hb⟩; refine ⟨_, rfl, ?_⟩; have n0_ := Aside0.mk (below_step (by repeat (first | (with_reducible first | exact HB.out | apply below_alloc | apply pw_below_drewN | apply below_drew1) | exact HB.out)) hb); clear HB; have HB := n0_; clear n0_; (try clear hb); (try clear hb2); (try clear hk); (try clear hi)) | ((with_reducible refine gate_callee (f := 18) rfl ?_); refine goesL_ (some 26) rfl rfl Tryd.func18 (by kernel_rfl) rfl #[.int .i64 a0] rfl (by (try simp only [List.map_toArray, List.map_cons, List.map_nil]); first | done | rfl | (simp only [List.length_drop, List.length_take]; rfl)) ?_; (with_reducible refine (siskinref14_Number.calls a0 t215 _ A9.out).mono ?_); rintro e w16 ⟨rfl, hb⟩; refine ⟨_, rfl, ?_⟩; have n0_ := Aside0.mk (below_step (by repeat (first | (with_reducible first | exact HB.out | apply below_alloc | apply pw_below_drewN | apply below_drew1) | exact HB.out)) hb); clear HB; have HB := n0_; clear n0_; (try clear hb); (try clear hb2); (try clear hk); (try clear hi)) | (go_at_call 14; (with_reducible refine (siskinlaw14_works.calls k  t216 _ ?side1 A13.out).mono ?_); (case side1 => exact Laid.below HLD.out (by repeat (first | (with_reducible first | exact HB.out | apply below_alloc | apply pw_below_drewN | apply below_drew1) | exact HB.out))); rintro e w17 ⟨rfl, hb⟩; have n0_ := Aside0.mk (below_step (by repeat (first | (with_reducible first | exact HB.out | apply below_alloc | apply pw_below_drewN | apply below_drew1) | exact HB.out)) hb); clear HB; have HB := n0_; clear n0_; (try clear hb); (try clear hb2); (try clear hk); (try clear hi)))
          go_ret
          exact ⟨by first | rfl | (simp [errW_none, errW_some] <;> rfl) | (simp [*, errW_none, errW_some] <;> rfl), by repeat (first | (with_reducible first | exact HB.out | apply below_alloc | apply pw_below_drewN | apply below_drew1) | exact HB.out)⟩
        · rw [if_neg c12] at H
          have c12b0 : (t211 == t213) = false := by simpa using c12
          (try (have c12b1 : decide (t211 = t213) = false := by simpa using c12))
          (try (have c12b2 : (t211 == t213) = false := by simpa using c12))
          (try (have c12b3 : ¬ (t211 = t213) := by simpa using c12))
          clear c12
          obtain rfl := Option.some.inj H
          go_enter Tryd.func4, Tryd.ntmps4
          go_wp2_with (first | ((with_reducible refine gate_callee (f := 15) rfl ?_); refine goesL_ (some 15) rfl rfl Tryd.func15 (by kernel_rfl) rfl #[.string a1] rfl (by (try simp only [List.map_toArray, List.map_cons, List.map_nil]); first | done | rfl | (simp only [List.length_drop, List.length_take]; rfl)) ?_; (with_reducible refine (conf_Digits.calls a1 t210 t211 _ ?side1 A6.out).mono ?_); (case side1 => exact Laid.below HLD.out (by repeat (first | (with_reducible first | exact HB.out | apply below_alloc | apply pw_below_drewN | apply below_drew1) | exact HB.out))); rintro e w18 ⟨rfl, hb⟩; refine ⟨_, rfl, ?_⟩; have n0_ := Aside0.mk (below_step (by repeat (first | (with_reducible first | exact HB.out | apply below_alloc | apply pw_below_drewN | apply below_drew1) | exact HB.out)) hb); clear HB; have HB := n0_; clear n0_; (try clear hb); (try clear hb2); (try clear hk); (try clear hi)) | ((with_reducible refine gate_callee (f := 16) rfl ?_); refine goesL_ (some 20) rfl rfl Tryd.func16 (by kernel_rfl) rfl #[.string a1] rfl (by (try simp only [List.map_toArray, List.map_cons, List.map_nil]); first | done | rfl | (simp only [List.length_drop, List.length_take]; rfl)) ?_; (with_reducible refine (siskinref14_Digits.calls k a1 t212 t213 _ A7.out).mono ?_); rintro e w' ⟨rfl, ⟨nd, rfl⟩⟩; refine ⟨_, rfl, ?_⟩) | ((with_reducible refine gate_callee (f := 17) rfl ?_); refine goesL_ (some 24) rfl rfl Tryd.func17 (by kernel_rfl) rfl #[.int .i64 a0] rfl (by (try simp only [List.map_toArray, List.map_cons, List.map_nil]); first | done | rfl | (simp only [List.length_drop, List.length_take]; rfl)) ?_; (with_reducible refine (conf_Number.calls a0 t214 _ ?side1 A8.out).mono ?_); (case side1 => exact Laid.below HLD.out (by repeat (first | (with_reducible first | exact HB.out | apply below_alloc | apply pw_below_drewN | apply below_drew1) | exact HB.out))); rintro e w19 ⟨rfl, hb⟩; refine ⟨_, rfl, ?_⟩; have n0_ := Aside0.mk (below_step (by repeat (first | (with_reducible first | exact HB.out | apply below_alloc | apply pw_below_drewN | apply below_drew1) | exact HB.out)) hb); clear HB; have HB := n0_; clear n0_; (try clear hb); (try clear hb2); (try clear hk); (try clear hi)) | ((with_reducible refine gate_callee (f := 18) rfl ?_); refine goesL_ (some 26) rfl rfl Tryd.func18 (by kernel_rfl) rfl #[.int .i64 a0] rfl (by (try simp only [List.map_toArray, List.map_cons, List.map_nil]); first | done | rfl | (simp only [List.length_drop, List.length_take]; rfl)) ?_; (with_reducible refine (siskinref14_Number.calls a0 t215 _ A9.out).mono ?_); rintro e w20 ⟨rfl, hb⟩; refine ⟨_, rfl, ?_⟩; have n0_ := Aside0.mk (below_step (by repeat (first | (with_reducible first | exact HB.out | apply below_alloc | apply pw_below_drewN | apply below_drew1) | exact HB.out)) hb); clear HB; have HB := n0_; clear n0_; (try clear hb); (try clear hb2); (try clear hk); (try clear hi)))
          go_ret
          exact ⟨by first | rfl | (simp [errW_none, errW_some] <;> rfl) | (simp [*, errW_none, errW_some] <;> rfl), by repeat (first | (with_reducible first | exact HB.out | apply below_alloc | apply pw_below_drewN | apply below_drew1) | exact HB.out)⟩
      · rw [if_neg c11] at H
        have c11b0 : (t210 == t212) = false := beq_eq_false_iff_ne.mpr c11
        have c11b1 : (t210 != t212) = true := bne_iff_ne.mpr c11
        obtain rfl := Option.some.inj H
        go_enter Tryd.func4, Tryd.ntmps4
        go_wp2_with (first | ((with_reducible refine gate_callee (f := 15) rfl ?_); refine goesL_ (some 15) rfl rfl Tryd.func15 (by kernel_rfl) rfl #[.string a1] rfl (by (try simp only [List.map_toArray, List.map_cons, List.map_nil]); first | done | rfl | (simp only [List.length_drop, List.length_take]; rfl)) ?_; (with_reducible refine (conf_Digits.calls a1 t210 t211 _ ?side1 A6.out).mono ?_); (case side1 => exact Laid.below HLD.out (by repeat (first | (with_reducible first | exact HB.out | apply below_alloc | apply pw_below_drewN | apply below_drew1) | exact HB.out))); rintro e w21 ⟨rfl, hb⟩; refine ⟨_, rfl, ?_⟩; have n0_ := Aside0.mk (below_step (by repeat (first | (with_reducible first | exact HB.out | apply below_alloc | apply pw_below_drewN | apply below_drew1) | exact HB.out)) hb); clear HB; have HB := n0_; clear n0_; (try clear hb); (try clear hb2); (try clear hk); (try clear hi)) | ((with_reducible refine gate_callee (f := 16) rfl ?_); refine goesL_ (some 20) rfl rfl Tryd.func16 (by kernel_rfl) rfl #[.string a1] rfl (by (try simp only [List.map_toArray, List.map_cons, List.map_nil]); first | done | rfl | (simp only [List.length_drop, List.length_take]; rfl)) ?_; (with_reducible refine (siskinref14_Digits.calls k a1 t212 t213 _ A7.out).mono ?_); rintro e w' ⟨rfl, ⟨nd, rfl⟩⟩; refine ⟨_, rfl, ?_⟩) | ((with_reducible refine gate_callee (f := 17) rfl ?_); refine goesL_ (some 24) rfl rfl Tryd.func17 (by kernel_rfl) rfl #[.int .i64 a0] rfl (by (try simp only [List.map_toArray, List.map_cons, List.map_nil]); first | done | rfl | (simp only [List.length_drop, List.length_take]; rfl)) ?_; (with_reducible refine (conf_Number.calls a0 t214 _ ?side1 A8.out).mono ?_); (case side1 => exact Laid.below HLD.out (by repeat (first | (with_reducible first | exact HB.out | apply below_alloc | apply pw_below_drewN | apply below_drew1) | exact HB.out))); rintro e w22 ⟨rfl, hb⟩; refine ⟨_, rfl, ?_⟩; have n0_ := Aside0.mk (below_step (by repeat (first | (with_reducible first | exact HB.out | apply below_alloc | apply pw_below_drewN | apply below_drew1) | exact HB.out)) hb); clear HB; have HB := n0_; clear n0_; (try clear hb); (try clear hb2); (try clear hk); (try clear hi)) | ((with_reducible refine gate_callee (f := 18) rfl ?_); refine goesL_ (some 26) rfl rfl Tryd.func18 (by kernel_rfl) rfl #[.int .i64 a0] rfl (by (try simp only [List.map_toArray, List.map_cons, List.map_nil]); first | done | rfl | (simp only [List.length_drop, List.length_take]; rfl)) ?_; (with_reducible refine (siskinref14_Number.calls a0 t215 _ A9.out).mono ?_); rintro e w23 ⟨rfl, hb⟩; refine ⟨_, rfl, ?_⟩; have n0_ := Aside0.mk (below_step (by repeat (first | (with_reducible first | exact HB.out | apply below_alloc | apply pw_below_drewN | apply below_drew1) | exact HB.out)) hb); clear HB; have HB := n0_; clear n0_; (try clear hb); (try clear hb2); (try clear hk); (try clear hi)))
        go_ret
        exact ⟨by first | rfl | (simp [errW_none, errW_some] <;> rfl) | (simp [*, errW_none, errW_some] <;> rfl), by repeat (first | (with_reducible first | exact HB.out | apply below_alloc | apply pw_below_drewN | apply below_drew1) | exact HB.out)⟩
    · rw [if_neg c10] at H
      have c10b0 : (t214.toList == t215.toList) = false := beq_eq_false_iff_ne.mpr c10
      have c10b1 : (t214.toList != t215.toList) = true := bne_iff_ne.mpr c10
      obtain rfl := Option.some.inj H
      go_enter Tryd.func4, Tryd.ntmps4
      go_wp2_with (first | ((with_reducible refine gate_callee (f := 15) rfl ?_); refine goesL_ (some 15) rfl rfl Tryd.func15 (by kernel_rfl) rfl #[.string a1] rfl (by (try simp only [List.map_toArray, List.map_cons, List.map_nil]); first | done | rfl | (simp only [List.length_drop, List.length_take]; rfl)) ?_; (with_reducible refine (conf_Digits.calls a1 t210 t211 _ ?side1 A6.out).mono ?_); (case side1 => exact Laid.below HLD.out (by repeat (first | (with_reducible first | exact HB.out | apply below_alloc | apply pw_below_drewN | apply below_drew1) | exact HB.out))); rintro e w24 ⟨rfl, hb⟩; refine ⟨_, rfl, ?_⟩; have n0_ := Aside0.mk (below_step (by repeat (first | (with_reducible first | exact HB.out | apply below_alloc | apply pw_below_drewN | apply below_drew1) | exact HB.out)) hb); clear HB; have HB := n0_; clear n0_; (try clear hb); (try clear hb2); (try clear hk); (try clear hi)) | ((with_reducible refine gate_callee (f := 16) rfl ?_); refine goesL_ (some 20) rfl rfl Tryd.func16 (by kernel_rfl) rfl #[.string a1] rfl (by (try simp only [List.map_toArray, List.map_cons, List.map_nil]); first | done | rfl | (simp only [List.length_drop, List.length_take]; rfl)) ?_; (with_reducible refine (siskinref14_Digits.calls k a1 t212 t213 _ A7.out).mono ?_); rintro e w' ⟨rfl, ⟨nd, rfl⟩⟩; refine ⟨_, rfl, ?_⟩) | ((with_reducible refine gate_callee (f := 17) rfl ?_); refine goesL_ (some 24) rfl rfl Tryd.func17 (by kernel_rfl) rfl #[.int .i64 a0] rfl (by (try simp only [List.map_toArray, List.map_cons, List.map_nil]); first | done | rfl | (simp only [List.length_drop, List.length_take]; rfl)) ?_; (with_reducible refine (conf_Number.calls a0 t214 _ ?side1 A8.out).mono ?_); (case side1 => exact Laid.below HLD.out (by repeat (first | (with_reducible first | exact HB.out | apply below_alloc | apply pw_below_drewN | apply below_drew1) | exact HB.out))); rintro e w25 ⟨rfl, hb⟩; refine ⟨_, rfl, ?_⟩; have n0_ := Aside0.mk (below_step (by repeat (first | (with_reducible first | exact HB.out | apply below_alloc | apply pw_below_drewN | apply below_drew1) | exact HB.out)) hb); clear HB; have HB := n0_; clear n0_; (try clear hb); (try clear hb2); (try clear hk); (try clear hi)) | ((with_reducible refine gate_callee (f := 18) rfl ?_); refine goesL_ (some 26) rfl rfl Tryd.func18 (by kernel_rfl) rfl #[.int .i64 a0] rfl (by (try simp only [List.map_toArray, List.map_cons, List.map_nil]); first | done | rfl | (simp only [List.length_drop, List.length_take]; rfl)) ?_; (with_reducible refine (siskinref14_Number.calls a0 t215 _ A9.out).mono ?_); rintro e w26 ⟨rfl, hb⟩; refine ⟨_, rfl, ?_⟩; have n0_ := Aside0.mk (below_step (by repeat (first | (with_reducible first | exact HB.out | apply below_alloc | apply pw_below_drewN | apply below_drew1) | exact HB.out)) hb); clear HB; have HB := n0_; clear n0_; (try clear hb); (try clear hb2); (try clear hk); (try clear hi)))
      go_ret
      exact ⟨by first | rfl | (simp [errW_none, errW_some] <;> rfl) | (simp [*, errW_none, errW_some] <;> rfl), by repeat (first | (with_reducible first | exact HB.out | apply below_alloc | apply pw_below_drewN | apply below_drew1) | exact HB.out)⟩
end Go.Proofs.YtmppkcdphgelcaaDoor.PConf

set_option linter.unusedVariables false
set_option linter.unusedSimpArgs false
namespace Own
open Go.Lib
theorem decFrom_snoc (l : List UInt8) (b : UInt8) : ∀ acc, decFrom acc (l ++ [b]) = (decFrom acc l).bind fun m => (digitVal b).map fun d => m * 10 + d := by
  induction l with
  | nil => intro acc; simp only [List.nil_append, decFrom]; cases digitVal b <;> rfl
  | cons c l ih =>
    intro acc
    simp only [List.cons_append, decFrom]
    cases digitVal c with
    | none => rfl
    | some d => exact ih _
theorem digit_of (u : Nat) (h : u < 10) : digitVal (UInt8.ofNat (48 + u)) = some u := by
  have e : (UInt8.ofNat (48 + u)).toNat = 48 + u := by simp [UInt8.toNat_ofNat']; omega
  unfold digitVal
  rw [e, if_pos (by omega)]
  simp
theorem dec_round (u : Nat) : decFrom 0 (decDigits u) = some u := by
  induction u using Nat.strongRecOn with
  | _ u ih =>
    rw [decDigits]
    split
    · rename_i h
      simp only [decFrom, digit_of u h]; simp
    · rename_i h
      rw [decFrom_snoc, ih (u / 10) (by omega)]
      simp only [Option.bind_some, digit_of (u % 10) (by omega), Option.map_some, Option.some.injEq]
      omega
theorem byte_of {b : UInt8} {d : Nat} (h : digitVal b = some d) : UInt8.ofNat (48 + d) = b := by
  obtain ⟨h1, h2, h3⟩ := digitVal_eq h
  subst h3
  rw [show 48 + (b.toNat - 48) = b.toNat by omega]
  simp
theorem decFrom_pos (l : List UInt8) (acc n : Nat) (h : decFrom acc l = some n) : acc ≤ n := by
  induction l generalizing acc with
  | nil => simp only [decFrom, Option.some.injEq] at h; omega
  | cons c l ih =>
    simp only [decFrom] at h
    split at h
    · have := ih _ h; omega
    · cases h
theorem canon_n (k : Nat) : ∀ (l : List UInt8) (n : Nat), l.length = k → l ≠ [] → ¬ (l.head? = some 48 ∧ 1 < l.length) → decFrom 0 l = some n → decDigits n = l := by
  induction k with
  | zero => intro l n hk h0; cases l with
    | nil => exact absurd rfl h0
    | cons => simp at hk
  | succ k ih =>
    intro l n hk h0 hz h
    obtain ⟨l', b, rfl⟩ : ∃ l' b, l = l' ++ [b] := ⟨l.dropLast, l.getLast h0, (List.dropLast_concat_getLast h0).symm⟩
    rw [decFrom_snoc] at h
    obtain ⟨m, hm, h1⟩ := Option.bind_eq_some_iff.mp h
    obtain ⟨d, hd, h2⟩ := Option.map_eq_some_iff.mp h1
    clear h h1
    have hb := byte_of hd
    have hd10 : d < 10 := by have := digitVal_eq hd; omega
    cases l' with
    | nil =>
      simp only [decFrom, Option.some.injEq] at hm
      subst hm
      rw [decDigits, dif_pos (by omega), ← h2]
      simp [hb]
    | cons c l' =>
      have hc : ¬ c = 48 := fun e => hz ⟨by simp [e], by simp⟩
      have hm0 : 0 < m := by
        simp only [decFrom] at hm
        split at hm
        · rename_i d' hd'
          have h1 := decFrom_pos _ _ _ hm
          have h2 := digitVal_eq hd'
          have : d' ≠ 0 := fun e => hc (UInt8.toNat_inj.mp (by simp; omega))
          omega
        · cases hm
      have := ih (c :: l') m (by simp at hk ⊢; omega) (by simp) (fun h => hc (by simpa using h.1)) hm
      rw [decDigits, dif_neg (by omega), ← h2, show (m * 10 + d) / 10 = m by omega, show (m * 10 + d) % 10 = d by omega, this, hb]
theorem canon (l : List UInt8) (n : Nat) (h0 : l ≠ []) (hz : ¬ (l.head? = some 48 ∧ 1 < l.length)) (h : decFrom 0 l = some n) : decDigits n = l := canon_n _ l n rfl h0 hz h
theorem dec_ne (u : Nat) : decDigits u ≠ [] := by rw [decDigits]; split <;> simp
theorem dec_head (u : Nat) (hu : 0 < u) : (decDigits u).head? ≠ some 48 := by
  induction u using Nat.strongRecOn with
  | _ u ih =>
    rw [decDigits]
    split
    · rename_i h
      simp only [List.head?_cons, ne_eq, Option.some.injEq]
      intro e
      have := congrArg UInt8.toNat e
      simp [UInt8.toNat_ofNat'] at this
      omega
    · rename_i h
      have := ih (u / 10) (by omega) (by omega)
      cases hx : decDigits (u / 10) with
      | nil => exact absurd hx (dec_ne _)
      | cons c l => rw [hx] at this; simpa using this
theorem dec_zero : decDigits 0 = [48] := by rw [decDigits]; rfl
theorem dec_canon (u : Nat) : ¬ ((decDigits u).head? = some 48 ∧ 1 < (decDigits u).length) := by
  rintro ⟨h1, h2⟩
  cases u with
  | zero => rw [dec_zero] at h2; simp at h2
  | succ u => exact dec_head _ (by omega) h1
theorem dec_len (k : Nat) : ∀ u, u < 10 ^ (k + 1) → (decDigits u).length ≤ k + 1 := by
  induction k with
  | zero => intro u h; rw [decDigits, dif_pos (by simpa using h)]; simp
  | succ k ih =>
    intro u h
    rw [decDigits]
    split
    · simp
    · have := ih (u / 10) (by rw [Nat.pow_succ] at h; omega)
      simp; omega
end Own
namespace Go.Proofs.YtmppkcdphgelcaaDoor.PConf
open Go.RowKit Go.Proofs.YtmppkcdphgelcaaDoorW.PrintWords Go.Lib
theorem works_true : siskinlaw14_works.f 100 = some true := by kernel_rfl
theorem works_le (k : Nat) : siskinlaw14_works.f (k + 100) = some true := by
  induction k with
  | zero => rw [Nat.zero_add]; exact works_true
  | succ k ih => rw [Nat.add_right_comm k 1 100]; exact siskinlaw14_works.mono _ _ ih
theorem bt_drop (s : ByteArray) (i : Nat) (h : i < s.size) : ∃ c, s.data.toList.drop i = c :: s.data.toList.drop (i + 1) ∧ bt s i = (c.toNat : Int) := by
  refine ⟨s.data.toList[i]'(by rw [Array.length_toList]; exact h), List.drop_eq_getElem_cons _, ?_⟩
  unfold bt
  rw [dif_pos (by simpa using h)]
  rfl
def digitsEnd (o : Option Nat) : Int × Bool := match o with
  | none => (0, false)
  | some n => if (n : Int) > 72057594037927935 then (0, false) else ((n : Int), true)
theorem step_num (acc c P : Nat) (ha : acc < P) (hp : P ≤ 10000000000000000) (h1 : 48 ≤ c) (h2 : c ≤ 57) : wrap64 ((wrap64 ((wrap64 ((acc : Int) * 10)) + (wrap64 (c : Int)))) - 48) = ((acc * 10 + (c - 48) : Nat) : Int) ∧ acc * 10 + (c - 48) < P * 10 := by
  refine ⟨?_, by omega⟩
  unfold wrap64
  omega
theorem next_i (i : Nat) (h : i ≤ 16) : wrap64 ((i : Int) + 1) = ((i + 1 : Nat) : Int) := by unfold wrap64; omega
theorem digits_loop (s : ByteArray) (hs : s.size ≤ 17) : ∀ (j i acc k : Nat), i + j = s.size → j < k → acc < 10 ^ i → siskinref14_Digits.l0 k s acc i = some (digitsEnd (decFrom acc (s.data.toList.drop i))) := by
  intro j
  induction j with
  | zero =>
    intro i acc k hi hk ha
    obtain ⟨k, rfl⟩ : ∃ m, k = m + 1 := ⟨k - 1, by omega⟩
    rw [siskinref14_Digits.l0, if_neg (by omega), List.drop_eq_nil_of_le (by rw [Array.length_toList]; show s.size ≤ i; omega)]
    simp only [decFrom, digitsEnd]
    split <;> rfl
  | succ j ih =>
    intro i acc k hi hk ha
    obtain ⟨k, rfl⟩ : ∃ m, k = m + 1 := ⟨k - 1, by omega⟩
    obtain ⟨c, hd, hb⟩ := bt_drop s i (by omega)
    have hc : c.toNat < 256 := c.toNat_lt
    rw [siskinref14_Digits.l0, if_pos (by omega), if_pos (by omega), hb, hd]
    simp only [decFrom, digitVal]
    by_cases h1 : c.toNat < 48
    · rw [if_pos (by omega), if_neg (by omega)]; rfl
    · rw [if_neg (by omega)]
      by_cases h2 : c.toNat > 57
      · rw [if_pos (by omega), if_neg (by omega)]; rfl
      · rw [if_neg (by omega), if_pos (by omega)]
        have hi16 : i ≤ 16 := by omega
        have hp : (10 : Nat) ^ i ≤ 10000000000000000 := Nat.le_trans (Nat.pow_le_pow_right (by decide) hi16) (Nat.le_refl (10 ^ 16))
        have hs1 := step_num acc c.toNat (10 ^ i) ha hp (Nat.le_of_not_lt h1) (Nat.le_of_not_lt h2)
        have e2 : wrap64 ((i : Int) + 1) = ((i + 1 : Nat) : Int) := next_i i hi16
        rw [hs1.1, e2]
        exact ih (i + 1) _ k (by omega) (by omega) (by rw [Nat.pow_succ]; exact hs1.2)
theorem val_end (l : List UInt8) (h1 : 1 ≤ l.length) (h17 : l.length ≤ 17) (hz : ¬ (l.head? = some 48 ∧ 1 < l.length)) : conf_Digits.val l = digitsEnd (decFrom 0 l) := by
  unfold conf_Digits.val
  rw [atoiAll_short l (by omega)]
  cases l with
  | nil => simp at h1
  | cons b r =>
    cases hd : decFrom 0 (b :: r) with
    | some n =>
      have hb : ∃ d, digitVal b = some d := by
        simp only [decFrom] at hd
        split at hd
        · rename_i d hd'; exact ⟨d, hd'⟩
        · cases hd
      obtain ⟨d, hb⟩ := hb
      have hb2 := digitVal_eq hb
      have n45 : (b == 45) = false := beq_eq_false_iff_ne.mpr (fun e => by subst e; simp at hb2)
      have n43 : (b == 43) = false := beq_eq_false_iff_ne.mpr (fun e => by subst e; simp at hb2)
      have hc := Own.canon (b :: r) n (by simp) hz hd
      simp only [atoi, n45, n43, decNat, hd, NumEnd.ofOption, digitsEnd, Bool.false_eq_true, if_false, List.isEmpty_cons, Option.map_some, itoa_nonneg, hc]
      by_cases hm : (n : Int) ≤ 72057594037927935
      · rw [if_pos (by refine ⟨by omega, hm, ?_⟩; trivial), if_neg (by omega)]
      · rw [if_neg (fun h => hm h.2.1), if_pos (by omega)]
    | none =>
      simp only [digitsEnd]
      split
      · rename_i n hn
        split
        · rename_i hh
          have := Own.dec_round n.toNat
          rw [← itoa_nonneg, Int.toNat_of_nonneg hh.1, hh.2.2, hd] at this
          cases this
        · rfl
      · rfl
theorem val_none (l : List UInt8) (h : l.length < 1 ∨ 17 < l.length ∨ (l.head? = some 48 ∧ 1 < l.length)) : conf_Digits.val l = (0, false) := by
  unfold conf_Digits.val
  split
  · rename_i n hn
    split
    · rename_i hh
      exfalso
      have e : decDigits n.toNat = l := by rw [← itoa_nonneg, Int.toNat_of_nonneg hh.1]; exact hh.2.2
      rcases h with h | h | h
      · have := Own.dec_ne n.toNat
        rw [e] at this
        cases l with
        | nil => exact this rfl
        | cons => simp at h
      · have := Own.dec_len 16 n.toNat (by have := hh.2.1; omega)
        rw [e] at this; omega
      · rw [← e] at h; exact Own.dec_canon _ h
    · rfl
  · rfl
theorem digits_same (s : ByteArray) (k : Nat) : siskinref14_Digits.f (k + 20) s = some (conf_Digits.val s.data.toList) := by
  have hl : s.data.toList.length = s.size := by rw [Array.length_toList]; rfl
  unfold siskinref14_Digits.f
  by_cases h1 : (s.size : Int) < 1
  · rw [if_pos h1, val_none _ (.inl (by omega)), siskinref14_Digits.j0, if_pos rfl]
  · rw [if_neg h1]
    by_cases h2 : (s.size : Int) > 17
    · rw [if_pos h2, val_none _ (.inr (.inl (by omega))), siskinref14_Digits.j0, if_pos rfl]
    · rw [if_neg h2, if_pos (by omega)]
      obtain ⟨c, hd, hb⟩ := bt_drop s 0 (by omega)
      rw [List.drop_zero] at hd
      have hlp := digits_loop s (by omega) s.size 0 0 (k + 19) (by omega) (by omega) (by decide)
      rw [List.drop_zero] at hlp
      have hb' : bt s 0 = (c.toNat : Int) := hb
      rw [hb']
      by_cases h3 : (c.toNat : Int) = 48
      · rw [if_pos h3]
        have c48 : c = 48 := UInt8.toNat_inj.mp (by simp; omega)
        by_cases h4 : (s.size : Int) > 1
        · rw [decide_eq_true h4, val_none _ (.inr (.inr ⟨by rw [hd, c48]; rfl, by omega⟩)), siskinref14_Digits.j0, if_pos rfl]
        · rw [decide_eq_false h4, val_end _ (by omega) (by omega) (by omega), siskinref14_Digits.j0, if_neg (by decide)]
          exact hlp
      · rw [if_neg h3, val_end _ (by omega) (by omega) (fun h => h3 (by rw [hd] at h; have := h.1; simp at this; subst this; rfl)), siskinref14_Digits.j0, if_neg (by decide)]
        exact hlp
theorem numbers_true (a0 : Int) (a1 : ByteArray) (h0 : -9223372036854775808 ≤ a0 ∧ a0 ≤ 9223372036854775807) : siskinlaw14_ConfNumbers.f 200 a0 a1 = some true := by
  unfold siskinlaw14_ConfNumbers.f
  have hw : siskinlaw14_works.f 200 = some true := by have := works_le 100; exact this
  by_cases h : (a1.size : Int) > 100
  · rw [if_pos h, hw]; rfl
  · rw [if_neg h]
    have e1 : conf_Digits.f a1 = some (conf_Digits.val a1.data.toList) := by unfold conf_Digits.f; rw [if_pos (by omega)]
    have e2 : siskinref14_Digits.f 200 a1 = some (conf_Digits.val a1.data.toList) := digits_same a1 180
    have e3 : conf_Number.f a0 = some ⟨(Lib.itoa a0).toArray⟩ := by unfold conf_Number.f; rw [if_pos h0]
    have e4 : siskinref14_Number.f a0 = some ⟨(Lib.itoa a0).toArray⟩ := by unfold siskinref14_Number.f; rw [if_pos h0]
    rw [e1, e2, e3, e4, hw]
    simp
end Go.Proofs.YtmppkcdphgelcaaDoor.PConf
namespace Go.Proofs.YtmppkcdphgelcaaDoor.LawNumbers
open Go.ChangeShapes Go.WideShapes Go.ChangeAt Go.RowKit Go.Proofs.YtmppkcdphgelcaaDoor Go.Lib
open Go.ChangeMaps (open_string shut_string)
set_option maxRecDepth 100000 in
theorem lifted (os : Os) (started : os.Started) (H : Type) (enc : TypeId × Value → H) :
    ReturnsInHanded {} Tryd.checked os 4 .any (fun w args => (Rows.confNumbersSpec.pre enc Tryd.prog Tryd.f4 [] false w args ∧ laidMetH Tryd.prog Rows.confNumbersRow.laid w) ∧ sizedMet enc Tryd.prog Tryd.f4 (OpenSpec.ofChange Rows.confNumbersSpec) false w args)
      (Rows.confNumbersSpec.post enc Tryd.prog Tryd.f4 false true false false) := by
  refine lift_both (C := Tryd.checked) (X := fun w _ => laidMetH Tryd.prog Rows.confNumbersRow.laid w) (fun _ _ _ hh h => h.of_heap hh) row_own started (by kernel_rfl) Tryd.func4
    (ChangeSpec.witness_shaped (enc := enc) (C := Tryd.checked) (os := os) (X := fun w _ => laidMetH Tryd.prog Rows.confNumbersRow.laid w) false (World.laidAll Tryd.prog os Rows.confNumbersRow.laid) #[.int .i64 0, .string ByteArray.empty] 8 (World.laidAll_os _ _ _)
      (World.shaped_of_ZipB (by kernel_rfl) (by kernel_rfl)) (by kernel_rfl) (by kernel_rfl) (by kernel_rfl)
      (by rw [MakeChecks.laidMetH_plain _ _ _ (by kernel_rfl)]; exact laidMet_laidAll _ (by kernel_rfl) (by kernel_rfl))) ?_
  intro W base args ds gs before hval0 hW hsz0 hLm hsh
  have hval : ∀ (j : Nat) t v, Tryd.f4.params[j]? = some t → args[j]? = some v → Value.okWide Tryd.prog W .any base t v := hval0
  have hW' := hW
  obtain ⟨p, q, hA0, hV, rfl, hfz, hnd⟩ := hW
  have hA : DataW.TrodAll enc Tryd.prog W 0 (fun _ => true) true Tryd.f4.params.toList args.toList ds p := hA0
  rw [Tryd.params4] at hA hval
  obtain ⟨v0, v1, d0, d1, p0, p1, rfl, rfl, rfl, h0, h1⟩ := trodAll_two hA
  obtain ⟨rfl, rfl⟩ := trodVars_none hV
  obtain ⟨a0, rfl, rfl, rfl, w0⟩ := open_int Tryd.underlying3 (hval 0 3 v0 rfl rfl) h0
  obtain ⟨a1, rfl, rfl, rfl, y1⟩ := open_string Tryd.underlying9 (hval 1 9 v1 rfl rfl) h1
  have hL : Laid W := by
    rw [MakeChecks.laidMetH_plain _ _ _ (by kernel_rfl)] at hLm
    exact laid_of hLm hsh (List.mem_of_getElem? (i := 2) rfl) (List.mem_of_getElem? (i := 5) rfl) (List.mem_of_getElem? (i := 4) rfl)
  have hr : -9223372036854775808 ≤ a0 ∧ a0 ≤ 9223372036854775807 := bounds_i64 w0
  have ht := PConf.numbers_true a0 a1 hr
  clear hA0 hval0 hsz0 hLm hsh
  refine (PConf.siskinlaw14_ConfNumbers.calls 200 a0 a1 true W hL ht).mono fun e W' ⟨he, bel⟩ => ?_
  subst he
  exact ⟨_, rfl, _, _, _, [], _, [], hW', trodAll_mk1 (shut_bool Tryd.underlying4 _), trodAll_mk2 (shut_int Tryd.underlying3 w0) (shut_string Tryd.underlying9 y1), rfl, bel.frame _, fun h => by cases h⟩
theorem holds : Rows.ConfNumbersSaid :=
  OpenClaim.holds_of_wide 4 Tryd.f4 rfl rfl rfl rfl rfl rfl rfl ⟨rfl, rfl, rfl, rfl, rfl⟩ rfl rfl rfl rfl rfl (by kernel_rfl) Tryd.func4 (by kernel_rfl)
    (of_decide_eq_true (by kernel_rfl)) (by unfold Func.isWrapper; first | (rw [if_pos (by decide +kernel)]; kernel_rfl) | (rw [if_neg (by decide +kernel)]; exact ⟨rfl, rfl⟩))
    (fun os started H enc _ => lifted os started H enc)
theorem card : Rows.ConfNumbersCardSaid :=
  Claim7.holds_tied_plain_at .later [] [.data, .data, .data, .data, .sentinel, .sentinel, .pinned] true (true, Rows.confNumbersCard.stood.harness.2) true holds (fun _ h => by cases h) (by kernel_rfl) (fun _ h => by cases h) confNumbers_row_tie rfl ⟨rfl, rfl⟩ (by kernel_rfl) rfl
    (fun f fn hf hfn => by
      obtain rfl : f = 4 := Option.some.inj ((show Tryd.prog.funcNamed "siskin/siskinlaw14.ConfNumbers" = some 4 by kernel_rfl).symm.trans hf) |>.symm
      obtain rfl : fn = Tryd.f4 := (Option.some.inj (Tryd.func4.symm.trans hfn)).symm
      exact ⟨by kernel_rfl, fun j t ht => by
        rw [Tryd.params4] at ht
        have hm : t ∈ [3, 9] := by simpa using Array.mem_of_getElem? ht
        have hall : ([3, 9].all fun u => !Tryd.prog.wantsStandIn u) = true := by kernel_rfl
        exact (show Tryd.prog.wantsStandIn t = false by simpa using List.all_eq_true.1 hall t hm)⟩)
    (by kernel_rfl)
end Go.Proofs.YtmppkcdphgelcaaDoor.LawNumbers
namespace Go.Proofs.YtmppkcdphgelcaaDoor
theorem confNumbers_card_holds : Rows.ConfNumbersCardSaid := LawNumbers.card
#print axioms confNumbers_card_holds
end Go.Proofs.YtmppkcdphgelcaaDoor
