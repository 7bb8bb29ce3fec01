/- ConfBack: for every two clusters the law answers true and leaves its arguments as they read; the variables of Go's library hold what the program's text lays (tied). -/
import Derived.Below
import Derived.Carry
import Derived.ChangeOld
import Derived.OpenShut
import Derived.ProofKit
import Derived.SevenTiedAt
import Derived.ShutString
import Derived.SizedLaws
import Derived.WalkKit
import Derived.Test.YtmppkcdphgelcaaDoorCards
import Derived.Test.YtmppkcdphgelcaaDoorRows
import Derived.Test.YtmppkcdphgelcaaDoorTie
import Derived.Test.YtmppkcdphgelcaaDoorZb1
import Derived.Test.YtmppkcdphgelcaaDoorZb2
import Derived.Test.YtmppkcdphgelcaaDoorZb3
import Derived.Test.YtmppkcdphgelcaaDoorZb4
import Derived.Test.YtmppkcdphgelcaaDoorZb5
import Derived.Test.YtmppkcdphgelcaaDoorZb6
import Derived.Test.YtmppkcdphgelcaaDoorZb7
namespace Go.Proofs.YtmppkcdphgelcaaDoor.LawBack
open Go.ChangeShapes Go.WideShapes Go.ChangeAt Go.RowKit Go.Proofs.YtmppkcdphgelcaaDoor Go.Lib
open Go.Proofs.YtmppkcdphgelcaaDoorW.PrintWords (Aside0)
set_option maxRecDepth 100000 in
theorem lifted (os : Os) (started : os.Started) (H : Type) (enc : TypeId × Value → H) :
    ReturnsInHanded {} Tryd.checked os 5 .any (fun w args => (Rows.confBackSpec.pre enc Tryd.prog Tryd.f5 [] false w args ∧ laidMetH Tryd.prog Rows.confBackRow.laid w) ∧ sizedMet enc Tryd.prog Tryd.f5 (OpenSpec.ofChange Rows.confBackSpec) false w args)
      (Rows.confBackSpec.post enc Tryd.prog Tryd.f5 false true false false) := by
  refine lift_both (C := Tryd.checked) (X := fun w _ => laidMetH Tryd.prog Rows.confBackRow.laid w) (fun _ _ _ hh h => h.of_heap hh) row_own started (by kernel_rfl) Tryd.func5
    (ChangeSpec.witness_shaped (enc := enc) (C := Tryd.checked) (os := os) (X := fun w _ => laidMetH Tryd.prog Rows.confBackRow.laid w) false (World.laidAll Tryd.prog os Rows.confBackRow.laid) #[.agg #[.int .i64 0, .int .i64 0, .int .i64 0, .int .i64 0, .int .i64 0, .slice none 0 0, .slice none 0 0], .agg #[.int .i64 0, .int .i64 0, .int .i64 0, .int .i64 0, .int .i64 0, .slice none 0 0, .slice none 0 0]] 8 (World.laidAll_os _ _ _)
      (World.shaped_of_ZipB (by kernel_rfl) (by kernel_rfl)) (by kernel_rfl) (by kernel_rfl) (by kernel_rfl)
      (by rw [MakeChecks.laidMetH_plain _ _ _ (by kernel_rfl)]; exact laidMet_laidAll _ (by kernel_rfl) (by kernel_rfl))) ?_
  intro W base args ds gs before hval0 hW hsz0 hLm hsh
  have hval : ∀ (j : Nat) t v, Tryd.f5.params[j]? = some t → args[j]? = some v → Value.okWide Tryd.prog W .any base t v := hval0
  have hW' := hW
  obtain ⟨p, q, hA0, hV, rfl, hfz, hnd⟩ := hW
  have hA : DataW.TrodAll enc Tryd.prog W 0 (fun _ => true) true Tryd.f5.params.toList args.toList ds p := hA0
  rw [Tryd.params5] at hA hval
  obtain ⟨v0, v1, d0, d1, p0, p1, rfl, rfl, rfl, h0, h1⟩ := trodAll_two hA
  obtain ⟨rfl, rfl⟩ := trodVars_none hV
  have k0 := h0
  have k1 := h1
  have lt0 : ∀ x ∈ p0, x.block < W.heap.size := by obtain ⟨m, hm⟩ := k0; exact DataW.trod_lt m _ _ _ hm
  have lt1 : ∀ x ∈ p1, x.block < W.heap.size := by obtain ⟨m, hm⟩ := k1; exact DataW.trod_lt m _ _ _ hm
  obtain ⟨c, A5, c5, A6, c6, hc⟩ := PConf.conf_in (hval 0 49 v0 rfl rfl) h0
  obtain ⟨d, B5, e5, B6, e6, hd⟩ := PConf.conf_in (hval 1 49 v1 rfl rfl) h1
  have hL : Laid W := by
    rw [MakeChecks.laidMetH_plain _ _ _ (by kernel_rfl)] at hLm
    exact laid_of hLm hsh (List.mem_of_getElem? (i := 2) rfl) (List.mem_of_getElem? (i := 5) rfl) (List.mem_of_getElem? (i := 4) rfl)
  obtain ⟨k, ht⟩ := PConf.back_true c d hc.nmLen hc.wkLen hd.nmLen hc.bits hd.bits
  have hcall := PConf.siskinlaw14_ConfBack.calls k c.a0 c.a1 c.a2 c.a3 c.a4 A5 c5 c.nm A6 c6 c.wk d.a0 d.a1 d.a2 d.a3 d.a4 B5 e5 d.nm B6 e6 d.wk true W hc.names hc.namesCap hc.works hc.worksCap hd.names hd.namesCap hd.works hd.worksCap hL ⟨rfl⟩ ht
  rw [← hc.val, ← hd.val] at hcall
  clear hA0 hval0 hsz0 hLm hsh
  refine hcall.mono fun e W' ⟨he, bel⟩ => ?_
  subst he
  exact ⟨_, rfl, _, _, _, [], _, [], hW', trodAll_mk1 (shut_bool Tryd.underlying4 _), trodAll_mk2 (Below.trod row_laidOut (by kernel_rfl) (of_decide_eq_true (by kernel_rfl)) k0 bel lt0) (Below.trod row_laidOut (by kernel_rfl) (of_decide_eq_true (by kernel_rfl)) k1 bel lt1), rfl, bel.frame _, fun h => by cases h⟩
theorem holds : Rows.ConfBackSaid :=
  OpenClaim.holds_of_wide 5 Tryd.f5 rfl rfl rfl rfl rfl rfl rfl ⟨rfl, rfl, rfl, rfl, rfl⟩ rfl rfl rfl rfl rfl (by kernel_rfl) Tryd.func5 (by kernel_rfl)
    (of_decide_eq_true (by kernel_rfl)) (by unfold Func.isWrapper; first | (rw [if_pos (by decide +kernel)]; kernel_rfl) | (rw [if_neg (by decide +kernel)]; exact ⟨rfl, rfl⟩))
    (fun os started H enc _ => lifted os started H enc)
theorem card : Rows.ConfBackCardSaid :=
  Claim7.holds_tied_plain_at .later [] [.data, .data, .data, .data, .sentinel, .sentinel, .pinned] true (true, Rows.confBackCard.stood.harness.2) true holds (fun _ h => by cases h) (by kernel_rfl) (fun _ h => by cases h) confBack_row_tie rfl ⟨rfl, rfl⟩ (by kernel_rfl) rfl
    (fun f fn hf hfn => by
      obtain rfl : f = 5 := Option.some.inj ((show Tryd.prog.funcNamed "siskin/siskinlaw14.ConfBack" = some 5 by kernel_rfl).symm.trans hf) |>.symm
      obtain rfl : fn = Tryd.f5 := (Option.some.inj (Tryd.func5.symm.trans hfn)).symm
      exact ⟨by kernel_rfl, fun j t ht => by
        rw [Tryd.params5] at ht
        have hm : t ∈ [49, 49] := by simpa using Array.mem_of_getElem? ht
        have hall : ([49, 49].all fun u => !Tryd.prog.wantsStandIn u) = true := by kernel_rfl
        exact (show Tryd.prog.wantsStandIn t = false by simpa using List.all_eq_true.1 hall t hm)⟩)
    (by kernel_rfl)
end Go.Proofs.YtmppkcdphgelcaaDoor.LawBack
namespace Go.Proofs.YtmppkcdphgelcaaDoor
theorem confBack_card_holds : Rows.ConfBackCardSaid := LawBack.card
#print axioms confBack_card_holds
end Go.Proofs.YtmppkcdphgelcaaDoor
