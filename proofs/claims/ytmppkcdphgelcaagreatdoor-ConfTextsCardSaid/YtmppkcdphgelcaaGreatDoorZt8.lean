/- ConfTexts: for every two clusters the law answers true and leaves its arguments as they read; the variables of Go's library hold what the program's text lays (tied). -/
import Derived.Below
import Derived.Carry
import Derived.ChangeArms
import Derived.ChangeOld
import Derived.ChangeSame
import Derived.IntWalk
import Derived.KernelRfl
import Derived.Laws.BitsLemmas
import Derived.Lib.AtoiTie
import Derived.Lib.IndexBytes
import Derived.Lib.IndexMore
import Derived.Lib.ItoaMem
import Derived.Lib.ItoaNum
import Derived.Lib.Join
import Derived.Lib.SplitLaws
import Derived.OpenShut
import Derived.ProofKit
import Derived.SevenTiedAt
import Derived.ShutString
import Derived.SizedLaws
import Derived.WalkKit
import Derived.WideShapes
import Derived.Test.YtmppkcdphgelcaaGreatDoorCards
import Derived.Test.YtmppkcdphgelcaaGreatDoorRows
import Derived.Test.YtmppkcdphgelcaaGreatDoorTie
import Derived.Test.YtmppkcdphgelcaaGreatDoorZt1
import Derived.Test.YtmppkcdphgelcaaGreatDoorZt2
import Derived.Test.YtmppkcdphgelcaaGreatDoorZt3
import Derived.Test.YtmppkcdphgelcaaGreatDoorZt4
import Derived.Test.YtmppkcdphgelcaaGreatDoorZt5
import Derived.Test.YtmppkcdphgelcaaGreatDoorZt6
import Derived.Test.YtmppkcdphgelcaaGreatDoorZt7
set_option linter.unusedVariables false
set_option linter.unusedSimpArgs false
namespace Go.Proofs.YtmppkcdphgelcaaGreatDoor.PConf
open Go.RowKit W.PrintWords Go.Lib
def decAt (s : ByteArray) : Nat × Nat := decodeN s.size (gb s 0) (gb s 1) (gb s 2) (gb s 3)
theorem size_whole (s : ByteArray) (hs : 0 < s.size) : (sizeN s.size (gb s 0) (gb s 1) (gb s 2) (gb s 3) = 0 → (decAt s).1 = 65533) ∧ 1 ≤ (decAt s).2 ∧ (decAt s).2 ≤ s.size := by
 unfold decAt
 rcases size_dec s.size (gb s 0) (gb s 1) (gb s 2) (gb s 3) (by omega) (gb_lt _ _) (gb_lt _ _) (gb_lt _ _) (gb_lt _ _) with ⟨h, e⟩ | ⟨h, _, e⟩ | ⟨h, _, _, _, e⟩ | ⟨h, _, _, _, _, e⟩ | ⟨h, _, _, _, _, _, e⟩ <;> rw [h, e] <;> refine ⟨fun h => ?_, ?_, ?_⟩ <;> first | omega | rfl
theorem wrap_int (x : Int) (h : -9223372036854775808 ≤ x) (h' : x ≤ 9223372036854775807) : wrap64 x = x := by unfold wrap64; omega
theorem first2 (g0 g1 : Nat) (l0 : g0 < 256) (l1 : g1 < 256) (h0 : 194 ≤ g0) (h1 : 128 ≤ g1) : wrap64 ((wrap64 ((wrap64 ((wrap64 ((wrap64 (g0 : Int)) - 192)) * 64)) + (wrap64 (g1 : Int)))) - 128) = (((g0 - 192) * 64 + g1 - 128 : Nat) : Int) := by
 rw [wrap_int g0 (by omega) (by omega), wrap_int g1 (by omega) (by omega), wrap_int ((g0 : Int) - 192) (by omega) (by omega), wrap_int (((g0 : Int) - 192) * 64) (by omega) (by omega), wrap_int (((g0 : Int) - 192) * 64 + g1) (by omega) (by omega), wrap_int (((g0 : Int) - 192) * 64 + g1 - 128) (by omega) (by omega)]
 omega
theorem first3 (g0 g1 g2 : Nat) (l0 : g0 < 256) (l1 : g1 < 256) (l2 : g2 < 256) (h0 : 224 ≤ g0) (h1 : 128 ≤ g1) (h2 : 128 ≤ g2) : wrap64 ((wrap64 ((wrap64 ((wrap64 ((wrap64 ((wrap64 (g0 : Int)) - 224)) * 4096)) + (wrap64 ((wrap64 ((wrap64 (g1 : Int)) - 128)) * 64)))) + (wrap64 (g2 : Int)))) - 128) = (((g0 - 224) * 4096 + (g1 - 128) * 64 + g2 - 128 : Nat) : Int) := by
 rw [wrap_int g0 (by omega) (by omega), wrap_int g1 (by omega) (by omega), wrap_int g2 (by omega) (by omega), wrap_int ((g0 : Int) - 224) (by omega) (by omega), wrap_int ((g1 : Int) - 128) (by omega) (by omega), wrap_int (((g0 : Int) - 224) * 4096) (by omega) (by omega), wrap_int (((g1 : Int) - 128) * 64) (by omega) (by omega),
  wrap_int (((g0 : Int) - 224) * 4096 + ((g1 : Int) - 128) * 64) (by omega) (by omega), wrap_int (((g0 : Int) - 224) * 4096 + ((g1 : Int) - 128) * 64 + g2) (by omega) (by omega), wrap_int (((g0 : Int) - 224) * 4096 + ((g1 : Int) - 128) * 64 + g2 - 128) (by omega) (by omega)]
 omega
theorem first4 (g0 g1 g2 g3 : Nat) (l0 : g0 < 256) (l1 : g1 < 256) (l2 : g2 < 256) (l3 : g3 < 256) (h0 : 240 ≤ g0) (h1 : 128 ≤ g1) (h2 : 128 ≤ g2) (h3 : 128 ≤ g3) : wrap64 ((wrap64 ((wrap64 ((wrap64 ((wrap64 ((wrap64 ((wrap64 (g0 : Int)) - 240)) * 262144)) + (wrap64 ((wrap64 ((wrap64 (g1 : Int)) - 128)) * 4096)))) + (wrap64 ((wrap64 ((wrap64 (g2 : Int)) - 128)) * 64)))) + (wrap64 (g3 : Int)))) - 128) = (((g0 - 240) * 262144 + (g1 - 128) * 4096 + (g2 - 128) * 64 + g3 - 128 : Nat) : Int) := by
 rw [wrap_int g0 (by omega) (by omega), wrap_int g1 (by omega) (by omega), wrap_int g2 (by omega) (by omega), wrap_int g3 (by omega) (by omega), wrap_int ((g0 : Int) - 240) (by omega) (by omega), wrap_int ((g1 : Int) - 128) (by omega) (by omega), wrap_int ((g2 : Int) - 128) (by omega) (by omega), wrap_int (((g0 : Int) - 240) * 262144) (by omega) (by omega), wrap_int (((g1 : Int) - 128) * 4096) (by omega) (by omega), wrap_int (((g2 : Int) - 128) * 64) (by omega) (by omega),
  wrap_int (((g0 : Int) - 240) * 262144 + ((g1 : Int) - 128) * 4096) (by omega) (by omega), wrap_int (((g0 : Int) - 240) * 262144 + ((g1 : Int) - 128) * 4096 + ((g2 : Int) - 128) * 64) (by omega) (by omega), wrap_int (((g0 : Int) - 240) * 262144 + ((g1 : Int) - 128) * 4096 + ((g2 : Int) - 128) * 64 + g3) (by omega) (by omega), wrap_int (((g0 : Int) - 240) * 262144 + ((g1 : Int) - 128) * 4096 + ((g2 : Int) - 128) * 64 + g3 - 128) (by omega) (by omega)]
 omega
theorem ref_first (k : Nat) (s : ByteArray) (hs : 0 < s.size) : sr04_First.f (k + 12) s = some (((decAt s).1 : Int), ((decAt s).2 : Int)) := by
 unfold sr04_First.f decAt
 rw [ref_size k s hs]
 simp only [Option.bind_some]
 have b0 : bt s 0 = (gb s 0 : Int) := bt_gb s 0
 have b1 : bt s 1 = (gb s 1 : Int) := bt_gb s 1
 have b2 : bt s 2 = (gb s 2 : Int) := bt_gb s 2
 have b3 : bt s 3 = (gb s 3 : Int) := bt_gb s 3
 rw [b0, b1, b2, b3]
 have l0 := gb_lt s 0
 have l1 := gb_lt s 1
 have l2 := gb_lt s 2
 have l3 := gb_lt s 3
 rcases size_dec s.size (gb s 0) (gb s 1) (gb s 2) (gb s 3) (by omega) l0 l1 l2 l3 with ⟨h, e⟩ | ⟨h, g0, e⟩ | ⟨h, n, g0, g1, e⟩ | ⟨h, n, g0, g1, g2, e⟩ | ⟨h, n, g0, g1, g2, g3, e⟩ <;> rw [h, e]
 ·
  rfl
 ·
  rw [if_neg (by omega), if_pos (by omega), if_pos (by omega), wrap_nat _ (by omega)]; rfl
 ·
  rw [if_neg (by omega), if_pos (by omega), if_neg (by omega), if_pos (by omega), if_pos (by omega), first2 _ _ l0 l1 g0 g1]; rfl
 ·
  rw [if_neg (by omega), if_pos (by omega), if_neg (by omega), if_neg (by omega), if_pos (by omega), if_pos (by omega), if_pos (by omega), first3 _ _ _ l0 l1 l2 g0 g1 g2]; rfl
 ·
  rw [if_neg (by omega), if_pos (by omega), if_neg (by omega), if_neg (by omega), if_neg (by omega), if_pos (by omega), if_pos (by omega), if_pos (by omega), first4 _ _ _ _ l0 l1 l2 l3 g0 g1 g2 g3]; rfl
theorem gb_drop (s : ByteArray) (pos i : Nat) : gb (s.extract pos s.size) i = gb s (pos + i) := by
 have h := bt_gb (s.extract pos s.size) i
 have h' := bt_gb s (pos + i)
 have : bt (s.extract pos s.size) (i : Int) = bt s ((pos + i : Nat) : Int) := by
  unfold bt
  simp only [Int.toNat_natCast, ByteArray.size_extract, Nat.min_self]
  by_cases hi : pos + i < s.size
  ·
   rw [dif_pos (by omega), dif_pos hi]
   simp [ByteArray.getElem_extract]
  ·
   rw [dif_neg (by omega), dif_neg hi]
 omega
theorem decAt_drop (s : ByteArray) (pos : Nat) : decAt (s.extract pos s.size) = Utf8.decode s pos := by
 unfold decAt
 rw [decode_at, gb_drop, gb_drop, gb_drop, gb_drop]
 simp only [ByteArray.size_extract, Nat.min_self, Nat.add_zero]
 rfl
def runesL (s : ByteArray) : Nat → Nat → List S74
 | 0, _ => []
 | f + 1, pos => if pos < s.size then ⟨pos, ((Utf8.decode s pos).1 : Nat), decide (sizeN (s.size - pos) (gb s pos) (gb s (pos + 1)) (gb s (pos + 2)) (gb s (pos + 3)) > 0)⟩ :: runesL s f (pos + (Utf8.decode s pos).2) else []
theorem dec_step (s : ByteArray) (pos : Nat) (h : pos < s.size) : 1 ≤ (Utf8.decode s pos).2 ∧ pos + (Utf8.decode s pos).2 ≤ s.size ∧ (sizeN (s.size - pos) (gb s pos) (gb s (pos + 1)) (gb s (pos + 2)) (gb s (pos + 3)) = 0 → (Utf8.decode s pos).1 = 65533) := by
 have hz : (s.extract pos s.size).size = s.size - pos := by simp
 have := size_whole (s.extract pos s.size) (by omega)
 rw [decAt_drop, gb_drop, gb_drop, gb_drop, gb_drop, Nat.add_zero, hz] at this
 exact ⟨this.2.1, by omega, this.1⟩
theorem runes_loop (s : ByteArray) (hs : s.size ≤ 1000000000) : ∀ (f pos k : Nat) (acc : List S74), s.size ≤ pos + f → f + 13 ≤ k → acc.length ≤ pos → sr04_Runes.l0 k s acc pos = some (acc ++ runesL s f pos) := by
 intro f
 induction f with
 | zero =>
  intro pos k acc h hk ha
  obtain ⟨k, rfl⟩ : ∃ m, k = m + 1 := ⟨k - 1, by omega⟩
  rw [sr04_Runes.l0, if_neg (by omega), runesL, List.append_nil]
 | succ f ih =>
  intro pos k acc h hk ha
  obtain ⟨k, rfl⟩ : ∃ m, k = m + 12 + 1 := ⟨k - 13, by omega⟩
  by_cases hp : pos < s.size
  ·
   have hz : (s.extract pos s.size).size = s.size - pos := by simp
   obtain ⟨d1, d2, _⟩ := dec_step s pos hp
   rw [sr04_Runes.l0, if_pos (by omega), if_pos (by omega), if_pos (by omega), Int.toNat_natCast, ref_first k _ (by omega), ref_size k _ (by omega)]
   simp only [Option.bind_some]
   rw [if_pos (by omega), decAt_drop, hz, gb_drop, gb_drop, gb_drop, gb_drop]
   simp only [Nat.add_zero]
   have hd : decide (((sizeN (s.size - pos) (gb s pos) (gb s (pos + 1)) (gb s (pos + 2)) (gb s (pos + 3)) : Nat) : Int) > 0) = decide (sizeN (s.size - pos) (gb s pos) (gb s (pos + 1)) (gb s (pos + 2)) (gb s (pos + 3)) > 0) := decide_eq_decide.mpr (by omega)
   have hw : wrap64 ((pos : Int) + ((Utf8.decode s pos).2 : Int)) = ((pos + (Utf8.decode s pos).2 : Nat) : Int) := wrap_nat (pos + (Utf8.decode s pos).2) (by omega)
   rw [hw, ih _ _ _ (by omega) (by omega) (by simp; omega), runesL, if_pos hp, List.append_assoc]
   rw [hd]; rfl
  ·
   rw [sr04_Runes.l0, if_neg (by omega), runesL, if_neg hp, List.append_nil]
theorem letter_ref (c : Int) : sr04_Letter.f c = some (glyph_Name.letter c) := (show sr04_Letter.f c = glyph_Letter.f c from rfl).trans (glyph_Name.letter_some c)
theorem letter_bad : glyph_Name.letter 65533 = false := by unfold glyph_Name.letter glyph_Letter.f; decide
def okRune (r : S74) : Bool := r.f2 && glyph_Name.letter r.f1
def nameEnd (l : List S74) : Bool := decide (0 < l.length) && (decide (l.length ≤ 16) && decide ((rd_T74 l 0).f1 > 57))
theorem name_loop (l : List S74) (hl : l.length ≤ 1000000000) : ∀ (j i k : Nat), i + j = l.length → j < k → sr04_Name.l0 k l i = some ((l.drop i).all okRune && nameEnd l) := by
 intro j
 induction j with
 | zero =>
  intro i k hi hk
  obtain ⟨k, rfl⟩ : ∃ m, k = m + 1 := ⟨k - 1, by omega⟩
  rw [sr04_Name.l0, if_neg (by omega), List.drop_eq_nil_of_le (by omega)]
  unfold nameEnd
  by_cases h0 : 0 < l.length
  ·
   rw [if_pos (by omega)]
   by_cases h1 : l.length ≤ 16
   ·
    rw [if_pos (by omega), if_pos (by omega)]; simp [h0, h1]
   ·
    rw [if_neg (by omega)]; simp [h1]
  ·
   rw [if_neg (by omega)]; simp [h0]
 | succ j ih =>
  intro i k hi hk
  obtain ⟨k, rfl⟩ : ∃ m, k = m + 1 := ⟨k - 1, by omega⟩
  have hlt : i < l.length := by omega
  have hrd : rd_T74 l (i : Int) = l[i] := by unfold rd_T74; rw [Int.toNat_natCast, List.getD_eq_getElem?_getD, List.getElem?_eq_getElem hlt]; rfl
  rw [sr04_Name.l0, if_pos (by omega), if_pos (by omega), hrd, List.drop_eq_getElem_cons hlt, List.all_cons]
  unfold okRune
  by_cases h2 : l[i].f2 = true
  ·
   rw [if_pos h2, letter_ref]
   simp only [Option.bind_some]
   by_cases h3 : glyph_Name.letter l[i].f1 = true
   ·
    rw [if_pos h3, show wrap64 ((i : Int) + 1) = ((i + 1 : Nat) : Int) from wrap_nat (i + 1) (by omega), ih (i + 1) k (by omega) (by omega), h2, h3]
    simp only [Bool.and_self, Bool.true_and]
    rfl
   ·
    rw [if_neg h3, eq_false_of_ne_true h3]; simp
  ·
   rw [if_neg h2, eq_false_of_ne_true h2]; simp
theorem from_runes (s : ByteArray) : ∀ (f pos n : Nat), s.size ≤ pos + f → glyph_Name.from s f pos n = ((runesL s f pos).all okRune && (decide (1 ≤ n + (runesL s f pos).length ∧ n + (runesL s f pos).length ≤ 16) && (!decide (n = 0) || !decide (0 < (runesL s f pos).length) || decide ((rd_T74 (runesL s f pos) 0).f1 > 57)))) := by
 intro f
 induction f with
 | zero => intro pos n h; simp [glyph_Name.from, runesL]; exact (Bool.decide_and _ _).symm
 | succ f ih =>
  intro pos n h
  unfold glyph_Name.from runesL
  by_cases hp : pos < s.size
  ·
   rw [if_pos hp, if_pos hp]
   obtain ⟨d1, d2, d3⟩ := dec_step s pos hp
   have hrd : ∀ l, rd_T74 ((⟨pos, ((Utf8.decode s pos).1 : Nat), decide (sizeN (s.size - pos) (gb s pos) (gb s (pos + 1)) (gb s (pos + 2)) (gb s (pos + 3)) > 0)⟩ : S74) :: l) 0 = ⟨pos, ((Utf8.decode s pos).1 : Nat), decide (sizeN (s.size - pos) (gb s pos) (gb s (pos + 1)) (gb s (pos + 2)) (gb s (pos + 3)) > 0)⟩ := fun l => rfl
   rw [hrd, List.all_cons, List.length_cons]
   by_cases hl : glyph_Name.letter ((Utf8.decode s pos).1 : Nat) = true
   ·
    have hsz : sizeN (s.size - pos) (gb s pos) (gb s (pos + 1)) (gb s (pos + 2)) (gb s (pos + 3)) > 0 := by
     by_cases h0 : sizeN (s.size - pos) (gb s pos) (gb s (pos + 1)) (gb s (pos + 2)) (gb s (pos + 3)) = 0
     ·
      rw [d3 h0] at hl
      exact absurd hl (by rw [show ((65533 : Nat) : Int) = 65533 from rfl, letter_bad]; decide)
     ·
      omega
    have ho : okRune ⟨pos, ((Utf8.decode s pos).1 : Nat), decide (sizeN (s.size - pos) (gb s pos) (gb s (pos + 1)) (gb s (pos + 2)) (gb s (pos + 3)) > 0)⟩ = true := by
     unfold okRune; simp [hl, hsz]
    rw [ho]
    by_cases hn : n = 0 ∧ (Utf8.decode s pos).1 ≤ 57
    ·
     rw [if_neg (fun h => h.2 hn)]
     have : decide ((((Utf8.decode s pos).1 : Nat) : Int) > 57) = false := decide_eq_false (by omega)
     simp only [this]
     simp [hn.1]
    ·
     rw [if_pos ⟨hl, hn⟩, ih _ _ (by omega)]
     have hx : ((!decide (n = 0) || !decide (0 < (runesL s f (pos + (Utf8.decode s pos).2)).length + 1) || decide ((((Utf8.decode s pos).1 : Nat) : Int) > 57)) : Bool) = true := by
      by_cases h0 : n = 0
      ·
       have : ¬ (Utf8.decode s pos).1 ≤ 57 := fun h => hn ⟨h0, h⟩
       simp; right; omega
      ·
       simp [h0]
     simp only [hx, Bool.true_and, Bool.and_true]
     rw [show n + 1 + (runesL s f (pos + (Utf8.decode s pos).2)).length = n + ((runesL s f (pos + (Utf8.decode s pos).2)).length + 1) by omega]
     simp
   ·
    rw [if_neg (fun h => hl h.1)]
    have ho : okRune ⟨pos, ((Utf8.decode s pos).1 : Nat), decide (sizeN (s.size - pos) (gb s pos) (gb s (pos + 1)) (gb s (pos + 2)) (gb s (pos + 3)) > 0)⟩ = false := by
     unfold okRune; simp [eq_false_of_ne_true hl]
    rw [ho]; rfl
  ·
   rw [if_neg hp, if_neg hp]; simp
theorem runes_len (s : ByteArray) : ∀ (f pos : Nat), (runesL s f pos).length ≤ f := by
 intro f
 induction f with
 | zero => intro pos; simp [runesL]
 | succ f ih =>
  intro pos
  unfold runesL
  split
  ·
   have := ih (pos + (Utf8.decode s pos).2); simp; omega
  ·
   simp
theorem ref_name (s : ByteArray) (hs : s.size ≤ 1000000000) (k : Nat) (hk : s.size + 14 ≤ k) : sr04_Name.f k s = some (glyph_Name.from s s.size 0 0) := by
 unfold sr04_Name.f sr04_Runes.f
 rw [show (0 : Int) = ((0 : Nat) : Int) from rfl, runes_loop s hs s.size 0 k [] (by omega) (by omega) (by simp)]
 have hl := runes_len s s.size 0
 simp only [Option.bind_some, List.nil_append]
 rw [name_loop _ (by omega) (runesL s s.size 0).length 0 k (by omega) (by omega), from_runes s s.size 0 0 (by omega), List.drop_zero]
 unfold nameEnd
 congr 2
 rw [Nat.zero_add]
 by_cases h : 0 < (runesL s s.size 0).length
 ·
  have h1 : 1 ≤ (runesL s s.size 0).length := h
  by_cases h2 : (runesL s s.size 0).length ≤ 16 <;> simp [h, h1, h2]
 ·
  have h1 : ¬ 1 ≤ (runesL s s.size 0).length := h
  simp [h, h1]
end Go.Proofs.YtmppkcdphgelcaaGreatDoor.PConf
namespace Go.Proofs.YtmppkcdphgelcaaGreatDoor.PConf
open Go.RowKit W.PrintWords W.PrintMore Go.Lib
theorem wrap_u64 (n : Int) (h0 : 0 ≤ n) (h : n < 18446744073709551616) : IntKind.u64.wrap n = n := by
 simp [IntKind.wrap, IntKind.bits, IntKind.signed]; omega
theorem wrap_u64' (n : Int) (h0 : 0 ≤ n) (h : n < 2 ^ 64) : IntKind.u64.wrap n = n := wrap_u64 n h0 (by omega)
theorem two_pow_le (n : Nat) (h : n ≤ 63) : 2 ^ n ≤ 9223372036854775808 := Nat.le_trans (Nat.pow_le_pow_right (by decide) h) (Nat.le_refl (2 ^ 63))
theorem bit_loop : ∀ (j i k : Nat), i + j ≤ 63 → j < k → sr05_Bit.l0 k ((i + j : Nat) : Int) ((2 ^ i : Nat) : Int) (i : Int) = some ((2 ^ (i + j) : Nat) : Int) := by
 intro j
 induction j with
 | zero =>
  intro i k h hk
  obtain ⟨k, rfl⟩ : ∃ m, k = m + 1 := ⟨k - 1, by omega⟩
  rw [sr05_Bit.l0, if_neg (by omega)]; rfl
 | succ j ih =>
  intro i k h hk
  obtain ⟨k, rfl⟩ : ∃ m, k = m + 1 := ⟨k - 1, by omega⟩
  have hp : 2 ^ i ≤ 4611686018427387904 := Nat.le_trans (Nat.pow_le_pow_right (by decide) (by omega)) (Nat.le_refl (2 ^ 62))
  rw [sr05_Bit.l0, if_pos (by omega), show wrap64 ((i : Int) + 1) = ((i + 1 : Nat) : Int) from wrap_nat (i + 1) (by omega), wrap_u64 _ (Int.mul_nonneg (Int.natCast_nonneg _) (by decide)) (by omega),
   show ((2 ^ i : Nat) : Int) * 2 = ((2 ^ (i + 1) : Nat) : Int) by rw [Nat.pow_succ]; omega, show i + (j + 1) = i + 1 + j by omega]
  exact ih (i + 1) k (by omega) (by omega)
theorem ref_bit (i k : Nat) (h : i ≤ 63) (hk : i < k) : sr05_Bit.f k i = some ((2 ^ i : Nat) : Int) := by
 have := bit_loop i 0 k (by omega) hk
 rw [Nat.zero_add] at this
 exact this
theorem ref_has (a i k : Nat) (h : i ≤ 63) (hk : i < k) (ha : a < 18446744073709551616) : sr05_Has.f k a i = some (a.testBit i) := by
 unfold sr05_Has.f
 rw [if_pos (by omega), if_pos (by omega), ref_bit i k h hk]
 simp only [Option.bind_some]
 have hp : 0 < 2 ^ i := Nat.two_pow_pos i
 have hd : a / 2 ^ i ≤ a := Nat.div_le_self _ _
 have hq : (a : Int) / ((2 ^ i : Nat) : Int) = ((a / 2 ^ i : Nat) : Int) := rfl
 rw [if_neg (by omega), Int.tdiv_eq_ediv_of_nonneg (by omega), hq, Nat.testBit_eq_decide_div_mod_eq]
 generalize a / 2 ^ i = q at *
 rw [wrap_u64 _ (by omega) (by omega), Int.tmod_eq_emod_of_nonneg (by omega)]
 congr 1
 by_cases hx : q % 2 = 1
 ·
  rw [decide_eq_true hx, show (q : Int) % 2 = 1 by omega]; rfl
 ·
  rw [decide_eq_false hx, show (q : Int) % 2 = 0 by omega]; rfl
theorem and_not (a n : Nat) (ha : a < 18446744073709551616) (hn : n ≤ 63) : (Go.bits .andNot .u64 a ((2 ^ n - 1 : Nat) : Int) = 0) ↔ a < 2 ^ n := by
 have hb : 2 ^ n - 1 < 18446744073709551616 := by have := two_pow_le n hn; omega
 have hw : ∀ z : BitVec IntKind.u64.bits, IntKind.u64.wrap (z.toNat : Int) = (z.toNat : Int) := fun z => wrap_u64' _ (by omega) (by have := z.isLt; exact_mod_cast this)
 unfold Go.bits
 simp only
 rw [hw]
 constructor
 ·
  intro h
  have hz : (BitVec.ofInt IntKind.u64.bits (a : Int) &&& ~~~(BitVec.ofInt IntKind.u64.bits ((2 ^ n - 1 : Nat) : Int))) = 0 := BitVec.eq_of_toNat_eq (by simpa using h)
  apply Nat.lt_pow_two_of_testBit
  intro i hi
  by_cases h64 : i < 64
  ·
   have := congrArg (fun v => BitVec.getLsbD v i) hz
   simp only [BitVec.getLsbD_and, BitVec.getLsbD_not, BitVec.ofInt_natCast, BitVec.getLsbD_ofNat, Nat.testBit_two_pow_sub_one] at this
   have h64' : i < IntKind.u64.bits := h64
   simp [h64'] at this
   have hni : ¬ i < n := by omega
   simpa [hni] using this
  ·
   exact Nat.testBit_lt_two_pow (Nat.lt_of_lt_of_le ha (Nat.le_trans (Nat.le_refl (2 ^ 64)) (Nat.pow_le_pow_right (by decide) (by omega))))
 ·
  intro h
  have hz : (BitVec.ofInt IntKind.u64.bits (a : Int) &&& ~~~(BitVec.ofInt IntKind.u64.bits ((2 ^ n - 1 : Nat) : Int))) = 0 := by
   apply BitVec.eq_of_getLsbD_eq
   intro i hi
   simp only [BitVec.getLsbD_and, BitVec.getLsbD_not, BitVec.ofInt_natCast, BitVec.getLsbD_ofNat, Nat.testBit_two_pow_sub_one]
   by_cases hin : i < n
   ·
    simp [hin, hi]
   ·
    have : a.testBit i = false := Nat.testBit_lt_two_pow (Nat.lt_of_lt_of_le h (Nat.pow_le_pow_right (by decide) (by omega)))
    simp [this]
  rw [hz]; rfl
theorem below_eq (n : Nat) (h : n ≤ 63) : flock_Below.f n = some ((2 ^ n - 1 : Nat) : Int) := by
 unfold flock_Below.f
 by_cases h0 : n = 0
 ·
  subst h0; rfl
 ·
  have hp := two_pow_le n h
  have hp0 : 0 < 2 ^ n := Nat.two_pow_pos n
  have hs : shl .u64 1 (n : Int) = ((2 ^ n : Nat) : Int) := by
   unfold shl
   rw [show min ((n : Int)).toNat (IntKind.bits .u64) = n by show min n 64 = n; omega, Int.one_mul, show (2 : Int) ^ n = ((2 ^ n : Nat) : Int) by simp]
   exact wrap_u64 _ (by omega) (by omega)
  rw [if_neg (by omega), if_neg (by omega), if_pos (by omega), hs, wrap_u64 _ (by omega) (by omega)]
  congr 1; omega
def namesN (l : List ByteArray) : Int := if 16 < l.length then 1 else if names_Check.named l = false then 5 else if 0 ≤ firstN (names_Check.geq l) (l.length - 1) 0 then 1 else 0
theorem names_n (l : List ByteArray) (hs : ∀ s ∈ l, s.size ≤ 4611686018427387904) (hl : l.length ≤ 9223372036854775807) : names_Check.f l = some (namesN l) := by
 unfold names_Check.f namesN
 rw [if_pos ⟨hs, hl⟩]
theorem rdOf_at (l : List ByteArray) (i : Nat) (h : i < l.length) : rdOf ByteArray.empty l (i : Int) = l[i] := by
 unfold rdOf; rw [Int.toNat_natCast, List.getD_eq_getElem?_getD, List.getElem?_eq_getElem h]; rfl
theorem names_l1 (l : List ByteArray) (hl : l.length ≤ 16) : ∀ (j i k : Nat), i + 1 + j = l.length → j < k → sr05_Check.l1 k l ((i + 1 : Nat) : Int) = some (if 0 ≤ firstN (names_Check.geq l) j i then 1 else 0) := by
 intro j
 induction j with
 | zero =>
  intro i k h hk
  obtain ⟨k, rfl⟩ : ∃ m, k = m + 1 := ⟨k - 1, by omega⟩
  rw [sr05_Check.l1, if_neg (by omega), firstN]; rfl
 | succ j ih =>
  intro i k h hk
  obtain ⟨k, rfl⟩ : ∃ m, k = m + 1 := ⟨k - 1, by omega⟩
  have e1 : wrap64 (((i + 1 : Nat) : Int) - 1) = (i : Int) := by unfold wrap64; omega
  have e2 : wrap64 (((i + 1 : Nat) : Int) + 1) = ((i + 1 + 1 : Nat) : Int) := wrap_nat (i + 1 + 1) (by omega)
  rw [sr05_Check.l1, if_pos (by omega), if_pos (by omega), e1, e2, if_pos (by omega), if_pos (by omega), firstN]
  have hg : names_Check.geq l i = !(Op.bytesLess (rdOf ByteArray.empty l (i : Int)).toList (rdOf ByteArray.empty l ((i + 1 : Nat) : Int)).toList) := rfl
  by_cases hb : Op.bytesLess (rdOf ByteArray.empty l (i : Int)).toList (rdOf ByteArray.empty l ((i + 1 : Nat) : Int)).toList = true
  ·
   rw [if_pos hb, hg, hb]
   exact ih (i + 1) k (by omega) (by omega)
  ·
   rw [if_neg hb, hg, eq_false_of_ne_true hb]
   simp
theorem names_l0 (l : List ByteArray) (hl : l.length ≤ 16) (M : Nat) (hM : M ≤ 1000000000) (hs : ∀ s ∈ l, s.size ≤ M) : ∀ (j i k : Nat), i + j = l.length → j + 40 + M ≤ k → sr05_Check.l0 k l i = some (if (l.drop i).all (fun s => glyph_Name.from s s.size 0 0) = false then 5 else if 0 ≤ firstN (names_Check.geq l) (l.length - 1) 0 then 1 else 0) := by
 intro j
 induction j with
 | zero =>
  intro i k h hk
  obtain ⟨k, rfl⟩ : ∃ m, k = m + 1 := ⟨k - 1, by omega⟩
  rw [sr05_Check.l0, if_neg (by omega), List.drop_eq_nil_of_le (by omega)]
  rw [List.all_nil, if_neg (by decide)]
  by_cases h0 : l.length = 0
  ·
   obtain ⟨k, rfl⟩ : ∃ m, k = m + 1 := ⟨k - 1, by omega⟩
   rw [sr05_Check.l1, if_neg (by omega), h0]; rfl
  ·
   exact names_l1 l hl (l.length - 1) 0 k (by omega) (by omega)
 | succ j ih =>
  intro i k h hk
  obtain ⟨k, rfl⟩ : ∃ m, k = m + 1 := ⟨k - 1, by omega⟩
  have hlt : i < l.length := by omega
  have hz := hs l[i] (List.getElem_mem hlt)
  rw [sr05_Check.l0, if_pos (by omega), if_pos (by omega), rdOf_at l i hlt, ref_name _ (by omega) k (by omega), List.drop_eq_getElem_cons hlt, List.all_cons]
  simp only [Option.bind_some]
  by_cases hg : glyph_Name.from l[i] l[i].size 0 0 = true
  ·
   rw [if_pos hg, show wrap64 ((i : Int) + 1) = ((i + 1 : Nat) : Int) from wrap_nat (i + 1) (by omega), ih (i + 1) k (by omega) (by omega), hg, Bool.true_and]
  ·
   rw [if_neg hg, eq_false_of_ne_true hg]; rfl
theorem ref_names (l : List ByteArray) (M : Nat) (hM : M ≤ 1000000000) (hs : ∀ s ∈ l, s.size ≤ M) (k : Nat) (hk : 60 + M ≤ k) : sr05_Check.f k l = some (namesN l) := by
 unfold sr05_Check.f namesN
 by_cases h : 16 < l.length
 ·
  rw [if_pos (by omega), if_pos h]
 ·
  rw [if_neg (by omega), if_neg h]
  exact names_l0 l (by omega) M hM hs l.length 0 k (by omega) (by omega)
def okW (n : Nat) (w : S41) : Bool := decide (1 ≤ w.f0 ∧ w.f0 ≤ 255 ∧ 1 ≤ w.f1 ∧ w.f1 ≤ 64 ∧ w.f2 < ((2 ^ n : Nat) : Int))
def checkN (a0 a1 a2 a3 a4 : Int) (nm : List ByteArray) (wk : List S41) : Int :=
 if 1 ≤ a0 ∧ a0 ≤ 8 ∧ 1 ≤ a1 ∧ a1 ≤ 1000 ∧ 1 ≤ a2 ∧ a2 ≤ 1000 ∧ 0 ≤ a3 ∧ a3 ≤ 65536 ∧ 1 ≤ a4 ∧ a4 ≤ 16 then
  if namesN nm = 0 then if 1 ≤ wk.length ∧ wk.length ≤ 64 then if wk.all (okW nm.length) = true then 0 else 1 else 1 else namesN nm
 else 1
theorem in_eq (a lo hi : Int) : conf_in.f a lo hi = some (decide (lo ≤ a ∧ a ≤ hi)) := by
 unfold conf_in.f
 by_cases h : a ≥ lo
 ·
  rw [if_pos h]; simp [h]
 ·
  rw [if_neg h]; simp [show ¬ lo ≤ a from h]
theorem names_small {l : List ByteArray} (h : namesN l = 0) : l.length ≤ 16 := by
 unfold namesN at h
 by_cases h16 : 16 < l.length
 ·
  rw [if_pos h16] at h; cases h
 ·
  omega
theorem rd_wk (wk : List S41) (i : Nat) (h : i < wk.length) : rd_T41 wk (i : Int) = wk[i] := by
 unfold rd_T41; rw [Int.toNat_natCast, List.getD_eq_getElem?_getD, List.getElem?_eq_getElem h]; rfl
theorem check_loop (nm : List ByteArray) (hn : nm.length ≤ 16) (wk x6 : List S41) (hw : wk.length ≤ 64) (hb : ∀ w ∈ wk, 0 ≤ w.f2 ∧ w.f2 < 18446744073709551616) (a0 a1 a2 a3 a4 : Int) : ∀ (j i k : Nat), i + j = wk.length → j < k →
  conf_Check.l0 k wk (wk.length : Int) i a0 a1 a2 a3 a4 nm x6 = some (if (wk.drop i).all (okW nm.length) = true then 0 else 1) := by
 intro j
 induction j with
 | zero =>
  intro i k h hk
  obtain ⟨k, rfl⟩ : ∃ m, k = m + 1 := ⟨k - 1, by omega⟩
  rw [conf_Check.l0, if_neg (by omega), List.drop_eq_nil_of_le (by omega)]; rfl
 | succ j ih =>
  intro i k h hk
  obtain ⟨k, rfl⟩ : ∃ m, k = m + 1 := ⟨k - 1, by omega⟩
  have hlt : i < wk.length := by omega
  obtain ⟨b0, b1⟩ := hb wk[i] (List.getElem_mem hlt)
  obtain ⟨u, hu⟩ := Int.eq_ofNat_of_zero_le b0
  rw [conf_Check.l0, if_pos (by omega), if_pos (by omega), if_pos (by omega), rd_wk wk i hlt, in_eq, in_eq, below_eq _ (by omega), List.drop_eq_getElem_cons hlt, List.all_cons]
  simp only [Option.bind_some, decide_eq_true_eq]
  have ho : okW nm.length wk[i] = decide (1 ≤ wk[i].f0 ∧ wk[i].f0 ≤ 255 ∧ 1 ≤ wk[i].f1 ∧ wk[i].f1 ≤ 64 ∧ wk[i].f2 < ((2 ^ nm.length : Nat) : Int)) := rfl
  rw [ho, hu]
  by_cases h0 : 1 ≤ wk[i].f0 ∧ wk[i].f0 ≤ 255
  ·
   rw [if_pos h0]
   by_cases h1 : 1 ≤ wk[i].f1 ∧ wk[i].f1 ≤ 64
   ·
    rw [if_pos h1]
    have han := and_not u nm.length (by omega) (by omega)
    by_cases h2 : u < 2 ^ nm.length
    ·
     rw [if_pos (han.mpr h2), show wrap64 ((i : Int) + 1) = ((i + 1 : Nat) : Int) from wrap_nat (i + 1) (by omega), ih (i + 1) k (by omega) (by omega), decide_eq_true (by refine ⟨h0.1, h0.2, h1.1, h1.2, by omega⟩), Bool.true_and]
    ·
     rw [if_neg (fun h => h2 (han.mp h)), decide_eq_false (by omega)]; rfl
   ·
    rw [if_neg h1, decide_eq_false (fun h => h1 ⟨h.2.2.1, h.2.2.2.1⟩)]; rfl
  ·
   rw [if_neg h0, decide_eq_false (fun h => h0 ⟨h.1, h.2.1⟩)]; rfl
theorem conf_check (a0 a1 a2 a3 a4 : Int) (nm : List ByteArray) (wk : List S41) (hs : ∀ s ∈ nm, s.size ≤ 4611686018427387904) (hl : nm.length ≤ 9223372036854775807) (hb : ∀ w ∈ wk, 0 ≤ w.f2 ∧ w.f2 < 18446744073709551616) (k : Nat) (hk : 70 ≤ k) :
  conf_Check.f k a0 a1 a2 a3 a4 nm wk = some (checkN a0 a1 a2 a3 a4 nm wk) := by
 obtain ⟨k, rfl⟩ : ∃ m, k = m + 1 := ⟨k - 1, by omega⟩
 unfold conf_Check.f checkN
 simp only [in_eq, Option.bind_some, decide_eq_true_eq]
 have hj : ∀ b : Bool, conf_Check.j0 (k + 1) b a0 a1 a2 a3 a4 nm wk = if b = true then some 1 else (if namesN nm = 0 then (if 1 ≤ wk.length ∧ wk.length ≤ 64 then (if wk.all (okW nm.length) = true then some 0 else some 1) else some 1) else some (namesN nm)) := by
  intro b
  rw [conf_Check.j0]
  by_cases hbt : b = true
  ·
   rw [if_pos hbt, if_pos hbt]
  ·
   rw [if_neg hbt, if_neg hbt, names_n nm hs hl]
   simp only [Option.bind_some]
   by_cases hn : namesN nm = 0
   ·
    rw [if_pos hn, if_pos hn, in_eq]
    simp only [Option.bind_some, decide_eq_true_eq]
    by_cases hw : 1 ≤ wk.length ∧ wk.length ≤ 64
    ·
     rw [if_pos (by omega), if_pos hw]
     have := check_loop nm (names_small hn) wk wk hw.2 hb a0 a1 a2 a3 a4 wk.length 0 k (by omega) (by omega)
     rw [List.drop_zero] at this
     rw [show (0 : Int) = ((0 : Nat) : Int) from rfl, this]
     split <;> rfl
    ·
     rw [if_neg (by omega), if_neg hw]
   ·
    rw [if_neg hn, if_neg hn]
 by_cases r0 : 1 ≤ a0 ∧ a0 ≤ 8
 ·
  by_cases r1 : 1 ≤ a1 ∧ a1 ≤ 1000
  ·
   by_cases r2 : 1 ≤ a2 ∧ a2 ≤ 1000
   ·
    by_cases r3 : 0 ≤ a3 ∧ a3 ≤ 65536
    ·
     by_cases r4 : 1 ≤ a4 ∧ a4 ≤ 16
     ·
      rw [if_pos r0, if_pos r1, if_pos r2, if_pos r3, hj, decide_eq_true r4, if_neg (by decide), if_pos (show 1 ≤ a0 ∧ a0 ≤ 8 ∧ 1 ≤ a1 ∧ a1 ≤ 1000 ∧ 1 ≤ a2 ∧ a2 ≤ 1000 ∧ 0 ≤ a3 ∧ a3 ≤ 65536 ∧ 1 ≤ a4 ∧ a4 ≤ 16 by omega)]
      repeat' split
      all_goals rfl
     ·
      rw [if_pos r0, if_pos r1, if_pos r2, if_pos r3, hj, decide_eq_false r4, if_pos (by decide), if_neg (by omega)]
    ·
     rw [if_pos r0, if_pos r1, if_pos r2, if_neg r3, hj, if_pos rfl, if_neg (by omega)]
   ·
    rw [if_pos r0, if_pos r1, if_neg r2, hj, if_pos rfl, if_neg (by omega)]
  ·
   rw [if_pos r0, if_neg r1, hj, if_pos rfl, if_neg (by omega)]
 ·
  rw [if_neg r0, hj, if_pos rfl, if_neg (by omega)]
theorem has_loop (nm : List ByteArray) (wk : List S41) (a0 a1 a2 a3 a4 x4 w0 w1 : Int) (u : Nat) (hu : u < 18446744073709551616) : ∀ (j i k : Nat), i + j = 64 → j + 66 < k →
  sr14_Check.l1 k x4 i a0 a1 a2 a3 a4 nm wk w0 w1 u = if u < 2 ^ i then sr14_Check.l0 (k - j - 1) (wrap64 (x4 + 1)) a0 a1 a2 a3 a4 nm wk else some 1 := by
 intro j
 induction j with
 | zero =>
  intro i k h hk
  obtain ⟨k, rfl⟩ : ∃ m, k = m + 1 := ⟨k - 1, by omega⟩
  rw [sr14_Check.l1, if_neg (by omega), if_pos (by rw [show i = 64 by omega]; exact hu)]; rfl
 | succ j ih =>
  intro i k h hk
  obtain ⟨k, rfl⟩ : ∃ m, k = m + 1 := ⟨k - 1, by omega⟩
  rw [sr14_Check.l1, if_pos (by omega), ref_has u i k (by omega) (by omega) hu]
  simp only [Option.bind_some]
  by_cases hb : u.testBit i = true
  ·
   rw [if_pos hb, if_neg (fun hlt => by rw [Nat.testBit_lt_two_pow hlt] at hb; cases hb)]
  ·
   rw [if_neg hb, show wrap64 ((i : Int) + 1) = ((i + 1 : Nat) : Int) from wrap_nat (i + 1) (by omega), ih (i + 1) k (by omega) (by omega), show k + 1 - (j + 1) - 1 = k - j - 1 by omega]
   have hiff : u < 2 ^ (i + 1) ↔ u < 2 ^ i := by
    constructor
    ·
     intro hlt
     apply Nat.lt_pow_two_of_testBit
     intro m hm
     rcases Nat.lt_or_ge i m with h1 | h1
     ·
      exact Nat.testBit_lt_two_pow (Nat.lt_of_lt_of_le hlt (Nat.pow_le_pow_right (by decide) (by omega)))
     ·
      rw [show m = i by omega]; exact eq_false_of_ne_true hb
    ·
     intro hlt; exact Nat.lt_of_lt_of_le hlt (Nat.pow_le_pow_right (by decide) (by omega))
   by_cases hx : u < 2 ^ i
   ·
    rw [if_pos (hiff.mpr hx), if_pos hx]
   ·
    rw [if_neg (fun h => hx (hiff.mp h)), if_neg hx]
theorem ref_check_loop (nm : List ByteArray) (hn : nm.length ≤ 16) (wk : List S41) (hw : wk.length ≤ 64) (hb : ∀ w ∈ wk, 0 ≤ w.f2 ∧ w.f2 < 18446744073709551616) (a0 a1 a2 a3 a4 : Int) : ∀ (j i k : Nat), i + j = wk.length → j * 67 + 140 < k →
  sr14_Check.l0 k i a0 a1 a2 a3 a4 nm wk = some (if (wk.drop i).all (okW nm.length) = true then 0 else 1) := by
 intro j
 induction j with
 | zero =>
  intro i k h hk
  obtain ⟨k, rfl⟩ : ∃ m, k = m + 1 := ⟨k - 1, by omega⟩
  rw [sr14_Check.l0, if_neg (by omega), List.drop_eq_nil_of_le (by omega)]; rfl
 | succ j ih =>
  intro i k h hk
  obtain ⟨k, rfl⟩ : ∃ m, k = m + 2 := ⟨k - 2, by omega⟩
  have hlt : i < wk.length := by omega
  obtain ⟨b0, b1⟩ := hb wk[i] (List.getElem_mem hlt)
  obtain ⟨u, hu⟩ := Int.eq_ofNat_of_zero_le b0
  have ho : okW nm.length wk[i] = decide (1 ≤ wk[i].f0 ∧ wk[i].f0 ≤ 255 ∧ 1 ≤ wk[i].f1 ∧ wk[i].f1 ≤ 64 ∧ wk[i].f2 < ((2 ^ nm.length : Nat) : Int)) := rfl
  have h3 : ∀ b : Bool, sr14_Check.j3 (k + 1) i b a0 a1 a2 a3 a4 nm wk wk[i].f0 wk[i].f1 wk[i].f2 = if b = true then some 1 else if u < 2 ^ nm.length then some (if (wk.drop (i + 1)).all (okW nm.length) = true then 0 else 1) else some 1 := by
   intro b
   rw [sr14_Check.j3]
   split
   ·
    rfl
   ·
    rw [hu, has_loop nm wk a0 a1 a2 a3 a4 i _ _ u (by omega) (64 - nm.length) nm.length k (by omega) (by omega), show wrap64 ((i : Int) + 1) = ((i + 1 : Nat) : Int) from wrap_nat (i + 1) (by omega), ih (i + 1) _ (by omega) (by omega)]
  rw [sr14_Check.l0, if_pos (by omega), if_pos (by omega), rd_wk wk i hlt, List.drop_eq_getElem_cons hlt, List.all_cons, ho, hu]
  rw [hu] at h3
  simp only [h3, if_true]
  by_cases hy : 1 ≤ wk[i].f0 ∧ wk[i].f0 ≤ 255 ∧ 1 ≤ wk[i].f1 ∧ wk[i].f1 ≤ 64
  ·
   rw [if_neg (by omega), if_neg (by omega), if_neg (by omega), decide_eq_false (show ¬ wk[i].f1 > 64 by omega), if_neg (by decide)]
   by_cases h2 : u < 2 ^ nm.length
   ·
    rw [if_pos h2, decide_eq_true (by refine ⟨hy.1, hy.2.1, hy.2.2.1, hy.2.2.2, by omega⟩), Bool.true_and]
   ·
    rw [if_neg h2, decide_eq_false (fun h => h2 (by omega))]; rfl
  ·
   have hd : decide (1 ≤ wk[i].f0 ∧ wk[i].f0 ≤ 255 ∧ 1 ≤ wk[i].f1 ∧ wk[i].f1 ≤ 64 ∧ ((u : Nat) : Int) < ((2 ^ nm.length : Nat) : Int)) = false := decide_eq_false (fun h => hy ⟨h.1, h.2.1, h.2.2.1, h.2.2.2.1⟩)
   rw [hd]
   by_cases g0 : wk[i].f0 < 1
   ·
    rw [if_pos g0]; rfl
   ·
    rw [if_neg g0]
    by_cases g1 : wk[i].f0 > 255
    ·
     rw [if_pos g1]; rfl
    ·
     rw [if_neg g1]
     by_cases g2 : wk[i].f1 < 1
     ·
      rw [if_pos g2]; rfl
     ·
      rw [if_neg g2, decide_eq_true (show wk[i].f1 > 64 by omega)]; rfl
theorem ref_check (a0 a1 a2 a3 a4 : Int) (nm : List ByteArray) (wk : List S41) (M : Nat) (hM : M ≤ 1000000000) (hs : ∀ s ∈ nm, s.size ≤ M) (hb : ∀ w ∈ wk, 0 ≤ w.f2 ∧ w.f2 < 18446744073709551616) (k : Nat) (hk : 5000 + M ≤ k) :
  sr14_Check.f k a0 a1 a2 a3 a4 nm wk = some (checkN a0 a1 a2 a3 a4 nm wk) := by
 obtain ⟨k, rfl⟩ : ∃ m, k = m + 2 := ⟨k - 2, by omega⟩
 unfold sr14_Check.f checkN
 have hj : ∀ b : Bool, sr14_Check.j0 (k + 2) b a0 a1 a2 a3 a4 nm wk = if b = true then some 1 else (if namesN nm = 0 then (if 1 ≤ wk.length ∧ wk.length ≤ 64 then (if wk.all (okW nm.length) = true then some 0 else some 1) else some 1) else some (namesN nm)) := by
  intro b
  rw [sr14_Check.j0]
  by_cases hbt : b = true
  ·
   rw [if_pos hbt, if_pos hbt]
  ·
   rw [if_neg hbt, if_neg hbt, ref_names nm M hM hs (k + 1) (by omega)]
   simp only [Option.bind_some]
   by_cases hn : namesN nm = 0
   ·
    rw [if_pos hn, if_pos hn]
    have h1 : ∀ b : Bool, sr14_Check.j1 (k + 1) b a0 a1 a2 a3 a4 nm wk = if b = true then some 1 else sr14_Check.l0 k 0 a0 a1 a2 a3 a4 nm wk := fun b => by rw [sr14_Check.j1]
    by_cases hw : 1 ≤ wk.length ∧ wk.length ≤ 64
    ·
     rw [if_neg (by omega), if_pos hw, h1, decide_eq_false (by omega), if_neg (by decide)]
     have := ref_check_loop nm (names_small hn) wk hw.2 hb a0 a1 a2 a3 a4 wk.length 0 k (by omega) (by omega)
     rw [List.drop_zero] at this
     rw [show (0 : Int) = ((0 : Nat) : Int) from rfl, this]
     split <;> rfl
    ·
     rw [if_neg hw]
     by_cases hw0 : wk.length < 1
     ·
      rw [if_pos (by omega), h1, if_pos rfl]
     ·
      rw [if_neg (by omega), h1, decide_eq_true (by omega), if_pos rfl]
   ·
    rw [if_neg hn, if_neg hn]
 simp only [hj]
 by_cases h : 1 ≤ a0 ∧ a0 ≤ 8 ∧ 1 ≤ a1 ∧ a1 ≤ 1000 ∧ 1 ≤ a2 ∧ a2 ≤ 1000 ∧ 0 ≤ a3 ∧ a3 ≤ 65536 ∧ 1 ≤ a4 ∧ a4 ≤ 16
 ·
  rw [if_pos h, if_neg (by omega), if_neg (by omega), if_neg (by omega), if_neg (by omega), if_neg (by omega), if_neg (by omega), if_neg (by omega), if_neg (by omega), if_neg (by omega), decide_eq_false (by omega), if_neg (by decide)]
  repeat' split
  all_goals rfl
 ·
  rw [if_neg h]
  by_cases h9 : a4 > 16
  ·
   rw [decide_eq_true h9]
   simp only [if_true, ite_self]
  ·
   rw [decide_eq_false h9]
   simp only [if_true]
   by_cases g0 : a0 < 1
   ·
    rw [if_pos g0]
   ·
    rw [if_neg g0]
    by_cases g1 : a0 > 8
    ·
     rw [if_pos g1]
    ·
     rw [if_neg g1]
     by_cases g2 : a1 < 1
     ·
      rw [if_pos g2]
     ·
      rw [if_neg g2]
      by_cases g3 : a1 > 1000
      ·
       rw [if_pos g3]
      ·
       rw [if_neg g3]
       by_cases g4 : a2 < 1
       ·
        rw [if_pos g4]
       ·
        rw [if_neg g4]
        by_cases g5 : a2 > 1000
        ·
         rw [if_pos g5]
        ·
         rw [if_neg g5]
         by_cases g6 : a3 < 0
         ·
          rw [if_pos g6]
         ·
          rw [if_neg g6]
          by_cases g7 : a3 > 65536
          ·
           rw [if_pos g7]
          ·
           rw [if_neg g7, if_pos (by omega)]
end Go.Proofs.YtmppkcdphgelcaaGreatDoor.PConf
namespace Own
open Go.Lib
theorem decFrom_snoc (l : List UInt8) (b : UInt8) : ∀ acc, decFrom acc (l ++ [b]) = (decFrom acc l).bind fun m => (digitVal b).map fun d => m * 10 + d := by
 induction l with
 | nil => intro acc; simp only [List.nil_append, decFrom]; cases digitVal b <;> rfl
 | cons c l ih =>
  intro acc
  simp only [List.cons_append, decFrom]
  cases digitVal c with
  | none => rfl
  | some d => exact ih _
theorem digit_of (u : Nat) (h : u < 10) : digitVal (UInt8.ofNat (48 + u)) = some u := by
 have e : (UInt8.ofNat (48 + u)).toNat = 48 + u := by simp [UInt8.toNat_ofNat']; omega
 unfold digitVal
 rw [e, if_pos (by omega)]
 simp
theorem dec_round (u : Nat) : decFrom 0 (decDigits u) = some u := by
 induction u using Nat.strongRecOn with
 | _ u ih =>
  rw [decDigits]
  split
  ·
   rename_i h
   simp only [decFrom, digit_of u h]; simp
  ·
   rename_i h
   rw [decFrom_snoc, ih (u / 10) (by omega)]
   simp only [Option.bind_some, digit_of (u % 10) (by omega), Option.map_some, Option.some.injEq]
   omega
theorem byte_of {b : UInt8} {d : Nat} (h : digitVal b = some d) : UInt8.ofNat (48 + d) = b := by
 obtain ⟨h1, h2, h3⟩ := digitVal_eq h
 subst h3
 rw [show 48 + (b.toNat - 48) = b.toNat by omega]
 simp
theorem decFrom_pos (l : List UInt8) (acc n : Nat) (h : decFrom acc l = some n) : acc ≤ n := by
 induction l generalizing acc with
 | nil => simp only [decFrom, Option.some.injEq] at h; omega
 | cons c l ih =>
  simp only [decFrom] at h
  split at h
  ·
   have := ih _ h; omega
  ·
   cases h
theorem canon_n (k : Nat) : ∀ (l : List UInt8) (n : Nat), l.length = k → l ≠ [] → ¬ (l.head? = some 48 ∧ 1 < l.length) → decFrom 0 l = some n → decDigits n = l := by
 induction k with
 | zero => intro l n hk h0; cases l with
  | nil => exact absurd rfl h0
  | cons => simp at hk
 | succ k ih =>
  intro l n hk h0 hz h
  obtain ⟨l', b, rfl⟩ : ∃ l' b, l = l' ++ [b] := ⟨l.dropLast, l.getLast h0, (List.dropLast_concat_getLast h0).symm⟩
  rw [decFrom_snoc] at h
  obtain ⟨m, hm, h1⟩ := Option.bind_eq_some_iff.mp h
  obtain ⟨d, hd, h2⟩ := Option.map_eq_some_iff.mp h1
  clear h h1
  have hb := byte_of hd
  have hd10 : d < 10 := by have := digitVal_eq hd; omega
  cases l' with
  | nil =>
   simp only [decFrom, Option.some.injEq] at hm
   subst hm
   rw [decDigits, dif_pos (by omega), ← h2]
   simp [hb]
  | cons c l' =>
   have hc : ¬ c = 48 := fun e => hz ⟨by simp [e], by simp⟩
   have hm0 : 0 < m := by
    simp only [decFrom] at hm
    split at hm
    ·
     rename_i d' hd'
     have h1 := decFrom_pos _ _ _ hm
     have h2 := digitVal_eq hd'
     have : d' ≠ 0 := fun e => hc (UInt8.toNat_inj.mp (by simp; omega))
     omega
    ·
     cases hm
   have := ih (c :: l') m (by simp at hk ⊢; omega) (by simp) (fun h => hc (by simpa using h.1)) hm
   rw [decDigits, dif_neg (by omega), ← h2, show (m * 10 + d) / 10 = m by omega, show (m * 10 + d) % 10 = d by omega, this, hb]
theorem canon (l : List UInt8) (n : Nat) (h0 : l ≠ []) (hz : ¬ (l.head? = some 48 ∧ 1 < l.length)) (h : decFrom 0 l = some n) : decDigits n = l := canon_n _ l n rfl h0 hz h
theorem dec_ne (u : Nat) : decDigits u ≠ [] := by rw [decDigits]; split <;> simp
theorem dec_head (u : Nat) (hu : 0 < u) : (decDigits u).head? ≠ some 48 := by
 induction u using Nat.strongRecOn with
 | _ u ih =>
  rw [decDigits]
  split
  ·
   rename_i h
   simp only [List.head?_cons, ne_eq, Option.some.injEq]
   intro e
   have := congrArg UInt8.toNat e
   simp [UInt8.toNat_ofNat'] at this
   omega
  ·
   rename_i h
   have := ih (u / 10) (by omega) (by omega)
   cases hx : decDigits (u / 10) with
   | nil => exact absurd hx (dec_ne _)
   | cons c l => rw [hx] at this; simpa using this
theorem dec_zero : decDigits 0 = [48] := by rw [decDigits]; rfl
theorem dec_canon (u : Nat) : ¬ ((decDigits u).head? = some 48 ∧ 1 < (decDigits u).length) := by
 rintro ⟨h1, h2⟩
 cases u with
 | zero => rw [dec_zero] at h2; simp at h2
 | succ u => exact dec_head _ (by omega) h1
theorem dec_len (k : Nat) : ∀ u, u < 10 ^ (k + 1) → (decDigits u).length ≤ k + 1 := by
 induction k with
 | zero => intro u h; rw [decDigits, dif_pos (by simpa using h)]; simp
 | succ k ih =>
  intro u h
  rw [decDigits]
  split
  ·
   simp
  ·
   have := ih (u / 10) (by rw [Nat.pow_succ] at h; omega)
   simp; omega
end Own
namespace Go.Proofs.YtmppkcdphgelcaaGreatDoor.PConf
open Go.RowKit W.PrintWords Go.Lib
theorem works_true : sl14_works.f 100 = some true := by kernel_rfl
theorem works_le (k : Nat) : sl14_works.f (k + 100) = some true := by
 induction k with
 | zero => rw [Nat.zero_add]; exact works_true
 | succ k ih => rw [Nat.add_right_comm k 1 100]; exact sl14_works.mono _ _ ih
def digitsEnd (o : Option Nat) : Int × Bool := match o with
 | none => (0, false)
 | some n => if (n : Int) > 72057594037927935 then (0, false) else ((n : Int), true)
theorem val_end (l : List UInt8) (h1 : 1 ≤ l.length) (h17 : l.length ≤ 17) (hz : ¬ (l.head? = some 48 ∧ 1 < l.length)) : conf_Digits.val l = digitsEnd (decFrom 0 l) := by
 unfold conf_Digits.val
 rw [atoiAll_short l (by omega)]
 cases l with
 | nil => simp at h1
 | cons b r =>
  cases hd : decFrom 0 (b :: r) with
  | some n =>
   have hb : ∃ d, digitVal b = some d := by
    simp only [decFrom] at hd
    split at hd
    ·
     rename_i d hd'; exact ⟨d, hd'⟩
    ·
     cases hd
   obtain ⟨d, hb⟩ := hb
   have hb2 := digitVal_eq hb
   have n45 : (b == 45) = false := beq_eq_false_iff_ne.mpr (fun e => by subst e; simp at hb2)
   have n43 : (b == 43) = false := beq_eq_false_iff_ne.mpr (fun e => by subst e; simp at hb2)
   have hc := Own.canon (b :: r) n (by simp) hz hd
   simp only [atoi, n45, n43, decNat, hd, NumEnd.ofOption, digitsEnd, Bool.false_eq_true, if_false, List.isEmpty_cons, Option.map_some, itoa_nonneg, hc]
   by_cases hm : (n : Int) ≤ 72057594037927935
   ·
    rw [if_pos (by refine ⟨by omega, hm, ?_⟩; trivial), if_neg (by omega)]
   ·
    rw [if_neg (fun h => hm h.2.1), if_pos (by omega)]
  | none =>
   simp only [digitsEnd]
   split
   ·
    rename_i n hn
    split
    ·
     rename_i hh
     have := Own.dec_round n.toNat
     rw [← itoa_nonneg, Int.toNat_of_nonneg hh.1, hh.2.2, hd] at this
     cases this
    ·
     rfl
   ·
    rfl
end Go.Proofs.YtmppkcdphgelcaaGreatDoor.PConf
namespace Go.Proofs.YtmppkcdphgelcaaGreatDoor.Own
open Go Go.Lib
def jn (c : UInt8) : List (List UInt8) → List UInt8
 | [] => []
 | w :: ws => w ++ (ws.map (c :: ·)).flatten
theorem join_jn (c : UInt8) (ws : List (List UInt8)) : Lib.join ws [c] = jn c ws := by
 cases ws with
 | nil => rfl
 | cons w ws => rw [Lib.join_cons]; rfl
theorem jn_two (c : UInt8) (w v : List UInt8) (ws : List (List UInt8)) : jn c (w :: v :: ws) = w ++ c :: jn c (v :: ws) := by simp [jn]
end Go.Proofs.YtmppkcdphgelcaaGreatDoor.Own
namespace Go.Proofs.YtmppkcdphgelcaaGreatDoor.PConf
open Go.RowKit W.PrintWords W.PrintMore Go.Lib Go.Proofs.YtmppkcdphgelcaaGreatDoor.Own
def toL (s : ByteArray) : List UInt8 := s.data.toList
def ofL (l : List UInt8) : ByteArray := ⟨l.toArray⟩
theorem toL_ofL (l : List UInt8) : toL (ofL l) = l := by simp [toL, ofL]
theorem ofL_toL (s : ByteArray) : ofL (toL s) = s := by cases s; simp [toL, ofL]
theorem toL_inj {a b : ByteArray} (h : toL a = toL b) : a = b := by rw [← ofL_toL a, ← ofL_toL b, h]
theorem toL_append (a b : ByteArray) : toL (a ++ b) = toL a ++ toL b := by simp [toL]
theorem ofL_append (a b : List UInt8) : ofL (a ++ b) = ofL a ++ ofL b := toL_inj (by rw [toL_append, toL_ofL, toL_ofL, toL_ofL])
theorem size_toL (s : ByteArray) : s.size = (toL s).length := by
 show s.data.size = s.data.toList.length
 rw [Array.length_toList]
theorem size_ofL (l : List UInt8) : (ofL l).size = l.length := by simp [ofL, ByteArray.size]
theorem toList_toL (s : ByteArray) : s.toList = toL s := ByteArray.toList_eq s
def num (n : Int) : ByteArray := ofL (itoa n)
theorem num_eq (n : Int) (h : -9223372036854775808 ≤ n ∧ n ≤ 9223372036854775807) : conf_Number.f n = some (num n) := by unfold conf_Number.f; rw [if_pos h]; rfl
def lineL (ws : List ByteArray) : List UInt8 := jn 32 (ws.map toL)
theorem line_eq (ws : List ByteArray) (h1 : ws.length ≤ 1000000) (h2 : (lineL ws).length ≤ 1000000000) : conf_line.f ws = some (ofL (lineL ws ++ [10])) := by
 unfold conf_line.f strings_Join.f
 have e : Lib.join (ws.map (·.data.toList)) (⟨#[32]⟩ : ByteArray).data.toList = lineL ws := join_jn 32 _
 rw [e, if_pos ⟨by omega, by omega⟩]
 simp only [Option.bind_some]
 have hs : (⟨(lineL ws).toArray⟩ : ByteArray).size = (lineL ws).length := size_ofL _
 rw [if_pos (by omega), ofL_append]; rfl
theorem jn_len (ws : List (List UInt8)) (B : Nat) (h : ∀ w ∈ ws, w.length ≤ B) : (jn 32 ws).length ≤ ws.length * (B + 1) := by
 induction ws with
 | nil => simp [jn]
 | cons w ws ih =>
  have hw := h w (by simp)
  have ih := ih (fun x hx => h x (List.mem_cons_of_mem _ hx))
  cases ws with
  | nil => simp [jn]; omega
  | cons v ws =>
   rw [jn_two, List.length_append, List.length_cons, List.length_cons]
   rw [Nat.add_mul] at *
   omega
theorem dec_digits (u : Nat) : ∀ b ∈ decDigits u, 48 ≤ b.toNat ∧ b.toNat ≤ 57 := by
 induction u using Nat.strongRecOn with
 | _ u ih =>
  intro b hb
  rw [decDigits] at hb
  split at hb
  ·
   rename_i h
   rw [List.mem_singleton] at hb
   subst hb
   simp [UInt8.toNat_ofNat']; omega
  ·
   rename_i h
   rcases List.mem_append.1 hb with hb | hb
   ·
    exact ih (u / 10) (by omega) b hb
   ·
    rw [List.mem_singleton] at hb
    subst hb
    simp [UInt8.toNat_ofNat']; omega
theorem num_ok (n : Int) (h0 : 0 ≤ n) (h : n ≤ 72057594037927935) : conf_Digits.f (num n) = some (n, true) ∧ (toL (num n)).length ≤ 17 ∧ ∀ b ∈ toL (num n), 48 ≤ b.toNat ∧ b.toNat ≤ 57 := by
 obtain ⟨u, rfl⟩ := Int.eq_ofNat_of_zero_le h0
 have e : itoa (u : Int) = decDigits u := itoa_nonneg u
 have hl := Own.dec_len 16 u (by omega)
 unfold num
 rw [toL_ofL, e]
 refine ⟨?_, hl, dec_digits u⟩
 unfold conf_Digits.f
 have hsz : (ofL (decDigits u)).size ≤ 281474976710656 := by rw [size_ofL]; omega
 rw [if_pos hsz]
 have hne := Own.dec_ne u
 have hlp : 1 ≤ (decDigits u).length := List.length_pos_iff.mpr hne
 have hd : (ofL (decDigits u)).data.toList = decDigits u := toL_ofL _
 rw [hd, val_end _ hlp hl (Own.dec_canon u), Own.dec_round u]
 show some (if ((u : Nat) : Int) > 72057594037927935 then ((0 : Int), false) else ((u : Int), true)) = _
 rw [if_neg (by omega)]
theorem tell_bit (u i : Nat) (hu : u < 18446744073709551616) : names_Tell.bit (u : Int) i = u.testBit i := by
 unfold names_Tell.bit
 have hq : (u : Int) / 2 ^ i = ((u / 2 ^ i : Nat) : Int) := by
  rw [show ((2 : Int) ^ i) = ((2 ^ i : Nat) : Int) by simp]; rfl
 have hd : u / 2 ^ i ≤ u := Nat.div_le_self _ _
 rw [hq, Nat.testBit_eq_decide_div_mod_eq]
 generalize u / 2 ^ i = q at *
 have := (bits_nat .u64 64 (by decide) wrap_u64' q 1 (by omega) (by decide)).1
 rw [show (((1 : Nat) : Int)) = 1 from rfl] at this
 rw [this, Nat.and_one_is_mod]
 by_cases hx : q % 2 = 1
 ·
  rw [decide_eq_true hx, hx]; rfl
 ·
  rw [decide_eq_false hx, show q % 2 = 0 by omega]; rfl
theorem firstN_none (p : Nat → Bool) : ∀ (k i : Nat), firstN p k i < 0 → ∀ j, i ≤ j → j < i + k → p j = false := by
 intro k
 induction k with
 | zero => intro i _ j h1 h2; omega
 | succ k ih =>
  intro i h j h1 h2
  unfold firstN at h
  by_cases hp : p i = true
  ·
   rw [if_pos hp] at h; omega
  ·
   rw [if_neg hp] at h
   by_cases hj : j = i
   ·
    rw [hj]; exact eq_false_of_ne_true hp
   ·
    exact ih (i + 1) h j (by omega) (by omega)
theorem letter_ge (c : Int) (h : glyph_Name.letter c = true) : 48 ≤ c := by
 have h2 := glyph_Name.letter_some c
 rw [h] at h2
 unfold glyph_Letter.f at h2
 by_cases hc : 48 ≤ c
 ·
  exact hc
 ·
  exfalso
  rw [if_neg (by omega), if_neg (by omega), if_neg (by omega)] at h2
  cases h2
theorem name_bytes (s : ByteArray) : ∀ (f pos n : Nat), s.size ≤ pos + f → glyph_Name.from s f pos n = true → ∀ i, pos ≤ i → i < s.size → gb s i ≠ 32 ∧ gb s i ≠ 10 := by
 intro f
 induction f with
 | zero => intro pos n h _ i h1 h2; omega
 | succ f ih =>
  intro pos n h hn i h1 h2
  unfold glyph_Name.from at hn
  have hp : pos < s.size := by omega
  rw [if_pos hp] at hn
  split at hn
  ·
   rename_i hl
   have hd : Utf8.decode s pos = decodeN (s.size - pos) (gb s pos) (gb s (pos + 1)) (gb s (pos + 2)) (gb s (pos + 3)) := decode_at s pos
   have hge := letter_ge _ hl.1
   rcases size_dec (s.size - pos) (gb s pos) (gb s (pos + 1)) (gb s (pos + 2)) (gb s (pos + 3)) (by omega) (gb_lt _ _) (gb_lt _ _) (gb_lt _ _) (gb_lt _ _) with ⟨_, e⟩ | ⟨_, g0, e⟩ | ⟨_, _, g0, g1, e⟩ | ⟨_, _, g0, g1, g2, e⟩ | ⟨_, _, g0, g1, g2, g3, e⟩
   ·
    rw [hd, e] at hl
    exact absurd hl.1 (by rw [show (((65533 : Nat)) : Int) = 65533 from rfl, letter_bad]; decide)
   all_goals
    rw [hd, e] at hn hge
    simp only at hn hge
   ·
    by_cases hi : i = pos
    ·
     subst hi; omega
    ·
     exact ih (pos + 1) (n + 1) (by omega) hn i (by omega) h2
   ·
    by_cases hi : i < pos + 2
    ·
     obtain rfl | rfl : i = pos ∨ i = pos + 1 := by omega
     all_goals omega
    ·
     exact ih (pos + 2) (n + 1) (by omega) hn i (by omega) h2
   ·
    by_cases hi : i < pos + 3
    ·
     obtain rfl | rfl | rfl : i = pos ∨ i = pos + 1 ∨ i = pos + 2 := by omega
     all_goals omega
    ·
     exact ih (pos + 3) (n + 1) (by omega) hn i (by omega) h2
   ·
    by_cases hi : i < pos + 4
    ·
     obtain rfl | rfl | rfl | rfl : i = pos ∨ i = pos + 1 ∨ i = pos + 2 ∨ i = pos + 3 := by omega
     all_goals omega
    ·
     exact ih (pos + 4) (n + 1) (by omega) hn i (by omega) h2
  ·
   cases hn
theorem mem_gb (s : ByteArray) (b : UInt8) (h : b ∈ toL s) : ∃ i, i < s.size ∧ gb s i = b.toNat := by
 obtain ⟨i, hi⟩ := List.getElem?_of_mem h
 obtain ⟨hlt, he⟩ := List.getElem?_eq_some_iff.1 hi
 rw [← size_toL] at hlt
 refine ⟨i, hlt, ?_⟩
 unfold gb
 have : s.get! i = b := by
  cases s with
  | mk d =>
   show d[i]! = b
   have hlt' : i < d.size := hlt
   rw [getElem!_pos d i hlt', ← he]; simp [toL]
 rw [this]
theorem name_clean (s : ByteArray) (h : glyph_Name.from s s.size 0 0 = true) : (32 : UInt8) ∉ toL s ∧ (10 : UInt8) ∉ toL s := by
 have hb := name_bytes s s.size 0 0 (by omega) h
 constructor
 ·
  intro hm
  obtain ⟨i, hi, e⟩ := mem_gb s 32 hm
  exact (hb i (by omega) hi).1 e
 ·
  intro hm
  obtain ⟨i, hi, e⟩ := mem_gb s 10 hm
  exact (hb i (by omega) hi).2 e
structure Table (nm : List ByteArray) : Prop where
 len : nm.length ≤ 16
 clean : ∀ s ∈ nm, (32 : UInt8) ∉ toL s ∧ (10 : UInt8) ∉ toL s
 less : ∀ i, i + 1 < nm.length → Op.bytesLess (nm.getD i ByteArray.empty).toList (nm.getD (i + 1) ByteArray.empty).toList = true
theorem table_of {nm : List ByteArray} (h : namesN nm = 0) : Table nm := by
 have hl := names_small h
 unfold namesN at h
 rw [if_neg (by omega)] at h
 by_cases h1 : names_Check.named nm = false
 ·
  rw [if_pos h1] at h; cases h
 ·
  rw [if_neg h1] at h
  have h1' : names_Check.named nm = true := by simpa using h1
  by_cases h2 : 0 ≤ firstN (names_Check.geq nm) (nm.length - 1) 0
  ·
   rw [if_pos h2] at h; cases h
  ·
   refine ⟨hl, fun s hs => ?_, fun i hi => ?_⟩
   ·
    unfold names_Check.named at h1'
    exact name_clean s (List.all_eq_true.1 h1' s hs)
   ·
    have := firstN_none (names_Check.geq nm) (nm.length - 1) 0 (by omega) i (by omega) (by omega)
    unfold names_Check.geq at this
    simpa using this
theorem tell_mem (nm : List ByteArray) (u : Int) : ∀ (m : Nat), ∀ s ∈ names_Tell.upto nm u m, ∃ i, i < m ∧ s = nm.getD i ByteArray.empty := by
 intro m
 induction m with
 | zero => intro s hs; simp [names_Tell.upto] at hs
 | succ m ih =>
  intro s hs
  unfold names_Tell.upto at hs
  rcases List.mem_append.1 hs with hs | hs
  ·
   obtain ⟨i, h1, h2⟩ := ih s hs; exact ⟨i, by omega, h2⟩
  ·
   split at hs
   ·
    rw [List.mem_singleton] at hs; exact ⟨m, by omega, hs⟩
   ·
    cases hs
def tellL (nm : List ByteArray) (u : Int) : List ByteArray := names_Tell.upto nm u (min nm.length 64)
theorem tell_eq (nm : List ByteArray) (u : Int) : names_Tell.f nm u = some (tellL nm u) := rfl
theorem tellL_mem {nm : List ByteArray} (u : Int) : ∀ s ∈ tellL nm u, s ∈ nm := by
 intro s hs
 obtain ⟨i, hi, rfl⟩ := tell_mem nm u _ s hs
 have : i < nm.length := by omega
 rw [List.getD_eq_getElem?_getD, List.getElem?_eq_getElem this]
 exact List.getElem_mem this
theorem tellL_len (nm : List ByteArray) (u : Int) : (tellL nm u).length ≤ nm.length := Nat.le_trans (names_Tell.len nm u _) (by omega)
def bCluster : ByteArray := ⟨#[99, 108, 117, 115, 116, 101, 114]⟩
def bNames : ByteArray := ⟨#[110, 97, 109, 101, 115]⟩
def bWorker : ByteArray := ⟨#[119, 111, 114, 107, 101, 114]⟩
def headW (a0 a1 a2 a3 a4 : Int) : List ByteArray := [bCluster, num a0, num a1, num a2, num a3, num a4]
def namesW (nm : List ByteArray) : List ByteArray := bNames :: nm
def workW (nm : List ByteArray) (w : S41) : List ByteArray := [bWorker, num w.f0, num w.f1] ++ tellL nm w.f2
def worksL (nm : List ByteArray) (wk : List S41) : List UInt8 := (wk.map fun w => lineL (workW nm w) ++ [10]).flatten
def textL (c : CF) : List UInt8 := lineL (headW c.a0 c.a1 c.a2 c.a3 c.a4) ++ 10 :: (lineL (namesW c.nm) ++ 10 :: worksL c.nm c.wk)
structure Fine (c : CF) : Prop where
 check : checkN c.a0 c.a1 c.a2 c.a3 c.a4 c.nm c.wk = 0
 small : ∀ s ∈ c.nm, s.size ≤ 4000
 bits : ∀ w ∈ c.wk, 0 ≤ w.f2 ∧ w.f2 < 18446744073709551616
structure Ranges (a0 a1 a2 a3 a4 : Int) : Prop where
 all : 1 ≤ a0 ∧ a0 ≤ 8 ∧ 1 ≤ a1 ∧ a1 ≤ 1000 ∧ 1 ≤ a2 ∧ a2 ≤ 1000 ∧ 0 ≤ a3 ∧ a3 ≤ 65536 ∧ 1 ≤ a4 ∧ a4 ≤ 16
theorem check_parts {a0 a1 a2 a3 a4 : Int} {nm : List ByteArray} {wk : List S41} (h : checkN a0 a1 a2 a3 a4 nm wk = 0) : Ranges a0 a1 a2 a3 a4 ∧ namesN nm = 0 ∧ (1 ≤ wk.length ∧ wk.length ≤ 64) ∧ wk.all (okW nm.length) = true := by
 unfold checkN at h
 by_cases h1 : 1 ≤ a0 ∧ a0 ≤ 8 ∧ 1 ≤ a1 ∧ a1 ≤ 1000 ∧ 1 ≤ a2 ∧ a2 ≤ 1000 ∧ 0 ≤ a3 ∧ a3 ≤ 65536 ∧ 1 ≤ a4 ∧ a4 ≤ 16
 ·
  rw [if_pos h1] at h
  by_cases h2 : namesN nm = 0
  ·
   rw [if_pos h2] at h
   by_cases h3 : 1 ≤ wk.length ∧ wk.length ≤ 64
   ·
    rw [if_pos h3] at h
    by_cases h4 : wk.all (okW nm.length) = true
    ·
     exact ⟨⟨h1⟩, h2, h3, h4⟩
    ·
     rw [if_neg h4] at h; cases h
   ·
    rw [if_neg h3] at h; cases h
  ·
   rw [if_neg h2] at h; exact absurd h h2
 ·
  rw [if_neg h1] at h; cases h
theorem okW_parts {n : Nat} {w : S41} (h : okW n w = true) : 1 ≤ w.f0 ∧ w.f0 ≤ 255 ∧ 1 ≤ w.f1 ∧ w.f1 ≤ 64 ∧ w.f2 < ((2 ^ n : Nat) : Int) := of_decide_eq_true h
theorem num_clean (n : Int) (h0 : 0 ≤ n) (h : n ≤ 72057594037927935) : (32 : UInt8) ∉ toL (num n) ∧ (10 : UInt8) ∉ toL (num n) := by
 obtain ⟨_, _, hb⟩ := num_ok n h0 h
 constructor
 ·
  intro hm; have := (hb 32 hm).1; exact absurd this (by decide)
 ·
  intro hm; have := (hb 10 hm).1; exact absurd this (by decide)
structure Words (ws : List ByteArray) : Prop where
 clean : ∀ w ∈ ws, (32 : UInt8) ∉ toL w ∧ (10 : UInt8) ∉ toL w
 len : ∀ w ∈ ws, (toL w).length ≤ 4000
 few : ws.length ≤ 40
theorem Words.line_len {ws : List ByteArray} (h : Words ws) : (lineL ws).length ≤ 160040 := by
 have := jn_len (ws.map toL) 4000 (fun w hw => by obtain ⟨x, hx, rfl⟩ := List.mem_map.1 hw; exact h.len x hx)
 rw [List.length_map] at this
 have h2 := h.few
 unfold lineL
 omega
theorem Words.line {ws : List ByteArray} (h : Words ws) : conf_line.f ws = some (ofL (lineL ws ++ [10])) := line_eq ws (by have := h.few; omega) (by have := h.line_len; omega)
theorem head_words {a0 a1 a2 a3 a4 : Int} (h : Ranges a0 a1 a2 a3 a4) : Words (headW a0 a1 a2 a3 a4) := by
 have r := h.all
 have hn : ∀ n : Int, 0 ≤ n → n ≤ 65536 → ((32 : UInt8) ∉ toL (num n) ∧ (10 : UInt8) ∉ toL (num n)) ∧ (toL (num n)).length ≤ 4000 := fun n h0 h1 =>
  ⟨num_clean n h0 (by omega), by have := (num_ok n h0 (by omega)).2.1; omega⟩
 have hc : ((32 : UInt8) ∉ toL bCluster ∧ (10 : UInt8) ∉ toL bCluster) ∧ (toL bCluster).length ≤ 4000 := by unfold bCluster toL; decide
 have hall : ∀ w ∈ headW a0 a1 a2 a3 a4, ((32 : UInt8) ∉ toL w ∧ (10 : UInt8) ∉ toL w) ∧ (toL w).length ≤ 4000 := by
  intro w hw
  unfold headW at hw
  simp only [List.mem_cons, List.not_mem_nil, or_false] at hw
  rcases hw with rfl | rfl | rfl | rfl | rfl | rfl
  ·
   exact hc
  all_goals exact hn _ (by omega) (by omega)
 exact ⟨fun w hw => (hall w hw).1, fun w hw => (hall w hw).2, by simp [headW]⟩
theorem names_words {nm : List ByteArray} (h : Table nm) (hs : ∀ s ∈ nm, s.size ≤ 4000) : Words (namesW nm) := by
 have hc : ((32 : UInt8) ∉ toL bNames ∧ (10 : UInt8) ∉ toL bNames) ∧ (toL bNames).length ≤ 4000 := by unfold bNames toL; decide
 refine ⟨fun w hw => ?_, fun w hw => ?_, by have := h.len; simp [namesW]; omega⟩
 ·
  rcases List.mem_cons.1 hw with rfl | hw
  ·
   exact hc.1
  ·
   exact h.clean w hw
 ·
  rcases List.mem_cons.1 hw with rfl | hw
  ·
   exact hc.2
  ·
   rw [← size_toL]; exact hs w hw
theorem work_words {nm : List ByteArray} (h : Table nm) (hs : ∀ s ∈ nm, s.size ≤ 4000) {w : S41} (hw0 : 0 ≤ w.f0 ∧ w.f0 ≤ 72057594037927935) (hw1 : 0 ≤ w.f1 ∧ w.f1 ≤ 72057594037927935) : Words (workW nm w) := by
 have hc : ((32 : UInt8) ∉ toL bWorker ∧ (10 : UInt8) ∉ toL bWorker) ∧ (toL bWorker).length ≤ 4000 := by unfold bWorker toL; decide
 have hn : ∀ n : Int, 0 ≤ n → n ≤ 72057594037927935 → ((32 : UInt8) ∉ toL (num n) ∧ (10 : UInt8) ∉ toL (num n)) ∧ (toL (num n)).length ≤ 4000 := fun n h0 h1 =>
  ⟨num_clean n h0 h1, by have := (num_ok n h0 h1).2.1; omega⟩
 have hall : ∀ x ∈ workW nm w, ((32 : UInt8) ∉ toL x ∧ (10 : UInt8) ∉ toL x) ∧ (toL x).length ≤ 4000 := by
  intro x hx
  rcases List.mem_append.1 hx with hx | hx
  ·
   simp only [List.mem_cons, List.not_mem_nil, or_false] at hx
   rcases hx with rfl | rfl | rfl
   ·
    exact hc
   ·
    exact hn _ hw0.1 hw0.2
   ·
    exact hn _ hw1.1 hw1.2
  ·
   have := tellL_mem _ x hx
   exact ⟨h.clean x this, by rw [← size_toL]; exact hs x this⟩
 refine ⟨fun x hx => (hall x hx).1, fun x hx => (hall x hx).2, ?_⟩
 have h1 := tellL_len nm w.f2
 have h2 := h.len
 unfold workW
 rw [List.length_append]
 simp only [List.length_cons, List.length_nil]
 omega
theorem workerLine_eq {nm : List ByteArray} (h : Table nm) (hs : ∀ s ∈ nm, s.size ≤ 4000) (a0 a1 a2 a3 a4 : Int) (wk : List S41) {w : S41} (hw0 : 0 ≤ w.f0 ∧ w.f0 ≤ 72057594037927935) (hw1 : 0 ≤ w.f1 ∧ w.f1 ≤ 72057594037927935) : conf_workerLine.f a0 a1 a2 a3 a4 nm wk w.f0 w.f1 w.f2 = some (ofL (lineL (workW nm w) ++ [10])) := by
 have hl := (work_words h hs hw0 hw1).line
 have h1 := tellL_len nm w.f2
 have h2 := h.len
 unfold conf_workerLine.f
 rw [num_eq _ (by omega), num_eq _ (by omega), tell_eq]
 simp only [Option.bind_some, List.length_cons, List.length_nil]
 rw [if_pos (by omega)]
 have e : conf_line.f ([(⟨#[119, 111, 114, 107, 101, 114]⟩ : ByteArray), num w.f0, num w.f1] ++ tellL nm w.f2) = some (ofL (lineL (workW nm w) ++ [10])) := hl
 rw [e]; rfl
theorem text_loop {nm : List ByteArray} (h : Table nm) (hs : ∀ s ∈ nm, s.size ≤ 4000) (a0 a1 a2 a3 a4 : Int) (wk x6 : List S41) (hwl : wk.length ≤ 64) (hok : ∀ w ∈ wk, okW nm.length w = true) : ∀ (j i k : Nat) (acc : ByteArray), i + j = wk.length → j < k → acc.size + j * 200000 ≤ 100000000 →
  conf_Text.l0 k acc wk (wk.length : Int) i a0 a1 a2 a3 a4 nm x6 = some (acc ++ ofL (worksL nm (wk.drop i))) := by
 intro j
 induction j with
 | zero =>
  intro i k acc h1 hk ha
  obtain ⟨k, rfl⟩ : ∃ m, k = m + 1 := ⟨k - 1, by omega⟩
  rw [conf_Text.l0, if_neg (by omega), List.drop_eq_nil_of_le (by omega)]
  congr 1
  exact toL_inj (by rw [toL_append, toL_ofL]; simp [worksL])
 | succ j ih =>
  intro i k acc h1 hk ha
  obtain ⟨k, rfl⟩ : ∃ m, k = m + 1 := ⟨k - 1, by omega⟩
  have hlt : i < wk.length := by omega
  have hw := okW_parts (hok wk[i] (List.getElem_mem hlt))
  have hwd := work_words h hs (w := wk[i]) (by omega) (by omega)
  have hll := hwd.line_len
  have hsz : (ofL (lineL (workW nm wk[i]) ++ [10])).size ≤ 160041 := by rw [size_ofL, List.length_append]; simp only [List.length_singleton]; omega
  rw [conf_Text.l0, if_pos (by omega), if_pos (by omega), if_pos (by omega), rd_wk wk i hlt, workerLine_eq h hs a0 a1 a2 a3 a4 x6 (by omega) (by omega)]
  simp only [Option.bind_some]
  rw [if_pos (by omega), show wrap64 ((i : Int) + 1) = ((i + 1 : Nat) : Int) from wrap_nat (i + 1) (by omega), ih (i + 1) k _ (by omega) (by omega) (by rw [ByteArray.size_append]; omega), List.drop_eq_getElem_cons hlt]
  congr 1
  exact toL_inj (by simp only [toL_append, toL_ofL, worksL, List.map_cons, List.flatten_cons, List.append_assoc])
theorem fine_ok {c : CF} (h : Fine c) : ∀ w ∈ c.wk, okW c.nm.length w = true := fun w hw => List.all_eq_true.1 (check_parts h.check).2.2.2 w hw
theorem text_eq {c : CF} (h : Fine c) (k : Nat) (hk : 100 ≤ k) : conf_Text.f k c.a0 c.a1 c.a2 c.a3 c.a4 c.nm c.wk = some (ofL (textL c)) := by
 obtain ⟨hr, hn, hw, ha⟩ := check_parts h.check
 have ht := table_of hn
 have r := hr.all
 have hl0 := (head_words hr).line
 have hl1 := (names_words ht h.small).line
 have h0l := (head_words hr).line_len
 have h1l := (names_words ht h.small).line_len
 have hnl := ht.len
 unfold conf_Text.f
 rw [conf_check c.a0 c.a1 c.a2 c.a3 c.a4 c.nm c.wk (fun s hs => by have := h.small s hs; omega) (by omega) h.bits k (by omega), h.check]
 simp only [Option.bind_some, if_true]
 rw [num_eq _ (by omega), num_eq _ (by omega), num_eq _ (by omega), num_eq _ (by omega), num_eq _ (by omega)]
 simp only [Option.bind_some]
 have e0 : conf_line.f [(⟨#[99, 108, 117, 115, 116, 101, 114]⟩ : ByteArray), num c.a0, num c.a1, num c.a2, num c.a3, num c.a4] = some (ofL (lineL (headW c.a0 c.a1 c.a2 c.a3 c.a4) ++ [10])) := hl0
 have e1 : conf_line.f ([(⟨#[110, 97, 109, 101, 115]⟩ : ByteArray)] ++ c.nm) = some (ofL (lineL (namesW c.nm) ++ [10])) := hl1
 rw [e0]
 simp only [Option.bind_some, List.length_singleton]
 rw [if_pos (by omega), e1]
 simp only [Option.bind_some, size_ofL, List.length_append, List.length_singleton]
 rw [if_pos (by omega), show (0 : Int) = ((0 : Nat) : Int) from rfl, text_loop ht h.small c.a0 c.a1 c.a2 c.a3 c.a4 c.wk c.wk hw.2 (fine_ok h) c.wk.length 0 k _ (by omega) (by omega) (by rw [ByteArray.size_append, size_ofL, size_ofL, List.length_append, List.length_append]; simp only [List.length_singleton]; omega), List.drop_zero]
 congr 1
 refine toL_inj ?_
 rw [toL_append, toL_append, toL_ofL, toL_ofL, toL_ofL, toL_ofL]
 simp [textL]
def longB (l : List ByteArray) : Bool := l.any (fun s => decide (100 < s.size)) || decide (40 < l.length)
theorem long_loop (l : List ByteArray) (hl : l.length ≤ 9223372036854775807) : ∀ (j i k : Nat), i + j = l.length → j < k → sr03_Long.l0 k l 40 100 i = some ((l.drop i).any (fun s => decide (100 < s.size)) || decide (40 < l.length)) := by
 intro j
 induction j with
 | zero =>
  intro i k h hk
  obtain ⟨k, rfl⟩ : ∃ m, k = m + 1 := ⟨k - 1, by omega⟩
  rw [sr03_Long.l0, if_neg (by omega), List.drop_eq_nil_of_le (by omega)]
  congr 1
  simp only [List.any_nil, Bool.false_or]
  exact decide_eq_decide.mpr (by omega)
 | succ j ih =>
  intro i k h hk
  obtain ⟨k, rfl⟩ : ∃ m, k = m + 1 := ⟨k - 1, by omega⟩
  have hlt : i < l.length := by omega
  rw [sr03_Long.l0, if_pos (by omega), if_pos (by omega), rdOf_at l i hlt, List.drop_eq_getElem_cons hlt, List.any_cons]
  by_cases hz : 100 < l[i].size
  ·
   rw [if_pos (by omega), decide_eq_true hz]; rfl
  ·
   rw [if_neg (by omega), decide_eq_false hz, show wrap64 ((i : Int) + 1) = ((i + 1 : Nat) : Int) from wrap_nat (i + 1) (by omega), ih (i + 1) k (by omega) (by omega), Bool.false_or]
theorem long_eq (a0 a1 a2 a3 a4 : Int) (nm : List ByteArray) (wk : List S41) (hl : nm.length ≤ 9223372036854775807) (k : Nat) (hk : nm.length < k) : sr14_Long.f k a0 a1 a2 a3 a4 nm wk = some (longB nm || decide (80 < wk.length)) := by
 unfold sr14_Long.f sr03_Long.f
 rw [show (0 : Int) = ((0 : Nat) : Int) from rfl, long_loop nm hl nm.length 0 k (by omega) hk, List.drop_zero]
 simp only [Option.bind_some]
 show (if longB nm = true then _ else _) = _
 by_cases h : longB nm = true
 ·
  rw [if_pos h, h, Bool.true_or]
 ·
  rw [if_neg h, eq_false_of_ne_true h, Bool.false_or]
  congr 1
  exact decide_eq_decide.mpr (by omega)
theorem same_loop (l m : List ByteArray) (hlm : l.length = m.length) (hl : l.length ≤ 9223372036854775807) : ∀ (j i k : Nat), i + j = l.length → j < k → sr03_Same.l0 k l m i = some (decide (l.drop i = m.drop i)) := by
 intro j
 induction j with
 | zero =>
  intro i k h hk
  obtain ⟨k, rfl⟩ : ∃ m, k = m + 1 := ⟨k - 1, by omega⟩
  rw [sr03_Same.l0, if_neg (by omega), List.drop_eq_nil_of_le (by omega), List.drop_eq_nil_of_le (by omega)]
  simp
 | succ j ih =>
  intro i k h hk
  obtain ⟨k, rfl⟩ : ∃ m, k = m + 1 := ⟨k - 1, by omega⟩
  have h1 : i < l.length := by omega
  have h2 : i < m.length := by omega
  rw [sr03_Same.l0, if_pos (by omega), if_pos (by omega), if_pos (by omega), rdOf_at l i h1, rdOf_at m i h2, List.drop_eq_getElem_cons h1, List.drop_eq_getElem_cons h2]
  by_cases he : l[i] = m[i]
  ·
   rw [if_pos (by rw [he]), show wrap64 ((i : Int) + 1) = ((i + 1 : Nat) : Int) from wrap_nat (i + 1) (by omega), ih (i + 1) k (by omega) (by omega)]
   congr 1
   exact decide_eq_decide.mpr ⟨fun h => by rw [he, h], fun h => (List.cons.inj h).2⟩
  ·
   rw [if_neg (fun h => he (toL_inj (by rw [← toList_toL, ← toList_toL]; exact h)))]
   congr 1
   exact (decide_eq_false (fun h => he (List.cons.inj h).1)).symm
theorem same_names (l m : List ByteArray) (hl : l.length ≤ 9223372036854775807) (k : Nat) (hk : l.length < k) : sr03_Same.f k l m = some (decide (l = m)) := by
 unfold sr03_Same.f
 by_cases h : l.length = m.length
 ·
  rw [if_pos (by omega), show (0 : Int) = ((0 : Nat) : Int) from rfl, same_loop l m h hl l.length 0 k (by omega) hk]
  rfl
 ·
  rw [if_neg (by omega)]
  congr 1
  exact (decide_eq_false (fun e => h (by rw [e]))).symm
theorem wk_ext (x y : S41) : x = y ↔ x.f0 = y.f0 ∧ x.f1 = y.f1 ∧ x.f2 = y.f2 := by
 cases x; cases y; simp
theorem same_works (v w : List S41) (hvw : v.length = w.length) (hl : v.length ≤ 9223372036854775807) (a0 a1 a2 a3 a4 b0 b1 b2 b3 b4 : Int) (nm nm' : List ByteArray) : ∀ (j i k : Nat), i + j = v.length → j < k →
  ∃ b, sr14_Same.l0 k i a0 a1 a2 a3 a4 nm v b0 b1 b2 b3 b4 nm' w = some b ∧ (b = true ↔ v.drop i = w.drop i) := by
 intro j
 induction j with
 | zero =>
  intro i k h hk
  obtain ⟨k, rfl⟩ : ∃ m, k = m + 1 := ⟨k - 1, by omega⟩
  refine ⟨true, ?_, ?_⟩
  ·
   rw [sr14_Same.l0, if_neg (by omega)]
  ·
   rw [List.drop_eq_nil_of_le (by omega), List.drop_eq_nil_of_le (by omega)]; simp
 | succ j ih =>
  intro i k h hk
  obtain ⟨k, rfl⟩ : ∃ m, k = m + 1 := ⟨k - 1, by omega⟩
  have h1 : i < v.length := by omega
  have h2 : i < w.length := by omega
  rw [sr14_Same.l0, if_pos (by omega), if_pos (by omega), if_pos (by omega), rd_wk v i h1, rd_wk w i h2, List.drop_eq_getElem_cons h1, List.drop_eq_getElem_cons h2]
  by_cases he : v[i] = w[i]
  ·
   obtain ⟨b, hb, hb2⟩ := ih (i + 1) k (by omega) (by omega)
   refine ⟨b, ?_, ?_⟩
   ·
    rw [if_neg (by rw [he]; simp), show wrap64 ((i : Int) + 1) = ((i + 1 : Nat) : Int) from wrap_nat (i + 1) (by omega)]
    exact hb
   ·
    rw [hb2, he]
    exact ⟨fun h => by rw [h], fun h => (List.cons.inj h).2⟩
  ·
   refine ⟨false, ?_, ?_⟩
   ·
    rw [if_pos]
    rw [wk_ext] at he
    simp only [Bool.or_eq_true, Bool.not_eq_true', beq_eq_false_iff_ne]
    by_cases e0 : v[i].f0 = w[i].f0
    ·
     by_cases e1 : v[i].f1 = w[i].f1
     ·
      exact .inr (.inr (fun e2 => he ⟨e0, e1, e2⟩))
     ·
      exact .inr (.inl e1)
    ·
     exact .inl e0
   ·
    exact ⟨fun h => (by cases h), fun h => absurd (List.cons.inj h).1 he⟩
theorem same_eq (c d : CF) (hn : c.nm.length ≤ 9223372036854775807) (hw : c.wk.length ≤ 9223372036854775807) (k : Nat) (hk : c.nm.length + c.wk.length + 2 < k) : ∃ b, sr14_Same.f k c.a0 c.a1 c.a2 c.a3 c.a4 c.nm c.wk d.a0 d.a1 d.a2 d.a3 d.a4 d.nm d.wk = some b ∧ (b = true ↔ c = d) := by
 obtain ⟨k, rfl⟩ : ∃ m, k = m + 1 := ⟨k - 1, by omega⟩
 have hext : c = d ↔ c.a0 = d.a0 ∧ c.a1 = d.a1 ∧ c.a2 = d.a2 ∧ c.a3 = d.a3 ∧ c.a4 = d.a4 ∧ c.nm = d.nm ∧ c.wk = d.wk := by cases c; cases d; simp
 have hj : sr14_Same.j0 (k + 1) true c.a0 c.a1 c.a2 c.a3 c.a4 c.nm c.wk d.a0 d.a1 d.a2 d.a3 d.a4 d.nm d.wk = some false := by rw [sr14_Same.j0, if_pos rfl]
 have neg : ¬ c = d → ∃ b, (some false : Option Bool) = some b ∧ (b = true ↔ c = d) := fun h => ⟨false, rfl, ⟨fun h => (by cases h), fun e => absurd e h⟩⟩
 unfold sr14_Same.f
 by_cases e0 : c.a0 = d.a0
 ·
  rw [if_pos e0]
  by_cases e1 : c.a1 = d.a1
  ·
   rw [if_pos e1]
   by_cases e2 : c.a2 = d.a2
   ·
    rw [if_pos e2]
    by_cases e3 : c.a3 = d.a3
    ·
     rw [if_pos e3]
     by_cases e4 : c.a4 = d.a4
     ·
      rw [if_pos e4, same_names c.nm d.nm hn (k + 1) (by omega)]
      simp only [Option.bind_some, decide_eq_true_eq]
      by_cases e5 : c.nm = d.nm
      ·
       rw [if_pos e5]
       by_cases e6 : c.wk.length = d.wk.length
       ·
        obtain ⟨b, hb, hb2⟩ := same_works c.wk d.wk e6 hw c.a0 c.a1 c.a2 c.a3 c.a4 d.a0 d.a1 d.a2 d.a3 d.a4 c.nm d.nm c.wk.length 0 k (by omega) (by omega)
        refine ⟨b, ?_, ?_⟩
        ·
         rw [sr14_Same.j0, if_neg (by rw [e6]; simp)]
         exact hb
        ·
         rw [hb2, List.drop_zero, List.drop_zero, hext]
         exact ⟨fun h => ⟨e0, e1, e2, e3, e4, e5, h⟩, fun h => h.2.2.2.2.2.2⟩
       ·
        have : (((c.wk.length : Nat) : Int) != ((d.wk.length : Nat) : Int)) = true := by simp; omega
        rw [this, hj]
        exact neg (fun h => e6 (by rw [h]))
      ·
       rw [if_neg e5, hj]; exact neg (fun h => e5 (by rw [h]))
     ·
      rw [if_neg e4, hj]; exact neg (fun h => e4 (by rw [h]))
    ·
     rw [if_neg e3, hj]; exact neg (fun h => e3 (by rw [h]))
   ·
    rw [if_neg e2, hj]; exact neg (fun h => e2 (by rw [h]))
  ·
   rw [if_neg e1, hj]; exact neg (fun h => e1 (by rw [h]))
 ·
  rw [if_neg e0, hj]; exact neg (fun h => e0 (by rw [h]))
theorem short_of {l : List ByteArray} (h : longB l = false) : (∀ s ∈ l, s.size ≤ 100) ∧ l.length ≤ 40 := by
 unfold longB at h
 rw [Bool.or_eq_false_iff] at h
 refine ⟨fun s hs => ?_, by have := of_decide_eq_false h.2; omega⟩
 have := List.any_eq_false.1 h.1 s hs
 simp at this
 omega
theorem ref_num (n : Int) (h : -9223372036854775808 ≤ n ∧ n ≤ 9223372036854775807) : sr14_Number.f n = some (num n) := by unfold sr14_Number.f; rw [if_pos h]; rfl
theorem behind_loop (ws : List ByteArray) (hl : ws.length ≤ 1000000) (hs : ∀ w ∈ ws, w.size ≤ 4000) : ∀ (j i k : Nat) (acc : ByteArray), i + j = ws.length → j < k → acc.size ≤ i * 4001 → sr14_Behind.l0 k ws acc i = some (acc ++ ofL (((ws.drop i).map fun w => 32 :: toL w).flatten ++ [10])) := by
 intro j
 induction j with
 | zero =>
  intro i k acc h hk ha
  obtain ⟨k, rfl⟩ : ∃ m, k = m + 1 := ⟨k - 1, by omega⟩
  rw [sr14_Behind.l0, if_neg (by omega), if_pos (by omega), List.drop_eq_nil_of_le (by omega)]
  rfl
 | succ j ih =>
  intro i k acc h hk ha
  obtain ⟨k, rfl⟩ : ∃ m, k = m + 1 := ⟨k - 1, by omega⟩
  have hlt : i < ws.length := by omega
  have hz := hs ws[i] (List.getElem_mem hlt)
  have h32 : (⟨#[32]⟩ : ByteArray).size = 1 := rfl
  rw [sr14_Behind.l0, if_pos (by omega), if_pos (by omega), if_pos (by omega), rdOf_at ws i hlt, if_pos (by rw [ByteArray.size_append]; omega), show wrap64 ((i : Int) + 1) = ((i + 1 : Nat) : Int) from wrap_nat (i + 1) (by omega), ih (i + 1) k _ (by omega) (by omega) (by rw [ByteArray.size_append, ByteArray.size_append]; omega), List.drop_eq_getElem_cons hlt]
  congr 1
  refine toL_inj ?_
  have e32 : toL (⟨#[32]⟩ : ByteArray) = [32] := rfl
  simp only [toL_append, toL_ofL, e32, List.map_cons, List.flatten_cons, List.append_assoc, List.cons_append, List.singleton_append, List.nil_append]
theorem behind_eq (ws : List ByteArray) (hl : ws.length ≤ 1000000) (hs : ∀ w ∈ ws, w.size ≤ 4000) (k : Nat) (hk : ws.length < k) : sr14_Behind.f k ws = some (ofL ((ws.map fun w => 32 :: toL w).flatten ++ [10])) := by
 unfold sr14_Behind.f
 rw [show (0 : Int) = ((0 : Nat) : Int) from rfl, behind_loop ws hl hs ws.length 0 k _ (by omega) hk (by show 0 ≤ _; omega), List.drop_zero]
 congr 1
theorem ref_tell_loop (nm : List ByteArray) (hl : nm.length ≤ 16) (u : Nat) (hu : u < 18446744073709551616) : ∀ (j i k : Nat), i + j = nm.length → j + 70 < k → sr05_Tell.l0 k nm (u : Int) (names_Tell.upto nm u i) i = some (names_Tell.upto nm u nm.length) := by
 intro j
 induction j with
 | zero =>
  intro i k h hk
  obtain ⟨k, rfl⟩ : ∃ m, k = m + 1 := ⟨k - 1, by omega⟩
  rw [sr05_Tell.l0, if_neg (by omega), show i = nm.length by omega]
 | succ j ih =>
  intro i k h hk
  obtain ⟨k, rfl⟩ : ∃ m, k = m + 1 := ⟨k - 1, by omega⟩
  have hlt : i < nm.length := by omega
  have hlen := names_Tell.len nm (u : Int) i
  have hi := ih (i + 1) k (by omega) (by omega)
  rw [names_Tell.upto, tell_bit u i hu] at hi
  rw [sr05_Tell.l0, if_pos (by omega), ref_has u i k (by omega) (by omega) hu]
  simp only [Option.bind_some]
  rw [show wrap64 ((i : Int) + 1) = ((i + 1 : Nat) : Int) from wrap_nat (i + 1) (by omega)]
  by_cases hb : u.testBit i = true
  ·
   rw [if_pos hb, if_pos (by omega), if_pos (by omega)]
   rw [if_pos hb] at hi
   exact hi
  ·
   rw [if_neg hb]
   rw [if_neg hb, List.append_nil] at hi
   exact hi
theorem ref_tell {nm : List ByteArray} (hl : nm.length ≤ 16) (u : Nat) (hu : u < 18446744073709551616) (k : Nat) (hk : 100 ≤ k) : sr05_Tell.f k nm (u : Int) = some (tellL nm u) := by
 unfold sr05_Tell.f tellL
 rw [show min nm.length 64 = nm.length by omega]
 exact ref_tell_loop nm hl u hu nm.length 0 k (by omega) (by omega)
theorem jn_cons (w : List UInt8) (ws : List (List UInt8)) : jn 32 (w :: ws) = w ++ (ws.map (32 :: ·)).flatten := rfl
theorem lineL_cons (w : ByteArray) (ws : List ByteArray) : lineL (w :: ws) = toL w ++ (ws.map fun w => 32 :: toL w).flatten := by
 unfold lineL
 rw [List.map_cons, jn_cons, List.map_map]; rfl
theorem head_eq {a0 a1 a2 a3 a4 : Int} (r : Ranges a0 a1 a2 a3 a4) (nm : List ByteArray) (wk : List S41) : sr14_Head.f a0 a1 a2 a3 a4 nm wk = some (ofL (lineL (headW a0 a1 a2 a3 a4) ++ [10])) := by
 have h := r.all
 have s : ∀ n : Int, 0 ≤ n → n ≤ 65536 → (num n).size ≤ 17 := fun n h0 h1 => by rw [size_toL]; exact (num_ok n h0 (by omega)).2.1
 have s0 := s a0 (by omega) (by omega)
 have s1 := s a1 (by omega) (by omega)
 have s2 := s a2 (by omega) (by omega)
 have s3 := s a3 (by omega) (by omega)
 have s4 := s a4 (by omega) (by omega)
 have c1 : (⟨#[99, 108, 117, 115, 116, 101, 114, 32]⟩ : ByteArray).size = 8 := rfl
 have c2 : (⟨#[32]⟩ : ByteArray).size = 1 := rfl
 unfold sr14_Head.f
 rw [ref_num a0 (by omega), ref_num a1 (by omega), ref_num a2 (by omega), ref_num a3 (by omega), ref_num a4 (by omega)]
 simp only [Option.bind_some, ByteArray.size_append, c1, c2]
 repeat rw [if_pos (by omega)]
 congr 1
 refine toL_inj ?_
 have d1 : toL (⟨#[99, 108, 117, 115, 116, 101, 114, 32]⟩ : ByteArray) = toL bCluster ++ [32] := rfl
 have d2 : toL (⟨#[32]⟩ : ByteArray) = [32] := rfl
 have d3 : toL (⟨#[10]⟩ : ByteArray) = [10] := rfl
 simp only [toL_append, toL_ofL, headW, lineL_cons, List.map_cons, List.map_nil, List.flatten_cons, List.flatten_nil, d1, d2, d3, List.append_assoc, List.cons_append, List.nil_append, List.append_nil]
theorem line_ref {nm : List ByteArray} (ht : Table nm) (hs : ∀ s ∈ nm, s.size ≤ 4000) (a0 a1 a2 a3 a4 : Int) (wk : List S41) {w : S41} (hw0 : 0 ≤ w.f0 ∧ w.f0 ≤ 72057594037927935) (hw1 : 0 ≤ w.f1 ∧ w.f1 ≤ 72057594037927935) (hb : 0 ≤ w.f2 ∧ w.f2 < 18446744073709551616) (k : Nat) (hk : 100 ≤ k) :
  sr14_Line.f k a0 a1 a2 a3 a4 nm wk w.f0 w.f1 w.f2 = some (ofL (lineL (workW nm w) ++ [10])) := by
 have s : ∀ n : Int, 0 ≤ n → n ≤ 72057594037927935 → (num n).size ≤ 17 := fun n h0 h1 => by rw [size_toL]; exact (num_ok n h0 h1).2.1
 have s0 := s w.f0 hw0.1 hw0.2
 have s1 := s w.f1 hw1.1 hw1.2
 have c1 : (⟨#[119, 111, 114, 107, 101, 114, 32]⟩ : ByteArray).size = 7 := rfl
 have c2 : (⟨#[32]⟩ : ByteArray).size = 1 := rfl
 obtain ⟨u, hu⟩ := Int.eq_ofNat_of_zero_le hb.1
 have hl := ht.len
 have htl := tellL_len nm w.f2
 have hwd := (work_words ht hs (w := w) hw0 hw1).line_len
 have e : lineL (workW nm w) = toL bWorker ++ (32 :: toL (num w.f0) ++ (32 :: toL (num w.f1) ++ ((tellL nm w.f2).map fun w => 32 :: toL w).flatten)) := by
  unfold workW
  rw [List.cons_append, lineL_cons]; simp
 have hfl : (((tellL nm w.f2).map fun w => 32 :: toL w).flatten).length ≤ 160040 := by
  rw [e] at hwd
  simp only [List.length_append, List.length_cons] at hwd
  omega
 have ht2 := ref_tell hl u (by omega) k hk
 rw [← hu] at ht2
 have hbe := behind_eq (tellL nm w.f2) (by omega) (fun x hx => hs x (tellL_mem _ x hx)) k (by omega)
 unfold sr14_Line.f
 rw [ref_num w.f0 (by omega), ref_num w.f1 (by omega), ht2]
 simp only [Option.bind_some]
 rw [hbe]
 simp only [Option.bind_some, ByteArray.size_append, c1, c2, size_ofL, List.length_append, List.length_singleton]
 repeat rw [if_pos (by omega)]
 congr 1
 refine toL_inj ?_
 have d1 : toL (⟨#[119, 111, 114, 107, 101, 114, 32]⟩ : ByteArray) = toL bWorker ++ [32] := rfl
 have d2 : toL (⟨#[32]⟩ : ByteArray) = [32] := rfl
 rw [e]
 simp only [toL_append, toL_ofL, d1, d2, List.append_assoc, List.cons_append, List.nil_append]
theorem ref_text_loop {nm : List ByteArray} (ht : Table nm) (hs : ∀ s ∈ nm, s.size ≤ 4000) (a0 a1 a2 a3 a4 : Int) (wk : List S41) (hwl : wk.length ≤ 64) (hok : ∀ w ∈ wk, okW nm.length w = true) (hb : ∀ w ∈ wk, 0 ≤ w.f2 ∧ w.f2 < 18446744073709551616) : ∀ (j i k : Nat) (acc : ByteArray), i + j = wk.length → j + 100 < k → acc.size + j * 200000 ≤ 100000000 →
  sr14_Text.l0 k acc i a0 a1 a2 a3 a4 nm wk = some (acc ++ ofL (worksL nm (wk.drop i))) := by
 intro j
 induction j with
 | zero =>
  intro i k acc h1 hk ha
  obtain ⟨k, rfl⟩ : ∃ m, k = m + 1 := ⟨k - 1, by omega⟩
  rw [sr14_Text.l0, if_neg (by omega), List.drop_eq_nil_of_le (by omega)]
  congr 1
  exact toL_inj (by rw [toL_append, toL_ofL]; simp [worksL])
 | succ j ih =>
  intro i k acc h1 hk ha
  obtain ⟨k, rfl⟩ : ∃ m, k = m + 1 := ⟨k - 1, by omega⟩
  have hlt : i < wk.length := by omega
  have hw := okW_parts (hok wk[i] (List.getElem_mem hlt))
  have hll := (work_words ht hs (w := wk[i]) (by omega) (by omega)).line_len
  have hsz : (ofL (lineL (workW nm wk[i]) ++ [10])).size ≤ 160041 := by rw [size_ofL, List.length_append]; simp only [List.length_singleton]; omega
  rw [sr14_Text.l0, if_pos (by omega), if_pos (by omega), rd_wk wk i hlt, line_ref ht hs a0 a1 a2 a3 a4 wk (by omega) (by omega) (hb _ (List.getElem_mem hlt)) k (by omega)]
  simp only [Option.bind_some]
  rw [if_pos (by omega), show wrap64 ((i : Int) + 1) = ((i + 1 : Nat) : Int) from wrap_nat (i + 1) (by omega), ih (i + 1) k _ (by omega) (by omega) (by rw [ByteArray.size_append]; omega), List.drop_eq_getElem_cons hlt]
  congr 1
  exact toL_inj (by simp only [toL_append, toL_ofL, worksL, List.map_cons, List.flatten_cons, List.append_assoc])
theorem ref_text {c : CF} (h : Fine c) (k : Nat) (hk : 10000 ≤ k) : sr14_Text.f k c.a0 c.a1 c.a2 c.a3 c.a4 c.nm c.wk = some (ofL (textL c)) := by
 obtain ⟨hr, hn, hw, ha⟩ := check_parts h.check
 have ht := table_of hn
 have h0l := (head_words hr).line_len
 have h1l := (names_words ht h.small).line_len
 have hnl := ht.len
 have hbe := behind_eq c.nm (by omega) h.small k (by omega)
 have e1 : lineL (namesW c.nm) = toL bNames ++ (c.nm.map fun w => 32 :: toL w).flatten := lineL_cons _ _
 rw [e1, List.length_append] at h1l
 have c5 : (⟨#[110, 97, 109, 101, 115]⟩ : ByteArray).size = 5 := rfl
 unfold sr14_Text.f
 rw [ref_check c.a0 c.a1 c.a2 c.a3 c.a4 c.nm c.wk 4000 (by omega) h.small h.bits k (by omega), h.check]
 simp only [Option.bind_some, if_true]
 rw [head_eq hr]
 simp only [Option.bind_some, size_ofL, List.length_append, List.length_singleton]
 rw [if_pos (by omega), hbe]
 simp only [Option.bind_some, ByteArray.size_append, size_ofL, c5, List.length_append, List.length_singleton]
 rw [if_pos (by omega), show (0 : Int) = ((0 : Nat) : Int) from rfl, ref_text_loop ht h.small c.a0 c.a1 c.a2 c.a3 c.a4 c.wk hw.2 (fine_ok h) h.bits c.wk.length 0 k _ (by omega) (by omega) (by rw [ByteArray.size_append, ByteArray.size_append, size_ofL, size_ofL, c5, List.length_append, List.length_append]; simp only [List.length_singleton]; omega), List.drop_zero]
 congr 1
 refine toL_inj ?_
 have d1 : toL (⟨#[110, 97, 109, 101, 115]⟩ : ByteArray) = toL bNames := rfl
 rw [toL_append, toL_append, toL_append, toL_ofL, toL_ofL, toL_ofL, toL_ofL, d1]
 unfold textL
 rw [e1]
 simp
theorem same_names' (l m : List ByteArray) (hl : l.length ≤ 9223372036854775807) : names_Same.f l m = some (decide (l = m)) := by
 unfold names_Same.f
 rw [if_pos hl]
 congr 1
 by_cases h : l.length = m.length
 ·
  rw [if_pos h]
  apply decide_eq_decide.mpr
  constructor
  ·
   intro hf
   apply List.ext_getElem h
   intro i h1 h2
   have := firstN_none _ _ _ hf i (by omega) (by omega)
   simp only [Bool.not_eq_false', beq_iff_eq] at this
   have e1 : l.getD i ByteArray.empty = l[i] := by rw [List.getD_eq_getElem?_getD, List.getElem?_eq_getElem h1]; rfl
   have e2 : m.getD i ByteArray.empty = m[i] := by rw [List.getD_eq_getElem?_getD, List.getElem?_eq_getElem h2]; rfl
   rw [e1, e2, toList_toL, toList_toL] at this
   exact toL_inj this
  ·
   intro e
   subst e
   have hn : ∀ k i, firstN (fun i => !((l.getD i ByteArray.empty).toList == (l.getD i ByteArray.empty).toList)) k i = -1 := by
    intro k
    induction k with
    | zero => intro i; rfl
    | succ k ih =>
     intro i
     unfold firstN
     rw [if_neg (by simp)]
     exact ih _
   rw [hn]; decide
 ·
  rw [if_neg h]
  exact (decide_eq_false (fun e => h (by rw [e]))).symm
theorem prog_works (v w : List S41) (hvw : v.length = w.length) (hl : v.length ≤ 9223372036854775807) (a0 a1 a2 a3 a4 b0 b1 b2 b3 b4 : Int) (nm nm' : List ByteArray) : ∀ (j i k : Nat), i + j = v.length → j < k →
  ∃ b, conf_Same.l0 k (v.length : Int) i a0 a1 a2 a3 a4 nm v b0 b1 b2 b3 b4 nm' w = some b ∧ (b = true ↔ v.drop i = w.drop i) := by
 intro j
 induction j with
 | zero =>
  intro i k h hk
  obtain ⟨k, rfl⟩ : ∃ m, k = m + 1 := ⟨k - 1, by omega⟩
  refine ⟨true, ?_, ?_⟩
  ·
   rw [conf_Same.l0, if_neg (by omega)]
  ·
   rw [List.drop_eq_nil_of_le (by omega), List.drop_eq_nil_of_le (by omega)]; simp
 | succ j ih =>
  intro i k h hk
  obtain ⟨k, rfl⟩ : ∃ m, k = m + 1 := ⟨k - 1, by omega⟩
  have h1 : i < v.length := by omega
  have h2 : i < w.length := by omega
  rw [conf_Same.l0, if_pos (by omega), if_pos (by omega), if_pos (by omega), if_pos (by omega), rd_wk v i h1, rd_wk w i h2, List.drop_eq_getElem_cons h1, List.drop_eq_getElem_cons h2]
  by_cases he : v[i] = w[i]
  ·
   obtain ⟨b, hb, hb2⟩ := ih (i + 1) k (by omega) (by omega)
   refine ⟨b, ?_, ?_⟩
   ·
    rw [if_neg (by rw [he]; simp), show wrap64 ((i : Int) + 1) = ((i + 1 : Nat) : Int) from wrap_nat (i + 1) (by omega)]
    exact hb
   ·
    rw [hb2, he]
    exact ⟨fun h => by rw [h], fun h => (List.cons.inj h).2⟩
  ·
   refine ⟨false, ?_, ?_⟩
   ·
    rw [if_pos]
    rw [wk_ext] at he
    simp only [Bool.or_eq_true, Bool.not_eq_true', beq_eq_false_iff_ne]
    by_cases e0 : v[i].f0 = w[i].f0
    ·
     by_cases e1 : v[i].f1 = w[i].f1
     ·
      exact .inr (.inr (fun e2 => he ⟨e0, e1, e2⟩))
     ·
      exact .inr (.inl e1)
    ·
     exact .inl e0
   ·
    exact ⟨fun h => (by cases h), fun h => absurd (List.cons.inj h).1 he⟩
theorem prog_same (c d : CF) (hn : c.nm.length ≤ 9223372036854775807) (hw : c.wk.length ≤ 9223372036854775807) (k : Nat) (hk : c.nm.length + c.wk.length + 2 < k) : ∃ b, conf_Same.f k c.a0 c.a1 c.a2 c.a3 c.a4 c.nm c.wk d.a0 d.a1 d.a2 d.a3 d.a4 d.nm d.wk = some b ∧ (b = true ↔ c = d) := by
 obtain ⟨k, rfl⟩ : ∃ m, k = m + 1 := ⟨k - 1, by omega⟩
 have hext : c = d ↔ c.a0 = d.a0 ∧ c.a1 = d.a1 ∧ c.a2 = d.a2 ∧ c.a3 = d.a3 ∧ c.a4 = d.a4 ∧ c.nm = d.nm ∧ c.wk = d.wk := by cases c; cases d; simp
 have hj : conf_Same.j0 (k + 1) true c.a0 c.a1 c.a2 c.a3 c.a4 c.nm c.wk d.a0 d.a1 d.a2 d.a3 d.a4 d.nm d.wk = some false := by rw [conf_Same.j0, if_pos rfl]
 have neg : ¬ c = d → ∃ b, (some false : Option Bool) = some b ∧ (b = true ↔ c = d) := fun h => ⟨false, rfl, ⟨fun h => (by cases h), fun e => absurd e h⟩⟩
 unfold conf_Same.f
 by_cases e0 : c.a0 = d.a0
 ·
  rw [if_pos e0]
  by_cases e1 : c.a1 = d.a1
  ·
   rw [if_pos e1]
   by_cases e2 : c.a2 = d.a2
   ·
    rw [if_pos e2]
    by_cases e3 : c.a3 = d.a3
    ·
     rw [if_pos e3]
     by_cases e4 : c.a4 = d.a4
     ·
      rw [if_pos e4, same_names' c.nm d.nm hn]
      simp only [Option.bind_some, decide_eq_true_eq]
      by_cases e5 : c.nm = d.nm
      ·
       rw [if_pos e5]
       by_cases e6 : c.wk.length = d.wk.length
       ·
        obtain ⟨b, hb, hb2⟩ := prog_works c.wk d.wk e6 hw c.a0 c.a1 c.a2 c.a3 c.a4 d.a0 d.a1 d.a2 d.a3 d.a4 c.nm d.nm c.wk.length 0 k (by omega) (by omega)
        refine ⟨b, ?_, ?_⟩
        ·
         rw [conf_Same.j0, if_neg (by rw [e6]; simp)]
         exact hb
        ·
         rw [hb2, List.drop_zero, List.drop_zero, hext]
         exact ⟨fun h => ⟨e0, e1, e2, e3, e4, e5, h⟩, fun h => h.2.2.2.2.2.2⟩
       ·
        have : (((c.wk.length : Nat) : Int) != ((d.wk.length : Nat) : Int)) = true := by simp; omega
        rw [this, hj]
        exact neg (fun h => e6 (by rw [h]))
      ·
       rw [if_neg e5, hj]; exact neg (fun h => e5 (by rw [h]))
     ·
      rw [if_neg e4, hj]; exact neg (fun h => e4 (by rw [h]))
    ·
     rw [if_neg e3, hj]; exact neg (fun h => e3 (by rw [h]))
   ·
    rw [if_neg e2, hj]; exact neg (fun h => e2 (by rw [h]))
  ·
   rw [if_neg e1, hj]; exact neg (fun h => e1 (by rw [h]))
 ·
  rw [if_neg e0, hj]; exact neg (fun h => e0 (by rw [h]))
theorem texts_true (c d : CF) (hcn : c.nm.length ≤ 9223372036854775807) (hcw : c.wk.length ≤ 9223372036854775807) (hdn : d.nm.length ≤ 9223372036854775807) (hcb : ∀ w ∈ c.wk, 0 ≤ w.f2 ∧ w.f2 < 18446744073709551616) :
  ∃ k, sl14_ConfTexts.f k c.a0 c.a1 c.a2 c.a3 c.a4 c.nm c.wk d.a0 d.a1 d.a2 d.a3 d.a4 d.nm d.wk = some true := by
 obtain ⟨K, hK⟩ : ∃ K, K = c.nm.length + c.wk.length + d.nm.length + 20000 + 100 := ⟨_, rfl⟩
 have hw : sl14_works.f K = some true := by rw [hK]; exact works_le _
 have hj : sl14_ConfTexts.j0 (K + 1) true c.a0 c.a1 c.a2 c.a3 c.a4 c.nm c.wk d.a0 d.a1 d.a2 d.a3 d.a4 d.nm d.wk = some true := by rw [sl14_ConfTexts.j0, if_pos rfl, hw]; rfl
 refine ⟨K + 1, ?_⟩
 unfold sl14_ConfTexts.f
 rw [long_eq c.a0 c.a1 c.a2 c.a3 c.a4 c.nm c.wk hcn (K + 1) (by omega), long_eq d.a0 d.a1 d.a2 d.a3 d.a4 d.nm d.wk hdn (K + 1) (by omega)]
 simp only [Option.bind_some]
 by_cases h1 : (longB c.nm || decide (80 < c.wk.length)) = true
 ·
  rw [if_pos h1]; exact hj
 ·
  rw [if_neg h1]
  by_cases h2 : (longB d.nm || decide (80 < d.wk.length)) = true
  ·
   rw [h2]; exact hj
  ·
   have h1' := eq_false_of_ne_true h1
   rw [Bool.or_eq_false_iff] at h1'
   have sc := short_of h1'.1
   obtain ⟨b1, s1, t1⟩ := prog_same c d hcn hcw K (by omega)
   obtain ⟨b2, s2, t2⟩ := same_eq c d hcn hcw K (by omega)
   obtain ⟨b3, s3, t3⟩ := prog_same c c hcn hcw K (by omega)
   obtain rfl : b3 = true := t3.mpr rfl
   obtain rfl : b1 = b2 := by rw [Bool.eq_iff_iff, t1, t2]
   have htx : ∃ t, conf_Text.f K c.a0 c.a1 c.a2 c.a3 c.a4 c.nm c.wk = some t ∧ sr14_Text.f K c.a0 c.a1 c.a2 c.a3 c.a4 c.nm c.wk = some t := by
    by_cases hf : checkN c.a0 c.a1 c.a2 c.a3 c.a4 c.nm c.wk = 0
    ·
     have fc : Fine c := ⟨hf, fun s hs => by have := sc.1 s hs; omega, hcb⟩
     exact ⟨_, text_eq fc K (by omega), ref_text fc K (by omega)⟩
    ·
     refine ⟨⟨#[]⟩, ?_, ?_⟩
     ·
      unfold conf_Text.f
      rw [conf_check c.a0 c.a1 c.a2 c.a3 c.a4 c.nm c.wk (fun s hs => by have := sc.1 s hs; omega) (by omega) hcb K (by omega)]
      simp only [Option.bind_some]
      rw [if_neg hf]
     ·
      unfold sr14_Text.f
      rw [ref_check c.a0 c.a1 c.a2 c.a3 c.a4 c.nm c.wk 100 (by omega) sc.1 hcb K (by omega)]
      simp only [Option.bind_some]
      rw [if_neg hf]
   obtain ⟨t, ht1, ht2⟩ := htx
   rw [eq_false_of_ne_true h2, sl14_ConfTexts.j0, if_neg (by decide), conf_check c.a0 c.a1 c.a2 c.a3 c.a4 c.nm c.wk (fun s hs => by have := sc.1 s hs; omega) (by omega) hcb K (by omega), ref_check c.a0 c.a1 c.a2 c.a3 c.a4 c.nm c.wk 100 (by omega) sc.1 hcb K (by omega)]
   simp only [Option.bind_some, if_true]
   rw [ht1, ht2]
   simp only [Option.bind_some, if_true]
   rw [s1, s2]
   simp only [Option.bind_some, beq_self_eq_true, if_true]
   rw [s3]
   simp only [Option.bind_some, if_true]
   rw [hw]; rfl
end Go.Proofs.YtmppkcdphgelcaaGreatDoor.PConf
namespace Go.Proofs.YtmppkcdphgelcaaGreatDoor
open Go.RowKit W.PrintWords
section
variable {P : Program} {W : World} {H : Type} {enc : TypeId × Value → H} {base : Nat} {sp : Nat → Bool} {held : Bool}
def Opens {α : Type} (P : Program) (W : World) {H : Type} (enc : TypeId × Value → H) (base : Nat) (sp : Nat → Bool) (held : Bool) (t : TypeId) (d : Kd α) (ok : α → Prop) : Prop :=
 ∀ fuel cs x, DataW.trod enc P W base sp held fuel t cs = some x → ∃ a, d.K W a cs ∧ ok a
def okI (k : IntKind) (n : Int) : Prop := (Lit.int k n).wf = true
def okP {α β : Type} (p : α → Prop) (q : β → Prop) (x : α × β) : Prop := p x.1 ∧ q x.2
def okS (s : ByteArray) : Prop := s.size ≤ maxLen
def okL {α : Type} (p : α → Prop) (l : List α) : Prop := ∀ a ∈ l, p a
def okT (_ : Bool) : Prop := True
theorem Opens.int {t : TypeId} {k : IntKind} (ht : P.underlying t = some (.int k)) : Opens P W enc base sp held t (Kd.int k) (okI k) := by
 intro fuel cs x h
 obtain ⟨n, rfl, _, hw⟩ := DataW.trod_int ht h
 exact ⟨n, rfl, hw⟩
theorem Opens.bool {t : TypeId} (ht : P.underlying t = some .bool) : Opens P W enc base sp held t Kd.bool okT := by
 intro fuel cs x h
 obtain ⟨n, rfl, _⟩ := DataW.trod_bool ht h
 exact ⟨n, rfl, trivial⟩
theorem Opens.string {t : TypeId} (ht : P.underlying t = some .string) : Opens P W enc base sp held t Kd.string okS := by
 intro fuel cs x h
 obtain ⟨n, rfl, _, hw⟩ := DataW.trod_string ht h
 exact ⟨n, rfl, hw⟩
theorem choose_list {α : Type} {Q : Nat → α → Prop} : ∀ n : Nat, (∀ i, i < n → ∃ a, Q i a) → ∃ l : List α, l.length = n ∧ ∀ i a, l[i]? = some a → Q i a := by
 intro n
 induction n with
 | zero => exact fun _ => ⟨[], rfl, fun i a h => by simp at h⟩
 | succ n ih =>
  intro h
  obtain ⟨l, hl, hq⟩ := ih (fun i hi => h i (by omega))
  obtain ⟨a, ha⟩ := h n (by omega)
  refine ⟨l ++ [a], by simp [hl], fun i b hb => ?_⟩
  rcases Nat.lt_or_ge i n with hi | hi
  ·
   rw [List.getElem?_append_left (by omega)] at hb; exact hq i b hb
  ·
   rw [List.getElem?_append_right (by omega)] at hb
   have : i = n := by
    rcases Nat.lt_or_ge n i with hlt | hge
    ·
     rw [List.getElem?_eq_none (by simp; omega)] at hb; cases hb
    ·
     omega
   subst this
   rw [hl, Nat.sub_self] at hb
   simp only [List.getElem?_cons_zero, Option.some.injEq] at hb
   subst hb
   exact ha
theorem cells_each {w : World} {a : Addr} {n : Nat} {cs : List Value} (h : w.cells? base a n = some cs) : cs.length = n ∧ ∀ j u, cs[j]? = some u → w.cell? (a.add j) = some u := by
 unfold World.cells? at h
 split at h
 ·
  have hl := mapM_some_length h
  refine ⟨by simpa using hl, fun j u hu => ?_⟩
  have hj : j < n := by
   have := (List.getElem?_eq_some_iff.1 hu).1
   rw [hl] at this; simpa using this
  have := mapM_some_get h j j (by simp [hj])
  rw [this]; exact hu
 ·
  cases h
theorem Opens.slice {α : Type} {d : Kd α} {ok : α → Prop} {t e : TypeId} (ht : P.underlying t = some (.slice e)) (hc : P.cellsOf e = d.sz) (h : Opens P W enc base sp held e d ok) : Opens P W enc base sp held t (Kd.slice e d) (okL ok) := by
 intro fuel cs x hx
 rcases DataW.trod_slice ht hx with ⟨rfl, _⟩ | ⟨a, len, cap, elems, rest, n, _, rfl, _, _, hl, hm, he, hel, _⟩
 ·
  refine ⟨[], ⟨none, 0, rfl, Nat.le_refl _, rfl, by simp, fun h => absurd h (by simp)⟩, fun a h => by cases h⟩
 ·
  obtain ⟨l, hll, hq⟩ := choose_list (Q := fun i (p : α) => ok p ∧ ∃ c, c.length = d.sz ∧ d.K W p c ∧ ∀ j u, c[j]? = some u → W.cell? (a.add (i * d.sz + j)) = some u) len (fun i hi => by
   have h1 := hel i hi
   rw [List.getElem?_eq_getElem (by omega), hc] at h1
   obtain ⟨c, hc1, hc2⟩ := Option.bind_eq_some_iff.1 h1
   obtain ⟨p, hp, hok⟩ := h _ _ _ hc2
   obtain ⟨h2, h3⟩ := cells_each hc1
   refine ⟨p, hok, c, h2, hp, fun j u hu => ?_⟩
   have := h3 j u hu
   rwa [Addr.add_add] at this)
  refine ⟨l, ⟨some a, cap, by rw [hll], by omega, ?_⟩, fun p hp => ?_⟩
  ·
   refine ⟨rfl, by unfold maxLen at hm; omega, fun _ => ⟨a, rfl, fun j p hp => ?_⟩⟩
   exact (hq j p hp).2
  ·
   obtain ⟨i, hi⟩ := List.getElem?_of_mem hp
   exact (hq i p hi).1
def OpensAt {α : Type} (P : Program) (W : World) {H : Type} (enc : TypeId × Value → H) (base : Nat) (sp : Nat → Bool) (held : Bool) (fs : List Field) (o : Nat) (d : Kd α) (ok : α → Prop) : Prop :=
 ∀ n cs, cs.length = d.sz → (∀ (i : Nat) (f : Field), fs[i]? = some f → o ≤ f.offset ∧ ∃ y, DataW.trod enc P W base sp held n f.type ((cs.drop (f.offset - o)).take (P.cellsOf f.type)) = some y) → ∃ a, d.K W a cs ∧ ok a
theorem OpensAt.one {α : Type} {d : Kd α} {ok : α → Prop} {f : Field} (hc : P.cellsOf f.type = d.sz) (h : Opens P W enc base sp held f.type d ok) : OpensAt P W enc base sp held [f] f.offset d ok := by
 intro n cs hl hf
 obtain ⟨_, y, hy⟩ := hf 0 f rfl
 rw [Nat.sub_self, List.drop_zero, hc, ← hl, List.take_length] at hy
 exact h _ _ _ hy
theorem OpensAt.cons {α β : Type} {d : Kd α} {d' : Kd β} {ok : α → Prop} {ok' : β → Prop} {f : Field} {fs : List Field} (hc : P.cellsOf f.type = d.sz) (ho : ∀ g ∈ fs, f.offset + d.sz ≤ g.offset) (h : Opens P W enc base sp held f.type d ok) (h' : OpensAt P W enc base sp held fs (f.offset + d.sz) d' ok') :
  OpensAt P W enc base sp held (f :: fs) f.offset (Kd.pair d d') (okP ok ok') := by
 intro n cs hl hf
 have hl' : cs.length = d.sz + d'.sz := hl
 obtain ⟨_, y, hy⟩ := hf 0 f rfl
 rw [Nat.sub_self, List.drop_zero, hc] at hy
 obtain ⟨a, ha, hok⟩ := h _ _ _ hy
 obtain ⟨b, hb, hok'⟩ := h' n (cs.drop d.sz) (by rw [List.length_drop]; omega) (fun i g hg => by
  obtain ⟨h1, z, hz⟩ := hf (i + 1) g hg
  have h2 := ho g (List.mem_of_getElem? hg)
  refine ⟨h2, z, ?_⟩
  rw [List.drop_drop, show d.sz + (g.offset - (f.offset + d.sz)) = g.offset - f.offset by omega]
  exact hz)
 exact ⟨(a, b), ⟨cs.take d.sz, cs.drop d.sz, (List.take_append_drop _ _).symm, ha, hb⟩, hok, hok'⟩
theorem Opens.struct {α β : Type} {d : Kd α} {ok : α → Prop} {t : TypeId} {fs : Array Field} (ht : P.underlying t = some (.struct fs)) (hc : P.cellsOf t = d.sz) (f : β → α) (g : α → β) (hfg : ∀ a, f (g a) = a) (h : OpensAt P W enc base sp held fs.toList 0 d ok) : Opens P W enc base sp held t (Kd.iso d f) (fun b => ok (f b)) := by
 intro fuel cs x hx
 obtain ⟨xs, n, _, _, hl, hxl, hf⟩ := DataW.trod_struct ht hx
 obtain ⟨a, ha, hok⟩ := h n cs (by omega) (fun i fd hfd => by
  have hfd' : fs[i]? = some fd := by simpa using hfd
  have hi : i < fs.size := (Array.getElem?_eq_some_iff.1 hfd').1
  refine ⟨Nat.zero_le _, xs[i]'(by omega), ?_⟩
  rw [Nat.sub_zero, hf i fd hfd', List.getElem?_eq_getElem (by omega)])
 refine ⟨g a, ?_, ?_⟩
 ·
  show d.K W (f (g a)) cs
  rw [hfg]; exact ha
 ·
  show ok (f (g a))
  rw [hfg]; exact hok
theorem Opens.mono {α : Type} {d : Kd α} {ok ok' : α → Prop} {t : TypeId} (h : Opens P W enc base sp held t d ok) (hm : ∀ a, ok a → ok' a) : Opens P W enc base sp held t d ok' := fun _ _ _ hx => by
 obtain ⟨a, h1, h2⟩ := h _ _ _ hx
 exact ⟨a, h1, hm a h2⟩
end
end Go.Proofs.YtmppkcdphgelcaaGreatDoor
namespace Go.Proofs.YtmppkcdphgelcaaGreatDoor.PConf
open Go.RowKit W.PrintWords
open Go.WideShapes (okWide_struct)
section
variable {W : World} {H : Type} {enc : TypeId × Value → H} {base : Nat} {sp : Nat → Bool} {held : Bool}
def okWk : Int × Int × Int → Prop := okP (okI .i64) (okP (okI .i64) (okI .u64))
def okConf : Int × Int × Int × Int × Int × List ByteArray × List S41 → Prop := okP (okI .i64) (okP (okI .i64) (okP (okI .i64) (okP (okI .i64) (okP (okI .i64) (okP (okL okS) (okL fun x : S41 => okWk (x.f0, x.f1, x.f2)))))))
def kWk : Kd (Int × Int × Int) := Kd.pair (Kd.int .i64) (Kd.pair (Kd.int .i64) (Kd.int .u64))
def kConf : Kd (Int × Int × Int × Int × Int × List ByteArray × List S41) := Kd.pair (Kd.int .i64) (Kd.pair (Kd.int .i64) (Kd.pair (Kd.int .i64) (Kd.pair (Kd.int .i64) (Kd.pair (Kd.int .i64) (Kd.pair (Kd.slice 9 Kd.string) (Kd.slice 41 k41))))))
theorem opens_worker : Opens Tryz.prog W enc base sp held 41 k41 (fun x => okWk (x.f0, x.f1, x.f2)) := by
 refine Opens.struct (d := kWk) (ok := okWk) Tryz.underlying41 (by kernel_rfl) (fun x : S41 => (x.f0, x.f1, x.f2)) (fun p => ⟨p.1, p.2.1, p.2.2⟩) (fun _ => rfl) ?_
 unfold kWk okWk
 refine OpensAt.cons ?_ ?_ (Opens.int Tryz.underlying3) ?_
 ·
  kernel_rfl
 ·
  decide +kernel
 refine OpensAt.cons ?_ ?_ (Opens.int Tryz.underlying3) ?_
 ·
  kernel_rfl
 ·
  decide +kernel
 refine OpensAt.one ?_ (Opens.int Tryz.underlying39)
 kernel_rfl
theorem opens_conf : Opens Tryz.prog W enc base sp held 25 (Kd.iso kConf id) (fun x => okConf (id x)) := by
 refine Opens.struct (d := kConf) (ok := okConf) Tryz.underlying25 (by kernel_rfl) id id (fun _ => rfl) ?_
 unfold kConf okConf
 refine OpensAt.cons ?_ ?_ (Opens.int Tryz.underlying3) ?_
 ·
  kernel_rfl
 ·
  decide +kernel
 refine OpensAt.cons ?_ ?_ (Opens.int Tryz.underlying3) ?_
 ·
  kernel_rfl
 ·
  decide +kernel
 refine OpensAt.cons ?_ ?_ (Opens.int Tryz.underlying3) ?_
 ·
  kernel_rfl
 ·
  decide +kernel
 refine OpensAt.cons ?_ ?_ (Opens.int Tryz.underlying3) ?_
 ·
  kernel_rfl
 ·
  decide +kernel
 refine OpensAt.cons ?_ ?_ (Opens.int Tryz.underlying3) ?_
 ·
  kernel_rfl
 ·
  decide +kernel
 refine OpensAt.cons ?_ ?_ (Opens.slice Tryz.underlying22 (by kernel_rfl) (Opens.string Tryz.underlying9)) ?_
 ·
  kernel_rfl
 ·
  decide +kernel
 refine OpensAt.one ?_ (Opens.slice Tryz.underlying23 (by kernel_rfl) opens_worker)
 kernel_rfl
structure ConfIn (W : World) (v : Value) (c : CF) (A5 : Option Addr) (c5 : Nat) (A6 : Option Addr) (c6 : Nat) : Prop where
 val : v = .agg #[.int .i64 c.a0, .int .i64 c.a1, .int .i64 c.a2, .int .i64 c.a3, .int .i64 c.a4, .slice A5 c.nm.length c5, .slice A6 c.wk.length c6]
 names : Kd.C Kd.string W A5 c.nm.length c.nm
 namesCap : c.nm.length ≤ c5
 works : Kd.C k41 W A6 c.wk.length c.wk
 worksCap : c.wk.length ≤ c6
 bits : ∀ w ∈ c.wk, 0 ≤ w.f2 ∧ w.f2 < 18446744073709551616
 wide : (∀ w ∈ c.wk, (-9223372036854775808 ≤ w.f0 ∧ w.f0 ≤ 9223372036854775807) ∧ (-9223372036854775808 ≤ w.f1 ∧ w.f1 ≤ 9223372036854775807)) ∧ (∀ s ∈ c.nm, s.size ≤ maxLen) ∧ (-9223372036854775808 ≤ c.a0 ∧ c.a0 ≤ 9223372036854775807) ∧ (-9223372036854775808 ≤ c.a1 ∧ c.a1 ≤ 9223372036854775807) ∧ (-9223372036854775808 ≤ c.a2 ∧ c.a2 ≤ 9223372036854775807) ∧ (-9223372036854775808 ≤ c.a3 ∧ c.a3 ≤ 9223372036854775807) ∧ (-9223372036854775808 ≤ c.a4 ∧ c.a4 ≤ 9223372036854775807)
theorem ConfIn.nmLen {v : Value} {c : CF} {A5 : Option Addr} {c5 : Nat} {A6 : Option Addr} {c6 : Nat} (h : ConfIn W v c A5 c5 A6 c6) : c.nm.length ≤ 9223372036854775807 := h.names.2.1
theorem ConfIn.wkLen {v : Value} {c : CF} {A5 : Option Addr} {c5 : Nat} {A6 : Option Addr} {c6 : Nat} (h : ConfIn W v c A5 c5 A6 c6) : c.wk.length ≤ 9223372036854775807 := h.works.2.1
set_option maxRecDepth 100000 in
theorem conf_in {r : Reach} {b0 : Nat} {v : Value} {d : DataW H} {ps : List MemPlace} (hval : Value.okWide Tryz.prog W r b0 25 v) (h : DataW.Trod enc Tryz.prog W base sp held 25 v d ps) : ∃ c A5 c5 A6 c6, ConfIn W v c A5 c5 A6 c6 := by
 obtain ⟨fuel, hf⟩ := h
 obtain ⟨cs, rfl, _⟩ := okWide_struct Tryz.underlying25 hval
 obtain ⟨x, hx, w0, w1, w2, w3, w4, ws, ww⟩ := opens_conf fuel _ _ hf
 obtain ⟨x0, x1, x2, x3, x4, nm, wk⟩ := x
 obtain ⟨_, _, e0, rfl, _, _, rfl, rfl, _, _, rfl, rfl, _, _, rfl, rfl, _, _, rfl, rfl, _, _, rfl, ⟨A5, c5, rfl, l5, g5⟩, ⟨A6, c6, rfl, l6, g6⟩⟩ := hx
 refine ⟨⟨x0, x1, x2, x3, x4, nm, wk⟩, A5, c5, A6, c6, ?_, g5, l5, g6, l6, fun w hw => ?_, fun w hw => ⟨bounds_i64 (ww w hw).1, bounds_i64 (ww w hw).2.1⟩, ws, bounds_i64 w0, bounds_i64 w1, bounds_i64 w2, bounds_i64 w3, bounds_i64 w4⟩
 ·
  have e1 : cs.toList = [.int .i64 x0, .int .i64 x1, .int .i64 x2, .int .i64 x3, .int .i64 x4, .slice A5 nm.length c5, .slice A6 wk.length c6] := e0
  congr 1
  cases cs
  simp only at e1
  rw [e1]
 ·
  have h2 : 0 ≤ w.f2 ∧ w.f2 ≤ 18446744073709551615 := bounds_u64 (ww w hw).2.2
  omega
end
end Go.Proofs.YtmppkcdphgelcaaGreatDoor.PConf
namespace Go.Proofs.YtmppkcdphgelcaaGreatDoor.LawTexts
open Go.ChangeShapes Go.WideShapes Go.ChangeAt Go.RowKit Go.Lib
open W.PrintWords (As0)
set_option maxRecDepth 100000 in
theorem lifted (os : Os) (started : os.Started) (H : Type) (enc : TypeId × Value → H) :
    ReturnsInHanded {} Tryz.checked os 3 .any (fun w args => (Rows.confTextsSpec.pre enc Tryz.prog Tryz.f3 [] false w args ∧ laidMetH Tryz.prog Rows.confTextsRow.laid w) ∧ sizedMet enc Tryz.prog Tryz.f3 (OpenSpec.ofChange Rows.confTextsSpec) false w args)
      (Rows.confTextsSpec.post enc Tryz.prog Tryz.f3 false true false false) := by
  refine lift_both (C := Tryz.checked) (X := fun w _ => laidMetH Tryz.prog Rows.confTextsRow.laid w) (fun _ _ _ hh h => h.of_heap hh) row_own started (by kernel_rfl) Tryz.func3
    (ChangeSpec.witness_shaped (enc := enc) (C := Tryz.checked) (os := os) (X := fun w _ => laidMetH Tryz.prog Rows.confTextsRow.laid w) false (World.laidAll Tryz.prog os Rows.confTextsRow.laid) #[.agg #[.int .i64 0, .int .i64 0, .int .i64 0, .int .i64 0, .int .i64 0, .slice none 0 0, .slice none 0 0], .agg #[.int .i64 0, .int .i64 0, .int .i64 0, .int .i64 0, .int .i64 0, .slice none 0 0, .slice none 0 0]] 8 (World.laidAll_os _ _ _)
      (World.shaped_of_ZipB (by kernel_rfl) (by kernel_rfl)) (by kernel_rfl) (by kernel_rfl) (by kernel_rfl)
      (by rw [MakeChecks.laidMetH_plain _ _ _ (by kernel_rfl)]; exact laidMet_laidAll _ (by kernel_rfl) (by kernel_rfl))) ?_
  intro W base args ds gs before hval0 hW hsz0 hLm hsh
  have hval : ∀ (j : Nat) t v, Tryz.f3.params[j]? = some t → args[j]? = some v → Value.okWide Tryz.prog W .any base t v := hval0
  have hW' := hW
  obtain ⟨p, q, hA0, hV, rfl, hfz, hnd⟩ := hW
  have hA : DataW.TrodAll enc Tryz.prog W 0 (fun _ => true) true Tryz.f3.params.toList args.toList ds p := hA0
  rw [Tryz.params3] at hA hval
  obtain ⟨v0, v1, d0, d1, p0, p1, rfl, rfl, rfl, h0, h1⟩ := trodAll_two hA
  obtain ⟨rfl, rfl⟩ := trodVars_none hV
  have k0 := h0
  have k1 := h1
  have lt0 : ∀ x ∈ p0, x.block < W.heap.size := by obtain ⟨m, hm⟩ := k0; exact DataW.trod_lt m _ _ _ hm
  have lt1 : ∀ x ∈ p1, x.block < W.heap.size := by obtain ⟨m, hm⟩ := k1; exact DataW.trod_lt m _ _ _ hm
  obtain ⟨c, A5, c5, A6, c6, hc⟩ := PConf.conf_in (hval 0 25 v0 rfl rfl) h0
  obtain ⟨d, B5, e5, B6, e6, hd⟩ := PConf.conf_in (hval 1 25 v1 rfl rfl) h1
  have hL : Laid W := by
    rw [MakeChecks.laidMetH_plain _ _ _ (by kernel_rfl)] at hLm
    exact laid_of hLm hsh (List.mem_of_getElem? (i := 2) rfl) (List.mem_of_getElem? (i := 5) rfl) (List.mem_of_getElem? (i := 4) rfl)
  obtain ⟨k, ht⟩ := PConf.texts_true c d hc.nmLen hc.wkLen hd.nmLen hc.bits
  have hcall := PConf.sl14_ConfTexts.calls k c.a0 c.a1 c.a2 c.a3 c.a4 A5 c5 c.nm A6 c6 c.wk d.a0 d.a1 d.a2 d.a3 d.a4 B5 e5 d.nm B6 e6 d.wk true W hc.names hc.namesCap hc.works hc.worksCap hd.names hd.namesCap hd.works hd.worksCap hL ⟨rfl⟩ ht
  rw [← hc.val, ← hd.val] at hcall
  clear hA0 hval0 hsz0 hLm hsh
  refine hcall.mono fun e W' ⟨he, bel⟩ => ?_
  subst he
  exact ⟨_, rfl, _, _, _, [], _, [], hW', trodAll_mk1 (shut_bool Tryz.underlying4 _), trodAll_mk2 (Below.trod row_laidOut (by kernel_rfl) (of_decide_eq_true (by kernel_rfl)) k0 bel lt0) (Below.trod row_laidOut (by kernel_rfl) (of_decide_eq_true (by kernel_rfl)) k1 bel lt1), rfl, bel.frame _, fun h => by cases h⟩
theorem holds : Rows.ConfTextsSaid :=
  OpenClaim.holds_of_wide 3 Tryz.f3 rfl rfl rfl rfl rfl rfl rfl ⟨rfl, rfl, rfl, rfl, rfl⟩ rfl rfl rfl rfl rfl (by kernel_rfl) Tryz.func3 (by kernel_rfl)
    (of_decide_eq_true (by kernel_rfl)) (by unfold Func.isWrapper; first | (rw [if_pos (by decide +kernel)]; kernel_rfl) | (rw [if_neg (by decide +kernel)]; exact ⟨rfl, rfl⟩))
    (fun os started H enc _ => lifted os started H enc)
theorem card : Rows.ConfTextsCardSaid :=
  Claim7.holds_tied_plain_at .later [] [.data, .data, .data, .data, .sentinel, .sentinel, .pinned] true (true, Rows.confTextsCard.stood.harness.2) true holds (fun _ h => by cases h) (by kernel_rfl) (fun _ h => by cases h) confTexts_row_tie rfl ⟨rfl, rfl⟩ (by kernel_rfl) rfl
    (fun f fn hf hfn => by
      obtain rfl : f = 3 := Option.some.inj ((show Tryz.prog.funcNamed "siskin/siskinlaw14.ConfTexts" = some 3 by kernel_rfl).symm.trans hf) |>.symm
      obtain rfl : fn = Tryz.f3 := (Option.some.inj (Tryz.func3.symm.trans hfn)).symm
      exact ⟨by kernel_rfl, fun j t ht => by
        rw [Tryz.params3] at ht
        have hm : t ∈ [25, 25] := by simpa using Array.mem_of_getElem? ht
        have hall : ([25, 25].all fun u => !Tryz.prog.wantsStandIn u) = true := by kernel_rfl
        exact (show Tryz.prog.wantsStandIn t = false by simpa using List.all_eq_true.1 hall t hm)⟩)
    (by kernel_rfl)
end Go.Proofs.YtmppkcdphgelcaaGreatDoor.LawTexts
namespace Go.Proofs.YtmppkcdphgelcaaGreatDoor
theorem confTexts_card_holds : Rows.ConfTextsCardSaid := LawTexts.card
#print axioms confTexts_card_holds
end Go.Proofs.YtmppkcdphgelcaaGreatDoor
