/-
KemChecks is proved: whatever the two seeds and the two numbers, the law answers true. No condition.
-/
import Derived.Test.YtapilbdboeggdaaRProg
import Derived.Test.YtapilbdboeggdaaRW00
import Derived.Test.YtapilbdboeggdaaRW01
import Derived.Test.YtapilbdboeggdaaRW08
import Derived.Test.YtapilbdboeggdaaRW03
import Derived.Test.YtapilbdboeggdaaRW10
import Derived.Test.YtapilbdboeggdaaRW11
import Derived.Test.YtapilbdboeggdaaRW12
import Derived.Test.YtapilbdboeggdaaRW13
import Derived.Test.YtapilbdboeggdaaRW14
import Derived.Test.YtapilbdboeggdaaRRows
import Derived.ProofKit
import Derived.OpenShut
set_option maxRecDepth 1000000
set_option linter.unusedVariables false
set_option linter.unusedSimpArgs false
set_option maxHeartbeats 4000000
namespace Go.Proofs.YtapilbdboeggdaaR.Gx
open Go Go.RowKit
def i_liverylaw14_live  : Option (Bool) :=
  ((i_kem_KeyGen (List.replicate 32 (0 : Int)) (List.replicate 32 (0 : Int))).bind fun (v3, v4, v5) => ((i_kem_Decaps (List.replicate 2400 (0 : Int)) (List.replicate 1088 (0 : Int))).bind fun (v23, v24) => (if (v5 == 0) = true then (if ((v3.length : Int) == 1184) = true then (if ((v4.length : Int) == 2400) = true then (if (v24 == 141) = true then ((i_kem_CheckEk v3).bind fun v97 => some (v97 == 0)) else some false) else some false) else some false) else some false)))
theorem i_liverylaw14_live_ok  {w : World}  (c0 : Bool) (h : i_liverylaw14_live  = some c0) : Calls Try.prog 7 #[] w (Ret (fun v w' => v = .bool c0 ∧ St w w' [])) := by
  unfold i_liverylaw14_live at h
  refine calls_of_wp Try.func7 rfl ?_
  have hF := Fr.start (#[] : Array Value) 40 40 [] rfl (by kernel_rfl)
  have hS := St.nil w
  refine go_fr hF (fun a hF => (wp_seq (wp_region_lit ?_)))
  refine wplp 1 [] [] hF (fun a10 hF10 => (wpList_nil (then_n (wp_seq (wp_region_lit ?_)))))
  refine wplp 2 [7, 8] [(7, .agg (ic .u8 (rz 32)).toArray), (8, .agg (ic .u8 (rz 32)).toArray)] hF10 (fun a11 hF11 => ?_)
  obtain ⟨⟨v3, v4, v5⟩, hb12, h⟩ := bind_ok h
  refine wpl_one hF11 (by kernel_rfl) (wp_callR hF11 (by kernel_rfl) (g := 6) (args := #[.agg (ic .u8 (rz 32)).toArray, .agg (ic .u8 (rz 32)).toArray]) (by kernel_rfl) (i_kem_KeyGen_ok (rz 32) (rz 32) (len_is (rz 32) (n := 32) (List.length_replicate)) (len_is (rz 32) (n := 32) (List.length_replicate)) v3 v4 v5 hb12) (fun vr w13 hp => ?_))
  obtain ⟨o14, n15, k16, o17, n18, k19, hn_n15, hn_n18, rfl, hS20⟩ := hp
  subst hn_n15
  subst hn_n18
  replace hS20 := St.call hS hS20 rfl
  refine go_fr (hF11.next (.tuple #[.slice o14 v3.length k16, .slice o17 v4.length k19, i6 v5]) [9] (M := [(9, .tuple #[.slice o14 v3.length k16, .slice o17 v4.length k19, i6 v5])]) (by kernel_rfl)) (fun a20 hF20 => ?_)
  refine wplp 7 [1, 2, 3] [(1, .slice o14 v3.length k16), (2, .slice o17 v4.length k19), (3, i6 v5)] hF20 (fun a21 hF21 => (wpList_nil (then_n (wp_seq (wp_region_noPanic (region_al [] (fun w' => St w w' [.sl o14 v3.length k16 1 (ic .u8 v3) 5, .sl o17 v4.length k19 1 (ic .u8 v4) 5]) 9 rfl (by kernel_rfl) ?_))))))
  have hS22 := St.draw1 hS20
  obtain ⟨⟨v23, v24⟩, hb23, h⟩ := bind_ok h
  refine al_cut 0 #[true, true, true, true, true, true, true, true, true] (fun a' w' => ∃ (b24 : Nat) (b25 : Nat) (b26 : Nat), Fr 40 [] [(1, .slice o14 v3.length k16), (2, .slice o17 v4.length k19), (3, i6 v5), (5, i6 v24)] a' ∧ St w w' [.blk b24 (ic .u8 v23) 22, .blk b25 (ic .u8 (rz 1088)) 5, .blk b26 (ic .u8 (rz 2400)) 5, .sl o14 v3.length k16 1 (ic .u8 v3) 5, .sl o17 v4.length k19 1 (ic .u8 v4) 5] ∧ v23.length = 32) ?_ (fun nd27 => ?_)
  ·
   rintro a28 w29 ⟨b24, b25, b26, hF28, hS28, hl_v23⟩
   refine al_done (by kernel_rfl) ?_ _
   refine NoPanic.normal (then_n (wp_seq (wp_region_lit ?_)))
   refine wplp 3 [1, 2, 5, 21] [(1, .slice o14 v3.length k16), (2, .slice o17 v4.length k19), (5, i6 v24), (21, .bool (v5 == 0))] hF28 (fun a30 hF30 => ?_)
   rcases Bool.eq_false_or_eq_true (v5 == 0) with ht31 | ht31
   ·
    have hF32 := Fr.eqv (L := [(1, .slice o14 v3.length k16), (2, .slice o17 v4.length k19), (5, i6 v24), (21, .bool (v5 == 0))]) (Fr.pick [1, 2, 5, 21] (by kernel_rfl) hF30) (M := [(1, .slice o14 v3.length k16), (2, .slice o17 v4.length k19), (5, i6 v24), (21, .bool true)]) (by rw [ht31])
    have h := if_t ht31 h
    refine wplp 5 [1, 2, 5, 26] [(1, .slice o14 v3.length k16), (2, .slice o17 v4.length k19), (5, i6 v24), (26, .bool ((v3.length : Int) == 1184))] hF32 (fun a33 hF33 => ?_)
    rcases Bool.eq_false_or_eq_true ((v3.length : Int) == 1184) with ht34 | ht34
    ·
     have hF35 := Fr.eqv (L := [(1, .slice o14 v3.length k16), (2, .slice o17 v4.length k19), (5, i6 v24), (26, .bool ((v3.length : Int) == 1184))]) (Fr.pick [1, 2, 5, 26] (by kernel_rfl) hF33) (M := [(1, .slice o14 v3.length k16), (2, .slice o17 v4.length k19), (5, i6 v24), (26, .bool true)]) (by rw [ht34])
     have h := if_t ht34 h
     refine wplp 5 [1, 5, 31] [(1, .slice o14 v3.length k16), (5, i6 v24), (31, .bool ((v4.length : Int) == 2400))] hF35 (fun a36 hF36 => ?_)
     rcases Bool.eq_false_or_eq_true ((v4.length : Int) == 2400) with ht37 | ht37
     ·
      have hF38 := Fr.eqv (L := [(1, .slice o14 v3.length k16), (5, i6 v24), (31, .bool ((v4.length : Int) == 2400))]) (Fr.pick [1, 5, 31] (by kernel_rfl) hF36) (M := [(1, .slice o14 v3.length k16), (5, i6 v24), (31, .bool true)]) (by rw [ht37])
      have h := if_t ht37 h
      refine wplp 4 [1, 35] [(1, .slice o14 v3.length k16), (35, .bool (v24 == 141))] hF38 (fun a39 hF39 => ?_)
      rcases Bool.eq_false_or_eq_true (v24 == 141) with ht40 | ht40
      ·
       have hF41 := Fr.eqv (L := [(1, .slice o14 v3.length k16), (35, .bool (v24 == 141))]) (Fr.pick [1, 35] (by kernel_rfl) hF39) (M := [(1, .slice o14 v3.length k16), (35, .bool true)]) (by rw [ht40])
       have h := if_t ht40 h
       refine wplp 1 [35, 36] [(35, .bool true), (36, .slice o14 v3.length k16)] hF41 (fun a42 hF42 => ?_)
       obtain ⟨v97, hb43, h⟩ := bind_ok h
       refine wpl_one hF42 (by kernel_rfl) (wp_callR hF42 (by kernel_rfl) (g := 8) (args := #[.slice o14 v3.length k16]) (by kernel_rfl) (i_kem_CheckEk_ok v3 (len_is (v3) (n := v3.length) rfl) (hS28.rdsl 3 rfl) v97 hb43) (fun vr w44 hp => ?_))
       obtain ⟨rfl, hS45⟩ := hp
       replace hS45 := St.call hS28 hS45 rfl
       refine go_fr (hF42.next (i6 v97) [35, 37] (M := [(35, .bool true), (37, i6 v97)]) (by kernel_rfl)) (fun a45 hF45 => ?_)
       refine wplp 3 [0] [(0, .bool (v97 == 0))] hF45 (fun a46 hF46 => (wpList_nil (then_n (wp_ret (ret_ok hF46 [.bool (v97 == 0)] (⟨by kernel_rfl, trivial⟩) ?_)))))
       have hr0 := Option.some.inj h
       subst hr0
       exact ⟨rfl, hS45.sub (List.nil_sublist _)⟩
      ·
       have hF47 := Fr.eqv (L := [(1, .slice o14 v3.length k16), (35, .bool (v24 == 141))]) (Fr.pick [1, 35] (by kernel_rfl) hF39) (M := [(1, .slice o14 v3.length k16), (35, .bool false)]) (by rw [ht40])
       have h := if_f ht40 h
       refine wplp 5 [0] [(0, .bool false)] hF47 (fun a48 hF48 => (wpList_nil (then_n (wp_ret (ret_ok hF48 [.bool false] (⟨by kernel_rfl, trivial⟩) ?_)))))
       have hr0 := Option.some.inj h
       subst hr0
       exact ⟨rfl, hS28.sub (List.nil_sublist _)⟩
     ·
      have hF49 := Fr.eqv (L := [(1, .slice o14 v3.length k16), (5, i6 v24), (31, .bool ((v4.length : Int) == 2400))]) (Fr.pick [1, 5, 31] (by kernel_rfl) hF36) (M := [(1, .slice o14 v3.length k16), (5, i6 v24), (31, .bool false)]) (by rw [ht37])
      have h := if_f ht37 h
      refine wplp 9 [0] [(0, .bool false)] hF49 (fun a50 hF50 => (wpList_nil (then_n (wp_ret (ret_ok hF50 [.bool false] (⟨by kernel_rfl, trivial⟩) ?_)))))
      have hr0 := Option.some.inj h
      subst hr0
      exact ⟨rfl, hS28.sub (List.nil_sublist _)⟩
    ·
     have hF51 := Fr.eqv (L := [(1, .slice o14 v3.length k16), (2, .slice o17 v4.length k19), (5, i6 v24), (26, .bool ((v3.length : Int) == 1184))]) (Fr.pick [1, 2, 5, 26] (by kernel_rfl) hF33) (M := [(1, .slice o14 v3.length k16), (2, .slice o17 v4.length k19), (5, i6 v24), (26, .bool false)]) (by rw [ht34])
     have h := if_f ht34 h
     refine wplp 14 [0] [(0, .bool false)] hF51 (fun a52 hF52 => (wpList_nil (then_n (wp_ret (ret_ok hF52 [.bool false] (⟨by kernel_rfl, trivial⟩) ?_)))))
     have hr0 := Option.some.inj h
     subst hr0
     exact ⟨rfl, hS28.sub (List.nil_sublist _)⟩
   ·
    have hF53 := Fr.eqv (L := [(1, .slice o14 v3.length k16), (2, .slice o17 v4.length k19), (5, i6 v24), (21, .bool (v5 == 0))]) (Fr.pick [1, 2, 5, 21] (by kernel_rfl) hF30) (M := [(1, .slice o14 v3.length k16), (2, .slice o17 v4.length k19), (5, i6 v24), (21, .bool false)]) (by rw [ht31])
    have h := if_f ht31 h
    refine wplp 19 [0] [(0, .bool false)] hF53 (fun a54 hF54 => (wpList_nil (then_n (wp_ret (ret_ok hF54 [.bool false] (⟨by kernel_rfl, trivial⟩) ?_)))))
    have hr0 := Option.some.inj h
    subst hr0
    exact ⟨rfl, hS28.sub (List.nil_sublist _)⟩
  refine al_cut 2 #[true, true, true, true, true, true, true, false, false] (fun a' w' => ∃ (b24 : Nat) (b25 : Nat) (b26 : Nat), Fr 40 [] [(1, .slice o14 v3.length k16), (2, .slice o17 v4.length k19), (3, i6 v5), (4, pp b24 0), (17, .agg (ic .u8 v23).toArray), (18, i6 v24)] a' ∧ St w w' [.blk b24 (ic .u8 (rz 32)) 22, .blk b25 (ic .u8 (rz 1088)) 5, .blk b26 (ic .u8 (rz 2400)) 5, .sl o14 v3.length k16 1 (ic .u8 v3) 5, .sl o17 v4.length k19 1 (ic .u8 v4) 5] ∧ v23.length = 32) ?_ (fun nd55 => ?_)
  ·
   rintro a56 w57 ⟨b24, b25, b26, hF56, hS56, hl_v23⟩
   refine al_all [7] (by kernel_rfl) rfl (all_cons ?_ all_nil)
   ·
    refine al_op (i := 7) rfl hF56 (by kernel_rfl) (wp_store hF56 hS56 rfl 0 rfl (off := 0) (by kernel_rfl) (v := .agg (ic .u8 v23).toArray) (by kernel_rfl) (vs := ic .u8 v23) rfl (k := 32) (by kernel_rfl) (((ic_len _ _).trans hl_v23) : (ic .u8 v23).length = 32) (by have h2 := (((ic_len _ _).trans (len_is (rz 32) (n := 32) (List.length_replicate))) : (ic .u8 (rz 32)).length = 32); omega) (ic_one _ _) (cs' := ic .u8 v23) ((upd_ic _ _ _ _).trans (congrArg (ic .u8) (upd_all ((hl_v23).trans ((len_is (rz 32) (n := 32) (List.length_replicate))).symm)))) (by kernel_rfl) (L' := [.blk b24 (ic .u8 v23) 22, .blk b25 (ic .u8 (rz 1088)) 5, .blk b26 (ic .u8 (rz 2400)) 5, .sl o14 v3.length k16 1 (ic .u8 v3) 5, .sl o17 v4.length k19 1 (ic .u8 v4) 5]) rfl (fun w58 a59 hS59 hF59 => (And.intro (fun _ => hS59.sub (.cons _ (.cons _ (.cons _ (.cons_cons _ (.cons_cons _ (.slnil))))))) ?_)))
    refine al_run (fun _ _ _ _ _ h => h) 0 [8] rfl [1, 2, 3, 5] [(1, .slice o14 v3.length k16), (2, .slice o17 v4.length k19), (3, i6 v5), (5, i6 v24)] hF59 (by kernel_rfl) (fun _ => hS59.sub (.cons _ (.cons _ (.cons _ (.cons_cons _ (.cons_cons _ (.slnil))))))) (fun a60 hF60 => ?_)
    exact al_eq (l' := #[true, true, true, true, true, true, true, true, true]) (by kernel_rfl) (nd27 _ _ ⟨b24, b25, b26, hF60.pick [1, 2, 3, 5] (by kernel_rfl), hS59, hl_v23⟩)
  refine al_cut 3 #[true, true, true, true, true, true, false, false, false] (fun a' w' => ∃ (b25 : Nat) (b26 : Nat), Fr 40 [] [(1, .slice o14 v3.length k16), (2, .slice o17 v4.length k19), (3, i6 v5), (17, .agg (ic .u8 v23).toArray), (18, i6 v24)] a' ∧ St w w' [.blk b25 (ic .u8 (rz 1088)) 5, .blk b26 (ic .u8 (rz 2400)) 5, .sl o14 v3.length k16 1 (ic .u8 v3) 5, .sl o17 v4.length k19 1 (ic .u8 v4) 5] ∧ v23.length = 32) ?_ (fun nd61 => ?_)
  ·
   rintro a62 w63 ⟨b25, b26, hF62, hS62, hl_v23⟩
   refine al_all [6] (by kernel_rfl) rfl (all_cons ?_ all_nil)
   ·
    refine al_op (i := 6) rfl hF62 (by kernel_rfl) (wp_alloc hF62 hS62 rfl (z := .agg (ic .u8 (rz 32)).toArray) (by kernel_rfl) (ic .u8 (rz 32)) rfl (by kernel_rfl) (fun b24 w64 a65 hS65 hF65 => (And.intro (fun _ => hS65.sub (.cons _ (.cons _ (.cons _ (.cons_cons _ (.cons_cons _ (.slnil))))))) ?_)))
    exact al_eq (l' := #[true, true, true, true, true, true, true, false, false]) (by kernel_rfl) (nd55 _ _ ⟨b24, b25, b26, hF65.pick [1, 2, 3, 4, 17, 18] (by kernel_rfl), hS65, hl_v23⟩)
  refine al_cut 6 #[true, true, false, false, false, false, true, false, false] (fun a' w' => ∃ (b24 : Nat) (b25 : Nat) (b26 : Nat), Fr 40 [] [(1, .slice o14 v3.length k16), (2, .slice o17 v4.length k19), (3, i6 v5), (4, pp b24 0), (14, .slice (some ⟨b26, 0, none⟩) 2400 2400), (15, .slice (some ⟨b25, 0, none⟩) 1088 1088)] a' ∧ St w w' [.blk b24 (ic .u8 (rz 32)) 22, .blk b25 (ic .u8 (rz 1088)) 5, .blk b26 (ic .u8 (rz 2400)) 5, .sl o14 v3.length k16 1 (ic .u8 v3) 5, .sl o17 v4.length k19 1 (ic .u8 v4) 5]) ?_ (fun nd66 => ?_)
  ·
   rintro a67 w68 ⟨b24, b25, b26, hF67, hS67⟩
   refine al_all [2] (by kernel_rfl) rfl (all_cons ?_ all_nil)
   ·
    refine al_op (i := 2) rfl hF67 (by kernel_rfl) (wp_callR hF67 (by kernel_rfl) (g := 11) (args := #[.slice (some ⟨b26, 0, none⟩) 2400 2400, .slice (some ⟨b25, 0, none⟩) 1088 1088]) (by kernel_rfl) (i_kem_Decaps_ok (rz 2400) (rz 1088) (len_is (rz 2400) (n := 2400) (List.length_replicate)) (hS67.rdW 2 rfl (Nat.le_refl _)) (len_is (rz 1088) (n := 1088) (List.length_replicate)) (hS67.rdW 1 rfl (Nat.le_refl _)) v23 v24 hb23) (fun vr w69 hp => ?_))
    obtain ⟨rfl, hS70, hl_v23⟩ := hp
    replace hS70 := St.call hS67 hS70 rfl
    refine And.intro (fun _ => hS70.sub (.cons _ (.cons _ (.cons _ (.cons_cons _ (.cons_cons _ (.slnil))))))) ?_
    refine go_fr (hF67.next (.tuple #[.agg (ic .u8 v23).toArray, i6 v24]) [1, 2, 3, 4, 16] (M := [(1, .slice o14 v3.length k16), (2, .slice o17 v4.length k19), (3, i6 v5), (4, pp b24 0), (16, .tuple #[.agg (ic .u8 v23).toArray, i6 v24])]) (by kernel_rfl)) (fun a70 hF70 => ?_)
    refine al_run (fun _ _ _ _ _ h => h) 2 [3, 4, 5] rfl [1, 2, 3, 4, 17, 18] [(1, .slice o14 v3.length k16), (2, .slice o17 v4.length k19), (3, i6 v5), (4, pp b24 0), (17, .agg (ic .u8 v23).toArray), (18, i6 v24)] hF70 (by kernel_rfl) (fun _ => hS70.sub (.cons _ (.cons _ (.cons _ (.cons_cons _ (.cons_cons _ (.slnil))))))) (fun a71 hF71 => ?_)
    exact al_eq (l' := #[true, true, true, true, true, true, true, false, false]) (by kernel_rfl) (nd55 _ _ ⟨b24, b25, b26, hF71.pick [1, 2, 3, 4, 17, 18] (by kernel_rfl), hS70, hl_v23⟩)
  refine al_cut 7 #[true, true, false, false, false, false, false, false, false] (fun a' w' => ∃ (b25 : Nat) (b26 : Nat), Fr 40 [] [(1, .slice o14 v3.length k16), (2, .slice o17 v4.length k19), (3, i6 v5), (14, .slice (some ⟨b26, 0, none⟩) 2400 2400), (15, .slice (some ⟨b25, 0, none⟩) 1088 1088)] a' ∧ St w w' [.blk b25 (ic .u8 (rz 1088)) 5, .blk b26 (ic .u8 (rz 2400)) 5, .sl o14 v3.length k16 1 (ic .u8 v3) 5, .sl o17 v4.length k19 1 (ic .u8 v4) 5]) ?_ (fun nd72 => ?_)
  ·
   rintro a73 w74 ⟨b25, b26, hF73, hS73⟩
   refine al_all [2, 6] (by kernel_rfl) rfl (all_cons ?_ (all_cons ?_ all_nil))
   ·
    refine al_op (i := 2) rfl hF73 (by kernel_rfl) (wp_callR hF73 (by kernel_rfl) (g := 11) (args := #[.slice (some ⟨b26, 0, none⟩) 2400 2400, .slice (some ⟨b25, 0, none⟩) 1088 1088]) (by kernel_rfl) (i_kem_Decaps_ok (rz 2400) (rz 1088) (len_is (rz 2400) (n := 2400) (List.length_replicate)) (hS73.rdW 1 rfl (Nat.le_refl _)) (len_is (rz 1088) (n := 1088) (List.length_replicate)) (hS73.rdW 0 rfl (Nat.le_refl _)) v23 v24 hb23) (fun vr w75 hp => ?_))
    obtain ⟨rfl, hS76, hl_v23⟩ := hp
    replace hS76 := St.call hS73 hS76 rfl
    refine And.intro (fun _ => hS76.sub (.cons _ (.cons _ (.cons_cons _ (.cons_cons _ (.slnil)))))) ?_
    refine go_fr (hF73.next (.tuple #[.agg (ic .u8 v23).toArray, i6 v24]) [1, 2, 3, 16] (M := [(1, .slice o14 v3.length k16), (2, .slice o17 v4.length k19), (3, i6 v5), (16, .tuple #[.agg (ic .u8 v23).toArray, i6 v24])]) (by kernel_rfl)) (fun a76 hF76 => ?_)
    refine al_run (fun _ _ _ _ _ h => h) 3 [3, 4, 5] rfl [1, 2, 3, 17, 18] [(1, .slice o14 v3.length k16), (2, .slice o17 v4.length k19), (3, i6 v5), (17, .agg (ic .u8 v23).toArray), (18, i6 v24)] hF76 (by kernel_rfl) (fun _ => hS76.sub (.cons _ (.cons _ (.cons_cons _ (.cons_cons _ (.slnil)))))) (fun a77 hF77 => ?_)
    exact al_eq (l' := #[true, true, true, true, true, true, false, false, false]) (by kernel_rfl) (nd61 _ _ ⟨b25, b26, hF77.pick [1, 2, 3, 17, 18] (by kernel_rfl), hS76, hl_v23⟩)
   ·
    refine al_op (i := 6) rfl hF73 (by kernel_rfl) (wp_alloc hF73 hS73 rfl (z := .agg (ic .u8 (rz 32)).toArray) (by kernel_rfl) (ic .u8 (rz 32)) rfl (by kernel_rfl) (fun b24 w78 a79 hS79 hF79 => (And.intro (fun _ => hS79.sub (.cons _ (.cons _ (.cons _ (.cons_cons _ (.cons_cons _ (.slnil))))))) ?_)))
    exact al_eq (l' := #[true, true, false, false, false, false, true, false, false]) (by kernel_rfl) (nd66 _ _ ⟨b24, b25, b26, hF79.pick [1, 2, 3, 4, 14, 15] (by kernel_rfl), hS79⟩)
  refine al_cut 7 #[true, false, false, false, false, false, true, false, false] (fun a' w' => ∃ (b24 : Nat) (b26 : Nat), Fr 40 [] [(1, .slice o14 v3.length k16), (2, .slice o17 v4.length k19), (3, i6 v5), (4, pp b24 0), (14, .slice (some ⟨b26, 0, none⟩) 2400 2400)] a' ∧ St w w' [.blk b24 (ic .u8 (rz 32)) 22, .blk b26 (ic .u8 (rz 2400)) 5, .sl o14 v3.length k16 1 (ic .u8 v3) 5, .sl o17 v4.length k19 1 (ic .u8 v4) 5]) ?_ (fun nd80 => ?_)
  ·
   rintro a81 w82 ⟨b24, b26, hF81, hS81⟩
   refine al_all [1] (by kernel_rfl) rfl (all_cons ?_ all_nil)
   ·
    refine al_op (i := 1) rfl hF81 (by kernel_rfl) (wp_make hF81 hS81 rfl (E := 5) (by kernel_rfl) (by_ := 1) (z := .int .u8 0) (by kernel_rfl) (by kernel_rfl) rfl (k1 := .i64) (k2 := .i64) (i := 1088) (by kernel_rfl) (by kernel_rfl) (by decide) (by decide) (m := 1088) rfl (cs := ic .u8 (rz 1088)) (ic_rep _ _ _) (by kernel_rfl) (fun b25 w83 a84 hS84 hF84 => (And.intro (fun _ => hS84.sub (.cons _ (.cons _ (.cons _ (.cons_cons _ (.cons_cons _ (.slnil))))))) ?_)))
    have hS85 := St.eqv (M := [.blk b24 (ic .u8 (rz 32)) 22, .blk b25 (ic .u8 (rz 1088)) 5, .blk b26 (ic .u8 (rz 2400)) 5, .sl o14 v3.length k16 1 (ic .u8 v3) 5, .sl o17 v4.length k19 1 (ic .u8 v4) 5]) (St.move hS84 0 1 rfl rfl) rfl
    exact al_eq (l' := #[true, true, false, false, false, false, true, false, false]) (by kernel_rfl) (nd66 _ _ ⟨b24, b25, b26, hF84.pick [1, 2, 3, 4, 14, 15] (by kernel_rfl), hS85⟩)
  refine al_cut 7 #[false, true, false, false, false, false, true, false, false] (fun a' w' => ∃ (b24 : Nat) (b25 : Nat), Fr 40 [] [(1, .slice o14 v3.length k16), (2, .slice o17 v4.length k19), (3, i6 v5), (4, pp b24 0), (15, .slice (some ⟨b25, 0, none⟩) 1088 1088)] a' ∧ St w w' [.blk b24 (ic .u8 (rz 32)) 22, .blk b25 (ic .u8 (rz 1088)) 5, .sl o14 v3.length k16 1 (ic .u8 v3) 5, .sl o17 v4.length k19 1 (ic .u8 v4) 5]) ?_ (fun nd86 => ?_)
  ·
   rintro a87 w88 ⟨b24, b25, hF87, hS87⟩
   refine al_all [0] (by kernel_rfl) rfl (all_cons ?_ all_nil)
   ·
    refine al_op (i := 0) rfl hF87 (by kernel_rfl) (wp_make hF87 hS87 rfl (E := 5) (by kernel_rfl) (by_ := 1) (z := .int .u8 0) (by kernel_rfl) (by kernel_rfl) rfl (k1 := .i64) (k2 := .i64) (i := 2400) (by kernel_rfl) (by kernel_rfl) (by decide) (by decide) (m := 2400) rfl (cs := ic .u8 (rz 2400)) (ic_rep _ _ _) (by kernel_rfl) (fun b26 w89 a90 hS90 hF90 => (And.intro (fun _ => hS90.sub (.cons _ (.cons _ (.cons _ (.cons_cons _ (.cons_cons _ (.slnil))))))) ?_)))
    have hS91 := St.eqv (M := [.blk b24 (ic .u8 (rz 32)) 22, .blk b25 (ic .u8 (rz 1088)) 5, .blk b26 (ic .u8 (rz 2400)) 5, .sl o14 v3.length k16 1 (ic .u8 v3) 5, .sl o17 v4.length k19 1 (ic .u8 v4) 5]) (St.move hS90 0 2 rfl rfl) rfl
    exact al_eq (l' := #[true, true, false, false, false, false, true, false, false]) (by kernel_rfl) (nd66 _ _ ⟨b24, b25, b26, hF90.pick [1, 2, 3, 4, 14, 15] (by kernel_rfl), hS91⟩)
  refine al_cut 8 #[true, false, false, false, false, false, false, false, false] (fun a' w' => ∃ (b26 : Nat), Fr 40 [] [(1, .slice o14 v3.length k16), (2, .slice o17 v4.length k19), (3, i6 v5), (14, .slice (some ⟨b26, 0, none⟩) 2400 2400)] a' ∧ St w w' [.blk b26 (ic .u8 (rz 2400)) 5, .sl o14 v3.length k16 1 (ic .u8 v3) 5, .sl o17 v4.length k19 1 (ic .u8 v4) 5]) ?_ (fun nd92 => ?_)
  ·
   rintro a93 w94 ⟨b26, hF93, hS93⟩
   refine al_all [1, 6] (by kernel_rfl) rfl (all_cons ?_ (all_cons ?_ all_nil))
   ·
    refine al_op (i := 1) rfl hF93 (by kernel_rfl) (wp_make hF93 hS93 rfl (E := 5) (by kernel_rfl) (by_ := 1) (z := .int .u8 0) (by kernel_rfl) (by kernel_rfl) rfl (k1 := .i64) (k2 := .i64) (i := 1088) (by kernel_rfl) (by kernel_rfl) (by decide) (by decide) (m := 1088) rfl (cs := ic .u8 (rz 1088)) (ic_rep _ _ _) (by kernel_rfl) (fun b25 w95 a96 hS96 hF96 => (And.intro (fun _ => hS96.sub (.cons _ (.cons _ (.cons_cons _ (.cons_cons _ (.slnil)))))) ?_)))
    exact al_eq (l' := #[true, true, false, false, false, false, false, false, false]) (by kernel_rfl) (nd72 _ _ ⟨b25, b26, hF96.pick [1, 2, 3, 14, 15] (by kernel_rfl), hS96⟩)
   ·
    refine al_op (i := 6) rfl hF93 (by kernel_rfl) (wp_alloc hF93 hS93 rfl (z := .agg (ic .u8 (rz 32)).toArray) (by kernel_rfl) (ic .u8 (rz 32)) rfl (by kernel_rfl) (fun b24 w97 a98 hS98 hF98 => (And.intro (fun _ => hS98.sub (.cons _ (.cons _ (.cons_cons _ (.cons_cons _ (.slnil)))))) ?_)))
    exact al_eq (l' := #[true, false, false, false, false, false, true, false, false]) (by kernel_rfl) (nd80 _ _ ⟨b24, b26, hF98.pick [1, 2, 3, 4, 14] (by kernel_rfl), hS98⟩)
  refine al_cut 8 #[false, true, false, false, false, false, false, false, false] (fun a' w' => ∃ (b25 : Nat), Fr 40 [] [(1, .slice o14 v3.length k16), (2, .slice o17 v4.length k19), (3, i6 v5), (15, .slice (some ⟨b25, 0, none⟩) 1088 1088)] a' ∧ St w w' [.blk b25 (ic .u8 (rz 1088)) 5, .sl o14 v3.length k16 1 (ic .u8 v3) 5, .sl o17 v4.length k19 1 (ic .u8 v4) 5]) ?_ (fun nd99 => ?_)
  ·
   rintro a100 w101 ⟨b25, hF100, hS100⟩
   refine al_all [0, 6] (by kernel_rfl) rfl (all_cons ?_ (all_cons ?_ all_nil))
   ·
    refine al_op (i := 0) rfl hF100 (by kernel_rfl) (wp_make hF100 hS100 rfl (E := 5) (by kernel_rfl) (by_ := 1) (z := .int .u8 0) (by kernel_rfl) (by kernel_rfl) rfl (k1 := .i64) (k2 := .i64) (i := 2400) (by kernel_rfl) (by kernel_rfl) (by decide) (by decide) (m := 2400) rfl (cs := ic .u8 (rz 2400)) (ic_rep _ _ _) (by kernel_rfl) (fun b26 w102 a103 hS103 hF103 => (And.intro (fun _ => hS103.sub (.cons _ (.cons _ (.cons_cons _ (.cons_cons _ (.slnil)))))) ?_)))
    have hS104 := St.eqv (M := [.blk b25 (ic .u8 (rz 1088)) 5, .blk b26 (ic .u8 (rz 2400)) 5, .sl o14 v3.length k16 1 (ic .u8 v3) 5, .sl o17 v4.length k19 1 (ic .u8 v4) 5]) (St.move hS103 0 1 rfl rfl) rfl
    exact al_eq (l' := #[true, true, false, false, false, false, false, false, false]) (by kernel_rfl) (nd72 _ _ ⟨b25, b26, hF103.pick [1, 2, 3, 14, 15] (by kernel_rfl), hS104⟩)
   ·
    refine al_op (i := 6) rfl hF100 (by kernel_rfl) (wp_alloc hF100 hS100 rfl (z := .agg (ic .u8 (rz 32)).toArray) (by kernel_rfl) (ic .u8 (rz 32)) rfl (by kernel_rfl) (fun b24 w105 a106 hS106 hF106 => (And.intro (fun _ => hS106.sub (.cons _ (.cons _ (.cons_cons _ (.cons_cons _ (.slnil)))))) ?_)))
    exact al_eq (l' := #[false, true, false, false, false, false, true, false, false]) (by kernel_rfl) (nd86 _ _ ⟨b24, b25, hF106.pick [1, 2, 3, 4, 15] (by kernel_rfl), hS106⟩)
  refine al_cut 8 #[false, false, false, false, false, false, true, false, false] (fun a' w' => ∃ (b24 : Nat), Fr 40 [] [(1, .slice o14 v3.length k16), (2, .slice o17 v4.length k19), (3, i6 v5), (4, pp b24 0)] a' ∧ St w w' [.blk b24 (ic .u8 (rz 32)) 22, .sl o14 v3.length k16 1 (ic .u8 v3) 5, .sl o17 v4.length k19 1 (ic .u8 v4) 5]) ?_ (fun nd107 => ?_)
  ·
   rintro a108 w109 ⟨b24, hF108, hS108⟩
   refine al_all [0, 1] (by kernel_rfl) rfl (all_cons ?_ (all_cons ?_ all_nil))
   ·
    refine al_op (i := 0) rfl hF108 (by kernel_rfl) (wp_make hF108 hS108 rfl (E := 5) (by kernel_rfl) (by_ := 1) (z := .int .u8 0) (by kernel_rfl) (by kernel_rfl) rfl (k1 := .i64) (k2 := .i64) (i := 2400) (by kernel_rfl) (by kernel_rfl) (by decide) (by decide) (m := 2400) rfl (cs := ic .u8 (rz 2400)) (ic_rep _ _ _) (by kernel_rfl) (fun b26 w110 a111 hS111 hF111 => (And.intro (fun _ => hS111.sub (.cons _ (.cons _ (.cons_cons _ (.cons_cons _ (.slnil)))))) ?_)))
    have hS112 := St.eqv (M := [.blk b24 (ic .u8 (rz 32)) 22, .blk b26 (ic .u8 (rz 2400)) 5, .sl o14 v3.length k16 1 (ic .u8 v3) 5, .sl o17 v4.length k19 1 (ic .u8 v4) 5]) (St.move hS111 0 1 rfl rfl) rfl
    exact al_eq (l' := #[true, false, false, false, false, false, true, false, false]) (by kernel_rfl) (nd80 _ _ ⟨b24, b26, hF111.pick [1, 2, 3, 4, 14] (by kernel_rfl), hS112⟩)
   ·
    refine al_op (i := 1) rfl hF108 (by kernel_rfl) (wp_make hF108 hS108 rfl (E := 5) (by kernel_rfl) (by_ := 1) (z := .int .u8 0) (by kernel_rfl) (by kernel_rfl) rfl (k1 := .i64) (k2 := .i64) (i := 1088) (by kernel_rfl) (by kernel_rfl) (by decide) (by decide) (m := 1088) rfl (cs := ic .u8 (rz 1088)) (ic_rep _ _ _) (by kernel_rfl) (fun b25 w113 a114 hS114 hF114 => (And.intro (fun _ => hS114.sub (.cons _ (.cons _ (.cons_cons _ (.cons_cons _ (.slnil)))))) ?_)))
    have hS115 := St.eqv (M := [.blk b24 (ic .u8 (rz 32)) 22, .blk b25 (ic .u8 (rz 1088)) 5, .sl o14 v3.length k16 1 (ic .u8 v3) 5, .sl o17 v4.length k19 1 (ic .u8 v4) 5]) (St.move hS114 0 1 rfl rfl) rfl
    exact al_eq (l' := #[false, true, false, false, false, false, true, false, false]) (by kernel_rfl) (nd86 _ _ ⟨b24, b25, hF114.pick [1, 2, 3, 4, 15] (by kernel_rfl), hS115⟩)
  refine al_all [0, 1, 6] (by kernel_rfl) rfl (all_cons ?_ (all_cons ?_ (all_cons ?_ all_nil)))
  ·
   refine al_op (i := 0) rfl hF21 (by kernel_rfl) (wp_make hF21 hS22 rfl (E := 5) (by kernel_rfl) (by_ := 1) (z := .int .u8 0) (by kernel_rfl) (by kernel_rfl) rfl (k1 := .i64) (k2 := .i64) (i := 2400) (by kernel_rfl) (by kernel_rfl) (by decide) (by decide) (m := 2400) rfl (cs := ic .u8 (rz 2400)) (ic_rep _ _ _) (by kernel_rfl) (fun b26 w116 a117 hS117 hF117 => (And.intro (fun _ => hS117.sub (.cons _ (.cons_cons _ (.cons_cons _ (.slnil))))) ?_)))
   exact al_eq (l' := #[true, false, false, false, false, false, false, false, false]) (by kernel_rfl) (nd92 _ _ ⟨b26, hF117.pick [1, 2, 3, 14] (by kernel_rfl), hS117⟩)
  ·
   refine al_op (i := 1) rfl hF21 (by kernel_rfl) (wp_make hF21 hS22 rfl (E := 5) (by kernel_rfl) (by_ := 1) (z := .int .u8 0) (by kernel_rfl) (by kernel_rfl) rfl (k1 := .i64) (k2 := .i64) (i := 1088) (by kernel_rfl) (by kernel_rfl) (by decide) (by decide) (m := 1088) rfl (cs := ic .u8 (rz 1088)) (ic_rep _ _ _) (by kernel_rfl) (fun b25 w118 a119 hS119 hF119 => (And.intro (fun _ => hS119.sub (.cons _ (.cons_cons _ (.cons_cons _ (.slnil))))) ?_)))
   exact al_eq (l' := #[false, true, false, false, false, false, false, false, false]) (by kernel_rfl) (nd99 _ _ ⟨b25, hF119.pick [1, 2, 3, 15] (by kernel_rfl), hS119⟩)
  ·
   refine al_op (i := 6) rfl hF21 (by kernel_rfl) (wp_alloc hF21 hS22 rfl (z := .agg (ic .u8 (rz 32)).toArray) (by kernel_rfl) (ic .u8 (rz 32)) rfl (by kernel_rfl) (fun b24 w120 a121 hS121 hF121 => (And.intro (fun _ => hS121.sub (.cons _ (.cons_cons _ (.cons_cons _ (.slnil))))) ?_)))
   exact al_eq (l' := #[false, false, false, false, false, false, true, false, false]) (by kernel_rfl) (nd107 _ _ ⟨b24, hF121.pick [1, 2, 3, 4] (by kernel_rfl), hS121⟩)
def i_liverylaw14_KemChecks (v1 : List Int) (v2 : List Int) (v3 : Int) (v4 : Int) : Option (Bool) :=
  ((i_kem_KeyGen v1 v2).bind fun (v14, v15, v16) => ((i_liverylaw14_live).bind fun v27 => (if (!v27) = true then ((i_liverylaw14_live).bind fun v35 => some v35) else (if (v16 != 0) = true then ((i_liverylaw14_live).bind fun v43 => some v43) else (if ((v14.length : Int) != 1184) = true then some false else ((i_kem_CheckEk v14).bind fun v55 => (if (v55 != 0) = true then some false else ((i_kem_CheckDk v15).bind fun v66 => (if (v66 != 0) = true then some false else (if ((v3.tmod 2) == 0) = true then (if inb (IntKind.i64.wrap ((IntKind.i64.wrap (3 * ((IntKind.i64.wrap v3).tmod 384))) + 1)) v14.length = true then (nm_ (IntKind.i64.wrap ((IntKind.i64.wrap (3 * ((IntKind.i64.wrap v3).tmod 384))) + 1)) fun v80 => (nm_ (IntKind.u8.wrap (IntKind.i64.wrap (3329 + ((IntKind.i64.wrap v4).tmod 767)))) fun v82 => (nm_ (rd v14 ((IntKind.i64.wrap ((IntKind.i64.wrap (3 * ((IntKind.i64.wrap v3).tmod 384))) + 1)).toNat)) fun v85 => (if inb (IntKind.i64.wrap (3 * ((IntKind.i64.wrap v3).tmod 384))) v14.length = true then (nm_ (ior .u8 (iand .u8 v85 240) (IntKind.u8.wrap (ishr .i64 (IntKind.i64.wrap (3329 + ((IntKind.i64.wrap v4).tmod 767))) 8))) fun v90 => (nm_ (v14.set ((IntKind.i64.wrap (3 * ((IntKind.i64.wrap v3).tmod 384))).toNat) v82) fun v94 => ((i_kem_Encaps (v94.set v80.toNat v90) v1).bind fun (v101, v102, v103) => ((i_kem_CheckEk (v94.set v80.toNat v90)).bind fun v118 => (if (v118 == 140) = true then (if (v103 == 140) = true then some ((v102.length : Int) == 0) else some false) else some false))))) else none)))) else none) else (if inb (IntKind.i64.wrap ((IntKind.i64.wrap (3 * ((IntKind.i64.wrap v3).tmod 384))) + 1)) v14.length = true then (nm_ (IntKind.i64.wrap ((IntKind.i64.wrap (3 * ((IntKind.i64.wrap v3).tmod 384))) + 1)) fun v136 => (nm_ (IntKind.i64.wrap ((IntKind.i64.wrap (3 * ((IntKind.i64.wrap v3).tmod 384))) + 2)) fun v138 => (nm_ (rd v14 ((IntKind.i64.wrap ((IntKind.i64.wrap (3 * ((IntKind.i64.wrap v3).tmod 384))) + 1)).toNat)) fun v141 => (nm_ (ior .u8 (iand .u8 v141 15) (IntKind.u8.wrap (ishl .i64 (IntKind.i64.wrap (3329 + ((IntKind.i64.wrap v4).tmod 767))) 4))) fun v145 => (nm_ (IntKind.u8.wrap (ishr .i64 (IntKind.i64.wrap (3329 + ((IntKind.i64.wrap v4).tmod 767))) 4)) fun v147 => (if inb v138 v14.length = true then (nm_ ((v14.set v136.toNat v145).set v138.toNat v147) fun v155 => ((i_kem_Encaps v155 v1).bind fun (v159, v160, v161) => ((i_kem_CheckEk v155).bind fun v176 => (if (v176 == 140) = true then (if (v161 == 140) = true then some ((v160.length : Int) == 0) else some false) else some false)))) else none)))))) else none)))))))))))
theorem i_liverylaw14_KemChecks_ok (v1 : List Int) (v2 : List Int) (v3 : Int) (v4 : Int) {w : World} (hl_v1 : v1.length = 32) (hl_v2 : v2.length = 32) (c0 : Bool) (h : i_liverylaw14_KemChecks v1 v2 v3 v4 = some c0) : Calls Try.prog 3 #[.agg (ic .u8 v1).toArray, .agg (ic .u8 v2).toArray, .int .u16 v3, .int .u16 v4] w (Ret (fun v w' => v = .bool c0 ∧ St w w' [])) := by
  unfold i_liverylaw14_KemChecks at h
  refine calls_of_wp Try.func3 rfl ?_
  have hF := Fr.start (#[.agg (ic .u8 v1).toArray, .agg (ic .u8 v2).toArray, .int .u16 v3, .int .u16 v4] : Array Value) 110 114 [(0, .agg (ic .u8 v1).toArray), (1, .agg (ic .u8 v2).toArray), (2, .int .u16 v3), (3, .int .u16 v4)] rfl (by kernel_rfl)
  have hS := St.nil w
  refine go_fr hF (fun a hF => (wp_seq (wp_region_lit ?_)))
  refine wpl_one hF (by kernel_rfl) (wp_box hF hS rfl (v := .agg (ic .u8 v1).toArray) (by kernel_rfl) (ic .u8 v1) rfl (by kernel_rfl) (fun b10 w11 a12 hS12 hF12 => ?_))
  refine wpl_one hF12 (by kernel_rfl) (wp_box hF12 hS12 rfl (v := .agg (ic .u8 v2).toArray) (by kernel_rfl) (ic .u8 v2) rfl (by kernel_rfl) (fun b13 w14 a15 hS15 hF15 => ?_))
  refine wplp 1 [2, 3, 4, 5] [(2, .int .u16 v3), (3, .int .u16 v4), (4, pp b10 0), (5, pp b13 0)] hF15 (fun a16 hF16 => (wpList_nil (then_n (wp_seq (wp_region_lit ?_)))))
  refine wpl_val hF16 (by kernel_rfl) (v := .agg (ic .u8 v1).toArray) (run_loadR rfl (b := b10) (off := 0) hF16.e (by kernel_rfl) (k := 32) (by kernel_rfl) (((ic_len _ _).trans hl_v1) : (ic .u8 v1).length = 32) (hS15.all 1 rfl)) (by kernel_rfl) (fun a17 hF17 => ?_)
  refine wpl_val hF17 (by kernel_rfl) (v := .agg (ic .u8 v2).toArray) (run_loadR rfl (b := b13) (off := 0) hF17.e (by kernel_rfl) (k := 32) (by kernel_rfl) (((ic_len _ _).trans hl_v2) : (ic .u8 v2).length = 32) (hS15.all 0 rfl)) (by kernel_rfl) (fun a18 hF18 => ?_)
  obtain ⟨⟨v14, v15, v16⟩, hb19, h⟩ := bind_ok h
  refine wpl_one hF18 (by kernel_rfl) (wp_callR hF18 (by kernel_rfl) (g := 6) (args := #[.agg (ic .u8 v1).toArray, .agg (ic .u8 v2).toArray]) (by kernel_rfl) (i_kem_KeyGen_ok v1 v2 hl_v1 hl_v2 v14 v15 v16 hb19) (fun vr w20 hp => ?_))
  obtain ⟨o21, n22, k23, o24, n25, k26, hn_n22, hn_n25, rfl, hS27⟩ := hp
  subst hn_n22
  subst hn_n25
  replace hS27 := St.call hS15 hS27 rfl
  refine go_fr (hF18.next (.tuple #[.slice o21 v14.length k23, .slice o24 v15.length k26, i6 v16]) [2, 3, 4, 20] (M := [(2, .int .u16 v3), (3, .int .u16 v4), (4, pp b10 0), (20, .tuple #[.slice o21 v14.length k23, .slice o24 v15.length k26, i6 v16])]) (by kernel_rfl)) (fun a27 hF27 => ?_)
  refine wplp 7 [2, 3, 4, 9, 10, 11] [(2, .int .u16 v3), (3, .int .u16 v4), (4, pp b10 0), (9, .slice o21 v14.length k23), (10, .slice o24 v15.length k26), (11, i6 v16)] hF27 (fun a28 hF28 => (wpList_nil (then_n (wp_seq (wp_seq (wp_region_lit ?_))))))
  obtain ⟨v27, hb29, h⟩ := bind_ok h
  refine wpl_one hF28 (by kernel_rfl) (wp_callR hF28 (by kernel_rfl) (g := 7) (args := #[]) (by kernel_rfl) (i_liverylaw14_live_ok v27 hb29) (fun vr w30 hp => ?_))
  obtain ⟨rfl, hS31⟩ := hp
  replace hS31 := St.call hS27 hS31 rfl
  refine go_fr (hF28.next (.bool v27) [2, 3, 4, 9, 10, 11, 24] (M := [(2, .int .u16 v3), (3, .int .u16 v4), (4, pp b10 0), (9, .slice o21 v14.length k23), (10, .slice o24 v15.length k26), (11, i6 v16), (24, .bool v27)]) (by kernel_rfl)) (fun a31 hF31 => ?_)
  refine wplp 2 [2, 3, 4, 9, 10, 11, 26] [(2, .int .u16 v3), (3, .int .u16 v4), (4, pp b10 0), (9, .slice o21 v14.length k23), (10, .slice o24 v15.length k26), (11, i6 v16), (26, .bool (!v27))] hF31 (fun a32 hF32 => ?_)
  rcases Bool.eq_false_or_eq_true (!v27) with ht33 | ht33
  ·
   have hF34 := Fr.eqv (L := [(2, .int .u16 v3), (3, .int .u16 v4), (4, pp b10 0), (9, .slice o21 v14.length k23), (10, .slice o24 v15.length k26), (11, i6 v16), (26, .bool (!v27))]) (Fr.pick [2, 3, 4, 9, 10, 11, 26] (by kernel_rfl) hF32) (M := [(2, .int .u16 v3), (3, .int .u16 v4), (4, pp b10 0), (9, .slice o21 v14.length k23), (10, .slice o24 v15.length k26), (11, i6 v16), (26, .bool true)]) (by rw [ht33])
   have h := if_t ht33 h
   refine wplp 3 [2, 3, 4, 9, 10, 29] [(2, .int .u16 v3), (3, .int .u16 v4), (4, pp b10 0), (9, .slice o21 v14.length k23), (10, .slice o24 v15.length k26), (29, .bool true)] hF34 (fun a35 hF35 => (wpList_nil (then_n (wp_cond_true hF35.e (wp_seq (wp_region_lit ?_))))))
   obtain ⟨v35, hb36, h⟩ := bind_ok h
   refine wpl_one hF35 (by kernel_rfl) (wp_callR hF35 (by kernel_rfl) (g := 7) (args := #[]) (by kernel_rfl) (i_liverylaw14_live_ok v35 hb36) (fun vr w37 hp => ?_))
   obtain ⟨rfl, hS38⟩ := hp
   replace hS38 := St.call hS31 hS38 rfl
   refine go_fr (hF35.next (.bool v35) [30] (M := [(30, .bool v35)]) (by kernel_rfl)) (fun a38 hF38 => ?_)
   refine wplp 1 [8] [(8, .bool v35)] hF38 (fun a39 hF39 => (wpList_nil (then_n (wp_ret ?_))))
   refine then_r (ret_ok hF39 [.bool v35] (⟨by kernel_rfl, trivial⟩) ?_)
   have hr0 := Option.some.inj h
   subst hr0
   exact ⟨rfl, hS38.sub (List.nil_sublist _)⟩
  ·
   have hF40 := Fr.eqv (L := [(2, .int .u16 v3), (3, .int .u16 v4), (4, pp b10 0), (9, .slice o21 v14.length k23), (10, .slice o24 v15.length k26), (11, i6 v16), (26, .bool (!v27))]) (Fr.pick [2, 3, 4, 9, 10, 11, 26] (by kernel_rfl) hF32) (M := [(2, .int .u16 v3), (3, .int .u16 v4), (4, pp b10 0), (9, .slice o21 v14.length k23), (10, .slice o24 v15.length k26), (11, i6 v16), (26, .bool false)]) (by rw [ht33])
   have h := if_f ht33 h
   refine wplp 3 [2, 3, 4, 9, 10, 29] [(2, .int .u16 v3), (3, .int .u16 v4), (4, pp b10 0), (9, .slice o21 v14.length k23), (10, .slice o24 v15.length k26), (29, .bool (v16 != 0))] hF40 (fun a41 hF41 => (wpList_nil (then_n ?_)))
   refine wp_cond_split (t := (v16 != 0)) hF41.e (fun ht42 => ?_) (fun ht42 => ?_)
   ·
    have h := if_t ht42 h
    refine wp_seq (wp_region_lit ?_)
    obtain ⟨v43, hb43, h⟩ := bind_ok h
    refine wpl_one hF41 (by kernel_rfl) (wp_callR hF41 (by kernel_rfl) (g := 7) (args := #[]) (by kernel_rfl) (i_liverylaw14_live_ok v43 hb43) (fun vr w44 hp => ?_))
    obtain ⟨rfl, hS45⟩ := hp
    replace hS45 := St.call hS31 hS45 rfl
    refine go_fr (hF41.next (.bool v43) [30] (M := [(30, .bool v43)]) (by kernel_rfl)) (fun a45 hF45 => ?_)
    refine wplp 1 [8] [(8, .bool v43)] hF45 (fun a46 hF46 => (wpList_nil (then_n (wp_ret ?_))))
    refine then_r (ret_ok hF46 [.bool v43] (⟨by kernel_rfl, trivial⟩) ?_)
    have hr0 := Option.some.inj h
    subst hr0
    exact ⟨rfl, hS45.sub (List.nil_sublist _)⟩
   ·
    have h := if_f ht42 h
    refine wp_skip (then_n (wp_seq (wp_seq (wp_region_lit ?_))))
    refine wplp 4 [2, 3, 4, 9, 10, 34] [(2, .int .u16 v3), (3, .int .u16 v4), (4, pp b10 0), (9, .slice o21 v14.length k23), (10, .slice o24 v15.length k26), (34, .bool ((v14.length : Int) != 1184))] hF41 (fun a47 hF47 => ?_)
    rcases Bool.eq_false_or_eq_true ((v14.length : Int) != 1184) with ht48 | ht48
    ·
     have hF49 := Fr.eqv (L := [(2, .int .u16 v3), (3, .int .u16 v4), (4, pp b10 0), (9, .slice o21 v14.length k23), (10, .slice o24 v15.length k26), (34, .bool ((v14.length : Int) != 1184))]) (Fr.pick [2, 3, 4, 9, 10, 34] (by kernel_rfl) hF47) (M := [(2, .int .u16 v3), (3, .int .u16 v4), (4, pp b10 0), (9, .slice o21 v14.length k23), (10, .slice o24 v15.length k26), (34, .bool true)]) (by rw [ht48])
     have h := if_t ht48 h
     refine wplp 9 [2, 3, 4, 9, 43] [(2, .int .u16 v3), (3, .int .u16 v4), (4, pp b10 0), (9, .slice o21 v14.length k23), (43, .bool true)] hF49 (fun a50 hF50 => (wpList_nil (then_n (wp_cond_true hF50.e (wp_seq (wp_region_lit ?_))))))
     refine wplp 1 [8] [(8, .bool false)] hF50 (fun a51 hF51 => (wpList_nil (then_n (wp_ret ?_))))
     refine then_r (ret_ok hF51 [.bool false] (⟨by kernel_rfl, trivial⟩) ?_)
     have hr0 := Option.some.inj h
     subst hr0
     exact ⟨rfl, hS31.sub (List.nil_sublist _)⟩
    ·
     have hF52 := Fr.eqv (L := [(2, .int .u16 v3), (3, .int .u16 v4), (4, pp b10 0), (9, .slice o21 v14.length k23), (10, .slice o24 v15.length k26), (34, .bool ((v14.length : Int) != 1184))]) (Fr.pick [2, 3, 4, 9, 10, 34] (by kernel_rfl) hF47) (M := [(2, .int .u16 v3), (3, .int .u16 v4), (4, pp b10 0), (9, .slice o21 v14.length k23), (10, .slice o24 v15.length k26), (34, .bool false)]) (by rw [ht48])
     have h := if_f ht48 h
     refine wplp 1 [2, 3, 4, 9, 10, 34, 35] [(2, .int .u16 v3), (3, .int .u16 v4), (4, pp b10 0), (9, .slice o21 v14.length k23), (10, .slice o24 v15.length k26), (34, .bool false), (35, .slice o21 v14.length k23)] hF52 (fun a53 hF53 => ?_)
     obtain ⟨v55, hb54, h⟩ := bind_ok h
     refine wpl_one hF53 (by kernel_rfl) (wp_callR hF53 (by kernel_rfl) (g := 8) (args := #[.slice o21 v14.length k23]) (by kernel_rfl) (i_kem_CheckEk_ok v14 (len_is (v14) (n := v14.length) rfl) (hS31.rdsl 0 rfl) v55 hb54) (fun vr w55 hp => ?_))
     obtain ⟨rfl, hS56⟩ := hp
     replace hS56 := St.call hS31 hS56 rfl
     refine go_fr (hF53.next (i6 v55) [2, 3, 4, 9, 10, 34, 36] (M := [(2, .int .u16 v3), (3, .int .u16 v4), (4, pp b10 0), (9, .slice o21 v14.length k23), (10, .slice o24 v15.length k26), (34, .bool false), (36, i6 v55)]) (by kernel_rfl)) (fun a56 hF56 => ?_)
     refine wplp 3 [2, 3, 4, 9, 10, 39] [(2, .int .u16 v3), (3, .int .u16 v4), (4, pp b10 0), (9, .slice o21 v14.length k23), (10, .slice o24 v15.length k26), (39, .bool (v55 != 0))] hF56 (fun a57 hF57 => ?_)
     rcases Bool.eq_false_or_eq_true (v55 != 0) with ht58 | ht58
     ·
      have hF59 := Fr.eqv (L := [(2, .int .u16 v3), (3, .int .u16 v4), (4, pp b10 0), (9, .slice o21 v14.length k23), (10, .slice o24 v15.length k26), (39, .bool (v55 != 0))]) (Fr.pick [2, 3, 4, 9, 10, 39] (by kernel_rfl) hF57) (M := [(2, .int .u16 v3), (3, .int .u16 v4), (4, pp b10 0), (9, .slice o21 v14.length k23), (10, .slice o24 v15.length k26), (39, .bool true)]) (by rw [ht58])
      have h := if_t ht58 h
      refine wplp 4 [2, 3, 4, 9, 43] [(2, .int .u16 v3), (3, .int .u16 v4), (4, pp b10 0), (9, .slice o21 v14.length k23), (43, .bool true)] hF59 (fun a60 hF60 => (wpList_nil (then_n (wp_cond_true hF60.e (wp_seq (wp_region_lit ?_))))))
      refine wplp 1 [8] [(8, .bool false)] hF60 (fun a61 hF61 => (wpList_nil (then_n (wp_ret ?_))))
      refine then_r (ret_ok hF61 [.bool false] (⟨by kernel_rfl, trivial⟩) ?_)
      have hr0 := Option.some.inj h
      subst hr0
      exact ⟨rfl, hS56.sub (List.nil_sublist _)⟩
     ·
      have hF62 := Fr.eqv (L := [(2, .int .u16 v3), (3, .int .u16 v4), (4, pp b10 0), (9, .slice o21 v14.length k23), (10, .slice o24 v15.length k26), (39, .bool (v55 != 0))]) (Fr.pick [2, 3, 4, 9, 10, 39] (by kernel_rfl) hF57) (M := [(2, .int .u16 v3), (3, .int .u16 v4), (4, pp b10 0), (9, .slice o21 v14.length k23), (10, .slice o24 v15.length k26), (39, .bool false)]) (by rw [ht58])
      have h := if_f ht58 h
      refine wplp 1 [2, 3, 4, 9, 39, 40] [(2, .int .u16 v3), (3, .int .u16 v4), (4, pp b10 0), (9, .slice o21 v14.length k23), (39, .bool false), (40, .slice o24 v15.length k26)] hF62 (fun a63 hF63 => ?_)
      obtain ⟨v66, hb64, h⟩ := bind_ok h
      refine wpl_one hF63 (by kernel_rfl) (wp_callR hF63 (by kernel_rfl) (g := 9) (args := #[.slice o24 v15.length k26]) (by kernel_rfl) (i_kem_CheckDk_ok v15 (len_is (v15) (n := v15.length) rfl) (hS56.rdsl 1 rfl) v66 hb64) (fun vr w65 hp => ?_))
      obtain ⟨rfl, hS66⟩ := hp
      replace hS66 := St.call hS56 hS66 rfl
      refine go_fr (hF63.next (i6 v66) [2, 3, 4, 9, 39, 41] (M := [(2, .int .u16 v3), (3, .int .u16 v4), (4, pp b10 0), (9, .slice o21 v14.length k23), (39, .bool false), (41, i6 v66)]) (by kernel_rfl)) (fun a66 hF66 => ?_)
      refine wplp 2 [2, 3, 4, 9, 43] [(2, .int .u16 v3), (3, .int .u16 v4), (4, pp b10 0), (9, .slice o21 v14.length k23), (43, .bool (v66 != 0))] hF66 (fun a67 hF67 => (wpList_nil (then_n ?_)))
      refine wp_cond_split (t := (v66 != 0)) hF67.e (fun ht68 => ?_) (fun ht68 => ?_)
      ·
       have h := if_t ht68 h
       refine wp_seq (wp_region_lit ?_)
       refine wplp 1 [8] [(8, .bool false)] hF67 (fun a69 hF69 => (wpList_nil (then_n (wp_ret ?_))))
       refine then_r (ret_ok hF69 [.bool false] (⟨by kernel_rfl, trivial⟩) ?_)
       have hr0 := Option.some.inj h
       subst hr0
       exact ⟨rfl, hS66.sub (List.nil_sublist _)⟩
      ·
       have h := if_f ht68 h
       refine wp_skip (then_n (wp_seq (wp_region_lit ?_)))
       refine wplp 5 [2, 4, 9, 12] [(2, .int .u16 v3), (4, pp b10 0), (9, .slice o21 v14.length k23), (12, i6 (IntKind.i64.wrap (3329 + ((IntKind.i64.wrap v4).tmod 767))))] hF67 (fun a70 hF70 => (wpList_nil (then_n (wp_seq (wp_region_lit ?_)))))
       refine wplp 5 [2, 4, 9, 12, 13] [(2, .int .u16 v3), (4, pp b10 0), (9, .slice o21 v14.length k23), (12, i6 (IntKind.i64.wrap (3329 + ((IntKind.i64.wrap v4).tmod 767)))), (13, i6 (IntKind.i64.wrap (3 * ((IntKind.i64.wrap v3).tmod 384))))] hF70 (fun a71 hF71 => (wpList_nil (then_n (wp_seq (wp_seq (wp_region_lit ?_))))))
       refine wplp 3 [4, 9, 12, 13, 54] [(4, pp b10 0), (9, .slice o21 v14.length k23), (12, i6 (IntKind.i64.wrap (3329 + ((IntKind.i64.wrap v4).tmod 767)))), (13, i6 (IntKind.i64.wrap (3 * ((IntKind.i64.wrap v3).tmod 384)))), (54, .bool ((v3.tmod 2) == 0))] hF71 (fun a72 hF72 => (wpList_nil (then_n ?_)))
       refine wp_cond_split (t := ((v3.tmod 2) == 0)) hF72.e (fun ht73 => ?_) (fun ht73 => ?_)
       ·
        have h := if_t ht73 h
        refine wp_region_lit ?_
        refine wplp 10 [4, 9, 12, 55, 56, 57, 59, 61, 62, 64] [(4, pp b10 0), (9, .slice o21 v14.length k23), (12, i6 (IntKind.i64.wrap (3329 + ((IntKind.i64.wrap v4).tmod 767)))), (55, .slice o21 v14.length k23), (56, i6 (IntKind.i64.wrap (3 * ((IntKind.i64.wrap v3).tmod 384)))), (57, .slice o21 v14.length k23), (59, i6 (IntKind.i64.wrap ((IntKind.i64.wrap (3 * ((IntKind.i64.wrap v3).tmod 384))) + 1))), (61, .int .u8 (IntKind.u8.wrap (IntKind.i64.wrap (3329 + ((IntKind.i64.wrap v4).tmod 767))))), (62, .slice o21 v14.length k23), (64, i6 (IntKind.i64.wrap ((IntKind.i64.wrap (3 * ((IntKind.i64.wrap v3).tmod 384))) + 1)))] hF72 (fun a74 hF74 => ?_)
        obtain ⟨hg75, h⟩ := gd_ok h
        refine wpl_val hF74 (by kernel_rfl) (v := pp (blkOf o21) (offOf o21 + (IntKind.i64.wrap ((IntKind.i64.wrap (3 * ((IntKind.i64.wrap v3).tmod 384))) + 1)).toNat)) (run_indexS rfl (ao := o21) (m := v14.length) (c := k23) hF74.e (rd_ne hS66 0 rfl rfl (j := (IntKind.i64.wrap ((IntKind.i64.wrap (3 * ((IntKind.i64.wrap v3).tmod 384))) + 1)).toNat) (v := .int .u8 (rd v14 (IntKind.i64.wrap ((IntKind.i64.wrap (3 * ((IntKind.i64.wrap v3).tmod 384))) + 1)).toNat)) (ic_get (lt_len (inb_nat hg75) (len_is (v14) (n := v14.length) rfl)))) (k := .i64) (i := (IntKind.i64.wrap ((IntKind.i64.wrap (3 * ((IntKind.i64.wrap v3).tmod 384))) + 1))) hF74.e (E := 5) (by kernel_rfl) (s := 1) (by kernel_rfl) (inb_ok hg75) (r := offOf o21 + (IntKind.i64.wrap ((IntKind.i64.wrap (3 * ((IntKind.i64.wrap v3).tmod 384))) + 1)).toNat) (by simp only [Nat.mul_one])) (by kernel_rfl) (fun a76 hF76 => ?_)
        obtain ⟨v80, hv_v80, h⟩ := nm_ok h
        have hF77 := Fr.eqv (L := [(4, pp b10 0), (9, .slice o21 v14.length k23), (12, i6 (IntKind.i64.wrap (3329 + ((IntKind.i64.wrap v4).tmod 767)))), (55, .slice o21 v14.length k23), (56, i6 (IntKind.i64.wrap (3 * ((IntKind.i64.wrap v3).tmod 384)))), (57, .slice o21 v14.length k23), (59, i6 (IntKind.i64.wrap ((IntKind.i64.wrap (3 * ((IntKind.i64.wrap v3).tmod 384))) + 1))), (61, .int .u8 (IntKind.u8.wrap (IntKind.i64.wrap (3329 + ((IntKind.i64.wrap v4).tmod 767))))), (65, pp (blkOf o21) (offOf o21 + (IntKind.i64.wrap ((IntKind.i64.wrap (3 * ((IntKind.i64.wrap v3).tmod 384))) + 1)).toNat))]) (Fr.pick [4, 9, 12, 55, 56, 57, 59, 61, 65] (by kernel_rfl) hF76) (M := [(4, pp b10 0), (9, .slice o21 v14.length k23), (12, i6 (IntKind.i64.wrap (3329 + ((IntKind.i64.wrap v4).tmod 767)))), (55, .slice o21 v14.length k23), (56, i6 (IntKind.i64.wrap (3 * ((IntKind.i64.wrap v3).tmod 384)))), (57, .slice o21 v14.length k23), (59, i6 v80), (61, .int .u8 (IntKind.u8.wrap (IntKind.i64.wrap (3329 + ((IntKind.i64.wrap v4).tmod 767))))), (65, pp (blkOf o21) (offOf o21 + (IntKind.i64.wrap ((IntKind.i64.wrap (3 * ((IntKind.i64.wrap v3).tmod 384))) + 1)).toNat))]) (by rw [hv_v80])
        obtain ⟨v82, hv_v82, h⟩ := nm_ok h
        have hF78 := Fr.eqv (L := [(4, pp b10 0), (9, .slice o21 v14.length k23), (12, i6 (IntKind.i64.wrap (3329 + ((IntKind.i64.wrap v4).tmod 767)))), (55, .slice o21 v14.length k23), (56, i6 (IntKind.i64.wrap (3 * ((IntKind.i64.wrap v3).tmod 384)))), (57, .slice o21 v14.length k23), (59, i6 v80), (61, .int .u8 (IntKind.u8.wrap (IntKind.i64.wrap (3329 + ((IntKind.i64.wrap v4).tmod 767))))), (65, pp (blkOf o21) (offOf o21 + (IntKind.i64.wrap ((IntKind.i64.wrap (3 * ((IntKind.i64.wrap v3).tmod 384))) + 1)).toNat))]) (Fr.pick [4, 9, 12, 55, 56, 57, 59, 61, 65] (by kernel_rfl) hF77) (M := [(4, pp b10 0), (9, .slice o21 v14.length k23), (12, i6 (IntKind.i64.wrap (3329 + ((IntKind.i64.wrap v4).tmod 767)))), (55, .slice o21 v14.length k23), (56, i6 (IntKind.i64.wrap (3 * ((IntKind.i64.wrap v3).tmod 384)))), (57, .slice o21 v14.length k23), (59, i6 v80), (61, .int .u8 v82), (65, pp (blkOf o21) (offOf o21 + (IntKind.i64.wrap ((IntKind.i64.wrap (3 * ((IntKind.i64.wrap v3).tmod 384))) + 1)).toNat))]) (by rw [hv_v82])
        refine wpl_val hF78 (by kernel_rfl) (v := .int .u8 (rd v14 ((IntKind.i64.wrap ((IntKind.i64.wrap (3 * ((IntKind.i64.wrap v3).tmod 384))) + 1)).toNat))) (run_load1 rfl (b := blkOf o21) (off := offOf o21 + (IntKind.i64.wrap ((IntKind.i64.wrap (3 * ((IntKind.i64.wrap v3).tmod 384))) + 1)).toNat) hF78.e (by kernel_rfl) (hS66.atA 0 rfl rfl ((IntKind.i64.wrap ((IntKind.i64.wrap (3 * ((IntKind.i64.wrap v3).tmod 384))) + 1)).toNat) (ic_get (lt_len (inb_nat hg75) (len_is (v14) (n := v14.length) rfl))))) (by kernel_rfl) (fun a79 hF79 => ?_)
        obtain ⟨v85, hv_v85, h⟩ := nm_ok h
        have hF80 := Fr.eqv (L := [(4, pp b10 0), (9, .slice o21 v14.length k23), (12, i6 (IntKind.i64.wrap (3329 + ((IntKind.i64.wrap v4).tmod 767)))), (55, .slice o21 v14.length k23), (56, i6 (IntKind.i64.wrap (3 * ((IntKind.i64.wrap v3).tmod 384)))), (57, .slice o21 v14.length k23), (59, i6 v80), (61, .int .u8 v82), (66, .int .u8 (rd v14 ((IntKind.i64.wrap ((IntKind.i64.wrap (3 * ((IntKind.i64.wrap v3).tmod 384))) + 1)).toNat)))]) (Fr.pick [4, 9, 12, 55, 56, 57, 59, 61, 66] (by kernel_rfl) hF79) (M := [(4, pp b10 0), (9, .slice o21 v14.length k23), (12, i6 (IntKind.i64.wrap (3329 + ((IntKind.i64.wrap v4).tmod 767)))), (55, .slice o21 v14.length k23), (56, i6 (IntKind.i64.wrap (3 * ((IntKind.i64.wrap v3).tmod 384)))), (57, .slice o21 v14.length k23), (59, i6 v80), (61, .int .u8 v82), (66, .int .u8 v85)]) (by rw [hv_v85])
        refine wplp 5 [4, 9, 55, 56, 57, 59, 61, 71] [(4, pp b10 0), (9, .slice o21 v14.length k23), (55, .slice o21 v14.length k23), (56, i6 (IntKind.i64.wrap (3 * ((IntKind.i64.wrap v3).tmod 384)))), (57, .slice o21 v14.length k23), (59, i6 v80), (61, .int .u8 v82), (71, .int .u8 (ior .u8 (iand .u8 v85 240) (IntKind.u8.wrap (ishr .i64 (IntKind.i64.wrap (3329 + ((IntKind.i64.wrap v4).tmod 767))) 8))))] hF80 (fun a81 hF81 => ?_)
        obtain ⟨hg82, h⟩ := gd_ok h
        refine wpl_val hF81 (by kernel_rfl) (v := pp (blkOf o21) (offOf o21 + (IntKind.i64.wrap (3 * ((IntKind.i64.wrap v3).tmod 384))).toNat)) (run_indexS rfl (ao := o21) (m := v14.length) (c := k23) hF81.e (rd_ne hS66 0 rfl rfl (j := (IntKind.i64.wrap (3 * ((IntKind.i64.wrap v3).tmod 384))).toNat) (v := .int .u8 (rd v14 (IntKind.i64.wrap (3 * ((IntKind.i64.wrap v3).tmod 384))).toNat)) (ic_get (lt_len (inb_nat hg82) (len_is (v14) (n := v14.length) rfl)))) (k := .i64) (i := (IntKind.i64.wrap (3 * ((IntKind.i64.wrap v3).tmod 384)))) hF81.e (E := 5) (by kernel_rfl) (s := 1) (by kernel_rfl) (inb_ok hg82) (r := offOf o21 + (IntKind.i64.wrap (3 * ((IntKind.i64.wrap v3).tmod 384))).toNat) (by simp only [Nat.mul_one])) (by kernel_rfl) (fun a83 hF83 => ?_)
        obtain ⟨v90, hv_v90, h⟩ := nm_ok h
        have hF84 := Fr.eqv (L := [(4, pp b10 0), (9, .slice o21 v14.length k23), (57, .slice o21 v14.length k23), (59, i6 v80), (61, .int .u8 v82), (71, .int .u8 (ior .u8 (iand .u8 v85 240) (IntKind.u8.wrap (ishr .i64 (IntKind.i64.wrap (3329 + ((IntKind.i64.wrap v4).tmod 767))) 8)))), (72, pp (blkOf o21) (offOf o21 + (IntKind.i64.wrap (3 * ((IntKind.i64.wrap v3).tmod 384))).toNat))]) (Fr.pick [4, 9, 57, 59, 61, 71, 72] (by kernel_rfl) hF83) (M := [(4, pp b10 0), (9, .slice o21 v14.length k23), (57, .slice o21 v14.length k23), (59, i6 v80), (61, .int .u8 v82), (71, .int .u8 v90), (72, pp (blkOf o21) (offOf o21 + (IntKind.i64.wrap (3 * ((IntKind.i64.wrap v3).tmod 384))).toNat))]) (by rw [hv_v90])
        refine wpl_one hF84 (by kernel_rfl) (wp_storeS hF84 hS66 rfl 0 rfl (j := (IntKind.i64.wrap (3 * ((IntKind.i64.wrap v3).tmod 384))).toNat) (v := .int .u8 v82) (by kernel_rfl) rfl rfl (.ic (lt_len (inb_nat hg82) (len_is (v14) (n := v14.length) rfl))) (L' := [.sl o21 v14.length k23 1 (ic .u8 (v14.set ((IntKind.i64.wrap (3 * ((IntKind.i64.wrap v3).tmod 384))).toNat) v82)) 5, .sl o24 v15.length k26 1 (ic .u8 v15) 5, .blk b13 (ic .u8 v2) 22, .blk b10 (ic .u8 v1) 22]) rfl (fun w85 a86 hS86 hF86 => ?_))
        obtain ⟨v94, hv_v94, h⟩ := nm_ok h
        have hl_v94 : v94.length = v14.length := (congrArg List.length hv_v94).trans (len_is ((v14.set ((IntKind.i64.wrap (3 * ((IntKind.i64.wrap v3).tmod 384))).toNat) v82)) (n := v14.length) (List.length_set.trans (len_is (v14) (n := v14.length) rfl)))
        have hS87 := St.eqv (M := [.sl o21 v14.length k23 1 (ic .u8 v94) 5, .sl o24 v15.length k26 1 (ic .u8 v15) 5, .blk b13 (ic .u8 v2) 22, .blk b10 (ic .u8 v1) 22]) hS86 (by rw [hv_v94])
        refine wpl_val hF86 (by kernel_rfl) (v := pp (blkOf o21) (offOf o21 + v80.toNat)) (run_indexS rfl (ao := o21) (m := v14.length) (c := k23) hF86.e (rd_ne hS87 0 rfl rfl (j := v80.toNat) (v := .int .u8 (rd v94 v80.toNat)) (ic_get (lt_len (inb_nat (hv_v80 ▸ hg75)) hl_v94))) (k := .i64) (i := v80) hF86.e (E := 5) (by kernel_rfl) (s := 1) (by kernel_rfl) (inb_ok (hv_v80 ▸ hg75)) (r := offOf o21 + v80.toNat) (by simp only [Nat.mul_one])) (by kernel_rfl) (fun a88 hF88 => ?_)
        refine wpl_one hF88 (by kernel_rfl) (wp_storeS hF88 hS87 rfl 0 rfl (j := v80.toNat) (v := .int .u8 v90) (by kernel_rfl) rfl rfl (.ic (lt_len (inb_nat (hv_v80 ▸ hg75)) hl_v94)) (L' := [.sl o21 v14.length k23 1 (ic .u8 (v94.set v80.toNat v90)) 5, .sl o24 v15.length k26 1 (ic .u8 v15) 5, .blk b13 (ic .u8 v2) 22, .blk b10 (ic .u8 v1) 22]) rfl (fun w89 a90 hS90 hF90 => (wpList_nil (then_n (wp_seq (wp_region_lit ?_))))))
        refine wplp 1 [4, 9, 96] [(4, pp b10 0), (9, .slice o21 v14.length k23), (96, .slice o21 v14.length k23)] hF90 (fun a91 hF91 => ?_)
        refine wpl_val hF91 (by kernel_rfl) (v := .agg (ic .u8 v1).toArray) (run_loadR rfl (b := b10) (off := 0) hF91.e (by kernel_rfl) (k := 32) (by kernel_rfl) (((ic_len _ _).trans hl_v1) : (ic .u8 v1).length = 32) (hS90.all 3 rfl)) (by kernel_rfl) (fun a92 hF92 => ?_)
        obtain ⟨⟨v101, v102, v103⟩, hb93, h⟩ := bind_ok h
        refine wpl_one hF92 (by kernel_rfl) (wp_callR hF92 (by kernel_rfl) (g := 10) (args := #[.slice o21 v14.length k23, .agg (ic .u8 v1).toArray]) (by kernel_rfl) (i_kem_Encaps_ok (v94.set v80.toNat v90) v1 hl_v1 (len_is ((v94.set v80.toNat v90)) (n := v14.length) (List.length_set.trans hl_v94)) (hS90.rdsl 0 rfl) v101 v102 v103 hb93) (fun vr w94 hp => ?_))
        obtain ⟨o95, n96, k97, hn_n96, rfl, hS98, hl_v101⟩ := hp
        subst hn_n96
        replace hS98 := St.call hS90 hS98 rfl
        refine go_fr (hF92.next (.tuple #[.agg (ic .u8 v101).toArray, .slice o95 v102.length k97, i6 v103]) [9, 98] (M := [(9, .slice o21 v14.length k23), (98, .tuple #[.agg (ic .u8 v101).toArray, .slice o95 v102.length k97, i6 v103])]) (by kernel_rfl)) (fun a98 hF98 => ?_)
        refine wplp 4 [9, 99, 100, 101] [(9, .slice o21 v14.length k23), (99, .agg (ic .u8 v101).toArray), (100, .slice o95 v102.length k97), (101, i6 v103)] hF98 (fun a99 hF99 => ?_)
        refine wpl_one hF99 (by kernel_rfl) (wp_alloc hF99 hS98 rfl (z := .agg (ic .u8 (rz 32)).toArray) (by kernel_rfl) (ic .u8 (rz 32)) rfl (by kernel_rfl) (fun b100 w101 a102 hS102 hF102 => ?_))
        refine wpl_one hF102 (by kernel_rfl) (wp_store hF102 hS102 rfl 0 rfl (off := 0) (by kernel_rfl) (v := .agg (ic .u8 v101).toArray) (by kernel_rfl) (vs := ic .u8 v101) rfl (k := 32) (by kernel_rfl) (((ic_len _ _).trans hl_v101) : (ic .u8 v101).length = 32) (by have h2 := (((ic_len _ _).trans (len_is (rz 32) (n := 32) (List.length_replicate))) : (ic .u8 (rz 32)).length = 32); omega) (ic_one _ _) (cs' := ic .u8 v101) ((upd_ic _ _ _ _).trans (congrArg (ic .u8) (upd_all ((hl_v101).trans ((len_is (rz 32) (n := 32) (List.length_replicate))).symm)))) (by kernel_rfl) (L' := [.blk b100 (ic .u8 v101) 22, .sl o95 v102.length k97 1 (ic .u8 v102) 5, .sl o21 v14.length k23 1 (ic .u8 (v94.set v80.toNat v90)) 5, .sl o24 v15.length k26 1 (ic .u8 v15) 5, .blk b13 (ic .u8 v2) 22, .blk b10 (ic .u8 v1) 22]) rfl (fun w103 a104 hS104 hF104 => ?_))
        refine wplp 2 [9, 15, 16] [(9, .slice o21 v14.length k23), (15, .slice o95 v102.length k97), (16, i6 v103)] hF104 (fun a105 hF105 => (wpList_nil (then_n (wp_seq (wp_region_lit ?_)))))
        refine wplp 1 [15, 16, 102] [(15, .slice o95 v102.length k97), (16, i6 v103), (102, .slice o21 v14.length k23)] hF105 (fun a106 hF106 => ?_)
        obtain ⟨v118, hb107, h⟩ := bind_ok h
        refine wpl_one hF106 (by kernel_rfl) (wp_callR hF106 (by kernel_rfl) (g := 8) (args := #[.slice o21 v14.length k23]) (by kernel_rfl) (i_kem_CheckEk_ok (v94.set v80.toNat v90) (len_is ((v94.set v80.toNat v90)) (n := v14.length) (List.length_set.trans hl_v94)) (hS104.rdsl 2 rfl) v118 hb107) (fun vr w108 hp => ?_))
        obtain ⟨rfl, hS109⟩ := hp
        replace hS109 := St.call hS104 hS109 rfl
        refine go_fr (hF106.next (i6 v118) [15, 16, 103] (M := [(15, .slice o95 v102.length k97), (16, i6 v103), (103, i6 v118)]) (by kernel_rfl)) (fun a109 hF109 => ?_)
        refine wplp 2 [15, 16, 105] [(15, .slice o95 v102.length k97), (16, i6 v103), (105, .bool (v118 == 140))] hF109 (fun a110 hF110 => ?_)
        rcases Bool.eq_false_or_eq_true (v118 == 140) with ht111 | ht111
        ·
         have hF112 := Fr.eqv (L := [(15, .slice o95 v102.length k97), (16, i6 v103), (105, .bool (v118 == 140))]) (Fr.pick [15, 16, 105] (by kernel_rfl) hF110) (M := [(15, .slice o95 v102.length k97), (16, i6 v103), (105, .bool true)]) (by rw [ht111])
         have h := if_t ht111 h
         refine wplp 4 [15, 109] [(15, .slice o95 v102.length k97), (109, .bool (v103 == 140))] hF112 (fun a113 hF113 => ?_)
         rcases Bool.eq_false_or_eq_true (v103 == 140) with ht114 | ht114
         ·
          have hF115 := Fr.eqv (L := [(15, .slice o95 v102.length k97), (109, .bool (v103 == 140))]) (Fr.pick [15, 109] (by kernel_rfl) hF113) (M := [(15, .slice o95 v102.length k97), (109, .bool true)]) (by rw [ht114])
          have h := if_t ht114 h
          refine wplp 5 [8] [(8, .bool ((v102.length : Int) == 0))] hF115 (fun a116 hF116 => (wpList_nil (then_n (wp_ret (ret_ok hF116 [.bool ((v102.length : Int) == 0)] (⟨by kernel_rfl, trivial⟩) ?_)))))
          have hr0 := Option.some.inj h
          subst hr0
          exact ⟨rfl, hS109.sub (List.nil_sublist _)⟩
         ·
          have hF117 := Fr.eqv (L := [(15, .slice o95 v102.length k97), (109, .bool (v103 == 140))]) (Fr.pick [15, 109] (by kernel_rfl) hF113) (M := [(15, .slice o95 v102.length k97), (109, .bool false)]) (by rw [ht114])
          have h := if_f ht114 h
          refine wplp 5 [8] [(8, .bool false)] hF117 (fun a118 hF118 => (wpList_nil (then_n (wp_ret (ret_ok hF118 [.bool false] (⟨by kernel_rfl, trivial⟩) ?_)))))
          have hr0 := Option.some.inj h
          subst hr0
          exact ⟨rfl, hS109.sub (List.nil_sublist _)⟩
        ·
         have hF119 := Fr.eqv (L := [(15, .slice o95 v102.length k97), (16, i6 v103), (105, .bool (v118 == 140))]) (Fr.pick [15, 16, 105] (by kernel_rfl) hF110) (M := [(15, .slice o95 v102.length k97), (16, i6 v103), (105, .bool false)]) (by rw [ht111])
         have h := if_f ht111 h
         refine wplp 9 [8] [(8, .bool false)] hF119 (fun a120 hF120 => (wpList_nil (then_n (wp_ret (ret_ok hF120 [.bool false] (⟨by kernel_rfl, trivial⟩) ?_)))))
         have hr0 := Option.some.inj h
         subst hr0
         exact ⟨rfl, hS109.sub (List.nil_sublist _)⟩
       ·
        have h := if_f ht73 h
        refine wp_region_lit ?_
        refine wplp 9 [4, 9, 12, 74, 76, 77, 79, 80, 82] [(4, pp b10 0), (9, .slice o21 v14.length k23), (12, i6 (IntKind.i64.wrap (3329 + ((IntKind.i64.wrap v4).tmod 767)))), (74, .slice o21 v14.length k23), (76, i6 (IntKind.i64.wrap ((IntKind.i64.wrap (3 * ((IntKind.i64.wrap v3).tmod 384))) + 1))), (77, .slice o21 v14.length k23), (79, i6 (IntKind.i64.wrap ((IntKind.i64.wrap (3 * ((IntKind.i64.wrap v3).tmod 384))) + 2))), (80, .slice o21 v14.length k23), (82, i6 (IntKind.i64.wrap ((IntKind.i64.wrap (3 * ((IntKind.i64.wrap v3).tmod 384))) + 1)))] hF72 (fun a121 hF121 => ?_)
        obtain ⟨hg122, h⟩ := gd_ok h
        refine wpl_val hF121 (by kernel_rfl) (v := pp (blkOf o21) (offOf o21 + (IntKind.i64.wrap ((IntKind.i64.wrap (3 * ((IntKind.i64.wrap v3).tmod 384))) + 1)).toNat)) (run_indexS rfl (ao := o21) (m := v14.length) (c := k23) hF121.e (rd_ne hS66 0 rfl rfl (j := (IntKind.i64.wrap ((IntKind.i64.wrap (3 * ((IntKind.i64.wrap v3).tmod 384))) + 1)).toNat) (v := .int .u8 (rd v14 (IntKind.i64.wrap ((IntKind.i64.wrap (3 * ((IntKind.i64.wrap v3).tmod 384))) + 1)).toNat)) (ic_get (lt_len (inb_nat hg122) (len_is (v14) (n := v14.length) rfl)))) (k := .i64) (i := (IntKind.i64.wrap ((IntKind.i64.wrap (3 * ((IntKind.i64.wrap v3).tmod 384))) + 1))) hF121.e (E := 5) (by kernel_rfl) (s := 1) (by kernel_rfl) (inb_ok hg122) (r := offOf o21 + (IntKind.i64.wrap ((IntKind.i64.wrap (3 * ((IntKind.i64.wrap v3).tmod 384))) + 1)).toNat) (by simp only [Nat.mul_one])) (by kernel_rfl) (fun a123 hF123 => ?_)
        obtain ⟨v136, hv_v136, h⟩ := nm_ok h
        have hF124 := Fr.eqv (L := [(4, pp b10 0), (9, .slice o21 v14.length k23), (12, i6 (IntKind.i64.wrap (3329 + ((IntKind.i64.wrap v4).tmod 767)))), (74, .slice o21 v14.length k23), (76, i6 (IntKind.i64.wrap ((IntKind.i64.wrap (3 * ((IntKind.i64.wrap v3).tmod 384))) + 1))), (77, .slice o21 v14.length k23), (79, i6 (IntKind.i64.wrap ((IntKind.i64.wrap (3 * ((IntKind.i64.wrap v3).tmod 384))) + 2))), (83, pp (blkOf o21) (offOf o21 + (IntKind.i64.wrap ((IntKind.i64.wrap (3 * ((IntKind.i64.wrap v3).tmod 384))) + 1)).toNat))]) (Fr.pick [4, 9, 12, 74, 76, 77, 79, 83] (by kernel_rfl) hF123) (M := [(4, pp b10 0), (9, .slice o21 v14.length k23), (12, i6 (IntKind.i64.wrap (3329 + ((IntKind.i64.wrap v4).tmod 767)))), (74, .slice o21 v14.length k23), (76, i6 v136), (77, .slice o21 v14.length k23), (79, i6 (IntKind.i64.wrap ((IntKind.i64.wrap (3 * ((IntKind.i64.wrap v3).tmod 384))) + 2))), (83, pp (blkOf o21) (offOf o21 + (IntKind.i64.wrap ((IntKind.i64.wrap (3 * ((IntKind.i64.wrap v3).tmod 384))) + 1)).toNat))]) (by rw [hv_v136])
        obtain ⟨v138, hv_v138, h⟩ := nm_ok h
        have hF125 := Fr.eqv (L := [(4, pp b10 0), (9, .slice o21 v14.length k23), (12, i6 (IntKind.i64.wrap (3329 + ((IntKind.i64.wrap v4).tmod 767)))), (74, .slice o21 v14.length k23), (76, i6 v136), (77, .slice o21 v14.length k23), (79, i6 (IntKind.i64.wrap ((IntKind.i64.wrap (3 * ((IntKind.i64.wrap v3).tmod 384))) + 2))), (83, pp (blkOf o21) (offOf o21 + (IntKind.i64.wrap ((IntKind.i64.wrap (3 * ((IntKind.i64.wrap v3).tmod 384))) + 1)).toNat))]) (Fr.pick [4, 9, 12, 74, 76, 77, 79, 83] (by kernel_rfl) hF124) (M := [(4, pp b10 0), (9, .slice o21 v14.length k23), (12, i6 (IntKind.i64.wrap (3329 + ((IntKind.i64.wrap v4).tmod 767)))), (74, .slice o21 v14.length k23), (76, i6 v136), (77, .slice o21 v14.length k23), (79, i6 v138), (83, pp (blkOf o21) (offOf o21 + (IntKind.i64.wrap ((IntKind.i64.wrap (3 * ((IntKind.i64.wrap v3).tmod 384))) + 1)).toNat))]) (by rw [hv_v138])
        refine wpl_val hF125 (by kernel_rfl) (v := .int .u8 (rd v14 ((IntKind.i64.wrap ((IntKind.i64.wrap (3 * ((IntKind.i64.wrap v3).tmod 384))) + 1)).toNat))) (run_load1 rfl (b := blkOf o21) (off := offOf o21 + (IntKind.i64.wrap ((IntKind.i64.wrap (3 * ((IntKind.i64.wrap v3).tmod 384))) + 1)).toNat) hF125.e (by kernel_rfl) (hS66.atA 0 rfl rfl ((IntKind.i64.wrap ((IntKind.i64.wrap (3 * ((IntKind.i64.wrap v3).tmod 384))) + 1)).toNat) (ic_get (lt_len (inb_nat hg122) (len_is (v14) (n := v14.length) rfl))))) (by kernel_rfl) (fun a126 hF126 => ?_)
        obtain ⟨v141, hv_v141, h⟩ := nm_ok h
        have hF127 := Fr.eqv (L := [(4, pp b10 0), (9, .slice o21 v14.length k23), (12, i6 (IntKind.i64.wrap (3329 + ((IntKind.i64.wrap v4).tmod 767)))), (74, .slice o21 v14.length k23), (76, i6 v136), (77, .slice o21 v14.length k23), (79, i6 v138), (84, .int .u8 (rd v14 ((IntKind.i64.wrap ((IntKind.i64.wrap (3 * ((IntKind.i64.wrap v3).tmod 384))) + 1)).toNat)))]) (Fr.pick [4, 9, 12, 74, 76, 77, 79, 84] (by kernel_rfl) hF126) (M := [(4, pp b10 0), (9, .slice o21 v14.length k23), (12, i6 (IntKind.i64.wrap (3329 + ((IntKind.i64.wrap v4).tmod 767)))), (74, .slice o21 v14.length k23), (76, i6 v136), (77, .slice o21 v14.length k23), (79, i6 v138), (84, .int .u8 v141)]) (by rw [hv_v141])
        refine wplp 8 [4, 9, 74, 76, 77, 79, 89, 92] [(4, pp b10 0), (9, .slice o21 v14.length k23), (74, .slice o21 v14.length k23), (76, i6 v136), (77, .slice o21 v14.length k23), (79, i6 v138), (89, .int .u8 (ior .u8 (iand .u8 v141 15) (IntKind.u8.wrap (ishl .i64 (IntKind.i64.wrap (3329 + ((IntKind.i64.wrap v4).tmod 767))) 4)))), (92, .int .u8 (IntKind.u8.wrap (ishr .i64 (IntKind.i64.wrap (3329 + ((IntKind.i64.wrap v4).tmod 767))) 4)))] hF127 (fun a128 hF128 => ?_)
        refine wpl_val hF128 (by kernel_rfl) (v := pp (blkOf o21) (offOf o21 + v136.toNat)) (run_indexS rfl (ao := o21) (m := v14.length) (c := k23) hF128.e (rd_ne hS66 0 rfl rfl (j := v136.toNat) (v := .int .u8 (rd v14 v136.toNat)) (ic_get (lt_len (inb_nat (hv_v136 ▸ hg122)) (len_is (v14) (n := v14.length) rfl)))) (k := .i64) (i := v136) hF128.e (E := 5) (by kernel_rfl) (s := 1) (by kernel_rfl) (inb_ok (hv_v136 ▸ hg122)) (r := offOf o21 + v136.toNat) (by simp only [Nat.mul_one])) (by kernel_rfl) (fun a129 hF129 => ?_)
        obtain ⟨v145, hv_v145, h⟩ := nm_ok h
        have hF130 := Fr.eqv (L := [(4, pp b10 0), (9, .slice o21 v14.length k23), (77, .slice o21 v14.length k23), (79, i6 v138), (89, .int .u8 (ior .u8 (iand .u8 v141 15) (IntKind.u8.wrap (ishl .i64 (IntKind.i64.wrap (3329 + ((IntKind.i64.wrap v4).tmod 767))) 4)))), (92, .int .u8 (IntKind.u8.wrap (ishr .i64 (IntKind.i64.wrap (3329 + ((IntKind.i64.wrap v4).tmod 767))) 4))), (93, pp (blkOf o21) (offOf o21 + v136.toNat))]) (Fr.pick [4, 9, 77, 79, 89, 92, 93] (by kernel_rfl) hF129) (M := [(4, pp b10 0), (9, .slice o21 v14.length k23), (77, .slice o21 v14.length k23), (79, i6 v138), (89, .int .u8 v145), (92, .int .u8 (IntKind.u8.wrap (ishr .i64 (IntKind.i64.wrap (3329 + ((IntKind.i64.wrap v4).tmod 767))) 4))), (93, pp (blkOf o21) (offOf o21 + v136.toNat))]) (by rw [hv_v145])
        obtain ⟨v147, hv_v147, h⟩ := nm_ok h
        have hF131 := Fr.eqv (L := [(4, pp b10 0), (9, .slice o21 v14.length k23), (77, .slice o21 v14.length k23), (79, i6 v138), (89, .int .u8 v145), (92, .int .u8 (IntKind.u8.wrap (ishr .i64 (IntKind.i64.wrap (3329 + ((IntKind.i64.wrap v4).tmod 767))) 4))), (93, pp (blkOf o21) (offOf o21 + v136.toNat))]) (Fr.pick [4, 9, 77, 79, 89, 92, 93] (by kernel_rfl) hF130) (M := [(4, pp b10 0), (9, .slice o21 v14.length k23), (77, .slice o21 v14.length k23), (79, i6 v138), (89, .int .u8 v145), (92, .int .u8 v147), (93, pp (blkOf o21) (offOf o21 + v136.toNat))]) (by rw [hv_v147])
        refine wpl_one hF131 (by kernel_rfl) (wp_storeS hF131 hS66 rfl 0 rfl (j := v136.toNat) (v := .int .u8 v145) (by kernel_rfl) rfl rfl (.ic (lt_len (inb_nat (hv_v136 ▸ hg122)) (len_is (v14) (n := v14.length) rfl))) (L' := [.sl o21 v14.length k23 1 (ic .u8 (v14.set v136.toNat v145)) 5, .sl o24 v15.length k26 1 (ic .u8 v15) 5, .blk b13 (ic .u8 v2) 22, .blk b10 (ic .u8 v1) 22]) rfl (fun w132 a133 hS133 hF133 => ?_))
        obtain ⟨hg134, h⟩ := gd_ok h
        refine wpl_val hF133 (by kernel_rfl) (v := pp (blkOf o21) (offOf o21 + v138.toNat)) (run_indexS rfl (ao := o21) (m := v14.length) (c := k23) hF133.e (rd_ne hS133 0 rfl rfl (j := v138.toNat) (v := .int .u8 (rd (v14.set v136.toNat v145) v138.toNat)) (ic_get (lt_len (inb_nat hg134) (len_is ((v14.set v136.toNat v145)) (n := v14.length) (List.length_set.trans (len_is (v14) (n := v14.length) rfl)))))) (k := .i64) (i := v138) hF133.e (E := 5) (by kernel_rfl) (s := 1) (by kernel_rfl) (inb_ok hg134) (r := offOf o21 + v138.toNat) (by simp only [Nat.mul_one])) (by kernel_rfl) (fun a135 hF135 => ?_)
        refine wpl_one hF135 (by kernel_rfl) (wp_storeS hF135 hS133 rfl 0 rfl (j := v138.toNat) (v := .int .u8 v147) (by kernel_rfl) rfl rfl (.ic (lt_len (inb_nat hg134) (len_is ((v14.set v136.toNat v145)) (n := v14.length) (List.length_set.trans (len_is (v14) (n := v14.length) rfl))))) (L' := [.sl o21 v14.length k23 1 (ic .u8 ((v14.set v136.toNat v145).set v138.toNat v147)) 5, .sl o24 v15.length k26 1 (ic .u8 v15) 5, .blk b13 (ic .u8 v2) 22, .blk b10 (ic .u8 v1) 22]) rfl (fun w136 a137 hS137 hF137 => ?_))
        obtain ⟨v155, hv_v155, h⟩ := nm_ok h
        have hl_v155 : v155.length = v14.length := (congrArg List.length hv_v155).trans (len_is (((v14.set v136.toNat v145).set v138.toNat v147)) (n := v14.length) (List.length_set.trans (len_is ((v14.set v136.toNat v145)) (n := v14.length) (List.length_set.trans (len_is (v14) (n := v14.length) rfl)))))
        have hS138 := St.eqv (M := [.sl o21 v14.length k23 1 (ic .u8 v155) 5, .sl o24 v15.length k26 1 (ic .u8 v15) 5, .blk b13 (ic .u8 v2) 22, .blk b10 (ic .u8 v1) 22]) hS137 (by rw [hv_v155])
        refine wpList_nil (then_n (wp_seq (wp_region_lit ?_)))
        refine wplp 1 [4, 9, 96] [(4, pp b10 0), (9, .slice o21 v14.length k23), (96, .slice o21 v14.length k23)] hF137 (fun a139 hF139 => ?_)
        refine wpl_val hF139 (by kernel_rfl) (v := .agg (ic .u8 v1).toArray) (run_loadR rfl (b := b10) (off := 0) hF139.e (by kernel_rfl) (k := 32) (by kernel_rfl) (((ic_len _ _).trans hl_v1) : (ic .u8 v1).length = 32) (hS138.all 3 rfl)) (by kernel_rfl) (fun a140 hF140 => ?_)
        obtain ⟨⟨v159, v160, v161⟩, hb141, h⟩ := bind_ok h
        refine wpl_one hF140 (by kernel_rfl) (wp_callR hF140 (by kernel_rfl) (g := 10) (args := #[.slice o21 v14.length k23, .agg (ic .u8 v1).toArray]) (by kernel_rfl) (i_kem_Encaps_ok v155 v1 hl_v1 hl_v155 (hS138.rdsl 0 rfl) v159 v160 v161 hb141) (fun vr w142 hp => ?_))
        obtain ⟨o143, n144, k145, hn_n144, rfl, hS146, hl_v159⟩ := hp
        subst hn_n144
        replace hS146 := St.call hS138 hS146 rfl
        refine go_fr (hF140.next (.tuple #[.agg (ic .u8 v159).toArray, .slice o143 v160.length k145, i6 v161]) [9, 98] (M := [(9, .slice o21 v14.length k23), (98, .tuple #[.agg (ic .u8 v159).toArray, .slice o143 v160.length k145, i6 v161])]) (by kernel_rfl)) (fun a146 hF146 => ?_)
        refine wplp 4 [9, 99, 100, 101] [(9, .slice o21 v14.length k23), (99, .agg (ic .u8 v159).toArray), (100, .slice o143 v160.length k145), (101, i6 v161)] hF146 (fun a147 hF147 => ?_)
        refine wpl_one hF147 (by kernel_rfl) (wp_alloc hF147 hS146 rfl (z := .agg (ic .u8 (rz 32)).toArray) (by kernel_rfl) (ic .u8 (rz 32)) rfl (by kernel_rfl) (fun b148 w149 a150 hS150 hF150 => ?_))
        refine wpl_one hF150 (by kernel_rfl) (wp_store hF150 hS150 rfl 0 rfl (off := 0) (by kernel_rfl) (v := .agg (ic .u8 v159).toArray) (by kernel_rfl) (vs := ic .u8 v159) rfl (k := 32) (by kernel_rfl) (((ic_len _ _).trans hl_v159) : (ic .u8 v159).length = 32) (by have h2 := (((ic_len _ _).trans (len_is (rz 32) (n := 32) (List.length_replicate))) : (ic .u8 (rz 32)).length = 32); omega) (ic_one _ _) (cs' := ic .u8 v159) ((upd_ic _ _ _ _).trans (congrArg (ic .u8) (upd_all ((hl_v159).trans ((len_is (rz 32) (n := 32) (List.length_replicate))).symm)))) (by kernel_rfl) (L' := [.blk b148 (ic .u8 v159) 22, .sl o143 v160.length k145 1 (ic .u8 v160) 5, .sl o21 v14.length k23 1 (ic .u8 v155) 5, .sl o24 v15.length k26 1 (ic .u8 v15) 5, .blk b13 (ic .u8 v2) 22, .blk b10 (ic .u8 v1) 22]) rfl (fun w151 a152 hS152 hF152 => ?_))
        refine wplp 2 [9, 15, 16] [(9, .slice o21 v14.length k23), (15, .slice o143 v160.length k145), (16, i6 v161)] hF152 (fun a153 hF153 => (wpList_nil (then_n (wp_seq (wp_region_lit ?_)))))
        refine wplp 1 [15, 16, 102] [(15, .slice o143 v160.length k145), (16, i6 v161), (102, .slice o21 v14.length k23)] hF153 (fun a154 hF154 => ?_)
        obtain ⟨v176, hb155, h⟩ := bind_ok h
        refine wpl_one hF154 (by kernel_rfl) (wp_callR hF154 (by kernel_rfl) (g := 8) (args := #[.slice o21 v14.length k23]) (by kernel_rfl) (i_kem_CheckEk_ok v155 hl_v155 (hS152.rdsl 2 rfl) v176 hb155) (fun vr w156 hp => ?_))
        obtain ⟨rfl, hS157⟩ := hp
        replace hS157 := St.call hS152 hS157 rfl
        refine go_fr (hF154.next (i6 v176) [15, 16, 103] (M := [(15, .slice o143 v160.length k145), (16, i6 v161), (103, i6 v176)]) (by kernel_rfl)) (fun a157 hF157 => ?_)
        refine wplp 2 [15, 16, 105] [(15, .slice o143 v160.length k145), (16, i6 v161), (105, .bool (v176 == 140))] hF157 (fun a158 hF158 => ?_)
        rcases Bool.eq_false_or_eq_true (v176 == 140) with ht159 | ht159
        ·
         have hF160 := Fr.eqv (L := [(15, .slice o143 v160.length k145), (16, i6 v161), (105, .bool (v176 == 140))]) (Fr.pick [15, 16, 105] (by kernel_rfl) hF158) (M := [(15, .slice o143 v160.length k145), (16, i6 v161), (105, .bool true)]) (by rw [ht159])
         have h := if_t ht159 h
         refine wplp 4 [15, 109] [(15, .slice o143 v160.length k145), (109, .bool (v161 == 140))] hF160 (fun a161 hF161 => ?_)
         rcases Bool.eq_false_or_eq_true (v161 == 140) with ht162 | ht162
         ·
          have hF163 := Fr.eqv (L := [(15, .slice o143 v160.length k145), (109, .bool (v161 == 140))]) (Fr.pick [15, 109] (by kernel_rfl) hF161) (M := [(15, .slice o143 v160.length k145), (109, .bool true)]) (by rw [ht162])
          have h := if_t ht162 h
          refine wplp 5 [8] [(8, .bool ((v160.length : Int) == 0))] hF163 (fun a164 hF164 => (wpList_nil (then_n (wp_ret (ret_ok hF164 [.bool ((v160.length : Int) == 0)] (⟨by kernel_rfl, trivial⟩) ?_)))))
          have hr0 := Option.some.inj h
          subst hr0
          exact ⟨rfl, hS157.sub (List.nil_sublist _)⟩
         ·
          have hF165 := Fr.eqv (L := [(15, .slice o143 v160.length k145), (109, .bool (v161 == 140))]) (Fr.pick [15, 109] (by kernel_rfl) hF161) (M := [(15, .slice o143 v160.length k145), (109, .bool false)]) (by rw [ht162])
          have h := if_f ht162 h
          refine wplp 5 [8] [(8, .bool false)] hF165 (fun a166 hF166 => (wpList_nil (then_n (wp_ret (ret_ok hF166 [.bool false] (⟨by kernel_rfl, trivial⟩) ?_)))))
          have hr0 := Option.some.inj h
          subst hr0
          exact ⟨rfl, hS157.sub (List.nil_sublist _)⟩
        ·
         have hF167 := Fr.eqv (L := [(15, .slice o143 v160.length k145), (16, i6 v161), (105, .bool (v176 == 140))]) (Fr.pick [15, 16, 105] (by kernel_rfl) hF158) (M := [(15, .slice o143 v160.length k145), (16, i6 v161), (105, .bool false)]) (by rw [ht159])
         have h := if_f ht159 h
         refine wplp 9 [8] [(8, .bool false)] hF167 (fun a168 hF168 => (wpList_nil (then_n (wp_ret (ret_ok hF168 [.bool false] (⟨by kernel_rfl, trivial⟩) ?_)))))
         have hr0 := Option.some.inj h
         subst hr0
         exact ⟨rfl, hS157.sub (List.nil_sublist _)⟩
end Go.Proofs.YtapilbdboeggdaaR.Gx
namespace Go.Proofs.YtapilbdboeggdaaR.Gx
open Go
theorem ixor_self (x : Int) : ixor .u8 x x = 0 := by
  simp only [ixor, BitVec.xor_self]
  rfl
theorem same_l1 (s : List Int) (n : Nat) (hs : s.length = n) (hn : n < 1000000) : ∀ (k i : Nat), i ≤ n → n - i < k → i_octet_Same_l1 s s k (i : Int) 0 = some 0 := by
  intro k
  induction k with
  | zero => intro i _ h; exact absurd h (Nat.not_lt_zero _)
  | succ k ih =>
    intro i hi hm
    rw [i_octet_Same_l1]
    by_cases hlt : i < n
    · rw [if_pos (by simp [hs, hlt]), if_pos (by rw [hs]; exact inb_n hlt), if_pos (by rw [hs]; exact inb_n hlt), ixor_self, wi64 (by omega) (by omega), show (i : Int) + 1 = ((i + 1 : Nat) : Int) from rfl]
      rw [show ior .u8 0 0 = 0 from by kernel_rfl]
      exact ih (i + 1) (by omega) (by omega)
    · rw [if_neg (by simp [hs]; omega)]
theorem same_refl (s : List Int) (hs : s.length = 32) : i_octet_Same s s = some true := by
  unfold i_octet_Same
  have h := same_l1 s 32 hs (by decide) LIM 0 (by omega) (by simp only [LIM]; omega)
  rw [show ((0 : Nat) : Int) = 0 from rfl] at h
  rw [if_neg (by simp), h]
  rfl
theorem join4_eq {a b c d x : List Int} (h : i_octet_Join_4 a b c d = some x) : x = a ++ b ++ c ++ d := by
  unfold i_octet_Join_4 nm_ at h
  have h := (gd_ok h).2
  have h := (gd_ok h).2
  have h := (gd_ok h).2
  have h := (gd_ok h).2
  have h := (gd_ok h).2
  exact (Option.some.inj h).symm
theorem checkDk_ok {p ek s z : List Int} (hp : p.length = 1152) (he : ek.length = 1184) (hs : s.length = 32) (hz : z.length = 32) (h : i_keccak_Sha3256_1 ek = some s) : i_kem_CheckDk (p ++ ek ++ s ++ z) = some 0 := by
  have hlen : (p ++ ek ++ s ++ z).length = 2400 := by simp [hp, he, hs, hz]
  have e1 : sub (p ++ ek ++ s ++ z) 1152 2336 = ek := by rw [List.append_assoc (p ++ ek) s z]; exact sub_mid hp (by rw [he])
  have e2 : sub (p ++ ek ++ s ++ z) 2336 2368 = s := sub_mid (by rw [List.length_append, hp, he]) (by rw [hs])
  unfold i_kem_CheckDk
  rw [if_neg (by simp only [hlen]; decide), if_pos (by simp only [hlen]; decide), e1, h]
  simp only [Option.bind_some]
  rw [if_pos (by simp only [hlen]; decide), e2, same_refl s hs]
  rfl
theorem keygen_spec (v1 v2 : List Int) (h1 : v1.length = 32) (h2 : v2.length = 32) : OK (i_kem_KeyGen v1 v2) (fun r => (r.2.2 = 0 → GoodEk r.1 ∧ r.2.1.length = 2400 ∧ i_kem_CheckDk r.2.1 = some 0) ∧ (r.2.2 ≠ 0 → ∃ x, i_keccak_Sha3512_2 v1 [3] = some x ∧ ∃ y, ∃ rho, i_kem_split x = some (rho, y) ∧ ∃ i j, (i = 0 ∨ i = 1 ∨ i = 2) ∧ (j = 0 ∨ j = 1 ∨ j = 2) ∧ i_kem_entry rho i j = some (.error r.2.2))) := by
  obtain ⟨⟨ek, p, e⟩, he, hok, herr⟩ := pke_spec v1 h1
  simp only at hok herr
  unfold i_kem_KeyGen
  rw [he]
  simp only [Option.bind_some]
  by_cases hz : e = 0
  · subst hz
    obtain ⟨hg, hp⟩ := hok rfl
    have hl := goodEk_len hg
    obtain ⟨s, hs, hsl⟩ := i_keccak_Sha3256_1_tot ek hl
    obtain ⟨j, hj, hjl⟩ := i_octet_Join_4_tot p ek s v2 hp hl hsl h2
    rw [if_neg (by decide), hs]
    simp only [Option.bind_some]
    rw [hj]
    simp only [Option.bind_some]
    refine OK.some ⟨fun _ => ⟨hg, ?_, ?_⟩, fun h => absurd rfl h⟩
    · exact hjl
    · have := join4_eq hj
      subst this
      exact checkDk_ok hp hl hsl h2 hs
  · rw [if_pos (by simpa using hz)]
    exact OK.some ⟨fun h => absurd h hz, herr⟩
theorem entry_zero {i j : Int} (hi : i = 0 ∨ i = 1 ∨ i = 2) (hj : j = 0 ∨ j = 1 ∨ j = 2) (hs : (i_ring_SampleNtt (rho0 ++ [j, i])).map (·.2) = some 0) {e : Int} (h : i_kem_entry rho0 i j = some (.error e)) : False := by
  unfold i_kem_entry nm_ at h
  have wi : IntKind.u8.wrap i = i := wu8 (by omega) (by omega)
  have wj : IntKind.u8.wrap j = j := wu8 (by omega) (by omega)
  rw [wi, wj] at h
  dsimp only at h
  cases h1 : i_octet_Join_2 rho0 [j, i] with
  | none => rw [h1] at h; cases h
  | some x =>
    rw [h1] at h
    have := join2_eq h1
    subst this
    simp only [Option.bind_some] at h
    cases h2 : i_ring_SampleNtt (rho0 ++ [j, i]) with
    | none => rw [h2] at h; cases h
    | some y =>
      obtain ⟨p, q⟩ := y
      rw [h2] at h hs
      simp only [Option.map_some, Option.some.injEq] at hs
      subst hs
      simp only [Option.bind_some] at h
      rw [if_neg (by decide)] at h
      injection h with h; cases h
theorem dk0_1 : sub (List.replicate 2400 (0 : Int)) 1152 2336 = Z0 := by
  unfold Z0 sub
  rw [List.drop_replicate, List.take_replicate]
  rfl
theorem dk0_2 : sub (List.replicate 2400 (0 : Int)) 2336 2368 = List.replicate 32 (0 : Int) := by
  unfold sub
  rw [List.drop_replicate, List.take_replicate]
  rfl
theorem dk0 : i_kem_CheckDk (List.replicate 2400 (0 : Int)) = some 141 := by
  have hs : i_octet_Same sumZ (List.replicate 32 (0 : Int)) = some false := by kernel_rfl
  unfold i_kem_CheckDk
  rw [dk0_1, dk0_2, sum0, List.length_replicate]
  simp only [Option.bind_some]
  rw [hs]
  rfl
theorem live_true : i_liverylaw14_live = some true := by
  obtain ⟨⟨ek, dk, e⟩, hk, hok, herr⟩ := keygen_spec (List.replicate 32 (0 : Int)) (List.replicate 32 (0 : Int)) List.length_replicate List.length_replicate
  simp only at hok herr
  have he : e = 0 := by
    by_cases hz : e = 0
    · exact hz
    · exfalso
      obtain ⟨x, hx, y, rho, hs, i, j, hi, hj, hent⟩ := herr hz
      have h := h0
      rw [hx] at h
      simp only [Option.map_some, Option.some.injEq] at h
      unfold i_kem_split at hs
      injection hs with hs
      injection hs with hr _
      rw [h] at hr
      subst hr
      rcases hi with rfl | rfl | rfl <;> rcases hj with rfl | rfl | rfl
      · exact entry_zero (by decide) (by decide) s00 hent
      · exact entry_zero (by decide) (by decide) s01 hent
      · exact entry_zero (by decide) (by decide) s02 hent
      · exact entry_zero (by decide) (by decide) s10 hent
      · exact entry_zero (by decide) (by decide) s11 hent
      · exact entry_zero (by decide) (by decide) s12 hent
      · exact entry_zero (by decide) (by decide) s20 hent
      · exact entry_zero (by decide) (by decide) s21 hent
      · exact entry_zero (by decide) (by decide) s22 hent
  subst he
  obtain ⟨hg, hdl, _⟩ := hok rfl
  have hel := goodEk_len hg
  have hdk := dk0
  have hdec : i_kem_Decaps (List.replicate 2400 (0 : Int)) (List.replicate 1088 (0 : Int)) = some (List.replicate 32 (0 : Int), 141) := by
    unfold i_kem_Decaps
    rw [hdk]
    rfl
  unfold i_liverylaw14_live
  rw [hdec, hk]
  simp only [Option.bind_some]
  rw [if_pos (by decide), if_pos (by simp [hel]), if_pos (by simp [hdl]), if_pos (by decide), goodEk_check hg]
  rfl
structure BEk (e : List Int) : Prop where
  len : e.length = 1184
  lo : ∀ j, j < 1152 → 0 ≤ rd e j ∧ rd e j < 256
theorem rd_app_l {a b : List Int} {j : Nat} (h : j < a.length) : rd (a ++ b) j = rd a j := by
  simp [rd, List.getD_eq_getElem?_getD, List.getElem?_append_left h]
theorem goodEk_b {ek : List Int} (h : GoodEk ek) : BEk ek := by
  refine ⟨goodEk_len h, fun j hj => ?_⟩
  obtain ⟨x, rho, rfl, hx, hr⟩ := h
  have hl := hx.len
  rw [rd_app_l (by omega)]
  obtain ⟨a, b, c, r⟩ := hx
  have : Lo 256 x := by rw [r.eq]; exact (r.oa.app r.ob).app r.oc
  exact this.rd (by decide) j
theorem BEk.set {e : List Int} (h : BEk e) (i : Nat) {y : Int} (h0 : 0 ≤ y) (h1 : y < 256) : BEk (e.set i y) := by
  refine ⟨by rw [List.length_set]; exact h.len, fun j hj => ?_⟩
  by_cases he : i = j
  · subst he; rw [rd_set_eq (by rw [h.len]; omega)]; exact ⟨h0, h1⟩
  · rw [rd_set_ne he]; exact h.lo j hj
theorem rd_sub {xs : List Int} {l h j : Nat} (hj : j < h - l) : rd (sub xs l h) j = rd xs (l + j) := by
  simp [rd, sub, List.getD_eq_getElem?_getD, List.getElem?_take, hj, List.getElem?_drop]
theorem BEk.row {e : List Int} (h : BEk e) {q : Nat} (hq : q < 3) : (sub e (384 * q) (384 * q + 384)).length = 384 ∧ Lo 256 (sub e (384 * q) (384 * q + 384)) := by
  have hl : (sub e (384 * q) (384 * q + 384)).length = 384 := by rw [sub_len (by omega) (by rw [h.len]; omega)]; omega
  refine ⟨hl, lo_of_rd hl fun j hj => ?_⟩
  rw [rd_sub (by omega)]
  exact h.lo _ (by omega)
theorem canon_tot {b : List Int} (hbl : b.length = 384) (hb : Lo 256 b) : ∃ t, i_ring_Canon b = some t := by
  obtain ⟨r, _, _, _, h1, h2⟩ := canon_ok hbl hb
  by_cases h : Lo 3329 r
  · exact ⟨_, h1 h⟩
  · exact ⟨_, h2 h⟩
theorem check_bad {e : List Int} (h : BEk e) {q : Nat} (hq : q < 3) (hb : i_ring_Canon (sub e (384 * q) (384 * q + 384)) = some false) : i_kem_CheckEk e = some 140 := by
  have c0 := canon_tot (h.row (q := 0) (by decide)).1 (h.row (q := 0) (by decide)).2
  have c1 := canon_tot (h.row (q := 1) (by decide)).1 (h.row (q := 1) (by decide)).2
  have c2 := canon_tot (h.row (q := 2) (by decide)).1 (h.row (q := 2) (by decide)).2
  obtain ⟨t0, c0⟩ := c0
  obtain ⟨t1, c1⟩ := c1
  obtain ⟨t2, c2⟩ := c2
  have hl := h.len
  unfold i_kem_CheckEk
  have hq3 : q = 0 ∨ q = 1 ∨ q = 2 := by omega
  simp only [Nat.mul_zero, Nat.zero_add, Nat.reduceMul, Nat.reduceAdd, Nat.mul_one] at c0 c1 c2
  rw [if_neg (by simp only [hl]; decide), if_pos (by simp only [hl]; decide), c0]
  simp only [Option.bind_some]
  cases t0 with
  | false => rfl
  | true =>
    simp only [Bool.not_true, Bool.false_eq_true, if_false]
    rw [if_pos (by simp only [hl]; decide), c1]
    simp only [Option.bind_some]
    cases t1 with
    | false => rfl
    | true =>
      simp only [Bool.not_true, Bool.false_eq_true, if_false]
      rw [if_pos (by simp only [hl]; decide), c2]
      simp only [Option.bind_some]
      cases t2 with
      | false => rfl
      | true =>
        exfalso
        rcases hq3 with rfl | rfl | rfl
        · simp only [Nat.mul_zero, Nat.zero_add] at hb; rw [hb] at c0; cases c0
        · simp only [Nat.mul_one, Nat.reduceAdd] at hb; rw [hb] at c1; cases c1
        · simp only [Nat.reduceMul, Nat.reduceAdd] at hb; rw [hb] at c2; cases c2
theorem gb_sub {e : List Int} {q t : Nat} (ht : t < 3072) : gb (sub e (384 * q) (384 * q + 384)) t = gb e (3072 * q + t) := by
  unfold gb
  rw [rd_sub (by omega), show (3072 * q + t) / 8 = 384 * q + t / 8 from by omega, show (3072 * q + t) % 8 = t % 8 from by omega]
theorem bad_number {e : List Int} (h : BEk e) {i n : Nat} (hi : i < 768) (hn : 3329 ≤ n) (hn2 : n < 4096) (hb : ∀ j, j < 12 → gb e (12 * i + j) = n.testBit j) : i_kem_CheckEk e = some 140 := by
  have hq : i / 256 < 3 := by omega
  refine check_bad h hq (canon_bad (h.row hq).1 (h.row hq).2 (i := i % 256) (n := n) (by omega) hn hn2 fun j hj => ?_)
  rw [gb_sub (by omega), show 3072 * (i / 256) + (12 * (i % 256) + j) = 12 * i + j from by omega]
  exact hb j hj
theorem encaps_bad {e m : List Int} (h : i_kem_CheckEk e = some 140) : i_kem_Encaps e m = some (List.replicate 32 (0 : Int), [], 140) := by
  unfold i_kem_Encaps
  rw [h]
  rfl
theorem shr_n {n s : Nat} (hs : s ≤ 64) : ishr .i64 (n : Int) (s : Int) = ((n >>> s : Nat) : Int) := ishr_nat hs
theorem shl_n {n : Nat} (h : n < 4096) : ishl .i64 (n : Int) 4 = ((n <<< 4 : Nat) : Int) := by
  have := ishl_nat (k := .i64) (X := n) (s := 4) (by decide)
  rw [show ((4 : Nat) : Int) = 4 from rfl] at this
  rw [this, wi64 (by omega) (by rw [Nat.shiftLeft_eq]; omega)]
theorem u8_mod {n : Nat} : IntKind.u8.wrap (n : Int) = ((n % 256 : Nat) : Int) := by
  simp only [IntKind.wrap, IntKind.bits, IntKind.signed, Bool.false_and, Bool.false_eq_true, if_false]; omega
theorem even_bits {e : List Int} (he : e.length = 1184) {k n o : Nat} (hk : k + 1 < 1152) (hn : n < 4096) (ho : o < 256) {j : Nat} (hj : j < 12) :
    gb ((e.set k ((n % 256 : Nat) : Int)).set (k + 1) (((o &&& 240) ||| (n >>> 8 % 256) : Nat) : Int)) (8 * k + j) = n.testBit j := by
  unfold gb
  by_cases h8 : j < 8
  · rw [show (8 * k + j) / 8 = k from by omega, show (8 * k + j) % 8 = j from by omega, rd_set_ne (by omega), rd_set_eq (by omega), Int.toNat_natCast, show (256 : Nat) = 2 ^ 8 from rfl, Nat.testBit_mod_two_pow]
    simp [h8]
  · rw [show (8 * k + j) / 8 = k + 1 from by omega, show (8 * k + j) % 8 = j - 8 from by omega, rd_set_eq (by rw [List.length_set]; omega), Int.toNat_natCast, Nat.testBit_or, Nat.testBit_and, show (256 : Nat) = 2 ^ 8 from rfl, Nat.testBit_mod_two_pow, Nat.testBit_shiftRight, show 8 + (j - 8) = j from by omega]
    have h240 : Nat.testBit 240 (j - 8) = false := by
      have : j - 8 = 0 ∨ j - 8 = 1 ∨ j - 8 = 2 ∨ j - 8 = 3 := by omega
      rcases this with h | h | h | h <;> rw [h] <;> decide
    rw [h240]
    simp; omega
theorem odd_bits {e : List Int} (he : e.length = 1184) {k n o : Nat} (hk : k + 2 < 1152) (hn : n < 4096) (ho : o < 256) {j : Nat} (hj : j < 12) :
    gb ((e.set (k + 1) (((o &&& 15) ||| (n <<< 4 % 256) : Nat) : Int)).set (k + 2) ((n >>> 4 % 256 : Nat) : Int)) (8 * k + 12 + j) = n.testBit j := by
  unfold gb
  by_cases h4 : j < 4
  · rw [show (8 * k + 12 + j) / 8 = k + 1 from by omega, show (8 * k + 12 + j) % 8 = 4 + j from by omega, rd_set_ne (by omega), rd_set_eq (by omega), Int.toNat_natCast, Nat.testBit_or, Nat.testBit_and, show (256 : Nat) = 2 ^ 8 from rfl, Nat.testBit_mod_two_pow, Nat.testBit_shiftLeft]
    have h15 : Nat.testBit 15 (4 + j) = false := by
      have : j = 0 ∨ j = 1 ∨ j = 2 ∨ j = 3 := by omega
      rcases this with h | h | h | h <;> rw [h] <;> decide
    rw [h15]
    simp [show 4 + j < 8 from by omega]
  · rw [show (8 * k + 12 + j) / 8 = k + 2 from by omega, show (8 * k + 12 + j) % 8 = j - 4 from by omega, rd_set_eq (by rw [List.length_set]; omega), Int.toNat_natCast, show (256 : Nat) = 2 ^ 8 from rfl, Nat.testBit_mod_two_pow, Nat.testBit_shiftRight, show 4 + (j - 4) = j from by omega]
    simp [show j - 4 < 8 from by omega]
theorem law_true (v1 v2 : List Int) (h1 : v1.length = 32) (h2 : v2.length = 32) (A M : Nat) (hA : A < 65536) (hM : M < 65536) : i_liverylaw14_KemChecks v1 v2 (A : Int) (M : Int) = some true := by
  obtain ⟨⟨ek, dk, e⟩, hk, hok, _⟩ := keygen_spec v1 v2 h1 h2
  simp only at hok
  unfold i_liverylaw14_KemChecks nm_
  rw [live_true, hk]
  simp only [Option.bind_some, Bool.not_true, Bool.false_eq_true, if_false]
  by_cases hz : e = 0
  · subst hz
    obtain ⟨hg, hdl, hdk⟩ := hok rfl
    have hb := goodEk_b hg
    have hl := hb.len
    rw [if_neg (by decide), if_neg (by simp [hl]), goodEk_check hg]
    simp only [Option.bind_some]
    rw [if_neg (by decide), hdk]
    simp only [Option.bind_some]
    rw [if_neg (by decide)]
    have wA : IntKind.i64.wrap (A : Int) = (A : Int) := wi64 (by omega) (by omega)
    have wM : IntKind.i64.wrap (M : Int) = (M : Int) := wi64 (by omega) (by omega)
    have tA : ((A : Int)).tmod 384 = ((A % 384 : Nat) : Int) := by rw [tm (by omega)]; omega
    have tA2 : ((A : Int)).tmod 2 = ((A % 2 : Nat) : Int) := by rw [tm (by omega)]; omega
    have tM : ((M : Int)).tmod 767 = ((M % 767 : Nat) : Int) := by rw [tm (by omega)]; omega
    rw [wA, wM, tA, tA2, tM]
    obtain ⟨K, hK⟩ : ∃ K, K = 3 * (A % 384) := ⟨_, rfl⟩
    obtain ⟨N, hN⟩ : ∃ N, N = 3329 + M % 767 := ⟨_, rfl⟩
    have e0 : IntKind.i64.wrap (3 * ((A % 384 : Nat) : Int)) = (K : Int) := by rw [wi64 (by omega) (by omega)]; omega
    have e1 : IntKind.i64.wrap ((K : Int) + 1) = ((K + 1 : Nat) : Int) := by rw [wi64 (by omega) (by omega)]; omega
    have e2 : IntKind.i64.wrap ((K : Int) + 2) = ((K + 2 : Nat) : Int) := by rw [wi64 (by omega) (by omega)]; omega
    have e3 : IntKind.i64.wrap (3329 + ((M % 767 : Nat) : Int)) = (N : Int) := by rw [wi64 (by omega) (by omega)]; omega
    rw [e0, e1, e2, e3]
    have hKl : K + 2 < 1152 := by omega
    have hN1 : 3329 ≤ N := by omega
    have hN2 : N < 4096 := by omega
    have b0 : inb (K : Int) ek.length = true := by rw [hl]; exact inb_n (by omega)
    have b1 : inb ((K + 1 : Nat) : Int) ek.length = true := by rw [hl]; exact inb_n (by omega)
    have b2 : inb ((K + 2 : Nat) : Int) ek.length = true := by rw [hl]; exact inb_n (by omega)
    obtain ⟨o, ho⟩ : ∃ o : Nat, rd ek (K + 1) = (o : Int) := ⟨(rd ek (K + 1)).toNat, by have := (hb.lo (K + 1) (by omega)).1; omega⟩
    have ho2 : o < 256 := by have := (hb.lo (K + 1) (by omega)).2; omega
    have s8 : ishr .i64 (N : Int) 8 = ((N >>> 8 : Nat) : Int) := shr_n (s := 8) (by decide)
    have s4 : ishr .i64 (N : Int) 4 = ((N >>> 4 : Nat) : Int) := shr_n (s := 4) (by decide)
    rw [s8, s4, shl_n hN2]
    simp only [Int.toNat_natCast, u8_mod, b0, b1, b2, if_true, ho]
    have f1 : iand .u8 (o : Int) 240 = ((o &&& 240 : Nat) : Int) := iand_u8 (Y := 240) ho2 (by decide)
    have f2 : iand .u8 (o : Int) 15 = ((o &&& 15 : Nat) : Int) := iand_u8 (Y := 15) ho2 (by decide)
    have g1 : o &&& 240 < 256 := Nat.lt_of_le_of_lt Nat.and_le_right (by decide)
    have g2 : o &&& 15 < 256 := Nat.lt_of_le_of_lt Nat.and_le_right (by decide)
    have lt8 : ∀ x : Nat, x % 256 < 256 := fun x => Nat.mod_lt _ (by decide)
    rw [f1, f2, ior_u8 g1 (lt8 _), ior_u8 g2 (lt8 _)]
    have or_lt : ∀ x y : Nat, x < 256 → y < 256 → x ||| y < 256 := fun x y hx hy => Nat.or_lt_two_pow (n := 8) hx hy
    by_cases hpar : A % 2 = 0
    · rw [if_pos (by simp [hpar])]
      have hc : i_kem_CheckEk ((ek.set K ((N % 256 : Nat) : Int)).set (K + 1) (((o &&& 240) ||| (N >>> 8 % 256) : Nat) : Int)) = some 140 :=
        bad_number ((hb.set K (by omega) (by have := lt8 N; omega)).set (K + 1) (by omega) (by have := or_lt _ _ g1 (lt8 (N >>> 8)); omega)) (i := 2 * (A % 384)) (n := N) (by omega) hN1 hN2 (fun j hj => by
          have := even_bits hl (k := K) (n := N) (o := o) (by omega) hN2 ho2 hj
          rwa [show 8 * K + j = 12 * (2 * (A % 384)) + j from by omega] at this)
      rw [encaps_bad hc]
      simp only [Option.bind_some]
      rw [hc]
      rfl
    · rw [if_neg (by simp; omega)]
      have hc : i_kem_CheckEk ((ek.set (K + 1) (((o &&& 15) ||| (N <<< 4 % 256) : Nat) : Int)).set (K + 2) ((N >>> 4 % 256 : Nat) : Int)) = some 140 :=
        bad_number ((hb.set (K + 1) (by omega) (by have := or_lt _ _ g2 (lt8 (N <<< 4)); omega)).set (K + 2) (by omega) (by have := lt8 (N >>> 4); omega)) (i := 2 * (A % 384) + 1) (n := N) (by omega) hN1 hN2 (fun j hj => by
          have := odd_bits hl (k := K) (n := N) (o := o) (by omega) hN2 ho2 hj
          rwa [show 8 * K + 12 + j = 12 * (2 * (A % 384) + 1) + j from by omega] at this)
      rw [encaps_bad hc]
      simp only [Option.bind_some]
      rw [hc]
      rfl
  · rw [if_pos (by simpa using hz)]
end Go.Proofs.YtapilbdboeggdaaR.Gx
namespace Go.Proofs.YtapilbdboeggdaaR
open Go.ChangeShapes Go.WideShapes Go.ChangeAt Go.RowKit
section arr
variable {H : Type} {enc : TypeId × Value → H} {P : Program}
theorem mapM_of {α β : Type} {f : α → Option β} {g : α → β} : ∀ (l : List α), (∀ x ∈ l, f x = some (g x)) → l.mapM f = some (l.map g)
  | [], _ => by simp
  | x :: l, h => by
    rw [List.mapM_cons, h x (.head _), mapM_of l (fun y hy => h y (.tail _ hy))]
    rfl
theorem open_arr {w W : World} {base b0 : Nat} {spare : Nat → Bool} {held : Bool} {t e : TypeId} {n : Nat} {k : IntKind} {v : Value} {d : DataW H} {ps : List MemPlace} (ht : P.underlying t = some (.array n e)) (he : P.underlying e = some (.int k)) (hce : P.cellsOf e = 1) (hct : P.cellsOf t = n)
    (hval : Value.okWide P W .any b0 t v) (hd : DataW.Trod enc P w base spare held t v d ps) :
    ∃ xs : List Int, v = .agg (Go.Proofs.YtapilbdboeggdaaR.Gx.ic k xs).toArray ∧ xs.length = n ∧ (∀ x ∈ xs, (Lit.int k x).wf = true) ∧ d = .agg (xs.map fun x => .lit (.int k x)) ∧ ps = [] := by
  obtain ⟨cs, rfl⟩ : ∃ cs, v = .agg cs := by
    simp only [Value.okWide, ht] at hval
    obtain ⟨cs, h, _⟩ := hval
    exact ⟨cs, h⟩
  obtain ⟨fuel, hf⟩ := hd
  simp only [Value.cells] at hf
  obtain ⟨ys, m, rfl, hx, hcl, hyl, hi⟩ := DataW.trod_array ht hf
  rw [hct] at hcl
  have hone : ∀ i, i < n → ∃ z, cs.toList[i]? = some (Value.int k z) ∧ ys[i]? = some (DataW.lit (Lit.int k z), []) ∧ (Lit.int k z).wf = true := by
    intro i hin
    have h1 := hi i hin
    rw [hce, Nat.mul_one] at h1
    have hl : i < cs.toList.length := by rw [hcl]; exact hin
    have h2 : (cs.toList.drop i).take 1 = [cs.toList[i]] := by
      rw [List.drop_eq_getElem_cons hl, List.take_succ_cons, List.take_zero]
    rw [h2] at h1
    have h3 : ys[i]? = some (ys[i]'(by rw [hyl]; exact hin)) := List.getElem?_eq_getElem _
    rw [h3] at h1
    obtain ⟨z, q1, q2, q3⟩ := DataW.trod_int he h1
    injection q1 with q1 _
    refine ⟨z, ?_, ?_, q3⟩
    · rw [List.getElem?_eq_getElem hl, q1]
    · rw [h3, q2]
  refine ⟨cs.toList.map fun c => match c with | .int _ z => z | _ => 0, ?_, by rw [List.length_map, hcl], ?_, ?_, ?_⟩
  · congr 1
    apply Array.ext'
    rw [List.toList_toArray]
    apply List.ext_getElem?
    intro i
    rcases Nat.lt_or_ge i n with h | h
    · obtain ⟨z, q1, _, _⟩ := hone i h
      simp only [Go.Proofs.YtapilbdboeggdaaR.Gx.ic, List.getElem?_map, q1, Option.map_some]
    · rw [List.getElem?_eq_none (by rw [hcl]; exact h), List.getElem?_eq_none (by simp only [Go.Proofs.YtapilbdboeggdaaR.Gx.ic, List.length_map]; rw [hcl]; exact h)]
  · intro x hx
    obtain ⟨i, hil, rfl⟩ := List.getElem_of_mem hx
    have hin : i < n := by rw [List.length_map, hcl] at hil; exact hil
    obtain ⟨z, q1, _, q3⟩ := hone i hin
    have h4 := (List.getElem?_eq_some_iff.1 q1).2
    rw [List.getElem_map, h4]
    exact q3
  · have e1 : d = DataW.agg (ys.map (·.1)) := congrArg Prod.fst hx
    rw [e1]
    congr 1
    apply List.ext_getElem?
    intro i
    rcases Nat.lt_or_ge i n with h | h
    · obtain ⟨z, q1, q2, _⟩ := hone i h
      simp only [List.getElem?_map, q1, q2, Option.map_some]
    · rw [List.getElem?_eq_none (by rw [List.length_map, hyl]; exact h), List.getElem?_eq_none (by simp only [List.length_map]; rw [hcl]; exact h)]
  · have e1 : ps = ys.flatMap (·.2) := congrArg Prod.snd hx
    rw [e1, List.flatMap_eq_nil_iff]
    intro y hy
    obtain ⟨i, hil, rfl⟩ := List.getElem_of_mem hy
    obtain ⟨z, _, q2, _⟩ := hone i (by rw [hyl] at hil; exact hil)
    rw [(List.getElem?_eq_some_iff.1 q2).2]
theorem shut_arr {w : World} {base : Nat} {spare : Nat → Bool} {held : Bool} {t e : TypeId} {n : Nat} {k : IntKind} (ht : P.underlying t = some (.array n e)) (he : P.underlying e = some (.int k)) (hce : P.cellsOf e = 1) (hct : P.cellsOf t = n)
    {xs : List Int} (hl : xs.length = n) (hw : ∀ x ∈ xs, (Lit.int k x).wf = true) : DataW.Trod enc P w base spare held t (.agg (Go.Proofs.YtapilbdboeggdaaR.Gx.ic k xs).toArray) (.agg (xs.map fun x => .lit (.int k x))) [] := by
  refine ⟨2, ?_⟩
  simp only [Value.cells]
  unfold DataW.trod
  rw [ht]
  simp only []
  rw [if_pos (by rw [hct, Go.Proofs.YtapilbdboeggdaaR.Gx.ic_len, hl])]
  have key : (List.range n).mapM (fun i => DataW.trod enc P w base spare held 1 e (((Go.Proofs.YtapilbdboeggdaaR.Gx.ic k xs).drop (i * P.cellsOf e)).take (P.cellsOf e))) = some ((List.range n).map fun i => (DataW.lit (Lit.int k (Go.Proofs.YtapilbdboeggdaaR.Gx.rd xs i)), [])) := by
    refine mapM_of _ fun i hi => ?_
    have hin : i < (Go.Proofs.YtapilbdboeggdaaR.Gx.ic k xs).length := by rw [Go.Proofs.YtapilbdboeggdaaR.Gx.ic_len, hl]; exact List.mem_range.1 hi
    rw [hce, Nat.mul_one, List.drop_eq_getElem_cons hin, List.take_succ_cons, List.take_zero]
    have hg := Go.Proofs.YtapilbdboeggdaaR.Gx.ic_get (k := k) (xs := xs) (i := i) (by rw [Go.Proofs.YtapilbdboeggdaaR.Gx.ic_len] at hin; exact hin)
    rw [(List.getElem?_eq_some_iff.1 hg).2]
    have hwf : (Lit.int k (Go.Proofs.YtapilbdboeggdaaR.Gx.rd xs i)).wf = true := by
      have hix : i < xs.length := by rw [hl]; exact List.mem_range.1 hi
      have := hw xs[i] (List.getElem_mem hix)
      simpa [Go.Proofs.YtapilbdboeggdaaR.Gx.rd, List.getD_eq_getElem?_getD, hix] using this
    unfold DataW.trod
    rw [he]
    simp only [hwf, and_self, if_true]
  rw [key]
  simp only [Option.map_some, Option.some.injEq, Prod.mk.injEq]
  refine ⟨?_, ?_⟩
  · congr 1
    apply List.ext_getElem?
    intro i
    rcases Nat.lt_or_ge i n with h | h
    · have hix : i < xs.length := by omega
      simp [h, Go.Proofs.YtapilbdboeggdaaR.Gx.rd, List.getD_eq_getElem?_getD, hix]
    · rw [List.getElem?_eq_none (by simp; exact h), List.getElem?_eq_none (by simp; omega)]
  · rw [List.flatMap_eq_nil_iff]
    intro y hy
    obtain ⟨i, _, rfl⟩ := List.mem_map.1 hy
    rfl
theorem post_of_below {f : Func} {s : ChangeSpec} {apart fresh handsOn again : Bool} {W W' : World} {args : Array Value} {v : Value} {ds gs : List (DataW H)} {before pa pv : List MemPlace}
    (hW : DataW.Whole enc P f.params.toList s.vars apart W args.toList ds gs before)
    (hres : ∀ (b : Nat) (sp : Nat → Bool) (hd : Bool), DataW.TrodAll enc P W' b sp hd f.resultTypes.toList (v.resultList f.resultTypes.size) (s.fn H (ds ++ gs)).results [])
    (hargs : ∀ sp : Nat → Bool, (∀ p ∈ before, sp p.block = true) → DataW.TrodAll enc P W' 0 sp true f.params.toList args.toList (s.fn H (ds ++ gs)).args pa)
    (hvars : ∀ sp : Nat → Bool, (∀ p ∈ before, sp p.block = true) → DataW.TrodVars enc P W' sp s.vars (s.fn H (ds ++ gs)).vars pv)
    (hps : before = pa ++ pv) (hB : Below W.heap.size W W')
    (hok : ∀ (j : Nat) (t : TypeId) (r : Value), f.resultTypes[j]? = some t → (v.resultList f.resultTypes.size)[j]? = some r → Value.okWide P W' .any 0 t r) :
    s.post enc P f apart fresh handsOn again W args v W' := by
  have hold : ∀ p ∈ before, (fun b => decide (b < W.heap.size)) p.block = true := fun p hp => by simpa using hW.lt p hp
  have hlt : ∀ p ∈ before, p.block < W.heap.size := fun p hp => hW.lt p hp
  refine ⟨ds, gs, before, [], pa, pv, hW, hres _ _ _, hargs _ hold, hvars _ hold, World.keptBut_mono (fun p hp => ⟨hp, ?_⟩) (hB.frame (· ∈ before)), fun _ => ?_⟩
  · rw [hps, List.mem_append] at hp
    exact Or.inr hp
  · obtain ⟨_, _, _, _, _, hz, hn⟩ := hW
    refine ⟨hok, _, _, ([] ++ pa) ++ pv, ⟨[] ++ pa, pv, trodAll_append (hargs _ (fun _ _ => rfl)) (hres _ _ _), hvars _ (fun _ _ => rfl), rfl, ?_, ?_⟩, ?_⟩
    · intro b off hp
      have hmem : MemPlace.cell b off ∈ before := by rw [hps]; simpa using hp
      rw [hB.frozen (p := ⟨b, off, none⟩) (hlt _ hmem)]
      exact hz b off hmem
    · intro ha
      have := hn ha
      rw [hps] at this
      simpa using this
    · intro p hp _
      rw [hps]
      simpa using hp
end arr
theorem Try.own' : ownKnob Try.prog.godebug = none := by kernel_rfl
theorem u16_of_wf {x : Int} (h : (Lit.int .u16 x).wf = true) : 0 ≤ x ∧ x < 65536 := by
  simp [Lit.wf, IntKind.min, IntKind.max, IntKind.signed, IntKind.bits] at h
  omega
theorem tu22 : Try.prog.underlying 22 = some (.array 32 5) := by kernel_rfl
theorem tu5 : Try.prog.underlying 5 = some (.int .u8) := by kernel_rfl
theorem tu23 : Try.prog.underlying 23 = some (.int .u16) := by kernel_rfl
theorem tu4 : Try.prog.underlying 4 = some .bool := by kernel_rfl
theorem tc5 : Try.prog.cellsOf 5 = 1 := by kernel_rfl
theorem tc22 : Try.prog.cellsOf 22 = 32 := by kernel_rfl
theorem tpar3 : Try.f3.params.toList = [22, 22, 23, 23] := by kernel_rfl
theorem kemChecks_lifted (os : Os) (started : os.Started) (H : Type) (enc : TypeId × Value → H) :
    ReturnsInHanded {} Try.checked os 3 .any (Rows.kemChecksSpec.pre6 enc Try.prog Try.f3 Rows.kemChecksRow.domain false) (Rows.kemChecksSpec.post enc Try.prog Try.f3 false true false false) := by
  refine returnsInHanded_of_change (C := Try.checked) Try.own' started (by kernel_rfl) Try.func3
    (ChangeSpec.witness6 (enc := enc) (C := Try.checked) false ⟨#[], #[.agg (Go.Proofs.YtapilbdboeggdaaR.Gx.ic .u8 (List.replicate 32 0)).toArray, .agg (Go.Proofs.YtapilbdboeggdaaR.Gx.ic .u8 (List.replicate 32 0)).toArray, .int .u16 0, .int .u16 0], []⟩ 8 (by kernel_rfl) (by kernel_rfl) (by kernel_rfl) (by kernel_rfl)) ?_
  intro W base args ds gs before hval0 hW hcnd _
  have hval : ∀ (j : Nat) t v, Try.f3.params[j]? = some t → args[j]? = some v → Value.okWide Try.prog W .any base t v := hval0
  have hW' := hW
  obtain ⟨p, q, hA0, hV, rfl, hfz, hnd⟩ := hW
  have hA : DataW.TrodAll enc Try.prog W 0 (fun _ => true) true Try.f3.params.toList args.toList ds p := hA0
  rw [tpar3] at hA
  obtain ⟨v0, v1, v2, v3, d0, d1, d2, d3, p0, p1, p2, p3, rfl, rfl, rfl, h0, h1, h2, h3⟩ := trodAll_four hA
  obtain ⟨rfl, rfl⟩ := trodVars_none hV
  obtain ⟨x0, rfl, l0, w0, rfl, rfl⟩ := open_arr tu22 tu5 tc5 tc22 (hval 0 22 v0 (by kernel_rfl) rfl) h0
  obtain ⟨x1, rfl, l1, w1, rfl, rfl⟩ := open_arr tu22 tu5 tc5 tc22 (hval 1 22 v1 (by kernel_rfl) rfl) h1
  obtain ⟨a, rfl, rfl, rfl, w2⟩ := open_int tu23 (hval 2 23 v2 (by kernel_rfl) rfl) h2
  obtain ⟨b, rfl, rfl, rfl, w3⟩ := open_int tu23 (hval 3 23 v3 (by kernel_rfl) rfl) h3
  clear hA0 hval0
  simp only [List.append_nil] at hW'
  have ha := u16_of_wf w2
  have hb := u16_of_wf w3
  have hlaw : Go.Proofs.YtapilbdboeggdaaR.Gx.i_liverylaw14_KemChecks x0 x1 a b = some true := by
    have := Go.Proofs.YtapilbdboeggdaaR.Gx.law_true x0 x1 l0 l1 a.toNat b.toNat (by omega) (by omega)
    rwa [Int.toNat_of_nonneg ha.1, Int.toNat_of_nonneg hb.1] at this
  refine (Go.Proofs.YtapilbdboeggdaaR.Gx.i_liverylaw14_KemChecks_ok x0 x1 a b (w := W) l0 l1 true hlaw).mono fun e W' hr => ?_
  cases e with
  | returned v =>
    obtain ⟨rfl, hS⟩ : v = .bool true ∧ Go.Proofs.YtapilbdboeggdaaR.Gx.St W W' [] := hr
    refine ⟨_, rfl, post_of_below (pa := []) (pv := []) hW' (fun _ _ _ => trodAll_mk1 (shut_bool tu4 _)) (fun sp _ => trodAll_mk4 (shut_arr tu22 tu5 tc5 tc22 l0 w0) (shut_arr tu22 tu5 tc5 tc22 l1 w1) (shut_int tu23 w2) (shut_int tu23 w3)) (fun _ _ => rfl) rfl
      hS.below (ok_one (by kernel_rfl) rfl (okWide_bool_mk tu4 _))⟩
  | panicked c => exact hr.elim
  | outgrown => exact hr.elim
theorem kemChecks_holds : Rows.KemChecksSaid :=
  OpenClaim.holds_of_wide 3 Try.f3 rfl rfl rfl rfl rfl rfl rfl ⟨rfl, rfl, rfl, rfl, rfl⟩ rfl rfl rfl rfl rfl (by kernel_rfl) Try.func3 (by kernel_rfl)
    (of_decide_eq_true (by kernel_rfl)) (by unfold Func.isWrapper; first | (rw [if_pos (by decide +kernel)]; kernel_rfl) | (rw [if_neg (by decide +kernel)]; exact ⟨rfl, rfl⟩))
    (fun os started H enc _ => kemChecks_lifted os started H enc)
#print axioms kemChecks_holds
end Go.Proofs.YtapilbdboeggdaaR
