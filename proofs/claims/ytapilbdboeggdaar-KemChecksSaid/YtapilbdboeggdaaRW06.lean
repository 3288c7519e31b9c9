/-
A part of the proof: printed walks of the functions that the law reaches, and plain laws over them.
-/
import Derived.Test.YtapilbdboeggdaaRProg
import Derived.Test.YtapilbdboeggdaaRW00
import Derived.Test.YtapilbdboeggdaaRW01
import Derived.Test.YtapilbdboeggdaaRW04
import Derived.Test.YtapilbdboeggdaaRW05
set_option maxRecDepth 1000000
set_option linter.unusedVariables false
set_option linter.unusedSimpArgs false
set_option maxHeartbeats 4000000
namespace Go.Proofs.YtapilbdboeggdaaR.Gx
open Go Go.RowKit
def i_ring_MulNtt_l1 (v27 : List Int) (v15 : List Int) (v19 : List Int) : Nat → List Int → Int → Option (List Int)
  | 0, _, _ => none
  | k + 1, v190, v191 =>
    (if (decide (v191 < 128)) = true then (if inb v191 128 = true then ((i_ring_times (rd v27 v191.toNat) (rd v27 v191.toNat)).bind fun v207 => ((i_ring_times v207 17).bind fun v211 => (if inb (IntKind.i64.wrap (2 * v191)) 256 = true then (if inb (IntKind.i64.wrap ((IntKind.i64.wrap (2 * v191)) + 1)) 256 = true then (nm_ (rd v15 ((IntKind.i64.wrap ((IntKind.i64.wrap (2 * v191)) + 1)).toNat)) fun v232 => (nm_ (rd v19 ((IntKind.i64.wrap ((IntKind.i64.wrap (2 * v191)) + 1)).toNat)) fun v234 => ((i_ring_times (rd v15 ((IntKind.i64.wrap (2 * v191)).toNat)) (rd v19 ((IntKind.i64.wrap (2 * v191)).toNat))).bind fun v237 => ((i_ring_times v232 v234).bind fun v242 => ((i_ring_times v242 v211).bind fun v247 => (if inb (IntKind.i64.wrap (2 * v191)) 256 = true then (nm_ (v190.set ((IntKind.i64.wrap (2 * v191)).toNat) ((IntKind.u16.wrap (v237 + v247)).tmod 3329)) fun v256 => ((i_ring_times (rd v15 ((IntKind.i64.wrap (2 * v191)).toNat)) v234).bind fun v259 => ((i_ring_times v232 (rd v19 ((IntKind.i64.wrap (2 * v191)).toNat))).bind fun v264 => (if inb (IntKind.i64.wrap ((IntKind.i64.wrap (2 * v191)) + 1)) 256 = true then (nm_ (v256.set ((IntKind.i64.wrap ((IntKind.i64.wrap (2 * v191)) + 1)).toNat) ((IntKind.u16.wrap (v259 + v264)).tmod 3329)) fun v273 => i_ring_MulNtt_l1 v27 v15 v19 k v273 (IntKind.i64.wrap (v191 + 1))) else none)))) else none)))))) else none) else none))) else none) else some (v190))
def i_ring_MulNtt (v1 : List Int) (v2 : List Int) : Option (List Int) :=
  ((i_ring_Reduce v1).bind fun v15 => ((i_ring_Reduce v2).bind fun v19 => ((i_ring_powers).bind fun v27 => ((i_ring_MulNtt_l1 v27 v15 v19 LIM (List.replicate 256 (0 : Int)) 0).bind fun v192 => some v192))))
theorem i_ring_MulNtt_ok (v1 : List Int) (v2 : List Int) {w : World} (hl_v1 : v1.length = 256) (hl_v2 : v2.length = 256) (c0 : List Int) (h : i_ring_MulNtt v1 v2 = some c0) : Calls Try.prog 58 #[.agg (ic .u16 v1).toArray, .agg (ic .u16 v2).toArray] w (Ret (fun v w' => v = .agg (ic .u16 c0).toArray ∧ St w w' [] ∧ c0.length = 256)) := by
  unfold i_ring_MulNtt at h
  refine calls_of_wp Try.func58 rfl ?_
  have hF := Fr.start (#[.agg (ic .u16 v1).toArray, .agg (ic .u16 v2).toArray] : Array Value) 72 74 [(0, .agg (ic .u16 v1).toArray), (1, .agg (ic .u16 v2).toArray)] rfl (by kernel_rfl)
  have hS := St.nil w
  refine go_fr hF (fun a hF => (wp_seq (wp_region_lit ?_)))
  refine wpl_one hF (by kernel_rfl) (wp_box hF hS rfl (v := .agg (ic .u16 v1).toArray) (by kernel_rfl) (ic .u16 v1) rfl (by kernel_rfl) (fun b10 w11 a12 hS12 hF12 => ?_))
  refine wpl_one hF12 (by kernel_rfl) (wp_box hF12 hS12 rfl (v := .agg (ic .u16 v2).toArray) (by kernel_rfl) (ic .u16 v2) rfl (by kernel_rfl) (fun b13 w14 a15 hS15 hF15 => ?_))
  refine wpl_one hF15 (by kernel_rfl) (wp_alloc hF15 hS15 rfl (z := .agg (ic .u16 (rz 256)).toArray) (by kernel_rfl) (ic .u16 (rz 256)) rfl (by kernel_rfl) (fun b16 w17 a18 hS18 hF18 => (wpList_nil (then_n (wp_seq (wp_region_noPanic (region_al [4, 5] (fun w' => St w w' [.blk b16 (ic .u16 (rz 256)) 61, .blk b13 (ic .u16 v2) 61, .blk b10 (ic .u16 v1) 61]) 6 rfl (by kernel_rfl) ?_)))))))
  have hS19 := St.draw1 hS18
  refine al_val (i := 0) rfl (by kernel_rfl) (fun _ _ _ _ h => h) hF18 (by kernel_rfl) (v := .agg (ic .u16 v1).toArray) (fun _ HS => run_loadR rfl (b := b10) (off := 0) hF18.e (by kernel_rfl) (k := 256) (by kernel_rfl) (((ic_len _ _).trans hl_v1) : (ic .u16 v1).length = 256) (HS.all 2 rfl)) (by kernel_rfl) (hS19.sub (.cons_cons _ (.cons_cons _ (.cons_cons _ (.slnil))))) (fun a20 hF20 => ?_)
  refine al_val (i := 2) rfl (by kernel_rfl) (fun _ _ _ _ h => h) hF20 (by kernel_rfl) (v := .agg (ic .u16 v2).toArray) (fun _ HS => run_loadR rfl (b := b13) (off := 0) hF20.e (by kernel_rfl) (k := 256) (by kernel_rfl) (((ic_len _ _).trans hl_v2) : (ic .u16 v2).length = 256) (HS.all 1 rfl)) (by kernel_rfl) (hS19.sub (.cons_cons _ (.cons_cons _ (.cons_cons _ (.slnil))))) (fun a21 hF21 => ?_)
  obtain ⟨v15, hb22, h⟩ := bind_ok h
  refine al_one (i := 1) rfl (by kernel_rfl) hF21 (by kernel_rfl) (wp_callR hF21 (by kernel_rfl) (g := 41) (args := #[.agg (ic .u16 v1).toArray]) (by kernel_rfl) (i_ring_Reduce_ok v1 hl_v1 v15 hb22) (fun vr w23 hp => ?_))
  obtain ⟨rfl, hS24, hl_v15⟩ := hp
  replace hS24 := St.call hS19 hS24 rfl
  refine And.intro (fun _ => hS24) ?_
  refine go_fr (hF21.next (.agg (ic .u16 v15).toArray) [2, 3, 4, 14, 15] (M := [(2, pp b10 0), (3, pp b13 0), (4, pp b16 0), (14, .agg (ic .u16 v15).toArray), (15, .agg (ic .u16 v2).toArray)]) (by kernel_rfl)) (fun a24 hF24 => ?_)
  obtain ⟨v19, hb25, h⟩ := bind_ok h
  refine al_one (i := 3) rfl (by kernel_rfl) hF24 (by kernel_rfl) (wp_callR hF24 (by kernel_rfl) (g := 41) (args := #[.agg (ic .u16 v2).toArray]) (by kernel_rfl) (i_ring_Reduce_ok v2 hl_v2 v19 hb25) (fun vr w26 hp => ?_))
  obtain ⟨rfl, hS27, hl_v19⟩ := hp
  replace hS27 := St.call hS24 hS27 rfl
  refine And.intro (fun _ => hS27) ?_
  refine go_fr (hF24.next (.agg (ic .u16 v19).toArray) [2, 3, 4, 14, 16] (M := [(2, pp b10 0), (3, pp b13 0), (4, pp b16 0), (14, .agg (ic .u16 v15).toArray), (16, .agg (ic .u16 v19).toArray)]) (by kernel_rfl)) (fun a27 hF27 => ?_)
  refine al_one (i := 4) rfl (by kernel_rfl) hF27 (by kernel_rfl) (wp_store hF27 hS27 rfl 2 rfl (off := 0) (by kernel_rfl) (v := .agg (ic .u16 v15).toArray) (by kernel_rfl) (vs := ic .u16 v15) rfl (k := 256) (by kernel_rfl) (((ic_len _ _).trans hl_v15) : (ic .u16 v15).length = 256) (by have h2 := (((ic_len _ _).trans hl_v1) : (ic .u16 v1).length = 256); omega) (ic_one _ _) (cs' := ic .u16 v15) ((upd_ic _ _ _ _).trans (congrArg (ic .u16) (upd_all ((hl_v15).trans (hl_v1).symm)))) (by kernel_rfl) (L' := [.blk b16 (ic .u16 (rz 256)) 61, .blk b13 (ic .u16 v2) 61, .blk b10 (ic .u16 v15) 61]) rfl (fun w28 a29 hS29 hF29 => (And.intro (late_yes (by kernel_rfl)) ?_)))
  refine al_one (i := 5) rfl (by kernel_rfl) hF29 (by kernel_rfl) (wp_store hF29 hS29 rfl 1 rfl (off := 0) (by kernel_rfl) (v := .agg (ic .u16 v19).toArray) (by kernel_rfl) (vs := ic .u16 v19) rfl (k := 256) (by kernel_rfl) (((ic_len _ _).trans hl_v19) : (ic .u16 v19).length = 256) (by have h2 := (((ic_len _ _).trans hl_v2) : (ic .u16 v2).length = 256); omega) (ic_one _ _) (cs' := ic .u16 v19) ((upd_ic _ _ _ _).trans (congrArg (ic .u16) (upd_all ((hl_v19).trans (hl_v2).symm)))) (by kernel_rfl) (L' := [.blk b16 (ic .u16 (rz 256)) 61, .blk b13 (ic .u16 v19) 61, .blk b10 (ic .u16 v15) 61]) rfl (fun w30 a31 hS31 hF31 => (And.intro (late_yes (by kernel_rfl)) ?_)))
  refine al_done (by kernel_rfl) ?_ _
  refine NoPanic.normal (then_n (wp_seq (wp_region_lit ?_)))
  obtain ⟨v27, hb32, h⟩ := bind_ok h
  refine wpl_one hF31 (by kernel_rfl) (wp_callR hF31 (by kernel_rfl) (g := 63) (args := #[]) (by kernel_rfl) (i_ring_powers_ok v27 hb32) (fun vr w33 hp => ?_))
  obtain ⟨rfl, hS34, hl_v27⟩ := hp
  replace hS34 := St.call hS31 hS34 rfl
  refine go_fr (hF31.next (.agg (ic .u16 v27).toArray) [2, 3, 4, 17] (M := [(2, pp b10 0), (3, pp b13 0), (4, pp b16 0), (17, .agg (ic .u16 v27).toArray)]) (by kernel_rfl)) (fun a34 hF34 => ?_)
  refine wpl_one hF34 (by kernel_rfl) (wp_alloc hF34 hS34 rfl (z := .agg (ic .u16 (rz 128)).toArray) (by kernel_rfl) (ic .u16 (rz 128)) rfl (by kernel_rfl) (fun b35 w36 a37 hS37 hF37 => ?_))
  refine wpl_one hF37 (by kernel_rfl) (wp_store hF37 hS37 rfl 0 rfl (off := 0) (by kernel_rfl) (v := .agg (ic .u16 v27).toArray) (by kernel_rfl) (vs := ic .u16 v27) rfl (k := 128) (by kernel_rfl) (((ic_len _ _).trans hl_v27) : (ic .u16 v27).length = 128) (by have h2 := (((ic_len _ _).trans (len_is (rz 128) (n := 128) (List.length_replicate))) : (ic .u16 (rz 128)).length = 128); omega) (ic_one _ _) (cs' := ic .u16 v27) ((upd_ic _ _ _ _).trans (congrArg (ic .u16) (upd_all ((hl_v27).trans ((len_is (rz 128) (n := 128) (List.length_replicate))).symm)))) (by kernel_rfl) (L' := [.blk b35 (ic .u16 v27) 98, .blk b16 (ic .u16 (rz 256)) 61, .blk b13 (ic .u16 v19) 61, .blk b10 (ic .u16 v15) 61]) rfl (fun w38 a39 hS39 hF39 => (wpList_nil (then_n (wp_seq (wp_region_lit ?_))))))
  refine wpl_one hF39 (by kernel_rfl) (wp_alloc hF39 hS39 rfl (z := .agg (ic .u16 (rz 256)).toArray) (by kernel_rfl) (ic .u16 (rz 256)) rfl (by kernel_rfl) (fun b40 w41 a42 hS42 hF42 => (wpList_nil (then_n (wp_seq (wp_seq (wp_region_lit ?_)))))))
  refine wplp 1 [2, 3, 4, 5, 6, 18] [(2, pp b10 0), (3, pp b13 0), (4, pp b16 0), (5, pp b35 0), (6, pp b40 0), (18, i6 0)] hF42 (fun a43 hF43 => (wpList_nil (then_n ?_)))
  obtain ⟨ev44, hl45, h⟩ := bind_ok h
  refine block_cut (fun a' w' => ∃ (v192 : List Int), v192 = ev44 ∧ Fr 74 [] [(4, pp b16 0), (6, pp b40 0)] a' ∧ St w w' [.blk b40 (ic .u16 v192) 61, .blk b35 (ic .u16 v27) 98, .blk b16 (ic .u16 (rz 256)) 61, .blk b13 (ic .u16 v19) 61, .blk b10 (ic .u16 v15) 61] ∧ v192.length = 256) ?_ ?_
  ·
   refine wp_loop_ghost (fun k a' w' => ∃ (v190 : List Int) (v191 : Int), i_ring_MulNtt_l1 v27 v15 v19 k v190 v191 = some ev44 ∧ Fr 74 [] [(2, pp b10 0), (3, pp b13 0), (4, pp b16 0), (5, pp b35 0), (6, pp b40 0), (18, i6 v191)] a' ∧ St w w' [.blk b40 (ic .u16 v190) 61, .blk b35 (ic .u16 v27) 98, .blk b16 (ic .u16 (rz 256)) 61, .blk b13 (ic .u16 v19) 61, .blk b10 (ic .u16 v15) 61] ∧ v190.length = 256) LIM ⟨(rz 256), 0, hl45, Fr.pick [2, 3, 4, 5, 6, 18] (by kernel_rfl) hF43, hS42, (len_is (rz 256) (n := 256) (List.length_replicate))⟩ ?_
   rintro k46 a46 w47 ⟨v190, v191, hr46, hF46, hS46, hl_v190⟩
   cases k46 with
   | zero => rw [i_ring_MulNtt_l1] at hr46; cases hr46
   | succ k46 =>
    rw [i_ring_MulNtt_l1] at hr46
    refine wp_seq (wp_region_lit ?_)
    refine wplp 1 [2, 3, 4, 5, 6, 18, 19] [(2, pp b10 0), (3, pp b13 0), (4, pp b16 0), (5, pp b35 0), (6, pp b40 0), (18, i6 v191), (19, .bool (decide (v191 < 128)))] hF46 (fun a48 hF48 => (wpList_nil (then_n (wp_seq ?_))))
    refine wp_cond_split (t := (decide (v191 < 128))) hF48.e (fun ht49 => ?_) (fun ht49 => ?_)
    ·
     have h := if_t ht49 hr46
     refine wp_skip (then_n (wp_seq (wp_block (wp_seq (wp_region_lit ?_)))))
     refine wplp 2 [2, 3, 4, 5, 6, 7, 18] [(2, pp b10 0), (3, pp b13 0), (4, pp b16 0), (5, pp b35 0), (6, pp b40 0), (7, i6 v191), (18, i6 v191)] hF48 (fun a50 hF50 => (wpList_nil (then_n (wp_seq (wp_region_noPanic (region_al [] (fun w' => St w w' [.blk b40 (ic .u16 v190) 61, .blk b35 (ic .u16 v27) 98, .blk b16 (ic .u16 (rz 256)) 61, .blk b13 (ic .u16 v19) 61, .blk b10 (ic .u16 v15) 61]) 9 rfl (by kernel_rfl) ?_))))))
     have hS51 := St.draw1 hS46
     refine al_run (fun _ _ _ _ _ h => h) 7 [0, 3] rfl [2, 3, 4, 5, 6, 7, 18, 21, 24] [(2, pp b10 0), (3, pp b13 0), (4, pp b16 0), (5, pp b35 0), (6, pp b40 0), (7, i6 v191), (18, i6 v191), (21, i6 v191), (24, i6 v191)] hF50 (by kernel_rfl) (fun _ => hS51) (fun a52 hF52 => ?_)
     obtain ⟨hg53, h⟩ := gd_ok h
     refine al_any (i := 1) rfl (by kernel_rfl) (fun _ _ _ _ h => h) hF52 (by kernel_rfl) (v := pp b35 v191.toNat) (fun _ => run_indexA rfl (b := b35) (off := 0) hF52.e (k := .i64) (i := v191) hF52.e (len := 128) (E := 23) (by kernel_rfl) (s := 1) (by kernel_rfl) (inb_ok hg53) (r := v191.toNat) (by simp only [Nat.zero_add, Nat.mul_one])) (by kernel_rfl) (fun _ => hS51) (fun a54 hF54 => ?_)
     refine al_val (i := 2) rfl (by kernel_rfl) (fun _ _ _ _ h => h) hF54 (by kernel_rfl) (v := .int .u16 (rd v27 v191.toNat)) (fun _ HS => run_load1 rfl (b := b35) (off := v191.toNat) hF54.e (by kernel_rfl) (HS.at 1 rfl (v191.toNat) (ic_get (lt_len (inb_nat hg53) hl_v27)))) (by kernel_rfl) (hS51.sub (.cons_cons _ (.cons_cons _ (.cons_cons _ (.cons_cons _ (.cons_cons _ (.slnil))))))) (fun a55 hF55 => ?_)
     refine al_any (i := 4) rfl (by kernel_rfl) (fun _ _ _ _ h => h) hF55 (by kernel_rfl) (v := pp b35 v191.toNat) (fun _ => run_indexA rfl (b := b35) (off := 0) hF55.e (k := .i64) (i := v191) hF55.e (len := 128) (E := 23) (by kernel_rfl) (s := 1) (by kernel_rfl) (inb_ok hg53) (r := v191.toNat) (by simp only [Nat.zero_add, Nat.mul_one])) (by kernel_rfl) (fun _ => hS51) (fun a56 hF56 => ?_)
     refine al_val (i := 5) rfl (by kernel_rfl) (fun _ _ _ _ h => h) hF56 (by kernel_rfl) (v := .int .u16 (rd v27 v191.toNat)) (fun _ HS => run_load1 rfl (b := b35) (off := v191.toNat) hF56.e (by kernel_rfl) (HS.at 1 rfl (v191.toNat) (ic_get (lt_len (inb_nat hg53) hl_v27)))) (by kernel_rfl) (hS51.sub (.cons_cons _ (.cons_cons _ (.cons_cons _ (.cons_cons _ (.cons_cons _ (.slnil))))))) (fun a57 hF57 => ?_)
     obtain ⟨v207, hb58, h⟩ := bind_ok h
     refine al_one (i := 6) rfl (by kernel_rfl) hF57 (by kernel_rfl) (wp_callR hF57 (by kernel_rfl) (g := 64) (args := #[.int .u16 (rd v27 v191.toNat), .int .u16 (rd v27 v191.toNat)]) (by kernel_rfl) (i_ring_times_ok (rd v27 v191.toNat) (rd v27 v191.toNat) v207 hb58) (fun vr w59 hp => ?_))
     obtain ⟨rfl, hS60⟩ := hp
     replace hS60 := St.call hS51 hS60 rfl
     refine And.intro (fun _ => hS60) ?_
     refine go_fr (hF57.next (.int .u16 v207) [2, 3, 4, 5, 6, 7, 18, 27] (M := [(2, pp b10 0), (3, pp b13 0), (4, pp b16 0), (5, pp b35 0), (6, pp b40 0), (7, i6 v191), (18, i6 v191), (27, .int .u16 v207)]) (by kernel_rfl)) (fun a60 hF60 => ?_)
     obtain ⟨v211, hb61, h⟩ := bind_ok h
     refine al_one (i := 7) rfl (by kernel_rfl) hF60 (by kernel_rfl) (wp_callR hF60 (by kernel_rfl) (g := 64) (args := #[.int .u16 v207, .int .u16 17]) (by kernel_rfl) (i_ring_times_ok v207 17 v211 hb61) (fun vr w62 hp => ?_))
     obtain ⟨rfl, hS63⟩ := hp
     replace hS63 := St.call hS60 hS63 rfl
     refine And.intro (fun _ => hS63) ?_
     refine go_fr (hF60.next (.int .u16 v211) [2, 3, 4, 5, 6, 7, 18, 28] (M := [(2, pp b10 0), (3, pp b13 0), (4, pp b16 0), (5, pp b35 0), (6, pp b40 0), (7, i6 v191), (18, i6 v191), (28, .int .u16 v211)]) (by kernel_rfl)) (fun a63 hF63 => ?_)
     refine al_run (fun _ _ _ _ _ h => h) 0 [8] rfl [2, 3, 4, 5, 6, 7, 8, 18] [(2, pp b10 0), (3, pp b13 0), (4, pp b16 0), (5, pp b35 0), (6, pp b40 0), (7, i6 v191), (8, .int .u16 v211), (18, i6 v191)] hF63 (by kernel_rfl) (fun _ => hS63) (fun a64 hF64 => ?_)
     refine al_done (by kernel_rfl) ?_ _
     refine NoPanic.normal (then_n (wp_seq (wp_region_noPanic (region_al [] (fun w' => St w w' [.blk b40 (ic .u16 v190) 61, .blk b35 (ic .u16 v27) 98, .blk b16 (ic .u16 (rz 256)) 61, .blk b13 (ic .u16 v19) 61, .blk b10 (ic .u16 v15) 61]) 22 rfl (by kernel_rfl) ?_))))
     have hS65 := St.draw1 hS63
     refine al_run (fun _ _ _ _ _ h => h) 12 [0, 1, 4, 5, 6, 9, 10, 13, 14, 15] rfl [2, 3, 4, 5, 6, 7, 8, 18, 30, 35, 39, 44] [(2, pp b10 0), (3, pp b13 0), (4, pp b16 0), (5, pp b35 0), (6, pp b40 0), (7, i6 v191), (8, .int .u16 v211), (18, i6 v191), (30, i6 (IntKind.i64.wrap (2 * v191))), (35, i6 (IntKind.i64.wrap ((IntKind.i64.wrap (2 * v191)) + 1))), (39, i6 (IntKind.i64.wrap (2 * v191))), (44, i6 (IntKind.i64.wrap ((IntKind.i64.wrap (2 * v191)) + 1)))] hF64 (by kernel_rfl) (fun _ => hS65) (fun a66 hF66 => ?_)
     obtain ⟨hg67, h⟩ := gd_ok h
     refine al_any (i := 2) rfl (by kernel_rfl) (fun _ _ _ _ h => h) hF66 (by kernel_rfl) (v := pp b10 ((IntKind.i64.wrap (2 * v191)).toNat)) (fun _ => run_indexA rfl (b := b10) (off := 0) hF66.e (k := .i64) (i := (IntKind.i64.wrap (2 * v191))) hF66.e (len := 256) (E := 23) (by kernel_rfl) (s := 1) (by kernel_rfl) (inb_ok hg67) (r := (IntKind.i64.wrap (2 * v191)).toNat) (by simp only [Nat.zero_add, Nat.mul_one])) (by kernel_rfl) (fun _ => hS65) (fun a68 hF68 => ?_)
     refine al_val (i := 3) rfl (by kernel_rfl) (fun _ _ _ _ h => h) hF68 (by kernel_rfl) (v := .int .u16 (rd v15 ((IntKind.i64.wrap (2 * v191)).toNat))) (fun _ HS => run_load1 rfl (b := b10) (off := (IntKind.i64.wrap (2 * v191)).toNat) hF68.e (by kernel_rfl) (HS.at 4 rfl ((IntKind.i64.wrap (2 * v191)).toNat) (ic_get (lt_len (inb_nat hg67) hl_v15)))) (by kernel_rfl) (hS65.sub (.cons_cons _ (.cons_cons _ (.cons_cons _ (.cons_cons _ (.cons_cons _ (.slnil))))))) (fun a69 hF69 => ?_)
     refine al_run (fun _ _ _ _ _ h => h) 9 [18] rfl [2, 3, 4, 5, 6, 7, 8, 9, 18, 35, 39, 44] [(2, pp b10 0), (3, pp b13 0), (4, pp b16 0), (5, pp b35 0), (6, pp b40 0), (7, i6 v191), (8, .int .u16 v211), (9, .int .u16 (rd v15 ((IntKind.i64.wrap (2 * v191)).toNat))), (18, i6 v191), (35, i6 (IntKind.i64.wrap ((IntKind.i64.wrap (2 * v191)) + 1))), (39, i6 (IntKind.i64.wrap (2 * v191))), (44, i6 (IntKind.i64.wrap ((IntKind.i64.wrap (2 * v191)) + 1)))] hF69 (by kernel_rfl) (fun _ => hS65) (fun a70 hF70 => ?_)
     obtain ⟨hg71, h⟩ := gd_ok h
     refine al_any (i := 7) rfl (by kernel_rfl) (fun _ _ _ _ h => h) hF70 (by kernel_rfl) (v := pp b10 ((IntKind.i64.wrap ((IntKind.i64.wrap (2 * v191)) + 1)).toNat)) (fun _ => run_indexA rfl (b := b10) (off := 0) hF70.e (k := .i64) (i := (IntKind.i64.wrap ((IntKind.i64.wrap (2 * v191)) + 1))) hF70.e (len := 256) (E := 23) (by kernel_rfl) (s := 1) (by kernel_rfl) (inb_ok hg71) (r := (IntKind.i64.wrap ((IntKind.i64.wrap (2 * v191)) + 1)).toNat) (by simp only [Nat.zero_add, Nat.mul_one])) (by kernel_rfl) (fun _ => hS65) (fun a72 hF72 => ?_)
     refine al_val (i := 8) rfl (by kernel_rfl) (fun _ _ _ _ h => h) hF72 (by kernel_rfl) (v := .int .u16 (rd v15 ((IntKind.i64.wrap ((IntKind.i64.wrap (2 * v191)) + 1)).toNat))) (fun _ HS => run_load1 rfl (b := b10) (off := (IntKind.i64.wrap ((IntKind.i64.wrap (2 * v191)) + 1)).toNat) hF72.e (by kernel_rfl) (HS.at 4 rfl ((IntKind.i64.wrap ((IntKind.i64.wrap (2 * v191)) + 1)).toNat) (ic_get (lt_len (inb_nat hg71) hl_v15)))) (by kernel_rfl) (hS65.sub (.cons_cons _ (.cons_cons _ (.cons_cons _ (.cons_cons _ (.cons_cons _ (.slnil))))))) (fun a73 hF73 => ?_)
     refine al_run (fun _ _ _ _ _ h => h) 6 [19] rfl [2, 3, 4, 5, 6, 7, 8, 9, 10, 18, 39, 44] [(2, pp b10 0), (3, pp b13 0), (4, pp b16 0), (5, pp b35 0), (6, pp b40 0), (7, i6 v191), (8, .int .u16 v211), (9, .int .u16 (rd v15 ((IntKind.i64.wrap (2 * v191)).toNat))), (10, .int .u16 (rd v15 ((IntKind.i64.wrap ((IntKind.i64.wrap (2 * v191)) + 1)).toNat))), (18, i6 v191), (39, i6 (IntKind.i64.wrap (2 * v191))), (44, i6 (IntKind.i64.wrap ((IntKind.i64.wrap (2 * v191)) + 1)))] hF73 (by kernel_rfl) (fun _ => hS65) (fun a74 hF74 => ?_)
     refine al_any (i := 11) rfl (by kernel_rfl) (fun _ _ _ _ h => h) hF74 (by kernel_rfl) (v := pp b13 ((IntKind.i64.wrap (2 * v191)).toNat)) (fun _ => run_indexA rfl (b := b13) (off := 0) hF74.e (k := .i64) (i := (IntKind.i64.wrap (2 * v191))) hF74.e (len := 256) (E := 23) (by kernel_rfl) (s := 1) (by kernel_rfl) (inb_ok hg67) (r := (IntKind.i64.wrap (2 * v191)).toNat) (by simp only [Nat.zero_add, Nat.mul_one])) (by kernel_rfl) (fun _ => hS65) (fun a75 hF75 => ?_)
     refine al_val (i := 12) rfl (by kernel_rfl) (fun _ _ _ _ h => h) hF75 (by kernel_rfl) (v := .int .u16 (rd v19 ((IntKind.i64.wrap (2 * v191)).toNat))) (fun _ HS => run_load1 rfl (b := b13) (off := (IntKind.i64.wrap (2 * v191)).toNat) hF75.e (by kernel_rfl) (HS.at 3 rfl ((IntKind.i64.wrap (2 * v191)).toNat) (ic_get (lt_len (inb_nat hg67) hl_v19)))) (by kernel_rfl) (hS65.sub (.cons_cons _ (.cons_cons _ (.cons_cons _ (.cons_cons _ (.cons_cons _ (.slnil))))))) (fun a76 hF76 => ?_)
     refine al_run (fun _ _ _ _ _ h => h) 3 [20] rfl [2, 3, 4, 5, 6, 7, 8, 9, 10, 11, 18, 44] [(2, pp b10 0), (3, pp b13 0), (4, pp b16 0), (5, pp b35 0), (6, pp b40 0), (7, i6 v191), (8, .int .u16 v211), (9, .int .u16 (rd v15 ((IntKind.i64.wrap (2 * v191)).toNat))), (10, .int .u16 (rd v15 ((IntKind.i64.wrap ((IntKind.i64.wrap (2 * v191)) + 1)).toNat))), (11, .int .u16 (rd v19 ((IntKind.i64.wrap (2 * v191)).toNat))), (18, i6 v191), (44, i6 (IntKind.i64.wrap ((IntKind.i64.wrap (2 * v191)) + 1)))] hF76 (by kernel_rfl) (fun _ => hS65) (fun a77 hF77 => ?_)
     refine al_any (i := 16) rfl (by kernel_rfl) (fun _ _ _ _ h => h) hF77 (by kernel_rfl) (v := pp b13 ((IntKind.i64.wrap ((IntKind.i64.wrap (2 * v191)) + 1)).toNat)) (fun _ => run_indexA rfl (b := b13) (off := 0) hF77.e (k := .i64) (i := (IntKind.i64.wrap ((IntKind.i64.wrap (2 * v191)) + 1))) hF77.e (len := 256) (E := 23) (by kernel_rfl) (s := 1) (by kernel_rfl) (inb_ok hg71) (r := (IntKind.i64.wrap ((IntKind.i64.wrap (2 * v191)) + 1)).toNat) (by simp only [Nat.zero_add, Nat.mul_one])) (by kernel_rfl) (fun _ => hS65) (fun a78 hF78 => ?_)
     refine al_val (i := 17) rfl (by kernel_rfl) (fun _ _ _ _ h => h) hF78 (by kernel_rfl) (v := .int .u16 (rd v19 ((IntKind.i64.wrap ((IntKind.i64.wrap (2 * v191)) + 1)).toNat))) (fun _ HS => run_load1 rfl (b := b13) (off := (IntKind.i64.wrap ((IntKind.i64.wrap (2 * v191)) + 1)).toNat) hF78.e (by kernel_rfl) (HS.at 3 rfl ((IntKind.i64.wrap ((IntKind.i64.wrap (2 * v191)) + 1)).toNat) (ic_get (lt_len (inb_nat hg71) hl_v19)))) (by kernel_rfl) (hS65.sub (.cons_cons _ (.cons_cons _ (.cons_cons _ (.cons_cons _ (.cons_cons _ (.slnil))))))) (fun a79 hF79 => ?_)
     refine al_run (fun _ _ _ _ _ h => h) 0 [21] rfl [2, 3, 4, 5, 6, 7, 8, 9, 10, 11, 12, 18] [(2, pp b10 0), (3, pp b13 0), (4, pp b16 0), (5, pp b35 0), (6, pp b40 0), (7, i6 v191), (8, .int .u16 v211), (9, .int .u16 (rd v15 ((IntKind.i64.wrap (2 * v191)).toNat))), (10, .int .u16 (rd v15 ((IntKind.i64.wrap ((IntKind.i64.wrap (2 * v191)) + 1)).toNat))), (11, .int .u16 (rd v19 ((IntKind.i64.wrap (2 * v191)).toNat))), (12, .int .u16 (rd v19 ((IntKind.i64.wrap ((IntKind.i64.wrap (2 * v191)) + 1)).toNat))), (18, i6 v191)] hF79 (by kernel_rfl) (fun _ => hS65) (fun a80 hF80 => ?_)
     refine al_done (by kernel_rfl) ?_ _
     refine NoPanic.normal (then_n (wp_seq ?_))
     obtain ⟨v232, hv_v232, h⟩ := nm_ok h
     have hF81 := Fr.eqv (L := [(2, pp b10 0), (3, pp b13 0), (4, pp b16 0), (5, pp b35 0), (6, pp b40 0), (7, i6 v191), (8, .int .u16 v211), (9, .int .u16 (rd v15 ((IntKind.i64.wrap (2 * v191)).toNat))), (10, .int .u16 (rd v15 ((IntKind.i64.wrap ((IntKind.i64.wrap (2 * v191)) + 1)).toNat))), (11, .int .u16 (rd v19 ((IntKind.i64.wrap (2 * v191)).toNat))), (12, .int .u16 (rd v19 ((IntKind.i64.wrap ((IntKind.i64.wrap (2 * v191)) + 1)).toNat))), (18, i6 v191)]) (Fr.pick [2, 3, 4, 5, 6, 7, 8, 9, 10, 11, 12, 18] (by kernel_rfl) hF80) (M := [(2, pp b10 0), (3, pp b13 0), (4, pp b16 0), (5, pp b35 0), (6, pp b40 0), (7, i6 v191), (8, .int .u16 v211), (9, .int .u16 (rd v15 ((IntKind.i64.wrap (2 * v191)).toNat))), (10, .int .u16 v232), (11, .int .u16 (rd v19 ((IntKind.i64.wrap (2 * v191)).toNat))), (12, .int .u16 (rd v19 ((IntKind.i64.wrap ((IntKind.i64.wrap (2 * v191)) + 1)).toNat))), (18, i6 v191)]) (by rw [hv_v232])
     obtain ⟨v234, hv_v234, h⟩ := nm_ok h
     have hF82 := Fr.eqv (L := [(2, pp b10 0), (3, pp b13 0), (4, pp b16 0), (5, pp b35 0), (6, pp b40 0), (7, i6 v191), (8, .int .u16 v211), (9, .int .u16 (rd v15 ((IntKind.i64.wrap (2 * v191)).toNat))), (10, .int .u16 v232), (11, .int .u16 (rd v19 ((IntKind.i64.wrap (2 * v191)).toNat))), (12, .int .u16 (rd v19 ((IntKind.i64.wrap ((IntKind.i64.wrap (2 * v191)) + 1)).toNat))), (18, i6 v191)]) (Fr.pick [2, 3, 4, 5, 6, 7, 8, 9, 10, 11, 12, 18] (by kernel_rfl) hF81) (M := [(2, pp b10 0), (3, pp b13 0), (4, pp b16 0), (5, pp b35 0), (6, pp b40 0), (7, i6 v191), (8, .int .u16 v211), (9, .int .u16 (rd v15 ((IntKind.i64.wrap (2 * v191)).toNat))), (10, .int .u16 v232), (11, .int .u16 (rd v19 ((IntKind.i64.wrap (2 * v191)).toNat))), (12, .int .u16 v234), (18, i6 v191)]) (by rw [hv_v234])
     refine wp_region_lit ?_
     refine wplp 4 [2, 3, 4, 5, 6, 7, 8, 9, 10, 11, 12, 18, 48, 49, 50] [(2, pp b10 0), (3, pp b13 0), (4, pp b16 0), (5, pp b35 0), (6, pp b40 0), (7, i6 v191), (8, .int .u16 v211), (9, .int .u16 (rd v15 ((IntKind.i64.wrap (2 * v191)).toNat))), (10, .int .u16 v232), (11, .int .u16 (rd v19 ((IntKind.i64.wrap (2 * v191)).toNat))), (12, .int .u16 v234), (18, i6 v191), (48, i6 (IntKind.i64.wrap (2 * v191))), (49, .int .u16 (rd v15 ((IntKind.i64.wrap (2 * v191)).toNat))), (50, .int .u16 (rd v19 ((IntKind.i64.wrap (2 * v191)).toNat)))] hF82 (fun a83 hF83 => ?_)
     obtain ⟨v237, hb84, h⟩ := bind_ok h
     refine wpl_one hF83 (by kernel_rfl) (wp_callR hF83 (by kernel_rfl) (g := 64) (args := #[.int .u16 (rd v15 ((IntKind.i64.wrap (2 * v191)).toNat)), .int .u16 (rd v19 ((IntKind.i64.wrap (2 * v191)).toNat))]) (by kernel_rfl) (i_ring_times_ok (rd v15 ((IntKind.i64.wrap (2 * v191)).toNat)) (rd v19 ((IntKind.i64.wrap (2 * v191)).toNat)) v237 hb84) (fun vr w85 hp => ?_))
     obtain ⟨rfl, hS86⟩ := hp
     replace hS86 := St.call hS65 hS86 rfl
     refine go_fr (hF83.next (.int .u16 v237) [2, 3, 4, 5, 6, 7, 8, 9, 10, 11, 12, 18, 48, 51] (M := [(2, pp b10 0), (3, pp b13 0), (4, pp b16 0), (5, pp b35 0), (6, pp b40 0), (7, i6 v191), (8, .int .u16 v211), (9, .int .u16 (rd v15 ((IntKind.i64.wrap (2 * v191)).toNat))), (10, .int .u16 v232), (11, .int .u16 (rd v19 ((IntKind.i64.wrap (2 * v191)).toNat))), (12, .int .u16 v234), (18, i6 v191), (48, i6 (IntKind.i64.wrap (2 * v191))), (51, .int .u16 v237)]) (by kernel_rfl)) (fun a86 hF86 => ?_)
     refine wplp 2 [2, 3, 4, 5, 6, 7, 8, 9, 10, 11, 12, 18, 48, 51, 52, 53] [(2, pp b10 0), (3, pp b13 0), (4, pp b16 0), (5, pp b35 0), (6, pp b40 0), (7, i6 v191), (8, .int .u16 v211), (9, .int .u16 (rd v15 ((IntKind.i64.wrap (2 * v191)).toNat))), (10, .int .u16 v232), (11, .int .u16 (rd v19 ((IntKind.i64.wrap (2 * v191)).toNat))), (12, .int .u16 v234), (18, i6 v191), (48, i6 (IntKind.i64.wrap (2 * v191))), (51, .int .u16 v237), (52, .int .u16 v232), (53, .int .u16 v234)] hF86 (fun a87 hF87 => ?_)
     obtain ⟨v242, hb88, h⟩ := bind_ok h
     refine wpl_one hF87 (by kernel_rfl) (wp_callR hF87 (by kernel_rfl) (g := 64) (args := #[.int .u16 v232, .int .u16 v234]) (by kernel_rfl) (i_ring_times_ok v232 v234 v242 hb88) (fun vr w89 hp => ?_))
     obtain ⟨rfl, hS90⟩ := hp
     replace hS90 := St.call hS86 hS90 rfl
     refine go_fr (hF87.next (.int .u16 v242) [2, 3, 4, 5, 6, 7, 8, 9, 10, 11, 12, 18, 48, 51, 54] (M := [(2, pp b10 0), (3, pp b13 0), (4, pp b16 0), (5, pp b35 0), (6, pp b40 0), (7, i6 v191), (8, .int .u16 v211), (9, .int .u16 (rd v15 ((IntKind.i64.wrap (2 * v191)).toNat))), (10, .int .u16 v232), (11, .int .u16 (rd v19 ((IntKind.i64.wrap (2 * v191)).toNat))), (12, .int .u16 v234), (18, i6 v191), (48, i6 (IntKind.i64.wrap (2 * v191))), (51, .int .u16 v237), (54, .int .u16 v242)]) (by kernel_rfl)) (fun a90 hF90 => ?_)
     refine wplp 1 [2, 3, 4, 5, 6, 7, 9, 10, 11, 12, 18, 48, 51, 54, 55] [(2, pp b10 0), (3, pp b13 0), (4, pp b16 0), (5, pp b35 0), (6, pp b40 0), (7, i6 v191), (9, .int .u16 (rd v15 ((IntKind.i64.wrap (2 * v191)).toNat))), (10, .int .u16 v232), (11, .int .u16 (rd v19 ((IntKind.i64.wrap (2 * v191)).toNat))), (12, .int .u16 v234), (18, i6 v191), (48, i6 (IntKind.i64.wrap (2 * v191))), (51, .int .u16 v237), (54, .int .u16 v242), (55, .int .u16 v211)] hF90 (fun a91 hF91 => ?_)
     obtain ⟨v247, hb92, h⟩ := bind_ok h
     refine wpl_one hF91 (by kernel_rfl) (wp_callR hF91 (by kernel_rfl) (g := 64) (args := #[.int .u16 v242, .int .u16 v211]) (by kernel_rfl) (i_ring_times_ok v242 v211 v247 hb92) (fun vr w93 hp => ?_))
     obtain ⟨rfl, hS94⟩ := hp
     replace hS94 := St.call hS90 hS94 rfl
     refine go_fr (hF91.next (.int .u16 v247) [2, 3, 4, 5, 6, 7, 9, 10, 11, 12, 18, 48, 51, 56] (M := [(2, pp b10 0), (3, pp b13 0), (4, pp b16 0), (5, pp b35 0), (6, pp b40 0), (7, i6 v191), (9, .int .u16 (rd v15 ((IntKind.i64.wrap (2 * v191)).toNat))), (10, .int .u16 v232), (11, .int .u16 (rd v19 ((IntKind.i64.wrap (2 * v191)).toNat))), (12, .int .u16 v234), (18, i6 v191), (48, i6 (IntKind.i64.wrap (2 * v191))), (51, .int .u16 v237), (56, .int .u16 v247)]) (by kernel_rfl)) (fun a94 hF94 => ?_)
     refine wplp 2 [2, 3, 4, 5, 6, 7, 9, 10, 11, 12, 18, 48, 58] [(2, pp b10 0), (3, pp b13 0), (4, pp b16 0), (5, pp b35 0), (6, pp b40 0), (7, i6 v191), (9, .int .u16 (rd v15 ((IntKind.i64.wrap (2 * v191)).toNat))), (10, .int .u16 v232), (11, .int .u16 (rd v19 ((IntKind.i64.wrap (2 * v191)).toNat))), (12, .int .u16 v234), (18, i6 v191), (48, i6 (IntKind.i64.wrap (2 * v191))), (58, .int .u16 ((IntKind.u16.wrap (v237 + v247)).tmod 3329))] hF94 (fun a95 hF95 => ?_)
     obtain ⟨hg96, h⟩ := gd_ok h
     refine wpl_val hF95 (by kernel_rfl) (v := pp b40 ((IntKind.i64.wrap (2 * v191)).toNat)) (run_indexA rfl (b := b40) (off := 0) hF95.e (k := .i64) (i := (IntKind.i64.wrap (2 * v191))) hF95.e (len := 256) (E := 23) (by kernel_rfl) (s := 1) (by kernel_rfl) (inb_ok hg96) (r := (IntKind.i64.wrap (2 * v191)).toNat) (by simp only [Nat.zero_add, Nat.mul_one])) (by kernel_rfl) (fun a97 hF97 => ?_)
     refine wpl_one hF97 (by kernel_rfl) (wp_store1 hF97 hS94 rfl 0 rfl (off := (IntKind.i64.wrap (2 * v191)).toNat) (v := .int .u16 ((IntKind.u16.wrap (v237 + v247)).tmod 3329)) (by kernel_rfl) rfl rfl (.ic (lt_len (inb_nat hg96) hl_v190)) (L' := [.blk b40 (ic .u16 (v190.set ((IntKind.i64.wrap (2 * v191)).toNat) ((IntKind.u16.wrap (v237 + v247)).tmod 3329))) 61, .blk b35 (ic .u16 v27) 98, .blk b16 (ic .u16 (rz 256)) 61, .blk b13 (ic .u16 v19) 61, .blk b10 (ic .u16 v15) 61]) rfl (fun w98 a99 hS99 hF99 => ?_))
     obtain ⟨v256, hv_v256, h⟩ := nm_ok h
     have hl_v256 : v256.length = 256 := (congrArg List.length hv_v256).trans (len_is ((v190.set ((IntKind.i64.wrap (2 * v191)).toNat) ((IntKind.u16.wrap (v237 + v247)).tmod 3329))) (n := 256) (List.length_set.trans hl_v190))
     have hS100 := St.eqv (M := [.blk b40 (ic .u16 v256) 61, .blk b35 (ic .u16 v27) 98, .blk b16 (ic .u16 (rz 256)) 61, .blk b13 (ic .u16 v19) 61, .blk b10 (ic .u16 v15) 61]) hS99 (by rw [hv_v256])
     refine wpList_nil (then_n (wp_region_lit ?_))
     refine wplp 5 [2, 3, 4, 5, 6, 10, 11, 18, 62, 63, 64] [(2, pp b10 0), (3, pp b13 0), (4, pp b16 0), (5, pp b35 0), (6, pp b40 0), (10, .int .u16 v232), (11, .int .u16 (rd v19 ((IntKind.i64.wrap (2 * v191)).toNat))), (18, i6 v191), (62, i6 (IntKind.i64.wrap ((IntKind.i64.wrap (2 * v191)) + 1))), (63, .int .u16 (rd v15 ((IntKind.i64.wrap (2 * v191)).toNat))), (64, .int .u16 v234)] hF99 (fun a101 hF101 => ?_)
     obtain ⟨v259, hb102, h⟩ := bind_ok h
     refine wpl_one hF101 (by kernel_rfl) (wp_callR hF101 (by kernel_rfl) (g := 64) (args := #[.int .u16 (rd v15 ((IntKind.i64.wrap (2 * v191)).toNat)), .int .u16 v234]) (by kernel_rfl) (i_ring_times_ok (rd v15 ((IntKind.i64.wrap (2 * v191)).toNat)) v234 v259 hb102) (fun vr w103 hp => ?_))
     obtain ⟨rfl, hS104⟩ := hp
     replace hS104 := St.call hS100 hS104 rfl
     refine go_fr (hF101.next (.int .u16 v259) [2, 3, 4, 5, 6, 10, 11, 18, 62, 65] (M := [(2, pp b10 0), (3, pp b13 0), (4, pp b16 0), (5, pp b35 0), (6, pp b40 0), (10, .int .u16 v232), (11, .int .u16 (rd v19 ((IntKind.i64.wrap (2 * v191)).toNat))), (18, i6 v191), (62, i6 (IntKind.i64.wrap ((IntKind.i64.wrap (2 * v191)) + 1))), (65, .int .u16 v259)]) (by kernel_rfl)) (fun a104 hF104 => ?_)
     refine wplp 2 [2, 3, 4, 5, 6, 18, 62, 65, 66, 67] [(2, pp b10 0), (3, pp b13 0), (4, pp b16 0), (5, pp b35 0), (6, pp b40 0), (18, i6 v191), (62, i6 (IntKind.i64.wrap ((IntKind.i64.wrap (2 * v191)) + 1))), (65, .int .u16 v259), (66, .int .u16 v232), (67, .int .u16 (rd v19 ((IntKind.i64.wrap (2 * v191)).toNat)))] hF104 (fun a105 hF105 => ?_)
     obtain ⟨v264, hb106, h⟩ := bind_ok h
     refine wpl_one hF105 (by kernel_rfl) (wp_callR hF105 (by kernel_rfl) (g := 64) (args := #[.int .u16 v232, .int .u16 (rd v19 ((IntKind.i64.wrap (2 * v191)).toNat))]) (by kernel_rfl) (i_ring_times_ok v232 (rd v19 ((IntKind.i64.wrap (2 * v191)).toNat)) v264 hb106) (fun vr w107 hp => ?_))
     obtain ⟨rfl, hS108⟩ := hp
     replace hS108 := St.call hS104 hS108 rfl
     refine go_fr (hF105.next (.int .u16 v264) [2, 3, 4, 5, 6, 18, 62, 65, 68] (M := [(2, pp b10 0), (3, pp b13 0), (4, pp b16 0), (5, pp b35 0), (6, pp b40 0), (18, i6 v191), (62, i6 (IntKind.i64.wrap ((IntKind.i64.wrap (2 * v191)) + 1))), (65, .int .u16 v259), (68, .int .u16 v264)]) (by kernel_rfl)) (fun a108 hF108 => ?_)
     refine wplp 2 [2, 3, 4, 5, 6, 18, 62, 70] [(2, pp b10 0), (3, pp b13 0), (4, pp b16 0), (5, pp b35 0), (6, pp b40 0), (18, i6 v191), (62, i6 (IntKind.i64.wrap ((IntKind.i64.wrap (2 * v191)) + 1))), (70, .int .u16 ((IntKind.u16.wrap (v259 + v264)).tmod 3329))] hF108 (fun a109 hF109 => ?_)
     obtain ⟨hg110, h⟩ := gd_ok h
     refine wpl_val hF109 (by kernel_rfl) (v := pp b40 ((IntKind.i64.wrap ((IntKind.i64.wrap (2 * v191)) + 1)).toNat)) (run_indexA rfl (b := b40) (off := 0) hF109.e (k := .i64) (i := (IntKind.i64.wrap ((IntKind.i64.wrap (2 * v191)) + 1))) hF109.e (len := 256) (E := 23) (by kernel_rfl) (s := 1) (by kernel_rfl) (inb_ok hg110) (r := (IntKind.i64.wrap ((IntKind.i64.wrap (2 * v191)) + 1)).toNat) (by simp only [Nat.zero_add, Nat.mul_one])) (by kernel_rfl) (fun a111 hF111 => ?_)
     refine wpl_one hF111 (by kernel_rfl) (wp_store1 hF111 hS108 rfl 0 rfl (off := (IntKind.i64.wrap ((IntKind.i64.wrap (2 * v191)) + 1)).toNat) (v := .int .u16 ((IntKind.u16.wrap (v259 + v264)).tmod 3329)) (by kernel_rfl) rfl rfl (.ic (lt_len (inb_nat hg110) hl_v256)) (L' := [.blk b40 (ic .u16 (v256.set ((IntKind.i64.wrap ((IntKind.i64.wrap (2 * v191)) + 1)).toNat) ((IntKind.u16.wrap (v259 + v264)).tmod 3329))) 61, .blk b35 (ic .u16 v27) 98, .blk b16 (ic .u16 (rz 256)) 61, .blk b13 (ic .u16 v19) 61, .blk b10 (ic .u16 v15) 61]) rfl (fun w112 a113 hS113 hF113 => ?_))
     obtain ⟨v273, hv_v273, h⟩ := nm_ok h
     have hl_v273 : v273.length = 256 := (congrArg List.length hv_v273).trans (len_is ((v256.set ((IntKind.i64.wrap ((IntKind.i64.wrap (2 * v191)) + 1)).toNat) ((IntKind.u16.wrap (v259 + v264)).tmod 3329))) (n := 256) (List.length_set.trans hl_v256))
     have hS114 := St.eqv (M := [.blk b40 (ic .u16 v273) 61, .blk b35 (ic .u16 v27) 98, .blk b16 (ic .u16 (rz 256)) 61, .blk b13 (ic .u16 v19) 61, .blk b10 (ic .u16 v15) 61]) hS113 (by rw [hv_v273])
     refine wpList_nil (blk_n (then_n (wp_region_lit ?_)))
     refine wplp 2 [2, 3, 4, 5, 6, 18] [(2, pp b10 0), (3, pp b13 0), (4, pp b16 0), (5, pp b35 0), (6, pp b40 0), (18, i6 (IntKind.i64.wrap (v191 + 1)))] hF113 (fun a115 hF115 => (wpList_nil ?_))
     exact ⟨k46, Nat.lt_succ_self _, v273, (IntKind.i64.wrap (v191 + 1)), h, Fr.pick [2, 3, 4, 5, 6, 18] (by kernel_rfl) hF115, hS114.sub (.cons_cons _ (.cons_cons _ (.cons_cons _ (.cons_cons _ (.cons_cons _ (.slnil)))))), hl_v273⟩
    ·
     have h := if_f ht49 hr46
     refine wp_exit ?_
     refine then_x (then_x (cut_x ?_))
     have hr := Option.some.inj h
     subst hr
     exact ⟨_, rfl, Fr.pick [4, 6] (by kernel_rfl) hF48, hS46.sub (.cons_cons _ (.cons_cons _ (.cons_cons _ (.cons_cons _ (.cons_cons _ (.slnil)))))), hl_v190⟩
  ·
   rintro a116 w117 ⟨v192, hev, hF116, hS116, hl_v192⟩
   subst hev
   refine then_n (wp_seq (wp_region_lit ?_))
   refine wpl_val hF116 (by kernel_rfl) (v := .agg (ic .u16 v192).toArray) (run_loadR rfl (b := b40) (off := 0) hF116.e (by kernel_rfl) (k := 256) (by kernel_rfl) (((ic_len _ _).trans hl_v192) : (ic .u16 v192).length = 256) (hS116.all 0 rfl)) (by kernel_rfl) (fun a118 hF118 => ?_)
   refine wpl_one hF118 (by kernel_rfl) (wp_store hF118 hS116 rfl 2 rfl (off := 0) (by kernel_rfl) (v := .agg (ic .u16 v192).toArray) (by kernel_rfl) (vs := ic .u16 v192) rfl (k := 256) (by kernel_rfl) (((ic_len _ _).trans hl_v192) : (ic .u16 v192).length = 256) (by have h2 := (((ic_len _ _).trans (len_is (rz 256) (n := 256) (List.length_replicate))) : (ic .u16 (rz 256)).length = 256); omega) (ic_one _ _) (cs' := ic .u16 v192) ((upd_ic _ _ _ _).trans (congrArg (ic .u16) (upd_all ((hl_v192).trans ((len_is (rz 256) (n := 256) (List.length_replicate))).symm)))) (by kernel_rfl) (L' := [.blk b40 (ic .u16 v192) 61, .blk b35 (ic .u16 v27) 98, .blk b16 (ic .u16 v192) 61, .blk b13 (ic .u16 v19) 61, .blk b10 (ic .u16 v15) 61]) rfl (fun w119 a120 hS120 hF120 => (wpList_nil (then_n (wp_ret (ret_ok hF120 [.agg (ic .u16 v192).toArray] (⟨⟨⟨b16, 0, none⟩, by kernel_rfl, loadVarR (by kernel_rfl) (k := 256) (by kernel_rfl) (((ic_len _ _).trans hl_v192) : (ic .u16 v192).length = 256) (hS120.all 2 rfl)⟩, trivial⟩) ?_))))))
   have hr0 := Option.some.inj h
   subst hr0
   exact ⟨rfl, hS120.sub (List.nil_sublist _), hl_v192⟩
def i_kem_row_times (v1 : List Int) (v2 : List Int) (v3 : List Int) (v4 : List Int) (v5 : List Int) (v6 : List Int) : Option (List Int) :=
  ((i_ring_MulNtt v1 v4).bind fun v210 => ((i_ring_Add (List.replicate 256 (0 : Int)) v210).bind fun v214 => ((i_ring_MulNtt v2 v5).bind fun v230 => ((i_ring_Add v214 v230).bind fun v234 => ((i_ring_MulNtt v3 v6).bind fun v250 => ((i_ring_Add v234 v250).bind fun v254 => some v254))))))
theorem i_kem_row_times_ok (v1 : List Int) (v2 : List Int) (v3 : List Int) (v4 : List Int) (v5 : List Int) (v6 : List Int) {w : World} (hl_v1 : v1.length = 256) (hl_v2 : v2.length = 256) (hl_v3 : v3.length = 256) (hl_v4 : v4.length = 256) (hl_v5 : v5.length = 256) (hl_v6 : v6.length = 256) (c0 : List Int) (h : i_kem_row_times v1 v2 v3 v4 v5 v6 = some c0) : Calls Try.prog 36 #[.agg (ic .u16 v1 ++ (ic .u16 v2 ++ (ic .u16 v3))).toArray, .agg (ic .u16 v4 ++ (ic .u16 v5 ++ (ic .u16 v6))).toArray] w (Ret (fun v w' => v = .agg (ic .u16 c0).toArray ∧ St w w' [] ∧ c0.length = 256)) := by
  unfold i_kem_row_times at h
  refine calls_of_wp Try.func36 rfl ?_
  have hF := Fr.start (#[.agg (ic .u16 v1 ++ (ic .u16 v2 ++ (ic .u16 v3))).toArray, .agg (ic .u16 v4 ++ (ic .u16 v5 ++ (ic .u16 v6))).toArray] : Array Value) 19 21 [(0, .agg (ic .u16 v1 ++ (ic .u16 v2 ++ (ic .u16 v3))).toArray), (1, .agg (ic .u16 v4 ++ (ic .u16 v5 ++ (ic .u16 v6))).toArray)] rfl (by kernel_rfl)
  have hS := St.nil w
  refine go_fr hF (fun a hF => (wp_seq (wp_region_lit ?_)))
  refine wpl_one hF (by kernel_rfl) (wp_box hF hS rfl (v := .agg (ic .u16 v1 ++ (ic .u16 v2 ++ (ic .u16 v3))).toArray) (by kernel_rfl) (ic .u16 v1 ++ (ic .u16 v2 ++ (ic .u16 v3))) rfl (by kernel_rfl) (fun b10 w11 a12 hS12 hF12 => ?_))
  refine wpl_one hF12 (by kernel_rfl) (wp_box hF12 hS12 rfl (v := .agg (ic .u16 v4 ++ (ic .u16 v5 ++ (ic .u16 v6))).toArray) (by kernel_rfl) (ic .u16 v4 ++ (ic .u16 v5 ++ (ic .u16 v6))) rfl (by kernel_rfl) (fun b13 w14 a15 hS15 hF15 => ?_))
  refine wpl_one hF15 (by kernel_rfl) (wp_alloc hF15 hS15 rfl (z := .agg (ic .u16 (rz 256)).toArray) (by kernel_rfl) (ic .u16 (rz 256)) rfl (by kernel_rfl) (fun b16 w17 a18 hS18 hF18 => (wpList_nil (then_n (wp_seq (wp_region_lit ?_))))))
  refine wpl_one hF18 (by kernel_rfl) (wp_alloc hF18 hS18 rfl (z := .agg (ic .u16 (rz 256)).toArray) (by kernel_rfl) (ic .u16 (rz 256)) rfl (by kernel_rfl) (fun b19 w20 a21 hS21 hF21 => (wpList_nil (then_n (wp_seq (wp_seq (wp_region_lit ?_)))))))
  refine wplp 1 [2, 3, 4, 5, 7] [(2, pp b10 0), (3, pp b13 0), (4, pp b16 0), (5, pp b19 0), (7, i6 0)] hF21 (fun a22 hF22 => (wpList_nil (then_n (wp_block (wp_loop_rounds 4 (rounds_go (n := 3) (wp_seq (wp_region_lit ?_))))))))
  refine wplp 1 [2, 3, 4, 5, 7, 8] [(2, pp b10 0), (3, pp b13 0), (4, pp b16 0), (5, pp b19 0), (7, i6 0), (8, .bool true)] hF22 (fun a23 hF23 => (wpList_nil (then_n (wp_seq (wp_cond_true hF23.e (wp_skip (then_n (wp_seq (wp_block (wp_seq (wp_region_lit ?_)))))))))))
  refine wplp 2 [2, 3, 4, 5, 6, 7] [(2, pp b10 0), (3, pp b13 0), (4, pp b16 0), (5, pp b19 0), (6, i6 0), (7, i6 0)] hF23 (fun a24 hF24 => (wpList_nil (then_n (wp_region_noPanic (region_al [9] (fun w' => St w w' [.blk b19 (ic .u16 (rz 256)) 61, .blk b16 (ic .u16 (rz 256)) 61, .blk b13 (ic .u16 v4 ++ (ic .u16 v5 ++ (ic .u16 v6))) 63, .blk b10 (ic .u16 v1 ++ (ic .u16 v2 ++ (ic .u16 v3))) 63]) 10 rfl (by kernel_rfl) ?_)))))
  have hS25 := St.draw1 hS21
  refine al_run (fun _ _ _ _ _ h => h) 8 [1, 4] rfl [2, 3, 4, 5, 7, 11, 14] [(2, pp b10 0), (3, pp b13 0), (4, pp b16 0), (5, pp b19 0), (7, i6 0), (11, i6 0), (14, i6 0)] hF24 (by kernel_rfl) (fun _ => hS25) (fun a26 hF26 => ?_)
  refine al_val (i := 0) rfl (by kernel_rfl) (fun _ _ _ _ h => h) hF26 (by kernel_rfl) (v := .agg (ic .u16 (rz 256)).toArray) (fun _ HS => run_loadR rfl (b := b19) (off := 0) hF26.e (by kernel_rfl) (k := 256) (by kernel_rfl) (((ic_len _ _).trans (len_is (rz 256) (n := 256) (List.length_replicate))) : (ic .u16 (rz 256)).length = 256) (HS.all 0 rfl)) (by kernel_rfl) (hS25.sub (.cons_cons _ (.cons_cons _ (.cons_cons _ (.cons_cons _ (.slnil)))))) (fun a27 hF27 => ?_)
  refine al_any (i := 2) rfl (by kernel_rfl) (fun _ _ _ _ h => h) hF27 (by kernel_rfl) (v := pp b10 0) (fun _ => run_indexA rfl (b := b10) (off := 0) hF27.e (k := .i64) (i := 0) hF27.e (len := 3) (E := 61) (by kernel_rfl) (s := 256) (by kernel_rfl) (by decide) (r := 0) rfl) (by kernel_rfl) (fun _ => hS25) (fun a28 hF28 => ?_)
  refine al_val (i := 3) rfl (by kernel_rfl) (fun _ _ _ _ h => h) hF28 (by kernel_rfl) (v := .agg (ic .u16 v1).toArray) (fun _ HS => run_loadR rfl (b := b10) (off := 0) hF28.e (by kernel_rfl) (k := 256) (by kernel_rfl) (((ic_len _ _).trans hl_v1) : (ic .u16 v1).length = 256) (range_l (HS.all 3 rfl))) (by kernel_rfl) (hS25.sub (.cons_cons _ (.cons_cons _ (.cons_cons _ (.cons_cons _ (.slnil)))))) (fun a29 hF29 => ?_)
  refine al_any (i := 5) rfl (by kernel_rfl) (fun _ _ _ _ h => h) hF29 (by kernel_rfl) (v := pp b13 0) (fun _ => run_indexA rfl (b := b13) (off := 0) hF29.e (k := .i64) (i := 0) hF29.e (len := 3) (E := 61) (by kernel_rfl) (s := 256) (by kernel_rfl) (by decide) (r := 0) rfl) (by kernel_rfl) (fun _ => hS25) (fun a30 hF30 => ?_)
  refine al_val (i := 6) rfl (by kernel_rfl) (fun _ _ _ _ h => h) hF30 (by kernel_rfl) (v := .agg (ic .u16 v4).toArray) (fun _ HS => run_loadR rfl (b := b13) (off := 0) hF30.e (by kernel_rfl) (k := 256) (by kernel_rfl) (((ic_len _ _).trans hl_v4) : (ic .u16 v4).length = 256) (range_l (HS.all 2 rfl))) (by kernel_rfl) (hS25.sub (.cons_cons _ (.cons_cons _ (.cons_cons _ (.cons_cons _ (.slnil)))))) (fun a31 hF31 => ?_)
  obtain ⟨v210, hb32, h⟩ := bind_ok h
  refine al_one (i := 7) rfl (by kernel_rfl) hF31 (by kernel_rfl) (wp_callR hF31 (by kernel_rfl) (g := 58) (args := #[.agg (ic .u16 v1).toArray, .agg (ic .u16 v4).toArray]) (by kernel_rfl) (i_ring_MulNtt_ok v1 v4 hl_v1 hl_v4 v210 hb32) (fun vr w33 hp => ?_))
  obtain ⟨rfl, hS34, hl_v210⟩ := hp
  replace hS34 := St.call hS25 hS34 rfl
  refine And.intro (fun _ => hS34) ?_
  refine go_fr (hF31.next (.agg (ic .u16 v210).toArray) [2, 3, 4, 5, 7, 10, 17] (M := [(2, pp b10 0), (3, pp b13 0), (4, pp b16 0), (5, pp b19 0), (7, i6 0), (10, .agg (ic .u16 (rz 256)).toArray), (17, .agg (ic .u16 v210).toArray)]) (by kernel_rfl)) (fun a34 hF34 => ?_)
  obtain ⟨v214, hb35, h⟩ := bind_ok h
  refine al_one (i := 8) rfl (by kernel_rfl) hF34 (by kernel_rfl) (wp_callR hF34 (by kernel_rfl) (g := 35) (args := #[.agg (ic .u16 (rz 256)).toArray, .agg (ic .u16 v210).toArray]) (by kernel_rfl) (i_ring_Add_ok (rz 256) v210 (len_is (rz 256) (n := 256) (List.length_replicate)) hl_v210 v214 hb35) (fun vr w36 hp => ?_))
  obtain ⟨rfl, hS37, hl_v214⟩ := hp
  replace hS37 := St.call hS34 hS37 rfl
  refine And.intro (fun _ => hS37) ?_
  refine go_fr (hF34.next (.agg (ic .u16 v214).toArray) [2, 3, 4, 5, 7, 18] (M := [(2, pp b10 0), (3, pp b13 0), (4, pp b16 0), (5, pp b19 0), (7, i6 0), (18, .agg (ic .u16 v214).toArray)]) (by kernel_rfl)) (fun a37 hF37 => ?_)
  refine al_one (i := 9) rfl (by kernel_rfl) hF37 (by kernel_rfl) (wp_store hF37 hS37 rfl 0 rfl (off := 0) (by kernel_rfl) (v := .agg (ic .u16 v214).toArray) (by kernel_rfl) (vs := ic .u16 v214) rfl (k := 256) (by kernel_rfl) (((ic_len _ _).trans hl_v214) : (ic .u16 v214).length = 256) (by have h2 := (((ic_len _ _).trans (len_is (rz 256) (n := 256) (List.length_replicate))) : (ic .u16 (rz 256)).length = 256); omega) (ic_one _ _) (cs' := ic .u16 v214) ((upd_ic _ _ _ _).trans (congrArg (ic .u16) (upd_all ((hl_v214).trans ((len_is (rz 256) (n := 256) (List.length_replicate))).symm)))) (by kernel_rfl) (L' := [.blk b19 (ic .u16 v214) 61, .blk b16 (ic .u16 (rz 256)) 61, .blk b13 (ic .u16 v4 ++ (ic .u16 v5 ++ (ic .u16 v6))) 63, .blk b10 (ic .u16 v1 ++ (ic .u16 v2 ++ (ic .u16 v3))) 63]) rfl (fun w38 a39 hS39 hF39 => (And.intro (late_yes (by kernel_rfl)) ?_)))
  refine al_done (by kernel_rfl) ?_ _
  refine NoPanic.normal (blk_n (then_n (wp_region_lit ?_)))
  refine wplp 2 [2, 3, 4, 5, 7] [(2, pp b10 0), (3, pp b13 0), (4, pp b16 0), (5, pp b19 0), (7, i6 1)] hF39 (fun a40 hF40 => (wpList_nil (then_n (rounds_go (n := 2) (wp_seq (wp_region_lit ?_))))))
  refine wplp 1 [2, 3, 4, 5, 7, 8] [(2, pp b10 0), (3, pp b13 0), (4, pp b16 0), (5, pp b19 0), (7, i6 1), (8, .bool true)] hF40 (fun a41 hF41 => (wpList_nil (then_n (wp_seq (wp_cond_true hF41.e (wp_skip (then_n (wp_seq (wp_block (wp_seq (wp_region_lit ?_)))))))))))
  refine wplp 2 [2, 3, 4, 5, 6, 7] [(2, pp b10 0), (3, pp b13 0), (4, pp b16 0), (5, pp b19 0), (6, i6 1), (7, i6 1)] hF41 (fun a42 hF42 => (wpList_nil (then_n (wp_region_noPanic (region_al [9] (fun w' => St w w' [.blk b19 (ic .u16 v214) 61, .blk b16 (ic .u16 (rz 256)) 61, .blk b13 (ic .u16 v4 ++ (ic .u16 v5 ++ (ic .u16 v6))) 63, .blk b10 (ic .u16 v1 ++ (ic .u16 v2 ++ (ic .u16 v3))) 63]) 10 rfl (by kernel_rfl) ?_)))))
  have hS43 := St.draw1 hS39
  refine al_run (fun _ _ _ _ _ h => h) 8 [1, 4] rfl [2, 3, 4, 5, 7, 11, 14] [(2, pp b10 0), (3, pp b13 0), (4, pp b16 0), (5, pp b19 0), (7, i6 1), (11, i6 1), (14, i6 1)] hF42 (by kernel_rfl) (fun _ => hS43) (fun a44 hF44 => ?_)
  refine al_val (i := 0) rfl (by kernel_rfl) (fun _ _ _ _ h => h) hF44 (by kernel_rfl) (v := .agg (ic .u16 v214).toArray) (fun _ HS => run_loadR rfl (b := b19) (off := 0) hF44.e (by kernel_rfl) (k := 256) (by kernel_rfl) (((ic_len _ _).trans hl_v214) : (ic .u16 v214).length = 256) (HS.all 0 rfl)) (by kernel_rfl) (hS43.sub (.cons_cons _ (.cons_cons _ (.cons_cons _ (.cons_cons _ (.slnil)))))) (fun a45 hF45 => ?_)
  refine al_any (i := 2) rfl (by kernel_rfl) (fun _ _ _ _ h => h) hF45 (by kernel_rfl) (v := pp b10 256) (fun _ => run_indexA rfl (b := b10) (off := 0) hF45.e (k := .i64) (i := 1) hF45.e (len := 3) (E := 61) (by kernel_rfl) (s := 256) (by kernel_rfl) (by decide) (r := 256) rfl) (by kernel_rfl) (fun _ => hS43) (fun a46 hF46 => ?_)
  refine al_val (i := 3) rfl (by kernel_rfl) (fun _ _ _ _ h => h) hF46 (by kernel_rfl) (v := .agg (ic .u16 v2).toArray) (fun _ HS => run_loadR rfl (b := b10) (off := 256) hF46.e (by kernel_rfl) (k := 256) (by kernel_rfl) (((ic_len _ _).trans hl_v2) : (ic .u16 v2).length = 256) (range_l (range_r (HS.all 3 rfl) (((ic_len _ _).trans hl_v1) : (ic .u16 v1).length = 256) rfl))) (by kernel_rfl) (hS43.sub (.cons_cons _ (.cons_cons _ (.cons_cons _ (.cons_cons _ (.slnil)))))) (fun a47 hF47 => ?_)
  refine al_any (i := 5) rfl (by kernel_rfl) (fun _ _ _ _ h => h) hF47 (by kernel_rfl) (v := pp b13 256) (fun _ => run_indexA rfl (b := b13) (off := 0) hF47.e (k := .i64) (i := 1) hF47.e (len := 3) (E := 61) (by kernel_rfl) (s := 256) (by kernel_rfl) (by decide) (r := 256) rfl) (by kernel_rfl) (fun _ => hS43) (fun a48 hF48 => ?_)
  refine al_val (i := 6) rfl (by kernel_rfl) (fun _ _ _ _ h => h) hF48 (by kernel_rfl) (v := .agg (ic .u16 v5).toArray) (fun _ HS => run_loadR rfl (b := b13) (off := 256) hF48.e (by kernel_rfl) (k := 256) (by kernel_rfl) (((ic_len _ _).trans hl_v5) : (ic .u16 v5).length = 256) (range_l (range_r (HS.all 2 rfl) (((ic_len _ _).trans hl_v4) : (ic .u16 v4).length = 256) rfl))) (by kernel_rfl) (hS43.sub (.cons_cons _ (.cons_cons _ (.cons_cons _ (.cons_cons _ (.slnil)))))) (fun a49 hF49 => ?_)
  obtain ⟨v230, hb50, h⟩ := bind_ok h
  refine al_one (i := 7) rfl (by kernel_rfl) hF49 (by kernel_rfl) (wp_callR hF49 (by kernel_rfl) (g := 58) (args := #[.agg (ic .u16 v2).toArray, .agg (ic .u16 v5).toArray]) (by kernel_rfl) (i_ring_MulNtt_ok v2 v5 hl_v2 hl_v5 v230 hb50) (fun vr w51 hp => ?_))
  obtain ⟨rfl, hS52, hl_v230⟩ := hp
  replace hS52 := St.call hS43 hS52 rfl
  refine And.intro (fun _ => hS52) ?_
  refine go_fr (hF49.next (.agg (ic .u16 v230).toArray) [2, 3, 4, 5, 7, 10, 17] (M := [(2, pp b10 0), (3, pp b13 0), (4, pp b16 0), (5, pp b19 0), (7, i6 1), (10, .agg (ic .u16 v214).toArray), (17, .agg (ic .u16 v230).toArray)]) (by kernel_rfl)) (fun a52 hF52 => ?_)
  obtain ⟨v234, hb53, h⟩ := bind_ok h
  refine al_one (i := 8) rfl (by kernel_rfl) hF52 (by kernel_rfl) (wp_callR hF52 (by kernel_rfl) (g := 35) (args := #[.agg (ic .u16 v214).toArray, .agg (ic .u16 v230).toArray]) (by kernel_rfl) (i_ring_Add_ok v214 v230 hl_v214 hl_v230 v234 hb53) (fun vr w54 hp => ?_))
  obtain ⟨rfl, hS55, hl_v234⟩ := hp
  replace hS55 := St.call hS52 hS55 rfl
  refine And.intro (fun _ => hS55) ?_
  refine go_fr (hF52.next (.agg (ic .u16 v234).toArray) [2, 3, 4, 5, 7, 18] (M := [(2, pp b10 0), (3, pp b13 0), (4, pp b16 0), (5, pp b19 0), (7, i6 1), (18, .agg (ic .u16 v234).toArray)]) (by kernel_rfl)) (fun a55 hF55 => ?_)
  refine al_one (i := 9) rfl (by kernel_rfl) hF55 (by kernel_rfl) (wp_store hF55 hS55 rfl 0 rfl (off := 0) (by kernel_rfl) (v := .agg (ic .u16 v234).toArray) (by kernel_rfl) (vs := ic .u16 v234) rfl (k := 256) (by kernel_rfl) (((ic_len _ _).trans hl_v234) : (ic .u16 v234).length = 256) (by have h2 := (((ic_len _ _).trans hl_v214) : (ic .u16 v214).length = 256); omega) (ic_one _ _) (cs' := ic .u16 v234) ((upd_ic _ _ _ _).trans (congrArg (ic .u16) (upd_all ((hl_v234).trans (hl_v214).symm)))) (by kernel_rfl) (L' := [.blk b19 (ic .u16 v234) 61, .blk b16 (ic .u16 (rz 256)) 61, .blk b13 (ic .u16 v4 ++ (ic .u16 v5 ++ (ic .u16 v6))) 63, .blk b10 (ic .u16 v1 ++ (ic .u16 v2 ++ (ic .u16 v3))) 63]) rfl (fun w56 a57 hS57 hF57 => (And.intro (late_yes (by kernel_rfl)) ?_)))
  refine al_done (by kernel_rfl) ?_ _
  refine NoPanic.normal (blk_n (then_n (wp_region_lit ?_)))
  refine wplp 2 [2, 3, 4, 5, 7] [(2, pp b10 0), (3, pp b13 0), (4, pp b16 0), (5, pp b19 0), (7, i6 2)] hF57 (fun a58 hF58 => (wpList_nil (then_n (rounds_go (n := 1) (wp_seq (wp_region_lit ?_))))))
  refine wplp 1 [2, 3, 4, 5, 7, 8] [(2, pp b10 0), (3, pp b13 0), (4, pp b16 0), (5, pp b19 0), (7, i6 2), (8, .bool true)] hF58 (fun a59 hF59 => (wpList_nil (then_n (wp_seq (wp_cond_true hF59.e (wp_skip (then_n (wp_seq (wp_block (wp_seq (wp_region_lit ?_)))))))))))
  refine wplp 2 [2, 3, 4, 5, 6, 7] [(2, pp b10 0), (3, pp b13 0), (4, pp b16 0), (5, pp b19 0), (6, i6 2), (7, i6 2)] hF59 (fun a60 hF60 => (wpList_nil (then_n (wp_region_noPanic (region_al [9] (fun w' => St w w' [.blk b19 (ic .u16 v234) 61, .blk b16 (ic .u16 (rz 256)) 61, .blk b13 (ic .u16 v4 ++ (ic .u16 v5 ++ (ic .u16 v6))) 63, .blk b10 (ic .u16 v1 ++ (ic .u16 v2 ++ (ic .u16 v3))) 63]) 10 rfl (by kernel_rfl) ?_)))))
  have hS61 := St.draw1 hS57
  refine al_run (fun _ _ _ _ _ h => h) 8 [1, 4] rfl [2, 3, 4, 5, 7, 11, 14] [(2, pp b10 0), (3, pp b13 0), (4, pp b16 0), (5, pp b19 0), (7, i6 2), (11, i6 2), (14, i6 2)] hF60 (by kernel_rfl) (fun _ => hS61) (fun a62 hF62 => ?_)
  refine al_val (i := 0) rfl (by kernel_rfl) (fun _ _ _ _ h => h) hF62 (by kernel_rfl) (v := .agg (ic .u16 v234).toArray) (fun _ HS => run_loadR rfl (b := b19) (off := 0) hF62.e (by kernel_rfl) (k := 256) (by kernel_rfl) (((ic_len _ _).trans hl_v234) : (ic .u16 v234).length = 256) (HS.all 0 rfl)) (by kernel_rfl) (hS61.sub (.cons_cons _ (.cons_cons _ (.cons_cons _ (.cons_cons _ (.slnil)))))) (fun a63 hF63 => ?_)
  refine al_any (i := 2) rfl (by kernel_rfl) (fun _ _ _ _ h => h) hF63 (by kernel_rfl) (v := pp b10 512) (fun _ => run_indexA rfl (b := b10) (off := 0) hF63.e (k := .i64) (i := 2) hF63.e (len := 3) (E := 61) (by kernel_rfl) (s := 256) (by kernel_rfl) (by decide) (r := 512) rfl) (by kernel_rfl) (fun _ => hS61) (fun a64 hF64 => ?_)
  refine al_val (i := 3) rfl (by kernel_rfl) (fun _ _ _ _ h => h) hF64 (by kernel_rfl) (v := .agg (ic .u16 v3).toArray) (fun _ HS => run_loadR rfl (b := b10) (off := 512) hF64.e (by kernel_rfl) (k := 256) (by kernel_rfl) (((ic_len _ _).trans hl_v3) : (ic .u16 v3).length = 256) (range_r (range_r (HS.all 3 rfl) (((ic_len _ _).trans hl_v1) : (ic .u16 v1).length = 256) rfl) (((ic_len _ _).trans hl_v2) : (ic .u16 v2).length = 256) rfl)) (by kernel_rfl) (hS61.sub (.cons_cons _ (.cons_cons _ (.cons_cons _ (.cons_cons _ (.slnil)))))) (fun a65 hF65 => ?_)
  refine al_any (i := 5) rfl (by kernel_rfl) (fun _ _ _ _ h => h) hF65 (by kernel_rfl) (v := pp b13 512) (fun _ => run_indexA rfl (b := b13) (off := 0) hF65.e (k := .i64) (i := 2) hF65.e (len := 3) (E := 61) (by kernel_rfl) (s := 256) (by kernel_rfl) (by decide) (r := 512) rfl) (by kernel_rfl) (fun _ => hS61) (fun a66 hF66 => ?_)
  refine al_val (i := 6) rfl (by kernel_rfl) (fun _ _ _ _ h => h) hF66 (by kernel_rfl) (v := .agg (ic .u16 v6).toArray) (fun _ HS => run_loadR rfl (b := b13) (off := 512) hF66.e (by kernel_rfl) (k := 256) (by kernel_rfl) (((ic_len _ _).trans hl_v6) : (ic .u16 v6).length = 256) (range_r (range_r (HS.all 2 rfl) (((ic_len _ _).trans hl_v4) : (ic .u16 v4).length = 256) rfl) (((ic_len _ _).trans hl_v5) : (ic .u16 v5).length = 256) rfl)) (by kernel_rfl) (hS61.sub (.cons_cons _ (.cons_cons _ (.cons_cons _ (.cons_cons _ (.slnil)))))) (fun a67 hF67 => ?_)
  obtain ⟨v250, hb68, h⟩ := bind_ok h
  refine al_one (i := 7) rfl (by kernel_rfl) hF67 (by kernel_rfl) (wp_callR hF67 (by kernel_rfl) (g := 58) (args := #[.agg (ic .u16 v3).toArray, .agg (ic .u16 v6).toArray]) (by kernel_rfl) (i_ring_MulNtt_ok v3 v6 hl_v3 hl_v6 v250 hb68) (fun vr w69 hp => ?_))
  obtain ⟨rfl, hS70, hl_v250⟩ := hp
  replace hS70 := St.call hS61 hS70 rfl
  refine And.intro (fun _ => hS70) ?_
  refine go_fr (hF67.next (.agg (ic .u16 v250).toArray) [2, 3, 4, 5, 7, 10, 17] (M := [(2, pp b10 0), (3, pp b13 0), (4, pp b16 0), (5, pp b19 0), (7, i6 2), (10, .agg (ic .u16 v234).toArray), (17, .agg (ic .u16 v250).toArray)]) (by kernel_rfl)) (fun a70 hF70 => ?_)
  obtain ⟨v254, hb71, h⟩ := bind_ok h
  refine al_one (i := 8) rfl (by kernel_rfl) hF70 (by kernel_rfl) (wp_callR hF70 (by kernel_rfl) (g := 35) (args := #[.agg (ic .u16 v234).toArray, .agg (ic .u16 v250).toArray]) (by kernel_rfl) (i_ring_Add_ok v234 v250 hl_v234 hl_v250 v254 hb71) (fun vr w72 hp => ?_))
  obtain ⟨rfl, hS73, hl_v254⟩ := hp
  replace hS73 := St.call hS70 hS73 rfl
  refine And.intro (fun _ => hS73) ?_
  refine go_fr (hF70.next (.agg (ic .u16 v254).toArray) [2, 3, 4, 5, 7, 18] (M := [(2, pp b10 0), (3, pp b13 0), (4, pp b16 0), (5, pp b19 0), (7, i6 2), (18, .agg (ic .u16 v254).toArray)]) (by kernel_rfl)) (fun a73 hF73 => ?_)
  refine al_one (i := 9) rfl (by kernel_rfl) hF73 (by kernel_rfl) (wp_store hF73 hS73 rfl 0 rfl (off := 0) (by kernel_rfl) (v := .agg (ic .u16 v254).toArray) (by kernel_rfl) (vs := ic .u16 v254) rfl (k := 256) (by kernel_rfl) (((ic_len _ _).trans hl_v254) : (ic .u16 v254).length = 256) (by have h2 := (((ic_len _ _).trans hl_v234) : (ic .u16 v234).length = 256); omega) (ic_one _ _) (cs' := ic .u16 v254) ((upd_ic _ _ _ _).trans (congrArg (ic .u16) (upd_all ((hl_v254).trans (hl_v234).symm)))) (by kernel_rfl) (L' := [.blk b19 (ic .u16 v254) 61, .blk b16 (ic .u16 (rz 256)) 61, .blk b13 (ic .u16 v4 ++ (ic .u16 v5 ++ (ic .u16 v6))) 63, .blk b10 (ic .u16 v1 ++ (ic .u16 v2 ++ (ic .u16 v3))) 63]) rfl (fun w74 a75 hS75 hF75 => (And.intro (late_yes (by kernel_rfl)) ?_)))
  refine al_done (by kernel_rfl) ?_ _
  refine NoPanic.normal (blk_n (then_n (wp_region_lit ?_)))
  refine wplp 2 [2, 3, 4, 5, 7] [(2, pp b10 0), (3, pp b13 0), (4, pp b16 0), (5, pp b19 0), (7, i6 3)] hF75 (fun a76 hF76 => (wpList_nil (then_n (rounds_go (n := 0) (wp_seq (wp_region_lit ?_))))))
  refine wplp 1 [2, 3, 4, 5, 7, 8] [(2, pp b10 0), (3, pp b13 0), (4, pp b16 0), (5, pp b19 0), (7, i6 3), (8, .bool false)] hF76 (fun a77 hF77 => (wpList_nil (then_n (wp_seq (wp_cond_false hF77.e (wp_exit ?_))))))
  refine then_x (then_x (blk_x (then_n (wp_seq (wp_region_lit ?_)))))
  refine wpl_val hF77 (by kernel_rfl) (v := .agg (ic .u16 v254).toArray) (run_loadR rfl (b := b19) (off := 0) hF77.e (by kernel_rfl) (k := 256) (by kernel_rfl) (((ic_len _ _).trans hl_v254) : (ic .u16 v254).length = 256) (hS75.all 0 rfl)) (by kernel_rfl) (fun a78 hF78 => ?_)
  refine wpl_one hF78 (by kernel_rfl) (wp_store hF78 hS75 rfl 1 rfl (off := 0) (by kernel_rfl) (v := .agg (ic .u16 v254).toArray) (by kernel_rfl) (vs := ic .u16 v254) rfl (k := 256) (by kernel_rfl) (((ic_len _ _).trans hl_v254) : (ic .u16 v254).length = 256) (by have h2 := (((ic_len _ _).trans (len_is (rz 256) (n := 256) (List.length_replicate))) : (ic .u16 (rz 256)).length = 256); omega) (ic_one _ _) (cs' := ic .u16 v254) ((upd_ic _ _ _ _).trans (congrArg (ic .u16) (upd_all ((hl_v254).trans ((len_is (rz 256) (n := 256) (List.length_replicate))).symm)))) (by kernel_rfl) (L' := [.blk b19 (ic .u16 v254) 61, .blk b16 (ic .u16 v254) 61, .blk b13 (ic .u16 v4 ++ (ic .u16 v5 ++ (ic .u16 v6))) 63, .blk b10 (ic .u16 v1 ++ (ic .u16 v2 ++ (ic .u16 v3))) 63]) rfl (fun w79 a80 hS80 hF80 => (wpList_nil (then_n (wp_ret (ret_ok hF80 [.agg (ic .u16 v254).toArray] (⟨⟨⟨b16, 0, none⟩, by kernel_rfl, loadVarR (by kernel_rfl) (k := 256) (by kernel_rfl) (((ic_len _ _).trans hl_v254) : (ic .u16 v254).length = 256) (hS80.all 1 rfl)⟩, trivial⟩) ?_))))))
  have hr0 := Option.some.inj h
  subst hr0
  exact ⟨rfl, hS80.sub (List.nil_sublist _), hl_v254⟩
def i_kem_row_encoded (v1 : List Int) (v2 : List Int) (v3 : List Int) : Option (List Int) :=
  ((i_ring_Encode 12 v1).bind fun (v299, v300) => (if (v300 != 0) = true then none else (if decide (0 + v299.length ≤ 1099511627776) = true then ((i_ring_Encode 12 v2).bind fun (v331, v332) => (if (v332 != 0) = true then none else (if decide (v299.length + v331.length ≤ 1099511627776) = true then ((i_ring_Encode 12 v3).bind fun (v362, v363) => (if (v363 != 0) = true then none else (if decide ((v299 ++ v331).length + v362.length ≤ 1099511627776) = true then some ((v299 ++ v331) ++ v362) else none))) else none))) else none)))
theorem i_kem_row_encoded_ok (v1 : List Int) (v2 : List Int) (v3 : List Int) {w : World} (hl_v1 : v1.length = 256) (hl_v2 : v2.length = 256) (hl_v3 : v3.length = 256) (c0 : List Int) (h : i_kem_row_encoded v1 v2 v3 = some c0) : Calls Try.prog 37 #[.agg (ic .u16 v1 ++ (ic .u16 v2 ++ (ic .u16 v3))).toArray] w (Ret (fun v w' => ∃ (o10 : Option Addr) (n10 k10 : Nat), n10 = c0.length ∧ v = .slice o10 n10 k10 ∧ St w w' [.sl o10 n10 k10 1 (ic .u8 c0) 5])) := by
  unfold i_kem_row_encoded at h
  refine calls_of_wp Try.func37 rfl ?_
  have hF := Fr.start (#[.agg (ic .u16 v1 ++ (ic .u16 v2 ++ (ic .u16 v3))).toArray] : Array Value) 18 19 [(0, .agg (ic .u16 v1 ++ (ic .u16 v2 ++ (ic .u16 v3))).toArray)] rfl (by kernel_rfl)
  have hS := St.nil w
  refine go_fr hF (fun a hF => (wp_seq (wp_region_lit ?_)))
  refine wpl_one hF (by kernel_rfl) (wp_box hF hS rfl (v := .agg (ic .u16 v1 ++ (ic .u16 v2 ++ (ic .u16 v3))).toArray) (by kernel_rfl) (ic .u16 v1 ++ (ic .u16 v2 ++ (ic .u16 v3))) rfl (by kernel_rfl) (fun b11 w12 a13 hS13 hF13 => ?_))
  refine wplp 1 [1] [(1, pp b11 0)] hF13 (fun a14 hF14 => (wpList_nil (then_n (wp_seq (wp_region_lit ?_)))))
  refine wplp 1 [1, 3] [(1, pp b11 0), (3, .slice none 0 0)] hF14 (fun a15 hF15 => (wpList_nil (then_n (wp_seq (wp_seq (wp_region_lit ?_))))))
  refine wplp 1 [1, 3, 5] [(1, pp b11 0), (3, .slice none 0 0), (5, i6 0)] hF15 (fun a16 hF16 => (wpList_nil (then_n (wp_block (wp_loop_rounds 4 (rounds_go (n := 3) (wp_seq (wp_region_lit ?_))))))))
  refine wplp 1 [1, 3, 5, 6] [(1, pp b11 0), (3, .slice none 0 0), (5, i6 0), (6, .bool true)] hF16 (fun a17 hF17 => (wpList_nil (then_n (wp_seq (wp_cond_true hF17.e (wp_skip (then_n (wp_seq (wp_block (wp_seq (wp_region_lit ?_)))))))))))
  refine wplp 2 [1, 3, 4, 5] [(1, pp b11 0), (3, .slice none 0 0), (4, i6 0), (5, i6 0)] hF17 (fun a18 hF18 => (wpList_nil (then_n (wp_region_lit ?_))))
  refine wplp 2 [1, 5, 8, 9] [(1, pp b11 0), (5, i6 0), (8, .slice none 0 0), (9, i6 0)] hF18 (fun a19 hF19 => ?_)
  refine wpl_val hF19 (by kernel_rfl) (v := pp b11 0) (run_indexA rfl (b := b11) (off := 0) hF19.e (k := .i64) (i := 0) hF19.e (len := 3) (E := 61) (by kernel_rfl) (s := 256) (by kernel_rfl) (by decide) (r := 0) rfl) (by kernel_rfl) (fun a20 hF20 => ?_)
  refine wpl_val hF20 (by kernel_rfl) (v := .agg (ic .u16 v1).toArray) (run_loadR rfl (b := b11) (off := 0) hF20.e (by kernel_rfl) (k := 256) (by kernel_rfl) (((ic_len _ _).trans hl_v1) : (ic .u16 v1).length = 256) (range_l (hS13.all 0 rfl))) (by kernel_rfl) (fun a21 hF21 => ?_)
  obtain ⟨⟨v299, v300⟩, hb22, h⟩ := bind_ok h
  refine wpl_one hF21 (by kernel_rfl) (wp_callR hF21 (by kernel_rfl) (g := 59) (args := #[i6 12, .agg (ic .u16 v1).toArray]) (by kernel_rfl) (i_ring_Encode_ok 12 v1 hl_v1 v299 v300 hb22) (fun vr w23 hp => ?_))
  obtain ⟨o24, n25, k26, hn_n25, rfl, hS27⟩ := hp
  subst hn_n25
  replace hS27 := St.call hS13 hS27 rfl
  refine go_fr (hF21.next (.tuple #[.slice o24 v299.length k26, i6 v300]) [1, 5, 8, 12] (M := [(1, pp b11 0), (5, i6 0), (8, .slice none 0 0), (12, .tuple #[.slice o24 v299.length k26, i6 v300])]) (by kernel_rfl)) (fun a27 hF27 => ?_)
  refine wplp 2 [1, 5, 8, 13, 14] [(1, pp b11 0), (5, i6 0), (8, .slice none 0 0), (13, .slice o24 v299.length k26), (14, i6 v300)] hF27 (fun a28 hF28 => ?_)
  refine wpl_one hF28 (by kernel_rfl) (wp_inl hF28 (by kernel_rfl) (g := 28) (args := #[.slice o24 v299.length k26, i6 v300]) (by kernel_rfl) (calls_of_wp Try.func28 rfl ?_))
  refine go_fr (Fr.start (#[.slice o24 v299.length k26, i6 v300] : Array Value) 6 8 [(0, .slice o24 v299.length k26), (1, i6 v300)] rfl (by kernel_rfl)) (fun a29 hF29 => (wp_seq (wp_region_lit ?_)))
  refine wplp 1 [0, 1] [(0, .slice o24 v299.length k26), (1, i6 v300)] hF29 (fun a30 hF30 => (wpList_nil (then_n (wp_seq (wp_region_lit ?_)))))
  refine wplp 1 [0, 5] [(0, .slice o24 v299.length k26), (5, i6 v300)] hF30 (fun a31 hF31 => ?_)
  refine wpl_one hF31 (by kernel_rfl) (wp_inl hF31 (by kernel_rfl) (g := 48) (args := #[i6 v300]) (by kernel_rfl) (calls_of_wp Try.func48 rfl ?_))
  refine go_fr (Fr.start (#[i6 v300] : Array Value) 5 6 [(0, i6 v300)] rfl (by kernel_rfl)) (fun a32 hF32 => (wp_seq (wp_region_lit ?_)))
  refine wplp 2 [0, 3] [(0, i6 v300), (3, .bool (v300 != 0))] hF32 (fun a33 hF33 => (wpList_nil (then_n ?_)))
  refine wp_cond_split (t := (v300 != 0)) hF33.e (fun ht34 => ?_) (fun ht34 => ?_)
  ·
   have h := if_t ht34 h
   refine wp_region_lit ?_
   refine wplp 2 [5] [(5, .iface 25 (i6 v300))] hF33 (fun a35 hF35 => ?_)
   cases h
  ·
   have h := if_f ht34 h
   refine wp_skip (end_ok hF33 [] trivial (inl_ret ?_))
   refine go_fr (hF31.next (.tuple #[]) [0] (M := [(0, .slice o24 v299.length k26)]) (by kernel_rfl)) (fun a36 hF36 => (wpList_nil (then_n (wp_seq (wp_region_lit ?_)))))
   refine wplp 2 [4] [(4, .slice o24 v299.length k26)] hF36 (fun a37 hF37 => (wpList_nil (then_n (wp_ret (ret_ok hF37 [.slice o24 v299.length k26] (⟨by kernel_rfl, trivial⟩) (inl_ret ?_))))))
   refine go_fr (hF28.next (.slice o24 v299.length k26) [1, 5, 8, 15] (M := [(1, pp b11 0), (5, i6 0), (8, .slice none 0 0), (15, .slice o24 v299.length k26)]) (by kernel_rfl)) (fun a38 hF38 => ?_)
   have hS39 := St.addnil hS27 1 5
   obtain ⟨hg40, h⟩ := gd_ok h
   refine wpl_one hF38 (by kernel_rfl) (wp_append hF38 hS39 rfl 0 rfl (by kernel_rfl) (ao2 := o24) (m2 := v299.length) (c2 := k26) (by kernel_rfl) (hS39.rdsl 1 rfl) ((ic_len _ _).trans ((len_is (v299) (n := v299.length) rfl) : (v299).length = v299.length)) (ic_one _ _) (by kernel_rfl) (by_ := 1) (by kernel_rfl) (of_decide_eq_true hg40) (by decide) (m' := v299.length) (by have h1 := ((len_is ([] : List Int) (n := 0) rfl) : ([]).length = 0); have h2 := ((len_is (v299) (n := v299.length) rfl) : (v299).length = v299.length); (try simp only [List.length_append, List.length_cons, List.length_nil, List.nil_append] at h1 h2 ⊢) <;> omega) (cs' := ic .u8 v299) (by simp only [ic, List.map_nil, List.nil_append]) (by kernel_rfl) (L' := fun o41 k42 => [.sl o41 v299.length k42 1 (ic .u8 v299) 5, .sl o24 v299.length k26 1 (ic .u8 v299) 5, .blk b11 (ic .u16 v1 ++ (ic .u16 v2 ++ (ic .u16 v3))) 63]) (fun _ _ => rfl) (fun o41 k42 w43 a44 hS44 hF44 => ?_))
   refine wplp 1 [1, 3, 5] [(1, pp b11 0), (3, .slice o41 v299.length k42), (5, i6 0)] hF44 (fun a45 hF45 => (wpList_nil (blk_n (then_n (wp_region_lit ?_)))))
   refine wplp 2 [1, 3, 5] [(1, pp b11 0), (3, .slice o41 v299.length k42), (5, i6 1)] hF45 (fun a46 hF46 => (wpList_nil (then_n (rounds_go (n := 2) (wp_seq (wp_region_lit ?_))))))
   refine wplp 1 [1, 3, 5, 6] [(1, pp b11 0), (3, .slice o41 v299.length k42), (5, i6 1), (6, .bool true)] hF46 (fun a47 hF47 => (wpList_nil (then_n (wp_seq (wp_cond_true hF47.e (wp_skip (then_n (wp_seq (wp_block (wp_seq (wp_region_lit ?_)))))))))))
   refine wplp 2 [1, 3, 4, 5] [(1, pp b11 0), (3, .slice o41 v299.length k42), (4, i6 1), (5, i6 1)] hF47 (fun a48 hF48 => (wpList_nil (then_n (wp_region_lit ?_))))
   refine wplp 2 [1, 5, 8, 9] [(1, pp b11 0), (5, i6 1), (8, .slice o41 v299.length k42), (9, i6 1)] hF48 (fun a49 hF49 => ?_)
   refine wpl_val hF49 (by kernel_rfl) (v := pp b11 256) (run_indexA rfl (b := b11) (off := 0) hF49.e (k := .i64) (i := 1) hF49.e (len := 3) (E := 61) (by kernel_rfl) (s := 256) (by kernel_rfl) (by decide) (r := 256) rfl) (by kernel_rfl) (fun a50 hF50 => ?_)
   refine wpl_val hF50 (by kernel_rfl) (v := .agg (ic .u16 v2).toArray) (run_loadR rfl (b := b11) (off := 256) hF50.e (by kernel_rfl) (k := 256) (by kernel_rfl) (((ic_len _ _).trans hl_v2) : (ic .u16 v2).length = 256) (range_l (range_r (hS44.all 2 rfl) (((ic_len _ _).trans hl_v1) : (ic .u16 v1).length = 256) rfl))) (by kernel_rfl) (fun a51 hF51 => ?_)
   obtain ⟨⟨v331, v332⟩, hb52, h⟩ := bind_ok h
   refine wpl_one hF51 (by kernel_rfl) (wp_callR hF51 (by kernel_rfl) (g := 59) (args := #[i6 12, .agg (ic .u16 v2).toArray]) (by kernel_rfl) (i_ring_Encode_ok 12 v2 hl_v2 v331 v332 hb52) (fun vr w53 hp => ?_))
   obtain ⟨o54, n55, k56, hn_n55, rfl, hS57⟩ := hp
   subst hn_n55
   replace hS57 := St.call hS44 hS57 rfl
   refine go_fr (hF51.next (.tuple #[.slice o54 v331.length k56, i6 v332]) [1, 5, 8, 12] (M := [(1, pp b11 0), (5, i6 1), (8, .slice o41 v299.length k42), (12, .tuple #[.slice o54 v331.length k56, i6 v332])]) (by kernel_rfl)) (fun a57 hF57 => ?_)
   refine wplp 2 [1, 5, 8, 13, 14] [(1, pp b11 0), (5, i6 1), (8, .slice o41 v299.length k42), (13, .slice o54 v331.length k56), (14, i6 v332)] hF57 (fun a58 hF58 => ?_)
   refine wpl_one hF58 (by kernel_rfl) (wp_inl hF58 (by kernel_rfl) (g := 28) (args := #[.slice o54 v331.length k56, i6 v332]) (by kernel_rfl) (calls_of_wp Try.func28 rfl ?_))
   refine go_fr (Fr.start (#[.slice o54 v331.length k56, i6 v332] : Array Value) 6 8 [(0, .slice o54 v331.length k56), (1, i6 v332)] rfl (by kernel_rfl)) (fun a59 hF59 => (wp_seq (wp_region_lit ?_)))
   refine wplp 1 [0, 1] [(0, .slice o54 v331.length k56), (1, i6 v332)] hF59 (fun a60 hF60 => (wpList_nil (then_n (wp_seq (wp_region_lit ?_)))))
   refine wplp 1 [0, 5] [(0, .slice o54 v331.length k56), (5, i6 v332)] hF60 (fun a61 hF61 => ?_)
   refine wpl_one hF61 (by kernel_rfl) (wp_inl hF61 (by kernel_rfl) (g := 48) (args := #[i6 v332]) (by kernel_rfl) (calls_of_wp Try.func48 rfl ?_))
   refine go_fr (Fr.start (#[i6 v332] : Array Value) 5 6 [(0, i6 v332)] rfl (by kernel_rfl)) (fun a62 hF62 => (wp_seq (wp_region_lit ?_)))
   refine wplp 2 [0, 3] [(0, i6 v332), (3, .bool (v332 != 0))] hF62 (fun a63 hF63 => (wpList_nil (then_n ?_)))
   refine wp_cond_split (t := (v332 != 0)) hF63.e (fun ht64 => ?_) (fun ht64 => ?_)
   ·
    have h := if_t ht64 h
    refine wp_region_lit ?_
    refine wplp 2 [5] [(5, .iface 25 (i6 v332))] hF63 (fun a65 hF65 => ?_)
    cases h
   ·
    have h := if_f ht64 h
    refine wp_skip (end_ok hF63 [] trivial (inl_ret ?_))
    refine go_fr (hF61.next (.tuple #[]) [0] (M := [(0, .slice o54 v331.length k56)]) (by kernel_rfl)) (fun a66 hF66 => (wpList_nil (then_n (wp_seq (wp_region_lit ?_)))))
    refine wplp 2 [4] [(4, .slice o54 v331.length k56)] hF66 (fun a67 hF67 => (wpList_nil (then_n (wp_ret (ret_ok hF67 [.slice o54 v331.length k56] (⟨by kernel_rfl, trivial⟩) (inl_ret ?_))))))
    refine go_fr (hF58.next (.slice o54 v331.length k56) [1, 5, 8, 15] (M := [(1, pp b11 0), (5, i6 1), (8, .slice o41 v299.length k42), (15, .slice o54 v331.length k56)]) (by kernel_rfl)) (fun a68 hF68 => ?_)
    obtain ⟨hg69, h⟩ := gd_ok h
    refine wpl_one hF68 (by kernel_rfl) (wp_append hF68 hS57 rfl 1 rfl (by kernel_rfl) (ao2 := o54) (m2 := v331.length) (c2 := k56) (by kernel_rfl) (hS57.rdsl 0 rfl) ((ic_len _ _).trans ((len_is (v331) (n := v331.length) rfl) : (v331).length = v331.length)) (ic_one _ _) (by kernel_rfl) (by_ := 1) (by kernel_rfl) (of_decide_eq_true hg69) (by decide) (m' := (v299 ++ v331).length) (by have h1 := ((len_is (v299) (n := v299.length) rfl) : (v299).length = v299.length); have h2 := ((len_is (v331) (n := v331.length) rfl) : (v331).length = v331.length); (try simp only [List.length_append, List.length_cons, List.length_nil] at h1 h2 ⊢) <;> omega) (cs' := ic .u8 (v299 ++ v331)) (ic_app _ _ _) (by kernel_rfl) (L' := fun o70 k71 => [.sl o54 v331.length k56 1 (ic .u8 v331) 5, .sl o70 ((v299 ++ v331).length) k71 1 (ic .u8 (v299 ++ v331)) 5, .sl o24 v299.length k26 1 (ic .u8 v299) 5, .blk b11 (ic .u16 v1 ++ (ic .u16 v2 ++ (ic .u16 v3))) 63]) (fun _ _ => rfl) (fun o70 k71 w72 a73 hS73 hF73 => ?_))
    refine wplp 1 [1, 3, 5] [(1, pp b11 0), (3, .slice o70 ((v299 ++ v331).length) k71), (5, i6 1)] hF73 (fun a74 hF74 => (wpList_nil (blk_n (then_n (wp_region_lit ?_)))))
    refine wplp 2 [1, 3, 5] [(1, pp b11 0), (3, .slice o70 ((v299 ++ v331).length) k71), (5, i6 2)] hF74 (fun a75 hF75 => (wpList_nil (then_n (rounds_go (n := 1) (wp_seq (wp_region_lit ?_))))))
    refine wplp 1 [1, 3, 5, 6] [(1, pp b11 0), (3, .slice o70 ((v299 ++ v331).length) k71), (5, i6 2), (6, .bool true)] hF75 (fun a76 hF76 => (wpList_nil (then_n (wp_seq (wp_cond_true hF76.e (wp_skip (then_n (wp_seq (wp_block (wp_seq (wp_region_lit ?_)))))))))))
    refine wplp 2 [1, 3, 4, 5] [(1, pp b11 0), (3, .slice o70 ((v299 ++ v331).length) k71), (4, i6 2), (5, i6 2)] hF76 (fun a77 hF77 => (wpList_nil (then_n (wp_region_lit ?_))))
    refine wplp 2 [1, 5, 8, 9] [(1, pp b11 0), (5, i6 2), (8, .slice o70 ((v299 ++ v331).length) k71), (9, i6 2)] hF77 (fun a78 hF78 => ?_)
    refine wpl_val hF78 (by kernel_rfl) (v := pp b11 512) (run_indexA rfl (b := b11) (off := 0) hF78.e (k := .i64) (i := 2) hF78.e (len := 3) (E := 61) (by kernel_rfl) (s := 256) (by kernel_rfl) (by decide) (r := 512) rfl) (by kernel_rfl) (fun a79 hF79 => ?_)
    refine wpl_val hF79 (by kernel_rfl) (v := .agg (ic .u16 v3).toArray) (run_loadR rfl (b := b11) (off := 512) hF79.e (by kernel_rfl) (k := 256) (by kernel_rfl) (((ic_len _ _).trans hl_v3) : (ic .u16 v3).length = 256) (range_r (range_r (hS73.all 3 rfl) (((ic_len _ _).trans hl_v1) : (ic .u16 v1).length = 256) rfl) (((ic_len _ _).trans hl_v2) : (ic .u16 v2).length = 256) rfl)) (by kernel_rfl) (fun a80 hF80 => ?_)
    obtain ⟨⟨v362, v363⟩, hb81, h⟩ := bind_ok h
    refine wpl_one hF80 (by kernel_rfl) (wp_callR hF80 (by kernel_rfl) (g := 59) (args := #[i6 12, .agg (ic .u16 v3).toArray]) (by kernel_rfl) (i_ring_Encode_ok 12 v3 hl_v3 v362 v363 hb81) (fun vr w82 hp => ?_))
    obtain ⟨o83, n84, k85, hn_n84, rfl, hS86⟩ := hp
    subst hn_n84
    replace hS86 := St.call hS73 hS86 rfl
    refine go_fr (hF80.next (.tuple #[.slice o83 v362.length k85, i6 v363]) [1, 5, 8, 12] (M := [(1, pp b11 0), (5, i6 2), (8, .slice o70 ((v299 ++ v331).length) k71), (12, .tuple #[.slice o83 v362.length k85, i6 v363])]) (by kernel_rfl)) (fun a86 hF86 => ?_)
    refine wplp 2 [1, 5, 8, 13, 14] [(1, pp b11 0), (5, i6 2), (8, .slice o70 ((v299 ++ v331).length) k71), (13, .slice o83 v362.length k85), (14, i6 v363)] hF86 (fun a87 hF87 => ?_)
    refine wpl_one hF87 (by kernel_rfl) (wp_inl hF87 (by kernel_rfl) (g := 28) (args := #[.slice o83 v362.length k85, i6 v363]) (by kernel_rfl) (calls_of_wp Try.func28 rfl ?_))
    refine go_fr (Fr.start (#[.slice o83 v362.length k85, i6 v363] : Array Value) 6 8 [(0, .slice o83 v362.length k85), (1, i6 v363)] rfl (by kernel_rfl)) (fun a88 hF88 => (wp_seq (wp_region_lit ?_)))
    refine wplp 1 [0, 1] [(0, .slice o83 v362.length k85), (1, i6 v363)] hF88 (fun a89 hF89 => (wpList_nil (then_n (wp_seq (wp_region_lit ?_)))))
    refine wplp 1 [0, 5] [(0, .slice o83 v362.length k85), (5, i6 v363)] hF89 (fun a90 hF90 => ?_)
    refine wpl_one hF90 (by kernel_rfl) (wp_inl hF90 (by kernel_rfl) (g := 48) (args := #[i6 v363]) (by kernel_rfl) (calls_of_wp Try.func48 rfl ?_))
    refine go_fr (Fr.start (#[i6 v363] : Array Value) 5 6 [(0, i6 v363)] rfl (by kernel_rfl)) (fun a91 hF91 => (wp_seq (wp_region_lit ?_)))
    refine wplp 2 [0, 3] [(0, i6 v363), (3, .bool (v363 != 0))] hF91 (fun a92 hF92 => (wpList_nil (then_n ?_)))
    refine wp_cond_split (t := (v363 != 0)) hF92.e (fun ht93 => ?_) (fun ht93 => ?_)
    ·
     have h := if_t ht93 h
     refine wp_region_lit ?_
     refine wplp 2 [5] [(5, .iface 25 (i6 v363))] hF92 (fun a94 hF94 => ?_)
     cases h
    ·
     have h := if_f ht93 h
     refine wp_skip (end_ok hF92 [] trivial (inl_ret ?_))
     refine go_fr (hF90.next (.tuple #[]) [0] (M := [(0, .slice o83 v362.length k85)]) (by kernel_rfl)) (fun a95 hF95 => (wpList_nil (then_n (wp_seq (wp_region_lit ?_)))))
     refine wplp 2 [4] [(4, .slice o83 v362.length k85)] hF95 (fun a96 hF96 => (wpList_nil (then_n (wp_ret (ret_ok hF96 [.slice o83 v362.length k85] (⟨by kernel_rfl, trivial⟩) (inl_ret ?_))))))
     refine go_fr (hF87.next (.slice o83 v362.length k85) [1, 5, 8, 15] (M := [(1, pp b11 0), (5, i6 2), (8, .slice o70 ((v299 ++ v331).length) k71), (15, .slice o83 v362.length k85)]) (by kernel_rfl)) (fun a97 hF97 => ?_)
     obtain ⟨hg98, h⟩ := gd_ok h
     refine wpl_one hF97 (by kernel_rfl) (wp_append hF97 hS86 rfl 2 rfl (by kernel_rfl) (ao2 := o83) (m2 := v362.length) (c2 := k85) (by kernel_rfl) (hS86.rdsl 0 rfl) ((ic_len _ _).trans ((len_is (v362) (n := v362.length) rfl) : (v362).length = v362.length)) (ic_one _ _) (by kernel_rfl) (by_ := 1) (by kernel_rfl) (of_decide_eq_true hg98) (by decide) (m' := ((v299 ++ v331) ++ v362).length) (by have h1 := ((len_is ((v299 ++ v331)) (n := (v299 ++ v331).length) rfl) : ((v299 ++ v331)).length = (v299 ++ v331).length); have h2 := ((len_is (v362) (n := v362.length) rfl) : (v362).length = v362.length); (try simp only [List.length_append, List.length_cons, List.length_nil] at h1 h2 ⊢) <;> omega) (cs' := ic .u8 ((v299 ++ v331) ++ v362)) (ic_app _ _ _) (by kernel_rfl) (L' := fun o99 k100 => [.sl o83 v362.length k85 1 (ic .u8 v362) 5, .sl o54 v331.length k56 1 (ic .u8 v331) 5, .sl o99 (((v299 ++ v331) ++ v362).length) k100 1 (ic .u8 ((v299 ++ v331) ++ v362)) 5, .sl o24 v299.length k26 1 (ic .u8 v299) 5, .blk b11 (ic .u16 v1 ++ (ic .u16 v2 ++ (ic .u16 v3))) 63]) (fun _ _ => rfl) (fun o99 k100 w101 a102 hS102 hF102 => ?_))
     refine wplp 1 [1, 3, 5] [(1, pp b11 0), (3, .slice o99 (((v299 ++ v331) ++ v362).length) k100), (5, i6 2)] hF102 (fun a103 hF103 => (wpList_nil (blk_n (then_n (wp_region_lit ?_)))))
     refine wplp 2 [1, 3, 5] [(1, pp b11 0), (3, .slice o99 (((v299 ++ v331) ++ v362).length) k100), (5, i6 3)] hF103 (fun a104 hF104 => (wpList_nil (then_n (rounds_go (n := 0) (wp_seq (wp_region_lit ?_))))))
     refine wplp 1 [1, 3, 5, 6] [(1, pp b11 0), (3, .slice o99 (((v299 ++ v331) ++ v362).length) k100), (5, i6 3), (6, .bool false)] hF104 (fun a105 hF105 => (wpList_nil (then_n (wp_seq (wp_cond_false hF105.e (wp_exit ?_))))))
     refine then_x (then_x (blk_x (then_n (wp_seq (wp_region_lit ?_)))))
     refine wplp 2 [2] [(2, .slice o99 (((v299 ++ v331) ++ v362).length) k100)] hF105 (fun a106 hF106 => (wpList_nil (then_n (wp_ret (ret_ok hF106 [.slice o99 (((v299 ++ v331) ++ v362).length) k100] (⟨by kernel_rfl, trivial⟩) ?_)))))
     have hr0 := Option.some.inj h
     subst hr0
     exact ⟨o99, (((v299 ++ v331) ++ v362).length), k100, (Eq.symm ((len_is (((v299 ++ v331) ++ v362)) (n := ((v299 ++ v331) ++ v362).length) rfl) : (((v299 ++ v331) ++ v362)).length = ((v299 ++ v331) ++ v362).length)), rfl, hS102.sub (.cons _ (.cons _ (.cons_cons _ (.cons _ (.cons _ (.slnil))))))⟩
end Go.Proofs.YtapilbdboeggdaaR.Gx
