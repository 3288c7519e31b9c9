/-
A part of the proof: printed walks of the functions that the law reaches, and plain laws over them.
-/
import Derived.Test.YtapilbdboeggdaaRProg
import Derived.Test.YtapilbdboeggdaaRW00
import Derived.Test.YtapilbdboeggdaaRW01
import Derived.Test.YtapilbdboeggdaaRW03
set_option maxRecDepth 1000000
set_option linter.unusedVariables false
set_option linter.unusedSimpArgs false
set_option maxHeartbeats 4000000
namespace Go.Proofs.YtapilbdboeggdaaR.Gx
open Go Go.RowKit
def i_ring_Cbd_l4 (v1 : Int) (v330 : Int) (v2 : List Int) : Nat → Int → Int → Option (Int)
  | 0, _, _ => none
  | k + 1, v425, v426 =>
    (if (decide (v425 < v1)) = true then (nm_ (IntKind.i64.wrap ((IntKind.i64.wrap ((IntKind.i64.wrap (2 * v1)) * v330)) + v425)) fun v437 => (if inb (IntKind.i64.wrap (v437.tdiv 8)) v2.length = true then (if decide (0 ≤ (v437.tmod 8)) = true then (nm_ (ishr .u8 (rd v2 ((IntKind.i64.wrap (v437.tdiv 8)).toNat)) (v437.tmod 8)) fun v448 => (nm_ (IntKind.i64.wrap ((IntKind.i64.wrap ((IntKind.i64.wrap ((IntKind.i64.wrap (2 * v1)) * v330)) + v1)) + v425)) fun v454 => (if inb (IntKind.i64.wrap (v454.tdiv 8)) v2.length = true then (if decide (0 ≤ (v454.tmod 8)) = true then (nm_ (ishr .u8 (rd v2 ((IntKind.i64.wrap (v454.tdiv 8)).toNat)) (v454.tmod 8)) fun v465 => (nm_ (IntKind.u16.wrap (v426 + (IntKind.u16.wrap ((IntKind.u16.wrap (iand .u8 v448 1)) - (IntKind.u16.wrap (iand .u8 v465 1)))))) fun v470 => i_ring_Cbd_l4 v1 v330 v2 k (IntKind.i64.wrap (v425 + 1)) v470)) else none) else none))) else none) else none)) else some (v426))
def i_ring_Cbd_l3 (v1 : Int) (v2 : List Int) : Nat → List Int → Int → Option (List Int)
  | 0, _, _ => none
  | k + 1, v329, v330 =>
    (if (decide (v330 < 256)) = true then ((i_ring_Cbd_l4 v1 v330 v2 LIM 0 3329).bind fun v427 => (if inb v330 256 = true then i_ring_Cbd_l3 v1 v2 k (v329.set v330.toNat (v427.tmod 3329)) (IntKind.i64.wrap (v330 + 1)) else none)) else some (v329))
def i_ring_Cbd_l8 (v1 : Int) (v794 : Int) (v2 : List Int) : Nat → Int → Int → Option (Int)
  | 0, _, _ => none
  | k + 1, v889, v890 =>
    (if (decide (v889 < v1)) = true then (nm_ (IntKind.i64.wrap ((IntKind.i64.wrap ((IntKind.i64.wrap (2 * v1)) * v794)) + v889)) fun v901 => (if inb (IntKind.i64.wrap (v901.tdiv 8)) v2.length = true then (if decide (0 ≤ (v901.tmod 8)) = true then (nm_ (ishr .u8 (rd v2 ((IntKind.i64.wrap (v901.tdiv 8)).toNat)) (v901.tmod 8)) fun v912 => (nm_ (IntKind.i64.wrap ((IntKind.i64.wrap ((IntKind.i64.wrap ((IntKind.i64.wrap (2 * v1)) * v794)) + v1)) + v889)) fun v918 => (if inb (IntKind.i64.wrap (v918.tdiv 8)) v2.length = true then (if decide (0 ≤ (v918.tmod 8)) = true then (nm_ (ishr .u8 (rd v2 ((IntKind.i64.wrap (v918.tdiv 8)).toNat)) (v918.tmod 8)) fun v929 => (nm_ (IntKind.u16.wrap (v890 + (IntKind.u16.wrap ((IntKind.u16.wrap (iand .u8 v912 1)) - (IntKind.u16.wrap (iand .u8 v929 1)))))) fun v934 => i_ring_Cbd_l8 v1 v794 v2 k (IntKind.i64.wrap (v889 + 1)) v934)) else none) else none))) else none) else none)) else some (v890))
def i_ring_Cbd_l7 (v1 : Int) (v2 : List Int) : Nat → List Int → Int → Option (List Int)
  | 0, _, _ => none
  | k + 1, v793, v794 =>
    (if (decide (v794 < 256)) = true then ((i_ring_Cbd_l8 v1 v794 v2 LIM 0 3329).bind fun v891 => (if inb v794 256 = true then i_ring_Cbd_l7 v1 v2 k (v793.set v794.toNat (v891.tmod 3329)) (IntKind.i64.wrap (v794 + 1)) else none)) else some (v793))
def i_ring_Cbd (v1 : Int) (v2 : List Int) : Option (List Int × Int) :=
  (if (v1 != 2) = true then (if (v1 != 3) = true then some (List.replicate 256 (0 : Int), 1) else (if ((v2.length : Int) != (IntKind.i64.wrap (64 * v1))) = true then some (List.replicate 256 (0 : Int), 1) else ((i_ring_Cbd_l3 v1 v2 LIM (List.replicate 256 (0 : Int)) 0).bind fun v331 => some (v331, 0)))) else (if ((v2.length : Int) != (IntKind.i64.wrap (64 * v1))) = true then some (List.replicate 256 (0 : Int), 1) else ((i_ring_Cbd_l7 v1 v2 LIM (List.replicate 256 (0 : Int)) 0).bind fun v795 => some (v795, 0))))
theorem i_ring_Cbd_ok (v1 : Int) (v2 : List Int) {w : World} {o10 : Option Addr} {n11 k12 : Nat} (hn_n11 : v2.length = n11) (hrd_o10 : Rd w o10 n11 k12 (ic .u8 v2)) (c0 : List Int) (c1 : Int) (h : i_ring_Cbd v1 v2 = some (c0, c1)) : Calls Try.prog 66 #[i6 v1, .slice o10 n11 k12] w (Ret (fun v w' => v = .tuple #[.agg (ic .u16 c0).toArray, i6 c1] ∧ St w w' [] ∧ c0.length = 256)) := by
  unfold i_ring_Cbd at h
  refine calls_of_wp Try.func66 rfl ?_
  have hF := Fr.start (#[i6 v1, .slice o10 v2.length k12] : Array Value) 59 61 [(0, i6 v1), (1, .slice o10 v2.length k12)] rfl (by kernel_rfl)
  subst hn_n11
  have hS : St w w [.ro o10 v2.length k12 (ic .u8 v2)] := St.start' ⟨hrd_o10, trivial⟩ rfl
  refine go_fr hF (fun a hF => (wp_seq (wp_region_lit ?_)))
  refine wpl_one hF (by kernel_rfl) (wp_box hF hS rfl (v := .slice o10 v2.length k12) (by kernel_rfl) ([Value.slice o10 v2.length k12]) rfl (by kernel_rfl) (fun b13 w14 a15 hS15 hF15 => ?_))
  refine wpl_one hF15 (by kernel_rfl) (wp_alloc hF15 hS15 rfl (z := .agg (ic .u16 (rz 256)).toArray) (by kernel_rfl) (ic .u16 (rz 256)) rfl (by kernel_rfl) (fun b16 w17 a18 hS18 hF18 => ?_))
  refine wplp 1 [0, 3, 4] [(0, i6 v1), (3, pp b13 0), (4, pp b16 0)] hF18 (fun a19 hF19 => (wpList_nil (then_n (wp_seq (wp_seq (wp_region_lit ?_))))))
  refine wplp 3 [0, 3, 4, 13] [(0, i6 v1), (3, pp b13 0), (4, pp b16 0), (13, .bool (v1 != 2))] hF19 (fun a20 hF20 => ?_)
  rcases Bool.eq_false_or_eq_true (v1 != 2) with ht21 | ht21
  ·
   have hF22 := Fr.eqv (L := [(0, i6 v1), (3, pp b13 0), (4, pp b16 0), (13, .bool (v1 != 2))]) (Fr.pick [0, 3, 4, 13] (by kernel_rfl) hF20) (M := [(0, i6 v1), (3, pp b13 0), (4, pp b16 0), (13, .bool true)]) (by rw [ht21])
   have h := if_t ht21 h
   refine wplp 4 [0, 3, 4, 17] [(0, i6 v1), (3, pp b13 0), (4, pp b16 0), (17, .bool (v1 != 3))] hF22 (fun a23 hF23 => ?_)
   rcases Bool.eq_false_or_eq_true (v1 != 3) with ht24 | ht24
   ·
    have hF25 := Fr.eqv (L := [(0, i6 v1), (3, pp b13 0), (4, pp b16 0), (17, .bool (v1 != 3))]) (Fr.pick [0, 3, 4, 17] (by kernel_rfl) hF23) (M := [(0, i6 v1), (3, pp b13 0), (4, pp b16 0), (17, .bool true)]) (by rw [ht24])
    have h := if_t ht24 h
    refine wplp 6 [0, 3, 4, 23] [(0, i6 v1), (3, pp b13 0), (4, pp b16 0), (23, .bool true)] hF25 (fun a26 hF26 => (wpList_nil (then_n (wp_cond_true hF26.e (wp_seq (wp_region_lit ?_))))))
    refine wplp 1 [4, 24] [(4, pp b16 0), (24, .agg (ic .u16 (rz 256)).toArray)] hF26 (fun a27 hF27 => ?_)
    refine wpl_one hF27 (by kernel_rfl) (wp_store hF27 hS18 rfl 0 rfl (off := 0) (by kernel_rfl) (v := .agg (ic .u16 (rz 256)).toArray) (by kernel_rfl) (vs := ic .u16 (rz 256)) rfl (k := 256) (by kernel_rfl) (((ic_len _ _).trans (len_is (rz 256) (n := 256) (List.length_replicate))) : (ic .u16 (rz 256)).length = 256) (by have h2 := (((ic_len _ _).trans (len_is (rz 256) (n := 256) (List.length_replicate))) : (ic .u16 (rz 256)).length = 256); omega) (ic_one _ _) (cs' := ic .u16 (rz 256)) ((upd_ic _ _ _ _).trans (congrArg (ic .u16) (upd_all (((len_is (rz 256) (n := 256) (List.length_replicate))).trans ((len_is (rz 256) (n := 256) (List.length_replicate))).symm)))) (by kernel_rfl) (L' := [.blk b16 (ic .u16 (rz 256)) 61, .blk b13 ([Value.slice o10 v2.length k12]) 24, .ro o10 v2.length k12 (ic .u8 v2)]) rfl (fun w28 a29 hS29 hF29 => ?_))
    refine wplp 1 [4, 5] [(4, pp b16 0), (5, i6 1)] hF29 (fun a30 hF30 => (wpList_nil (then_n (wp_ret ?_))))
    refine then_r (ret_ok hF30 [.agg (ic .u16 (rz 256)).toArray, i6 1] (⟨⟨⟨b16, 0, none⟩, by kernel_rfl, loadVarR (by kernel_rfl) (k := 256) (by kernel_rfl) (((ic_len _ _).trans (len_is (rz 256) (n := 256) (List.length_replicate))) : (ic .u16 (rz 256)).length = 256) (hS29.all 0 rfl)⟩, by kernel_rfl, trivial⟩) ?_)
    have hr0 := Option.some.inj h
    obtain ⟨hq0, hr1⟩ := Prod.mk.inj hr0
    subst hq0
    subst hr1
    exact ⟨rfl, hS29.sub (List.nil_sublist _), (len_is (rz 256) (n := 256) (List.length_replicate))⟩
   ·
    have hF31 := Fr.eqv (L := [(0, i6 v1), (3, pp b13 0), (4, pp b16 0), (17, .bool (v1 != 3))]) (Fr.pick [0, 3, 4, 17] (by kernel_rfl) hF23) (M := [(0, i6 v1), (3, pp b13 0), (4, pp b16 0), (17, .bool false)]) (by rw [ht24])
    have h := if_f ht24 h
    refine wpl_val hF31 (by kernel_rfl) (v := .slice o10 v2.length k12) (run_load1 rfl (b := b13) (off := 0) hF31.e (by kernel_rfl) (hS18.at 1 rfl (0) rfl)) (by kernel_rfl) (fun a32 hF32 => ?_)
    refine wplp 5 [0, 3, 4, 23] [(0, i6 v1), (3, pp b13 0), (4, pp b16 0), (23, .bool ((v2.length : Int) != (IntKind.i64.wrap (64 * v1))))] hF32 (fun a33 hF33 => (wpList_nil (then_n ?_)))
    refine wp_cond_split (t := ((v2.length : Int) != (IntKind.i64.wrap (64 * v1)))) hF33.e (fun ht34 => ?_) (fun ht34 => ?_)
    ·
     have h := if_t ht34 h
     refine wp_seq (wp_region_lit ?_)
     refine wplp 1 [4, 24] [(4, pp b16 0), (24, .agg (ic .u16 (rz 256)).toArray)] hF33 (fun a35 hF35 => ?_)
     refine wpl_one hF35 (by kernel_rfl) (wp_store hF35 hS18 rfl 0 rfl (off := 0) (by kernel_rfl) (v := .agg (ic .u16 (rz 256)).toArray) (by kernel_rfl) (vs := ic .u16 (rz 256)) rfl (k := 256) (by kernel_rfl) (((ic_len _ _).trans (len_is (rz 256) (n := 256) (List.length_replicate))) : (ic .u16 (rz 256)).length = 256) (by have h2 := (((ic_len _ _).trans (len_is (rz 256) (n := 256) (List.length_replicate))) : (ic .u16 (rz 256)).length = 256); omega) (ic_one _ _) (cs' := ic .u16 (rz 256)) ((upd_ic _ _ _ _).trans (congrArg (ic .u16) (upd_all (((len_is (rz 256) (n := 256) (List.length_replicate))).trans ((len_is (rz 256) (n := 256) (List.length_replicate))).symm)))) (by kernel_rfl) (L' := [.blk b16 (ic .u16 (rz 256)) 61, .blk b13 ([Value.slice o10 v2.length k12]) 24, .ro o10 v2.length k12 (ic .u8 v2)]) rfl (fun w36 a37 hS37 hF37 => ?_))
     refine wplp 1 [4, 5] [(4, pp b16 0), (5, i6 1)] hF37 (fun a38 hF38 => (wpList_nil (then_n (wp_ret ?_))))
     refine then_r (ret_ok hF38 [.agg (ic .u16 (rz 256)).toArray, i6 1] (⟨⟨⟨b16, 0, none⟩, by kernel_rfl, loadVarR (by kernel_rfl) (k := 256) (by kernel_rfl) (((ic_len _ _).trans (len_is (rz 256) (n := 256) (List.length_replicate))) : (ic .u16 (rz 256)).length = 256) (hS37.all 0 rfl)⟩, by kernel_rfl, trivial⟩) ?_)
     have hr0 := Option.some.inj h
     obtain ⟨hq0, hr1⟩ := Prod.mk.inj hr0
     subst hq0
     subst hr1
     exact ⟨rfl, hS37.sub (List.nil_sublist _), (len_is (rz 256) (n := 256) (List.length_replicate))⟩
    ·
     have h := if_f ht34 h
     refine wp_skip (then_n (wp_seq (wp_region_lit ?_)))
     refine wplp 2 [0, 4, 6] [(0, i6 v1), (4, pp b16 0), (6, .func (.func 76) #[] #[pp b13 0])] hF33 (fun a39 hF39 => (wpList_nil (then_n (wp_seq (wp_region_lit ?_)))))
     refine wpl_one hF39 (by kernel_rfl) (wp_alloc hF39 hS18 rfl (z := .agg (ic .u16 (rz 256)).toArray) (by kernel_rfl) (ic .u16 (rz 256)) rfl (by kernel_rfl) (fun b40 w41 a42 hS42 hF42 => (wpList_nil (then_n (wp_seq (wp_seq (wp_region_lit ?_)))))))
     refine wplp 1 [0, 4, 6, 7, 26] [(0, i6 v1), (4, pp b16 0), (6, .func (.func 76) #[] #[pp b13 0]), (7, pp b40 0), (26, i6 0)] hF42 (fun a43 hF43 => (wpList_nil (then_n ?_)))
     obtain ⟨ev44, hl45, h⟩ := bind_ok h
     refine block_cut (fun a' w' => ∃ (v331 : List Int), v331 = ev44 ∧ Fr 61 [] [(4, pp b16 0), (7, pp b40 0)] a' ∧ St w w' [.blk b40 (ic .u16 v331) 61, .blk b16 (ic .u16 (rz 256)) 61, .blk b13 ([Value.slice o10 v2.length k12]) 24, .ro o10 v2.length k12 (ic .u8 v2)] ∧ v331.length = 256) ?_ ?_
     ·
      refine wp_loop_ghost (fun k a' w' => ∃ (v329 : List Int) (v330 : Int), i_ring_Cbd_l3 v1 v2 k v329 v330 = some ev44 ∧ Fr 61 [] [(0, i6 v1), (4, pp b16 0), (6, .func (.func 76) #[] #[pp b13 0]), (7, pp b40 0), (26, i6 v330)] a' ∧ St w w' [.blk b40 (ic .u16 v329) 61, .blk b16 (ic .u16 (rz 256)) 61, .blk b13 ([Value.slice o10 v2.length k12]) 24, .ro o10 v2.length k12 (ic .u8 v2)] ∧ v329.length = 256) LIM ⟨(rz 256), 0, hl45, Fr.pick [0, 4, 6, 7, 26] (by kernel_rfl) hF43, hS42, (len_is (rz 256) (n := 256) (List.length_replicate))⟩ ?_
      rintro k46 a46 w47 ⟨v329, v330, hr46, hF46, hS46, hl_v329⟩
      cases k46 with
      | zero => rw [i_ring_Cbd_l3] at hr46; cases hr46
      | succ k46 =>
       rw [i_ring_Cbd_l3] at hr46
       refine wp_seq (wp_region_lit ?_)
       refine wplp 1 [0, 4, 6, 7, 26, 27] [(0, i6 v1), (4, pp b16 0), (6, .func (.func 76) #[] #[pp b13 0]), (7, pp b40 0), (26, i6 v330), (27, .bool (decide (v330 < 256)))] hF46 (fun a48 hF48 => (wpList_nil (then_n (wp_seq ?_))))
       refine wp_cond_split (t := (decide (v330 < 256))) hF48.e (fun ht49 => ?_) (fun ht49 => ?_)
       ·
        have h := if_t ht49 hr46
        refine wp_skip (then_n (wp_seq (wp_block (wp_seq (wp_region_lit ?_)))))
        refine wplp 2 [0, 4, 6, 7, 8, 26] [(0, i6 v1), (4, pp b16 0), (6, .func (.func 76) #[] #[pp b13 0]), (7, pp b40 0), (8, i6 v330), (26, i6 v330)] hF48 (fun a50 hF50 => (wpList_nil (then_n (wp_seq (wp_region_lit ?_)))))
        refine wplp 1 [0, 4, 6, 7, 8, 9, 26] [(0, i6 v1), (4, pp b16 0), (6, .func (.func 76) #[] #[pp b13 0]), (7, pp b40 0), (8, i6 v330), (9, .int .u16 3329), (26, i6 v330)] hF50 (fun a51 hF51 => (wpList_nil (then_n (wp_seq (wp_seq (wp_region_lit ?_))))))
        refine wplp 2 [0, 4, 6, 7, 8, 9, 26, 29, 30] [(0, i6 v1), (4, pp b16 0), (6, .func (.func 76) #[] #[pp b13 0]), (7, pp b40 0), (8, i6 v330), (9, .int .u16 3329), (26, i6 v330), (29, i6 v1), (30, i6 0)] hF51 (fun a52 hF52 => (wpList_nil (then_n ?_)))
        obtain ⟨ev53, hl54, h⟩ := bind_ok h
        refine block_cut (fun a' w' => ∃ (v427 : Int), v427 = ev53 ∧ Fr 61 [] [(0, i6 v1), (4, pp b16 0), (6, .func (.func 76) #[] #[pp b13 0]), (7, pp b40 0), (8, i6 v330), (9, .int .u16 v427), (26, i6 v330)] a' ∧ St w w' [.blk b40 (ic .u16 v329) 61, .blk b16 (ic .u16 (rz 256)) 61, .blk b13 ([Value.slice o10 v2.length k12]) 24, .ro o10 v2.length k12 (ic .u8 v2)]) ?_ ?_
        ·
         refine wp_loop_ghost (fun k a' w' => ∃ (v425 : Int) (v426 : Int), i_ring_Cbd_l4 v1 v330 v2 k v425 v426 = some ev53 ∧ Fr 61 [] [(0, i6 v1), (4, pp b16 0), (6, .func (.func 76) #[] #[pp b13 0]), (7, pp b40 0), (8, i6 v330), (9, .int .u16 v426), (26, i6 v330), (29, i6 v1), (30, i6 v425)] a' ∧ St w w' [.blk b40 (ic .u16 v329) 61, .blk b16 (ic .u16 (rz 256)) 61, .blk b13 ([Value.slice o10 v2.length k12]) 24, .ro o10 v2.length k12 (ic .u8 v2)]) LIM ⟨0, 3329, hl54, Fr.pick [0, 4, 6, 7, 8, 9, 26, 29, 30] (by kernel_rfl) hF52, hS46⟩ ?_
         rintro k55 a55 w56 ⟨v425, v426, hr55, hF55, hS55⟩
         cases k55 with
         | zero => rw [i_ring_Cbd_l4] at hr55; cases hr55
         | succ k55 =>
          rw [i_ring_Cbd_l4] at hr55
          refine wp_seq (wp_region_lit ?_)
          refine wplp 1 [0, 4, 6, 7, 8, 9, 26, 29, 30, 31] [(0, i6 v1), (4, pp b16 0), (6, .func (.func 76) #[] #[pp b13 0]), (7, pp b40 0), (8, i6 v330), (9, .int .u16 v426), (26, i6 v330), (29, i6 v1), (30, i6 v425), (31, .bool (decide (v425 < v1)))] hF55 (fun a57 hF57 => (wpList_nil (then_n (wp_seq ?_))))
          refine wp_cond_split (t := (decide (v425 < v1))) hF57.e (fun ht58 => ?_) (fun ht58 => ?_)
          ·
           have h := if_t ht58 hr55
           refine wp_skip (then_n (wp_seq (wp_block (wp_seq (wp_region_lit ?_)))))
           refine wplp 2 [0, 4, 6, 7, 8, 9, 10, 26, 29, 30] [(0, i6 v1), (4, pp b16 0), (6, .func (.func 76) #[] #[pp b13 0]), (7, pp b40 0), (8, i6 v330), (9, .int .u16 v426), (10, i6 v425), (26, i6 v330), (29, i6 v1), (30, i6 v425)] hF57 (fun a59 hF59 => (wpList_nil (then_n (wp_region_lit ?_))))
           refine wplp 8 [0, 4, 6, 7, 8, 10, 26, 29, 30, 33, 34, 40] [(0, i6 v1), (4, pp b16 0), (6, .func (.func 76) #[] #[pp b13 0]), (7, pp b40 0), (8, i6 v330), (10, i6 v425), (26, i6 v330), (29, i6 v1), (30, i6 v425), (33, .int .u16 v426), (34, .func (.func 76) #[] #[pp b13 0]), (40, i6 (IntKind.i64.wrap ((IntKind.i64.wrap ((IntKind.i64.wrap (2 * v1)) * v330)) + v425)))] hF59 (fun a60 hF60 => ?_)
           refine wpl_one hF60 (by kernel_rfl) (wp_inl hF60 (by kernel_rfl) (g := 76) (args := #[i6 (IntKind.i64.wrap ((IntKind.i64.wrap ((IntKind.i64.wrap (2 * v1)) * v330)) + v425)), pp b13 0]) (by kernel_rfl) (calls_of_wp Try.func76 rfl ?_))
           refine go_fr (Fr.start (#[i6 (IntKind.i64.wrap ((IntKind.i64.wrap ((IntKind.i64.wrap (2 * v1)) * v330)) + v425)), pp b13 0] : Array Value) 12 14 [(0, i6 (IntKind.i64.wrap ((IntKind.i64.wrap ((IntKind.i64.wrap (2 * v1)) * v330)) + v425))), (1, pp b13 0)] rfl (by kernel_rfl)) (fun a61 hF61 => (wp_seq ?_))
           obtain ⟨v437, hv_v437, h⟩ := nm_ok h
           have hF62 := Fr.eqv (L := [(0, i6 (IntKind.i64.wrap ((IntKind.i64.wrap ((IntKind.i64.wrap (2 * v1)) * v330)) + v425))), (1, pp b13 0)]) (Fr.pick [0, 1] (by kernel_rfl) hF61) (M := [(0, i6 v437), (1, pp b13 0)]) (by rw [hv_v437])
           refine wp_region_lit ?_
           refine wplp 1 [0, 1] [(0, i6 v437), (1, pp b13 0)] hF62 (fun a63 hF63 => (wpList_nil (then_n (wp_seq (wp_region_lit ?_)))))
           refine wpl_val hF63 (by kernel_rfl) (v := .slice o10 v2.length k12) (run_load1 rfl (b := b13) (off := 0) hF63.e (by kernel_rfl) (hS55.at 2 rfl (0) rfl)) (by kernel_rfl) (fun a64 hF64 => ?_)
           refine wplp 2 [0, 4, 6] [(0, i6 v437), (4, .slice o10 v2.length k12), (6, i6 (IntKind.i64.wrap (v437.tdiv 8)))] hF64 (fun a65 hF65 => ?_)
           obtain ⟨hg66, h⟩ := gd_ok h
           refine wpl_val hF65 (by kernel_rfl) (v := pp (blkOf o10) (offOf o10 + (IntKind.i64.wrap (v437.tdiv 8)).toNat)) (run_indexS rfl (ao := o10) (m := v2.length) (c := k12) hF65.e (rd_ne hS55 3 rfl rfl (j := (IntKind.i64.wrap (v437.tdiv 8)).toNat) (v := .int .u8 (rd v2 (IntKind.i64.wrap (v437.tdiv 8)).toNat)) (ic_get (lt_len (inb_nat hg66) (len_is (v2) (n := v2.length) rfl)))) (k := .i64) (i := (IntKind.i64.wrap (v437.tdiv 8))) hF65.e (E := 5) (by kernel_rfl) (s := 1) (by kernel_rfl) (inb_ok hg66) (r := offOf o10 + (IntKind.i64.wrap (v437.tdiv 8)).toNat) (by simp only [Nat.mul_one])) (by kernel_rfl) (fun a67 hF67 => ?_)
           refine wpl_val hF67 (by kernel_rfl) (v := .int .u8 (rd v2 ((IntKind.i64.wrap (v437.tdiv 8)).toNat))) (run_load1 rfl (b := blkOf o10) (off := offOf o10 + (IntKind.i64.wrap (v437.tdiv 8)).toNat) hF67.e (by kernel_rfl) (hS55.atA 3 rfl rfl ((IntKind.i64.wrap (v437.tdiv 8)).toNat) (ic_get (lt_len (inb_nat hg66) (len_is (v2) (n := v2.length) rfl))))) (by kernel_rfl) (fun a68 hF68 => ?_)
           refine wplp 2 [8, 10] [(8, .int .u8 (rd v2 ((IntKind.i64.wrap (v437.tdiv 8)).toNat))), (10, i6 (v437.tmod 8))] hF68 (fun a69 hF69 => ?_)
           obtain ⟨hg70, h⟩ := gd_ok h
           refine wpl_val hF69 (by kernel_rfl) (v := .int .u8 (ishr .u8 (rd v2 ((IntKind.i64.wrap (v437.tdiv 8)).toNat)) (v437.tmod 8))) (run_shift rfl (.inr rfl) (k := .u8) (yk := .i64) (p := (rd v2 ((IntKind.i64.wrap (v437.tdiv 8)).toNat))) (q := (v437.tmod 8)) hF69.e hF69.e (of_decide_eq_true hg70)) (by kernel_rfl) (fun a71 hF71 => ?_)
           obtain ⟨v448, hv_v448, h⟩ := nm_ok h
           have hF72 := Fr.eqv (L := [(11, .int .u8 (ishr .u8 (rd v2 ((IntKind.i64.wrap (v437.tdiv 8)).toNat)) (v437.tmod 8)))]) (Fr.pick [11] (by kernel_rfl) hF71) (M := [(11, .int .u8 v448)]) (by rw [hv_v448])
           refine wplp 3 [3] [(3, .int .u16 (IntKind.u16.wrap (iand .u8 v448 1)))] hF72 (fun a73 hF73 => (wpList_nil (then_n (wp_ret (ret_ok hF73 [.int .u16 (IntKind.u16.wrap (iand .u8 v448 1))] (⟨by kernel_rfl, trivial⟩) (inl_ret ?_))))))
           refine go_fr (hF60.next (.int .u16 (IntKind.u16.wrap (iand .u8 v448 1))) [0, 4, 6, 7, 8, 10, 26, 29, 30, 33, 41] (M := [(0, i6 v1), (4, pp b16 0), (6, .func (.func 76) #[] #[pp b13 0]), (7, pp b40 0), (8, i6 v330), (10, i6 v425), (26, i6 v330), (29, i6 v1), (30, i6 v425), (33, .int .u16 v426), (41, .int .u16 (IntKind.u16.wrap (iand .u8 v448 1)))]) (by kernel_rfl)) (fun a74 hF74 => ?_)
           refine wplp 9 [0, 4, 6, 7, 8, 26, 29, 30, 33, 41, 42, 50] [(0, i6 v1), (4, pp b16 0), (6, .func (.func 76) #[] #[pp b13 0]), (7, pp b40 0), (8, i6 v330), (26, i6 v330), (29, i6 v1), (30, i6 v425), (33, .int .u16 v426), (41, .int .u16 (IntKind.u16.wrap (iand .u8 v448 1))), (42, .func (.func 76) #[] #[pp b13 0]), (50, i6 (IntKind.i64.wrap ((IntKind.i64.wrap ((IntKind.i64.wrap ((IntKind.i64.wrap (2 * v1)) * v330)) + v1)) + v425)))] hF74 (fun a75 hF75 => ?_)
           refine wpl_one hF75 (by kernel_rfl) (wp_inl hF75 (by kernel_rfl) (g := 76) (args := #[i6 (IntKind.i64.wrap ((IntKind.i64.wrap ((IntKind.i64.wrap ((IntKind.i64.wrap (2 * v1)) * v330)) + v1)) + v425)), pp b13 0]) (by kernel_rfl) (calls_of_wp Try.func76 rfl ?_))
           refine go_fr (Fr.start (#[i6 (IntKind.i64.wrap ((IntKind.i64.wrap ((IntKind.i64.wrap ((IntKind.i64.wrap (2 * v1)) * v330)) + v1)) + v425)), pp b13 0] : Array Value) 12 14 [(0, i6 (IntKind.i64.wrap ((IntKind.i64.wrap ((IntKind.i64.wrap ((IntKind.i64.wrap (2 * v1)) * v330)) + v1)) + v425))), (1, pp b13 0)] rfl (by kernel_rfl)) (fun a76 hF76 => (wp_seq ?_))
           obtain ⟨v454, hv_v454, h⟩ := nm_ok h
           have hF77 := Fr.eqv (L := [(0, i6 (IntKind.i64.wrap ((IntKind.i64.wrap ((IntKind.i64.wrap ((IntKind.i64.wrap (2 * v1)) * v330)) + v1)) + v425))), (1, pp b13 0)]) (Fr.pick [0, 1] (by kernel_rfl) hF76) (M := [(0, i6 v454), (1, pp b13 0)]) (by rw [hv_v454])
           refine wp_region_lit ?_
           refine wplp 1 [0, 1] [(0, i6 v454), (1, pp b13 0)] hF77 (fun a78 hF78 => (wpList_nil (then_n (wp_seq (wp_region_lit ?_)))))
           refine wpl_val hF78 (by kernel_rfl) (v := .slice o10 v2.length k12) (run_load1 rfl (b := b13) (off := 0) hF78.e (by kernel_rfl) (hS55.at 2 rfl (0) rfl)) (by kernel_rfl) (fun a79 hF79 => ?_)
           refine wplp 2 [0, 4, 6] [(0, i6 v454), (4, .slice o10 v2.length k12), (6, i6 (IntKind.i64.wrap (v454.tdiv 8)))] hF79 (fun a80 hF80 => ?_)
           obtain ⟨hg81, h⟩ := gd_ok h
           refine wpl_val hF80 (by kernel_rfl) (v := pp (blkOf o10) (offOf o10 + (IntKind.i64.wrap (v454.tdiv 8)).toNat)) (run_indexS rfl (ao := o10) (m := v2.length) (c := k12) hF80.e (rd_ne hS55 3 rfl rfl (j := (IntKind.i64.wrap (v454.tdiv 8)).toNat) (v := .int .u8 (rd v2 (IntKind.i64.wrap (v454.tdiv 8)).toNat)) (ic_get (lt_len (inb_nat hg81) (len_is (v2) (n := v2.length) rfl)))) (k := .i64) (i := (IntKind.i64.wrap (v454.tdiv 8))) hF80.e (E := 5) (by kernel_rfl) (s := 1) (by kernel_rfl) (inb_ok hg81) (r := offOf o10 + (IntKind.i64.wrap (v454.tdiv 8)).toNat) (by simp only [Nat.mul_one])) (by kernel_rfl) (fun a82 hF82 => ?_)
           refine wpl_val hF82 (by kernel_rfl) (v := .int .u8 (rd v2 ((IntKind.i64.wrap (v454.tdiv 8)).toNat))) (run_load1 rfl (b := blkOf o10) (off := offOf o10 + (IntKind.i64.wrap (v454.tdiv 8)).toNat) hF82.e (by kernel_rfl) (hS55.atA 3 rfl rfl ((IntKind.i64.wrap (v454.tdiv 8)).toNat) (ic_get (lt_len (inb_nat hg81) (len_is (v2) (n := v2.length) rfl))))) (by kernel_rfl) (fun a83 hF83 => ?_)
           refine wplp 2 [8, 10] [(8, .int .u8 (rd v2 ((IntKind.i64.wrap (v454.tdiv 8)).toNat))), (10, i6 (v454.tmod 8))] hF83 (fun a84 hF84 => ?_)
           obtain ⟨hg85, h⟩ := gd_ok h
           refine wpl_val hF84 (by kernel_rfl) (v := .int .u8 (ishr .u8 (rd v2 ((IntKind.i64.wrap (v454.tdiv 8)).toNat)) (v454.tmod 8))) (run_shift rfl (.inr rfl) (k := .u8) (yk := .i64) (p := (rd v2 ((IntKind.i64.wrap (v454.tdiv 8)).toNat))) (q := (v454.tmod 8)) hF84.e hF84.e (of_decide_eq_true hg85)) (by kernel_rfl) (fun a86 hF86 => ?_)
           obtain ⟨v465, hv_v465, h⟩ := nm_ok h
           have hF87 := Fr.eqv (L := [(11, .int .u8 (ishr .u8 (rd v2 ((IntKind.i64.wrap (v454.tdiv 8)).toNat)) (v454.tmod 8)))]) (Fr.pick [11] (by kernel_rfl) hF86) (M := [(11, .int .u8 v465)]) (by rw [hv_v465])
           refine wplp 3 [3] [(3, .int .u16 (IntKind.u16.wrap (iand .u8 v465 1)))] hF87 (fun a88 hF88 => (wpList_nil (then_n (wp_ret (ret_ok hF88 [.int .u16 (IntKind.u16.wrap (iand .u8 v465 1))] (⟨by kernel_rfl, trivial⟩) (inl_ret ?_))))))
           refine go_fr (hF75.next (.int .u16 (IntKind.u16.wrap (iand .u8 v465 1))) [0, 4, 6, 7, 8, 26, 29, 30, 33, 41, 51] (M := [(0, i6 v1), (4, pp b16 0), (6, .func (.func 76) #[] #[pp b13 0]), (7, pp b40 0), (8, i6 v330), (26, i6 v330), (29, i6 v1), (30, i6 v425), (33, .int .u16 v426), (41, .int .u16 (IntKind.u16.wrap (iand .u8 v448 1))), (51, .int .u16 (IntKind.u16.wrap (iand .u8 v465 1)))]) (by kernel_rfl)) (fun a89 hF89 => ?_)
           refine wplp 3 [0, 4, 6, 7, 8, 9, 26, 29, 30] [(0, i6 v1), (4, pp b16 0), (6, .func (.func 76) #[] #[pp b13 0]), (7, pp b40 0), (8, i6 v330), (9, .int .u16 (IntKind.u16.wrap (v426 + (IntKind.u16.wrap ((IntKind.u16.wrap (iand .u8 v448 1)) - (IntKind.u16.wrap (iand .u8 v465 1))))))), (26, i6 v330), (29, i6 v1), (30, i6 v425)] hF89 (fun a90 hF90 => (wpList_nil (blk_n (then_n ?_))))
           obtain ⟨v470, hv_v470, h⟩ := nm_ok h
           have hF91 := Fr.eqv (L := [(0, i6 v1), (4, pp b16 0), (6, .func (.func 76) #[] #[pp b13 0]), (7, pp b40 0), (8, i6 v330), (9, .int .u16 (IntKind.u16.wrap (v426 + (IntKind.u16.wrap ((IntKind.u16.wrap (iand .u8 v448 1)) - (IntKind.u16.wrap (iand .u8 v465 1))))))), (26, i6 v330), (29, i6 v1), (30, i6 v425)]) (Fr.pick [0, 4, 6, 7, 8, 9, 26, 29, 30] (by kernel_rfl) hF90) (M := [(0, i6 v1), (4, pp b16 0), (6, .func (.func 76) #[] #[pp b13 0]), (7, pp b40 0), (8, i6 v330), (9, .int .u16 v470), (26, i6 v330), (29, i6 v1), (30, i6 v425)]) (by rw [hv_v470])
           refine wp_region_lit ?_
           refine wplp 2 [0, 4, 6, 7, 8, 9, 26, 29, 30] [(0, i6 v1), (4, pp b16 0), (6, .func (.func 76) #[] #[pp b13 0]), (7, pp b40 0), (8, i6 v330), (9, .int .u16 v470), (26, i6 v330), (29, i6 v1), (30, i6 (IntKind.i64.wrap (v425 + 1)))] hF91 (fun a92 hF92 => (wpList_nil ?_))
           exact ⟨k55, Nat.lt_succ_self _, (IntKind.i64.wrap (v425 + 1)), v470, h, Fr.pick [0, 4, 6, 7, 8, 9, 26, 29, 30] (by kernel_rfl) hF92, hS55.sub (.cons_cons _ (.cons_cons _ (.cons_cons _ (.cons_cons _ (.slnil)))))⟩
          ·
           have h := if_f ht58 hr55
           refine wp_exit ?_
           refine then_x (then_x (cut_x ?_))
           have hr := Option.some.inj h
           subst hr
           exact ⟨_, rfl, Fr.pick [0, 4, 6, 7, 8, 9, 26] (by kernel_rfl) hF57, hS55.sub (.cons_cons _ (.cons_cons _ (.cons_cons _ (.cons_cons _ (.slnil)))))⟩
        ·
         rintro a93 w94 ⟨v427, hev, hF93, hS93⟩
         subst hev
         refine then_n (wp_region_lit ?_)
         refine wplp 3 [0, 4, 6, 7, 26, 55, 57] [(0, i6 v1), (4, pp b16 0), (6, .func (.func 76) #[] #[pp b13 0]), (7, pp b40 0), (26, i6 v330), (55, i6 v330), (57, .int .u16 (v427.tmod 3329))] hF93 (fun a95 hF95 => ?_)
         obtain ⟨hg96, h⟩ := gd_ok h
         refine wpl_val hF95 (by kernel_rfl) (v := pp b40 v330.toNat) (run_indexA rfl (b := b40) (off := 0) hF95.e (k := .i64) (i := v330) hF95.e (len := 256) (E := 23) (by kernel_rfl) (s := 1) (by kernel_rfl) (inb_ok hg96) (r := v330.toNat) (by simp only [Nat.zero_add, Nat.mul_one])) (by kernel_rfl) (fun a97 hF97 => ?_)
         refine wpl_one hF97 (by kernel_rfl) (wp_store1 hF97 hS93 rfl 0 rfl (off := v330.toNat) (v := .int .u16 (v427.tmod 3329)) (by kernel_rfl) rfl rfl (.ic (lt_len (inb_nat hg96) hl_v329)) (L' := [.blk b40 (ic .u16 (v329.set v330.toNat (v427.tmod 3329))) 61, .blk b16 (ic .u16 (rz 256)) 61, .blk b13 ([Value.slice o10 v2.length k12]) 24, .ro o10 v2.length k12 (ic .u8 v2)]) rfl (fun w98 a99 hS99 hF99 => (wpList_nil (blk_n (then_n (wp_region_lit ?_))))))
         refine wplp 2 [0, 4, 6, 7, 26] [(0, i6 v1), (4, pp b16 0), (6, .func (.func 76) #[] #[pp b13 0]), (7, pp b40 0), (26, i6 (IntKind.i64.wrap (v330 + 1)))] hF99 (fun a100 hF100 => (wpList_nil ?_))
         exact ⟨k46, Nat.lt_succ_self _, (v329.set v330.toNat (v427.tmod 3329)), (IntKind.i64.wrap (v330 + 1)), h, Fr.pick [0, 4, 6, 7, 26] (by kernel_rfl) hF100, hS99.sub (.cons_cons _ (.cons_cons _ (.cons_cons _ (.cons_cons _ (.slnil))))), len_is ((v329.set v330.toNat (v427.tmod 3329))) (n := 256) (List.length_set.trans hl_v329)⟩
       ·
        have h := if_f ht49 hr46
        refine wp_exit ?_
        refine then_x (then_x (cut_x ?_))
        have hr := Option.some.inj h
        subst hr
        exact ⟨_, rfl, Fr.pick [4, 7] (by kernel_rfl) hF48, hS46.sub (.cons_cons _ (.cons_cons _ (.cons_cons _ (.cons_cons _ (.slnil))))), hl_v329⟩
     ·
      rintro a101 w102 ⟨v331, hev, hF101, hS101, hl_v331⟩
      subst hev
      refine then_n (wp_seq (wp_region_lit ?_))
      refine wpl_val hF101 (by kernel_rfl) (v := .agg (ic .u16 v331).toArray) (run_loadR rfl (b := b40) (off := 0) hF101.e (by kernel_rfl) (k := 256) (by kernel_rfl) (((ic_len _ _).trans hl_v331) : (ic .u16 v331).length = 256) (hS101.all 0 rfl)) (by kernel_rfl) (fun a103 hF103 => ?_)
      refine wpl_one hF103 (by kernel_rfl) (wp_store hF103 hS101 rfl 1 rfl (off := 0) (by kernel_rfl) (v := .agg (ic .u16 v331).toArray) (by kernel_rfl) (vs := ic .u16 v331) rfl (k := 256) (by kernel_rfl) (((ic_len _ _).trans hl_v331) : (ic .u16 v331).length = 256) (by have h2 := (((ic_len _ _).trans (len_is (rz 256) (n := 256) (List.length_replicate))) : (ic .u16 (rz 256)).length = 256); omega) (ic_one _ _) (cs' := ic .u16 v331) ((upd_ic _ _ _ _).trans (congrArg (ic .u16) (upd_all ((hl_v331).trans ((len_is (rz 256) (n := 256) (List.length_replicate))).symm)))) (by kernel_rfl) (L' := [.blk b40 (ic .u16 v331) 61, .blk b16 (ic .u16 v331) 61, .blk b13 ([Value.slice o10 v2.length k12]) 24, .ro o10 v2.length k12 (ic .u8 v2)]) rfl (fun w104 a105 hS105 hF105 => ?_))
      refine wplp 1 [4, 5] [(4, pp b16 0), (5, i6 0)] hF105 (fun a106 hF106 => (wpList_nil (then_n (wp_ret (ret_ok hF106 [.agg (ic .u16 v331).toArray, i6 0] (⟨⟨⟨b16, 0, none⟩, by kernel_rfl, loadVarR (by kernel_rfl) (k := 256) (by kernel_rfl) (((ic_len _ _).trans hl_v331) : (ic .u16 v331).length = 256) (hS105.all 1 rfl)⟩, by kernel_rfl, trivial⟩) ?_)))))
      have hr0 := Option.some.inj h
      obtain ⟨hq0, hr1⟩ := Prod.mk.inj hr0
      subst hq0
      subst hr1
      exact ⟨rfl, hS105.sub (List.nil_sublist _), hl_v331⟩
  ·
   have hF107 := Fr.eqv (L := [(0, i6 v1), (3, pp b13 0), (4, pp b16 0), (13, .bool (v1 != 2))]) (Fr.pick [0, 3, 4, 13] (by kernel_rfl) hF20) (M := [(0, i6 v1), (3, pp b13 0), (4, pp b16 0), (13, .bool false)]) (by rw [ht21])
   have h := if_f ht21 h
   refine wplp 4 [0, 3, 4, 17] [(0, i6 v1), (3, pp b13 0), (4, pp b16 0), (17, .bool false)] hF107 (fun a108 hF108 => ?_)
   refine wpl_val hF108 (by kernel_rfl) (v := .slice o10 v2.length k12) (run_load1 rfl (b := b13) (off := 0) hF108.e (by kernel_rfl) (hS18.at 1 rfl (0) rfl)) (by kernel_rfl) (fun a109 hF109 => ?_)
   refine wplp 5 [0, 3, 4, 23] [(0, i6 v1), (3, pp b13 0), (4, pp b16 0), (23, .bool ((v2.length : Int) != (IntKind.i64.wrap (64 * v1))))] hF109 (fun a110 hF110 => (wpList_nil (then_n ?_)))
   refine wp_cond_split (t := ((v2.length : Int) != (IntKind.i64.wrap (64 * v1)))) hF110.e (fun ht111 => ?_) (fun ht111 => ?_)
   ·
    have h := if_t ht111 h
    refine wp_seq (wp_region_lit ?_)
    refine wplp 1 [4, 24] [(4, pp b16 0), (24, .agg (ic .u16 (rz 256)).toArray)] hF110 (fun a112 hF112 => ?_)
    refine wpl_one hF112 (by kernel_rfl) (wp_store hF112 hS18 rfl 0 rfl (off := 0) (by kernel_rfl) (v := .agg (ic .u16 (rz 256)).toArray) (by kernel_rfl) (vs := ic .u16 (rz 256)) rfl (k := 256) (by kernel_rfl) (((ic_len _ _).trans (len_is (rz 256) (n := 256) (List.length_replicate))) : (ic .u16 (rz 256)).length = 256) (by have h2 := (((ic_len _ _).trans (len_is (rz 256) (n := 256) (List.length_replicate))) : (ic .u16 (rz 256)).length = 256); omega) (ic_one _ _) (cs' := ic .u16 (rz 256)) ((upd_ic _ _ _ _).trans (congrArg (ic .u16) (upd_all (((len_is (rz 256) (n := 256) (List.length_replicate))).trans ((len_is (rz 256) (n := 256) (List.length_replicate))).symm)))) (by kernel_rfl) (L' := [.blk b16 (ic .u16 (rz 256)) 61, .blk b13 ([Value.slice o10 v2.length k12]) 24, .ro o10 v2.length k12 (ic .u8 v2)]) rfl (fun w113 a114 hS114 hF114 => ?_))
    refine wplp 1 [4, 5] [(4, pp b16 0), (5, i6 1)] hF114 (fun a115 hF115 => (wpList_nil (then_n (wp_ret ?_))))
    refine then_r (ret_ok hF115 [.agg (ic .u16 (rz 256)).toArray, i6 1] (⟨⟨⟨b16, 0, none⟩, by kernel_rfl, loadVarR (by kernel_rfl) (k := 256) (by kernel_rfl) (((ic_len _ _).trans (len_is (rz 256) (n := 256) (List.length_replicate))) : (ic .u16 (rz 256)).length = 256) (hS114.all 0 rfl)⟩, by kernel_rfl, trivial⟩) ?_)
    have hr0 := Option.some.inj h
    obtain ⟨hq0, hr1⟩ := Prod.mk.inj hr0
    subst hq0
    subst hr1
    exact ⟨rfl, hS114.sub (List.nil_sublist _), (len_is (rz 256) (n := 256) (List.length_replicate))⟩
   ·
    have h := if_f ht111 h
    refine wp_skip (then_n (wp_seq (wp_region_lit ?_)))
    refine wplp 2 [0, 4, 6] [(0, i6 v1), (4, pp b16 0), (6, .func (.func 76) #[] #[pp b13 0])] hF110 (fun a116 hF116 => (wpList_nil (then_n (wp_seq (wp_region_lit ?_)))))
    refine wpl_one hF116 (by kernel_rfl) (wp_alloc hF116 hS18 rfl (z := .agg (ic .u16 (rz 256)).toArray) (by kernel_rfl) (ic .u16 (rz 256)) rfl (by kernel_rfl) (fun b117 w118 a119 hS119 hF119 => (wpList_nil (then_n (wp_seq (wp_seq (wp_region_lit ?_)))))))
    refine wplp 1 [0, 4, 6, 7, 26] [(0, i6 v1), (4, pp b16 0), (6, .func (.func 76) #[] #[pp b13 0]), (7, pp b117 0), (26, i6 0)] hF119 (fun a120 hF120 => (wpList_nil (then_n ?_)))
    obtain ⟨ev121, hl122, h⟩ := bind_ok h
    refine block_cut (fun a' w' => ∃ (v795 : List Int), v795 = ev121 ∧ Fr 61 [] [(4, pp b16 0), (7, pp b117 0)] a' ∧ St w w' [.blk b117 (ic .u16 v795) 61, .blk b16 (ic .u16 (rz 256)) 61, .blk b13 ([Value.slice o10 v2.length k12]) 24, .ro o10 v2.length k12 (ic .u8 v2)] ∧ v795.length = 256) ?_ ?_
    ·
     refine wp_loop_ghost (fun k a' w' => ∃ (v793 : List Int) (v794 : Int), i_ring_Cbd_l7 v1 v2 k v793 v794 = some ev121 ∧ Fr 61 [] [(0, i6 v1), (4, pp b16 0), (6, .func (.func 76) #[] #[pp b13 0]), (7, pp b117 0), (26, i6 v794)] a' ∧ St w w' [.blk b117 (ic .u16 v793) 61, .blk b16 (ic .u16 (rz 256)) 61, .blk b13 ([Value.slice o10 v2.length k12]) 24, .ro o10 v2.length k12 (ic .u8 v2)] ∧ v793.length = 256) LIM ⟨(rz 256), 0, hl122, Fr.pick [0, 4, 6, 7, 26] (by kernel_rfl) hF120, hS119, (len_is (rz 256) (n := 256) (List.length_replicate))⟩ ?_
     rintro k123 a123 w124 ⟨v793, v794, hr123, hF123, hS123, hl_v793⟩
     cases k123 with
     | zero => rw [i_ring_Cbd_l7] at hr123; cases hr123
     | succ k123 =>
      rw [i_ring_Cbd_l7] at hr123
      refine wp_seq (wp_region_lit ?_)
      refine wplp 1 [0, 4, 6, 7, 26, 27] [(0, i6 v1), (4, pp b16 0), (6, .func (.func 76) #[] #[pp b13 0]), (7, pp b117 0), (26, i6 v794), (27, .bool (decide (v794 < 256)))] hF123 (fun a125 hF125 => (wpList_nil (then_n (wp_seq ?_))))
      refine wp_cond_split (t := (decide (v794 < 256))) hF125.e (fun ht126 => ?_) (fun ht126 => ?_)
      ·
       have h := if_t ht126 hr123
       refine wp_skip (then_n (wp_seq (wp_block (wp_seq (wp_region_lit ?_)))))
       refine wplp 2 [0, 4, 6, 7, 8, 26] [(0, i6 v1), (4, pp b16 0), (6, .func (.func 76) #[] #[pp b13 0]), (7, pp b117 0), (8, i6 v794), (26, i6 v794)] hF125 (fun a127 hF127 => (wpList_nil (then_n (wp_seq (wp_region_lit ?_)))))
       refine wplp 1 [0, 4, 6, 7, 8, 9, 26] [(0, i6 v1), (4, pp b16 0), (6, .func (.func 76) #[] #[pp b13 0]), (7, pp b117 0), (8, i6 v794), (9, .int .u16 3329), (26, i6 v794)] hF127 (fun a128 hF128 => (wpList_nil (then_n (wp_seq (wp_seq (wp_region_lit ?_))))))
       refine wplp 2 [0, 4, 6, 7, 8, 9, 26, 29, 30] [(0, i6 v1), (4, pp b16 0), (6, .func (.func 76) #[] #[pp b13 0]), (7, pp b117 0), (8, i6 v794), (9, .int .u16 3329), (26, i6 v794), (29, i6 v1), (30, i6 0)] hF128 (fun a129 hF129 => (wpList_nil (then_n ?_)))
       obtain ⟨ev130, hl131, h⟩ := bind_ok h
       refine block_cut (fun a' w' => ∃ (v891 : Int), v891 = ev130 ∧ Fr 61 [] [(0, i6 v1), (4, pp b16 0), (6, .func (.func 76) #[] #[pp b13 0]), (7, pp b117 0), (8, i6 v794), (9, .int .u16 v891), (26, i6 v794)] a' ∧ St w w' [.blk b117 (ic .u16 v793) 61, .blk b16 (ic .u16 (rz 256)) 61, .blk b13 ([Value.slice o10 v2.length k12]) 24, .ro o10 v2.length k12 (ic .u8 v2)]) ?_ ?_
       ·
        refine wp_loop_ghost (fun k a' w' => ∃ (v889 : Int) (v890 : Int), i_ring_Cbd_l8 v1 v794 v2 k v889 v890 = some ev130 ∧ Fr 61 [] [(0, i6 v1), (4, pp b16 0), (6, .func (.func 76) #[] #[pp b13 0]), (7, pp b117 0), (8, i6 v794), (9, .int .u16 v890), (26, i6 v794), (29, i6 v1), (30, i6 v889)] a' ∧ St w w' [.blk b117 (ic .u16 v793) 61, .blk b16 (ic .u16 (rz 256)) 61, .blk b13 ([Value.slice o10 v2.length k12]) 24, .ro o10 v2.length k12 (ic .u8 v2)]) LIM ⟨0, 3329, hl131, Fr.pick [0, 4, 6, 7, 8, 9, 26, 29, 30] (by kernel_rfl) hF129, hS123⟩ ?_
        rintro k132 a132 w133 ⟨v889, v890, hr132, hF132, hS132⟩
        cases k132 with
        | zero => rw [i_ring_Cbd_l8] at hr132; cases hr132
        | succ k132 =>
         rw [i_ring_Cbd_l8] at hr132
         refine wp_seq (wp_region_lit ?_)
         refine wplp 1 [0, 4, 6, 7, 8, 9, 26, 29, 30, 31] [(0, i6 v1), (4, pp b16 0), (6, .func (.func 76) #[] #[pp b13 0]), (7, pp b117 0), (8, i6 v794), (9, .int .u16 v890), (26, i6 v794), (29, i6 v1), (30, i6 v889), (31, .bool (decide (v889 < v1)))] hF132 (fun a134 hF134 => (wpList_nil (then_n (wp_seq ?_))))
         refine wp_cond_split (t := (decide (v889 < v1))) hF134.e (fun ht135 => ?_) (fun ht135 => ?_)
         ·
          have h := if_t ht135 hr132
          refine wp_skip (then_n (wp_seq (wp_block (wp_seq (wp_region_lit ?_)))))
          refine wplp 2 [0, 4, 6, 7, 8, 9, 10, 26, 29, 30] [(0, i6 v1), (4, pp b16 0), (6, .func (.func 76) #[] #[pp b13 0]), (7, pp b117 0), (8, i6 v794), (9, .int .u16 v890), (10, i6 v889), (26, i6 v794), (29, i6 v1), (30, i6 v889)] hF134 (fun a136 hF136 => (wpList_nil (then_n (wp_region_lit ?_))))
          refine wplp 8 [0, 4, 6, 7, 8, 10, 26, 29, 30, 33, 34, 40] [(0, i6 v1), (4, pp b16 0), (6, .func (.func 76) #[] #[pp b13 0]), (7, pp b117 0), (8, i6 v794), (10, i6 v889), (26, i6 v794), (29, i6 v1), (30, i6 v889), (33, .int .u16 v890), (34, .func (.func 76) #[] #[pp b13 0]), (40, i6 (IntKind.i64.wrap ((IntKind.i64.wrap ((IntKind.i64.wrap (2 * v1)) * v794)) + v889)))] hF136 (fun a137 hF137 => ?_)
          refine wpl_one hF137 (by kernel_rfl) (wp_inl hF137 (by kernel_rfl) (g := 76) (args := #[i6 (IntKind.i64.wrap ((IntKind.i64.wrap ((IntKind.i64.wrap (2 * v1)) * v794)) + v889)), pp b13 0]) (by kernel_rfl) (calls_of_wp Try.func76 rfl ?_))
          refine go_fr (Fr.start (#[i6 (IntKind.i64.wrap ((IntKind.i64.wrap ((IntKind.i64.wrap (2 * v1)) * v794)) + v889)), pp b13 0] : Array Value) 12 14 [(0, i6 (IntKind.i64.wrap ((IntKind.i64.wrap ((IntKind.i64.wrap (2 * v1)) * v794)) + v889))), (1, pp b13 0)] rfl (by kernel_rfl)) (fun a138 hF138 => (wp_seq ?_))
          obtain ⟨v901, hv_v901, h⟩ := nm_ok h
          have hF139 := Fr.eqv (L := [(0, i6 (IntKind.i64.wrap ((IntKind.i64.wrap ((IntKind.i64.wrap (2 * v1)) * v794)) + v889))), (1, pp b13 0)]) (Fr.pick [0, 1] (by kernel_rfl) hF138) (M := [(0, i6 v901), (1, pp b13 0)]) (by rw [hv_v901])
          refine wp_region_lit ?_
          refine wplp 1 [0, 1] [(0, i6 v901), (1, pp b13 0)] hF139 (fun a140 hF140 => (wpList_nil (then_n (wp_seq (wp_region_lit ?_)))))
          refine wpl_val hF140 (by kernel_rfl) (v := .slice o10 v2.length k12) (run_load1 rfl (b := b13) (off := 0) hF140.e (by kernel_rfl) (hS132.at 2 rfl (0) rfl)) (by kernel_rfl) (fun a141 hF141 => ?_)
          refine wplp 2 [0, 4, 6] [(0, i6 v901), (4, .slice o10 v2.length k12), (6, i6 (IntKind.i64.wrap (v901.tdiv 8)))] hF141 (fun a142 hF142 => ?_)
          obtain ⟨hg143, h⟩ := gd_ok h
          refine wpl_val hF142 (by kernel_rfl) (v := pp (blkOf o10) (offOf o10 + (IntKind.i64.wrap (v901.tdiv 8)).toNat)) (run_indexS rfl (ao := o10) (m := v2.length) (c := k12) hF142.e (rd_ne hS132 3 rfl rfl (j := (IntKind.i64.wrap (v901.tdiv 8)).toNat) (v := .int .u8 (rd v2 (IntKind.i64.wrap (v901.tdiv 8)).toNat)) (ic_get (lt_len (inb_nat hg143) (len_is (v2) (n := v2.length) rfl)))) (k := .i64) (i := (IntKind.i64.wrap (v901.tdiv 8))) hF142.e (E := 5) (by kernel_rfl) (s := 1) (by kernel_rfl) (inb_ok hg143) (r := offOf o10 + (IntKind.i64.wrap (v901.tdiv 8)).toNat) (by simp only [Nat.mul_one])) (by kernel_rfl) (fun a144 hF144 => ?_)
          refine wpl_val hF144 (by kernel_rfl) (v := .int .u8 (rd v2 ((IntKind.i64.wrap (v901.tdiv 8)).toNat))) (run_load1 rfl (b := blkOf o10) (off := offOf o10 + (IntKind.i64.wrap (v901.tdiv 8)).toNat) hF144.e (by kernel_rfl) (hS132.atA 3 rfl rfl ((IntKind.i64.wrap (v901.tdiv 8)).toNat) (ic_get (lt_len (inb_nat hg143) (len_is (v2) (n := v2.length) rfl))))) (by kernel_rfl) (fun a145 hF145 => ?_)
          refine wplp 2 [8, 10] [(8, .int .u8 (rd v2 ((IntKind.i64.wrap (v901.tdiv 8)).toNat))), (10, i6 (v901.tmod 8))] hF145 (fun a146 hF146 => ?_)
          obtain ⟨hg147, h⟩ := gd_ok h
          refine wpl_val hF146 (by kernel_rfl) (v := .int .u8 (ishr .u8 (rd v2 ((IntKind.i64.wrap (v901.tdiv 8)).toNat)) (v901.tmod 8))) (run_shift rfl (.inr rfl) (k := .u8) (yk := .i64) (p := (rd v2 ((IntKind.i64.wrap (v901.tdiv 8)).toNat))) (q := (v901.tmod 8)) hF146.e hF146.e (of_decide_eq_true hg147)) (by kernel_rfl) (fun a148 hF148 => ?_)
          obtain ⟨v912, hv_v912, h⟩ := nm_ok h
          have hF149 := Fr.eqv (L := [(11, .int .u8 (ishr .u8 (rd v2 ((IntKind.i64.wrap (v901.tdiv 8)).toNat)) (v901.tmod 8)))]) (Fr.pick [11] (by kernel_rfl) hF148) (M := [(11, .int .u8 v912)]) (by rw [hv_v912])
          refine wplp 3 [3] [(3, .int .u16 (IntKind.u16.wrap (iand .u8 v912 1)))] hF149 (fun a150 hF150 => (wpList_nil (then_n (wp_ret (ret_ok hF150 [.int .u16 (IntKind.u16.wrap (iand .u8 v912 1))] (⟨by kernel_rfl, trivial⟩) (inl_ret ?_))))))
          refine go_fr (hF137.next (.int .u16 (IntKind.u16.wrap (iand .u8 v912 1))) [0, 4, 6, 7, 8, 10, 26, 29, 30, 33, 41] (M := [(0, i6 v1), (4, pp b16 0), (6, .func (.func 76) #[] #[pp b13 0]), (7, pp b117 0), (8, i6 v794), (10, i6 v889), (26, i6 v794), (29, i6 v1), (30, i6 v889), (33, .int .u16 v890), (41, .int .u16 (IntKind.u16.wrap (iand .u8 v912 1)))]) (by kernel_rfl)) (fun a151 hF151 => ?_)
          refine wplp 9 [0, 4, 6, 7, 8, 26, 29, 30, 33, 41, 42, 50] [(0, i6 v1), (4, pp b16 0), (6, .func (.func 76) #[] #[pp b13 0]), (7, pp b117 0), (8, i6 v794), (26, i6 v794), (29, i6 v1), (30, i6 v889), (33, .int .u16 v890), (41, .int .u16 (IntKind.u16.wrap (iand .u8 v912 1))), (42, .func (.func 76) #[] #[pp b13 0]), (50, i6 (IntKind.i64.wrap ((IntKind.i64.wrap ((IntKind.i64.wrap ((IntKind.i64.wrap (2 * v1)) * v794)) + v1)) + v889)))] hF151 (fun a152 hF152 => ?_)
          refine wpl_one hF152 (by kernel_rfl) (wp_inl hF152 (by kernel_rfl) (g := 76) (args := #[i6 (IntKind.i64.wrap ((IntKind.i64.wrap ((IntKind.i64.wrap ((IntKind.i64.wrap (2 * v1)) * v794)) + v1)) + v889)), pp b13 0]) (by kernel_rfl) (calls_of_wp Try.func76 rfl ?_))
          refine go_fr (Fr.start (#[i6 (IntKind.i64.wrap ((IntKind.i64.wrap ((IntKind.i64.wrap ((IntKind.i64.wrap (2 * v1)) * v794)) + v1)) + v889)), pp b13 0] : Array Value) 12 14 [(0, i6 (IntKind.i64.wrap ((IntKind.i64.wrap ((IntKind.i64.wrap ((IntKind.i64.wrap (2 * v1)) * v794)) + v1)) + v889))), (1, pp b13 0)] rfl (by kernel_rfl)) (fun a153 hF153 => (wp_seq ?_))
          obtain ⟨v918, hv_v918, h⟩ := nm_ok h
          have hF154 := Fr.eqv (L := [(0, i6 (IntKind.i64.wrap ((IntKind.i64.wrap ((IntKind.i64.wrap ((IntKind.i64.wrap (2 * v1)) * v794)) + v1)) + v889))), (1, pp b13 0)]) (Fr.pick [0, 1] (by kernel_rfl) hF153) (M := [(0, i6 v918), (1, pp b13 0)]) (by rw [hv_v918])
          refine wp_region_lit ?_
          refine wplp 1 [0, 1] [(0, i6 v918), (1, pp b13 0)] hF154 (fun a155 hF155 => (wpList_nil (then_n (wp_seq (wp_region_lit ?_)))))
          refine wpl_val hF155 (by kernel_rfl) (v := .slice o10 v2.length k12) (run_load1 rfl (b := b13) (off := 0) hF155.e (by kernel_rfl) (hS132.at 2 rfl (0) rfl)) (by kernel_rfl) (fun a156 hF156 => ?_)
          refine wplp 2 [0, 4, 6] [(0, i6 v918), (4, .slice o10 v2.length k12), (6, i6 (IntKind.i64.wrap (v918.tdiv 8)))] hF156 (fun a157 hF157 => ?_)
          obtain ⟨hg158, h⟩ := gd_ok h
          refine wpl_val hF157 (by kernel_rfl) (v := pp (blkOf o10) (offOf o10 + (IntKind.i64.wrap (v918.tdiv 8)).toNat)) (run_indexS rfl (ao := o10) (m := v2.length) (c := k12) hF157.e (rd_ne hS132 3 rfl rfl (j := (IntKind.i64.wrap (v918.tdiv 8)).toNat) (v := .int .u8 (rd v2 (IntKind.i64.wrap (v918.tdiv 8)).toNat)) (ic_get (lt_len (inb_nat hg158) (len_is (v2) (n := v2.length) rfl)))) (k := .i64) (i := (IntKind.i64.wrap (v918.tdiv 8))) hF157.e (E := 5) (by kernel_rfl) (s := 1) (by kernel_rfl) (inb_ok hg158) (r := offOf o10 + (IntKind.i64.wrap (v918.tdiv 8)).toNat) (by simp only [Nat.mul_one])) (by kernel_rfl) (fun a159 hF159 => ?_)
          refine wpl_val hF159 (by kernel_rfl) (v := .int .u8 (rd v2 ((IntKind.i64.wrap (v918.tdiv 8)).toNat))) (run_load1 rfl (b := blkOf o10) (off := offOf o10 + (IntKind.i64.wrap (v918.tdiv 8)).toNat) hF159.e (by kernel_rfl) (hS132.atA 3 rfl rfl ((IntKind.i64.wrap (v918.tdiv 8)).toNat) (ic_get (lt_len (inb_nat hg158) (len_is (v2) (n := v2.length) rfl))))) (by kernel_rfl) (fun a160 hF160 => ?_)
          refine wplp 2 [8, 10] [(8, .int .u8 (rd v2 ((IntKind.i64.wrap (v918.tdiv 8)).toNat))), (10, i6 (v918.tmod 8))] hF160 (fun a161 hF161 => ?_)
          obtain ⟨hg162, h⟩ := gd_ok h
          refine wpl_val hF161 (by kernel_rfl) (v := .int .u8 (ishr .u8 (rd v2 ((IntKind.i64.wrap (v918.tdiv 8)).toNat)) (v918.tmod 8))) (run_shift rfl (.inr rfl) (k := .u8) (yk := .i64) (p := (rd v2 ((IntKind.i64.wrap (v918.tdiv 8)).toNat))) (q := (v918.tmod 8)) hF161.e hF161.e (of_decide_eq_true hg162)) (by kernel_rfl) (fun a163 hF163 => ?_)
          obtain ⟨v929, hv_v929, h⟩ := nm_ok h
          have hF164 := Fr.eqv (L := [(11, .int .u8 (ishr .u8 (rd v2 ((IntKind.i64.wrap (v918.tdiv 8)).toNat)) (v918.tmod 8)))]) (Fr.pick [11] (by kernel_rfl) hF163) (M := [(11, .int .u8 v929)]) (by rw [hv_v929])
          refine wplp 3 [3] [(3, .int .u16 (IntKind.u16.wrap (iand .u8 v929 1)))] hF164 (fun a165 hF165 => (wpList_nil (then_n (wp_ret (ret_ok hF165 [.int .u16 (IntKind.u16.wrap (iand .u8 v929 1))] (⟨by kernel_rfl, trivial⟩) (inl_ret ?_))))))
          refine go_fr (hF152.next (.int .u16 (IntKind.u16.wrap (iand .u8 v929 1))) [0, 4, 6, 7, 8, 26, 29, 30, 33, 41, 51] (M := [(0, i6 v1), (4, pp b16 0), (6, .func (.func 76) #[] #[pp b13 0]), (7, pp b117 0), (8, i6 v794), (26, i6 v794), (29, i6 v1), (30, i6 v889), (33, .int .u16 v890), (41, .int .u16 (IntKind.u16.wrap (iand .u8 v912 1))), (51, .int .u16 (IntKind.u16.wrap (iand .u8 v929 1)))]) (by kernel_rfl)) (fun a166 hF166 => ?_)
          refine wplp 3 [0, 4, 6, 7, 8, 9, 26, 29, 30] [(0, i6 v1), (4, pp b16 0), (6, .func (.func 76) #[] #[pp b13 0]), (7, pp b117 0), (8, i6 v794), (9, .int .u16 (IntKind.u16.wrap (v890 + (IntKind.u16.wrap ((IntKind.u16.wrap (iand .u8 v912 1)) - (IntKind.u16.wrap (iand .u8 v929 1))))))), (26, i6 v794), (29, i6 v1), (30, i6 v889)] hF166 (fun a167 hF167 => (wpList_nil (blk_n (then_n ?_))))
          obtain ⟨v934, hv_v934, h⟩ := nm_ok h
          have hF168 := Fr.eqv (L := [(0, i6 v1), (4, pp b16 0), (6, .func (.func 76) #[] #[pp b13 0]), (7, pp b117 0), (8, i6 v794), (9, .int .u16 (IntKind.u16.wrap (v890 + (IntKind.u16.wrap ((IntKind.u16.wrap (iand .u8 v912 1)) - (IntKind.u16.wrap (iand .u8 v929 1))))))), (26, i6 v794), (29, i6 v1), (30, i6 v889)]) (Fr.pick [0, 4, 6, 7, 8, 9, 26, 29, 30] (by kernel_rfl) hF167) (M := [(0, i6 v1), (4, pp b16 0), (6, .func (.func 76) #[] #[pp b13 0]), (7, pp b117 0), (8, i6 v794), (9, .int .u16 v934), (26, i6 v794), (29, i6 v1), (30, i6 v889)]) (by rw [hv_v934])
          refine wp_region_lit ?_
          refine wplp 2 [0, 4, 6, 7, 8, 9, 26, 29, 30] [(0, i6 v1), (4, pp b16 0), (6, .func (.func 76) #[] #[pp b13 0]), (7, pp b117 0), (8, i6 v794), (9, .int .u16 v934), (26, i6 v794), (29, i6 v1), (30, i6 (IntKind.i64.wrap (v889 + 1)))] hF168 (fun a169 hF169 => (wpList_nil ?_))
          exact ⟨k132, Nat.lt_succ_self _, (IntKind.i64.wrap (v889 + 1)), v934, h, Fr.pick [0, 4, 6, 7, 8, 9, 26, 29, 30] (by kernel_rfl) hF169, hS132.sub (.cons_cons _ (.cons_cons _ (.cons_cons _ (.cons_cons _ (.slnil)))))⟩
         ·
          have h := if_f ht135 hr132
          refine wp_exit ?_
          refine then_x (then_x (cut_x ?_))
          have hr := Option.some.inj h
          subst hr
          exact ⟨_, rfl, Fr.pick [0, 4, 6, 7, 8, 9, 26] (by kernel_rfl) hF134, hS132.sub (.cons_cons _ (.cons_cons _ (.cons_cons _ (.cons_cons _ (.slnil)))))⟩
       ·
        rintro a170 w171 ⟨v891, hev, hF170, hS170⟩
        subst hev
        refine then_n (wp_region_lit ?_)
        refine wplp 3 [0, 4, 6, 7, 26, 55, 57] [(0, i6 v1), (4, pp b16 0), (6, .func (.func 76) #[] #[pp b13 0]), (7, pp b117 0), (26, i6 v794), (55, i6 v794), (57, .int .u16 (v891.tmod 3329))] hF170 (fun a172 hF172 => ?_)
        obtain ⟨hg173, h⟩ := gd_ok h
        refine wpl_val hF172 (by kernel_rfl) (v := pp b117 v794.toNat) (run_indexA rfl (b := b117) (off := 0) hF172.e (k := .i64) (i := v794) hF172.e (len := 256) (E := 23) (by kernel_rfl) (s := 1) (by kernel_rfl) (inb_ok hg173) (r := v794.toNat) (by simp only [Nat.zero_add, Nat.mul_one])) (by kernel_rfl) (fun a174 hF174 => ?_)
        refine wpl_one hF174 (by kernel_rfl) (wp_store1 hF174 hS170 rfl 0 rfl (off := v794.toNat) (v := .int .u16 (v891.tmod 3329)) (by kernel_rfl) rfl rfl (.ic (lt_len (inb_nat hg173) hl_v793)) (L' := [.blk b117 (ic .u16 (v793.set v794.toNat (v891.tmod 3329))) 61, .blk b16 (ic .u16 (rz 256)) 61, .blk b13 ([Value.slice o10 v2.length k12]) 24, .ro o10 v2.length k12 (ic .u8 v2)]) rfl (fun w175 a176 hS176 hF176 => (wpList_nil (blk_n (then_n (wp_region_lit ?_))))))
        refine wplp 2 [0, 4, 6, 7, 26] [(0, i6 v1), (4, pp b16 0), (6, .func (.func 76) #[] #[pp b13 0]), (7, pp b117 0), (26, i6 (IntKind.i64.wrap (v794 + 1)))] hF176 (fun a177 hF177 => (wpList_nil ?_))
        exact ⟨k123, Nat.lt_succ_self _, (v793.set v794.toNat (v891.tmod 3329)), (IntKind.i64.wrap (v794 + 1)), h, Fr.pick [0, 4, 6, 7, 26] (by kernel_rfl) hF177, hS176.sub (.cons_cons _ (.cons_cons _ (.cons_cons _ (.cons_cons _ (.slnil))))), len_is ((v793.set v794.toNat (v891.tmod 3329))) (n := 256) (List.length_set.trans hl_v793)⟩
      ·
       have h := if_f ht126 hr123
       refine wp_exit ?_
       refine then_x (then_x (cut_x ?_))
       have hr := Option.some.inj h
       subst hr
       exact ⟨_, rfl, Fr.pick [4, 7] (by kernel_rfl) hF125, hS123.sub (.cons_cons _ (.cons_cons _ (.cons_cons _ (.cons_cons _ (.slnil))))), hl_v793⟩
    ·
     rintro a178 w179 ⟨v795, hev, hF178, hS178, hl_v795⟩
     subst hev
     refine then_n (wp_seq (wp_region_lit ?_))
     refine wpl_val hF178 (by kernel_rfl) (v := .agg (ic .u16 v795).toArray) (run_loadR rfl (b := b117) (off := 0) hF178.e (by kernel_rfl) (k := 256) (by kernel_rfl) (((ic_len _ _).trans hl_v795) : (ic .u16 v795).length = 256) (hS178.all 0 rfl)) (by kernel_rfl) (fun a180 hF180 => ?_)
     refine wpl_one hF180 (by kernel_rfl) (wp_store hF180 hS178 rfl 1 rfl (off := 0) (by kernel_rfl) (v := .agg (ic .u16 v795).toArray) (by kernel_rfl) (vs := ic .u16 v795) rfl (k := 256) (by kernel_rfl) (((ic_len _ _).trans hl_v795) : (ic .u16 v795).length = 256) (by have h2 := (((ic_len _ _).trans (len_is (rz 256) (n := 256) (List.length_replicate))) : (ic .u16 (rz 256)).length = 256); omega) (ic_one _ _) (cs' := ic .u16 v795) ((upd_ic _ _ _ _).trans (congrArg (ic .u16) (upd_all ((hl_v795).trans ((len_is (rz 256) (n := 256) (List.length_replicate))).symm)))) (by kernel_rfl) (L' := [.blk b117 (ic .u16 v795) 61, .blk b16 (ic .u16 v795) 61, .blk b13 ([Value.slice o10 v2.length k12]) 24, .ro o10 v2.length k12 (ic .u8 v2)]) rfl (fun w181 a182 hS182 hF182 => ?_))
     refine wplp 1 [4, 5] [(4, pp b16 0), (5, i6 0)] hF182 (fun a183 hF183 => (wpList_nil (then_n (wp_ret (ret_ok hF183 [.agg (ic .u16 v795).toArray, i6 0] (⟨⟨⟨b16, 0, none⟩, by kernel_rfl, loadVarR (by kernel_rfl) (k := 256) (by kernel_rfl) (((ic_len _ _).trans hl_v795) : (ic .u16 v795).length = 256) (hS182.all 1 rfl)⟩, by kernel_rfl, trivial⟩) ?_)))))
     have hr0 := Option.some.inj h
     obtain ⟨hq0, hr1⟩ := Prod.mk.inj hr0
     subst hq0
     subst hr1
     exact ⟨rfl, hS182.sub (List.nil_sublist _), hl_v795⟩
def i_kem_noise (v1 : List Int) (v5 : Int) : Option (List Int) :=
  ((i_keccak_Shake_c256_c128_2 v1 ([(IntKind.u8.wrap v5)])).bind fun (v16, v17) => (if (v17 != 0) = true then none else ((i_ring_Cbd 2 v16).bind fun (v37, v38) => (if (v38 != 0) = true then none else some v37))))
theorem i_kem_noise_ok (v1 : List Int) (v5 : Int) {w : World} {o10 : Option Addr} {n11 k12 : Nat} (hn_n11 : v1.length = n11) (hrd_o10 : Rd w o10 n11 k12 (ic .u8 v1)) (c0 : List Int) (h : i_kem_noise v1 v5 = some c0) : Calls Try.prog 45 #[.slice o10 n11 k12, i6 v5] w (Ret (fun v w' => v = .agg (ic .u16 c0).toArray ∧ St w w' [] ∧ c0.length = 256)) := by
  unfold i_kem_noise at h
  refine calls_of_wp Try.func45 rfl ?_
  have hF := Fr.start (#[.slice o10 v1.length k12, i6 v5] : Array Value) 18 20 [(0, .slice o10 v1.length k12), (1, i6 v5)] rfl (by kernel_rfl)
  subst hn_n11
  have hS : St w w [.ro o10 v1.length k12 (ic .u8 v1)] := St.start' ⟨hrd_o10, trivial⟩ rfl
  refine go_fr hF (fun a hF => (wp_seq (wp_region_lit ?_)))
  refine wpl_one hF (by kernel_rfl) (wp_alloc hF hS rfl (z := .agg (ic .u16 (rz 256)).toArray) (by kernel_rfl) (ic .u16 (rz 256)) rfl (by kernel_rfl) (fun b13 w14 a15 hS15 hF15 => (wpList_nil (then_n (wp_seq (wp_region_lit ?_))))))
  refine wplp 3 [4, 6, 8] [(4, pp b13 0), (6, .slice o10 v1.length k12), (8, .int .u8 (IntKind.u8.wrap v5))] hF15 (fun a16 hF16 => ?_)
  refine wpl_one hF16 (by kernel_rfl) (wp_buildSlice hF16 hS15 rfl (E := 5) (by kernel_rfl) (by kernel_rfl) (z := .int .u8 0) (by kernel_rfl) rfl (ps := [(0, .int .u8 (IntKind.u8.wrap v5))]) (by kernel_rfl) (by kernel_rfl) (cs := ic .u8 ([(IntKind.u8.wrap v5)])) (by kernel_rfl) (by decide) (by kernel_rfl) (fun b17 w18 a19 hS19 hF19 => ?_))
  refine wpl_one hF19 (by kernel_rfl) (wp_buildSlice hF19 hS19 rfl (E := 24) (by kernel_rfl) (by kernel_rfl) (z := .slice none 0 0) (by kernel_rfl) rfl (ps := [(0, .slice o10 v1.length k12), (1, .slice (some ⟨b17, 0, none⟩) 1 1)]) (by kernel_rfl) (by kernel_rfl) (cs := [Value.slice o10 v1.length k12, Value.slice (some ⟨b17, 0, none⟩) 1 1]) (by kernel_rfl) (by decide) (by kernel_rfl) (fun b20 w21 a22 hS22 hF22 => ?_))
  obtain ⟨⟨v16, v17⟩, hb23, h⟩ := bind_ok h
  refine wpl_one hF22 (by kernel_rfl) (wp_callR hF22 (by kernel_rfl) (g := 29) (args := #[i6 256, i6 128, .slice (some ⟨b20, 0, none⟩) 2 2]) (by kernel_rfl) (i_keccak_Shake_c256_c128_2_ok v1 ([(IntKind.u8.wrap v5)]) (hS22.rdW 0 rfl (Nat.le_refl _)) (len_is (v1) (n := v1.length) rfl) (hS22.rdro 3 rfl) (len_is ([(IntKind.u8.wrap v5)] : List Int) (n := 1) rfl) (hS22.rdW 1 rfl (Nat.le_refl _)) v16 v17 hb23) (fun vr w24 hp => ?_))
  obtain ⟨o25, n26, k27, hn_n26, rfl, hS28⟩ := hp
  subst hn_n26
  replace hS28 := St.call hS22 hS28 rfl
  refine go_fr (hF22.next (.tuple #[.slice o25 v16.length k27, i6 v17]) [4, 11] (M := [(4, pp b13 0), (11, .tuple #[.slice o25 v16.length k27, i6 v17])]) (by kernel_rfl)) (fun a28 hF28 => ?_)
  refine wplp 2 [4, 12, 13] [(4, pp b13 0), (12, .slice o25 v16.length k27), (13, i6 v17)] hF28 (fun a29 hF29 => ?_)
  refine wpl_one hF29 (by kernel_rfl) (wp_inl hF29 (by kernel_rfl) (g := 28) (args := #[.slice o25 v16.length k27, i6 v17]) (by kernel_rfl) (calls_of_wp Try.func28 rfl ?_))
  refine go_fr (Fr.start (#[.slice o25 v16.length k27, i6 v17] : Array Value) 6 8 [(0, .slice o25 v16.length k27), (1, i6 v17)] rfl (by kernel_rfl)) (fun a30 hF30 => (wp_seq (wp_region_lit ?_)))
  refine wplp 1 [0, 1] [(0, .slice o25 v16.length k27), (1, i6 v17)] hF30 (fun a31 hF31 => (wpList_nil (then_n (wp_seq (wp_region_lit ?_)))))
  refine wplp 1 [0, 5] [(0, .slice o25 v16.length k27), (5, i6 v17)] hF31 (fun a32 hF32 => ?_)
  refine wpl_one hF32 (by kernel_rfl) (wp_inl hF32 (by kernel_rfl) (g := 48) (args := #[i6 v17]) (by kernel_rfl) (calls_of_wp Try.func48 rfl ?_))
  refine go_fr (Fr.start (#[i6 v17] : Array Value) 5 6 [(0, i6 v17)] rfl (by kernel_rfl)) (fun a33 hF33 => (wp_seq (wp_region_lit ?_)))
  refine wplp 2 [0, 3] [(0, i6 v17), (3, .bool (v17 != 0))] hF33 (fun a34 hF34 => (wpList_nil (then_n ?_)))
  refine wp_cond_split (t := (v17 != 0)) hF34.e (fun ht35 => ?_) (fun ht35 => ?_)
  ·
   have h := if_t ht35 h
   refine wp_region_lit ?_
   refine wplp 2 [5] [(5, .iface 25 (i6 v17))] hF34 (fun a36 hF36 => ?_)
   cases h
  ·
   have h := if_f ht35 h
   refine wp_skip (end_ok hF34 [] trivial (inl_ret ?_))
   refine go_fr (hF32.next (.tuple #[]) [0] (M := [(0, .slice o25 v16.length k27)]) (by kernel_rfl)) (fun a37 hF37 => (wpList_nil (then_n (wp_seq (wp_region_lit ?_)))))
   refine wplp 2 [4] [(4, .slice o25 v16.length k27)] hF37 (fun a38 hF38 => (wpList_nil (then_n (wp_ret (ret_ok hF38 [.slice o25 v16.length k27] (⟨by kernel_rfl, trivial⟩) (inl_ret ?_))))))
   refine go_fr (hF29.next (.slice o25 v16.length k27) [4, 14] (M := [(4, pp b13 0), (14, .slice o25 v16.length k27)]) (by kernel_rfl)) (fun a39 hF39 => ?_)
   refine wplp 1 [4, 5] [(4, pp b13 0), (5, .slice o25 v16.length k27)] hF39 (fun a40 hF40 => (wpList_nil (then_n (wp_seq (wp_region_lit ?_)))))
   refine wplp 1 [4, 15] [(4, pp b13 0), (15, .slice o25 v16.length k27)] hF40 (fun a41 hF41 => ?_)
   obtain ⟨⟨v37, v38⟩, hb42, h⟩ := bind_ok h
   refine wpl_one hF41 (by kernel_rfl) (wp_callR hF41 (by kernel_rfl) (g := 66) (args := #[i6 2, .slice o25 v16.length k27]) (by kernel_rfl) (i_ring_Cbd_ok 2 v16 (len_is (v16) (n := v16.length) rfl) (hS28.rdsl 0 rfl) v37 v38 hb42) (fun vr w43 hp => ?_))
   obtain ⟨rfl, hS44, hl_v37⟩ := hp
   replace hS44 := St.call hS28 hS44 rfl
   refine go_fr (hF41.next (.tuple #[.agg (ic .u16 v37).toArray, i6 v38]) [4, 16] (M := [(4, pp b13 0), (16, .tuple #[.agg (ic .u16 v37).toArray, i6 v38])]) (by kernel_rfl)) (fun a44 hF44 => ?_)
   refine wplp 2 [4, 17, 18] [(4, pp b13 0), (17, .agg (ic .u16 v37).toArray), (18, i6 v38)] hF44 (fun a45 hF45 => ?_)
   refine wpl_one hF45 (by kernel_rfl) (wp_inl hF45 (by kernel_rfl) (g := 56) (args := #[.agg (ic .u16 v37).toArray, i6 v38]) (by kernel_rfl) (calls_of_wp Try.func56 rfl ?_))
   refine go_fr (Fr.start (#[.agg (ic .u16 v37).toArray, i6 v38] : Array Value) 6 8 [(0, .agg (ic .u16 v37).toArray), (1, i6 v38)] rfl (by kernel_rfl)) (fun a46 hF46 => (wp_seq (wp_region_lit ?_)))
   refine wpl_one hF46 (by kernel_rfl) (wp_box hF46 hS44 rfl (v := .agg (ic .u16 v37).toArray) (by kernel_rfl) (ic .u16 v37) rfl (by kernel_rfl) (fun b47 w48 a49 hS49 hF49 => ?_))
   refine wpl_one hF49 (by kernel_rfl) (wp_alloc hF49 hS49 rfl (z := .agg (ic .u16 (rz 256)).toArray) (by kernel_rfl) (ic .u16 (rz 256)) rfl (by kernel_rfl) (fun b50 w51 a52 hS52 hF52 => (wpList_nil (then_n (wp_seq (wp_region_lit ?_))))))
   refine wplp 1 [2, 4, 5] [(2, pp b47 0), (4, pp b50 0), (5, i6 v38)] hF52 (fun a53 hF53 => ?_)
   refine wpl_one hF53 (by kernel_rfl) (wp_inl hF53 (by kernel_rfl) (g := 48) (args := #[i6 v38]) (by kernel_rfl) (calls_of_wp Try.func48 rfl ?_))
   refine go_fr (Fr.start (#[i6 v38] : Array Value) 5 6 [(0, i6 v38)] rfl (by kernel_rfl)) (fun a54 hF54 => (wp_seq (wp_region_lit ?_)))
   refine wplp 2 [0, 3] [(0, i6 v38), (3, .bool (v38 != 0))] hF54 (fun a55 hF55 => (wpList_nil (then_n ?_)))
   refine wp_cond_split (t := (v38 != 0)) hF55.e (fun ht56 => ?_) (fun ht56 => ?_)
   ·
    have h := if_t ht56 h
    refine wp_region_lit ?_
    refine wplp 2 [5] [(5, .iface 25 (i6 v38))] hF55 (fun a57 hF57 => ?_)
    cases h
   ·
    have h := if_f ht56 h
    refine wp_skip (end_ok hF55 [] trivial (inl_ret ?_))
    refine go_fr (hF53.next (.tuple #[]) [2, 4] (M := [(2, pp b47 0), (4, pp b50 0)]) (by kernel_rfl)) (fun a58 hF58 => (wpList_nil (then_n (wp_seq (wp_region_lit ?_)))))
    refine wpl_val hF58 (by kernel_rfl) (v := .agg (ic .u16 v37).toArray) (run_loadR rfl (b := b47) (off := 0) hF58.e (by kernel_rfl) (k := 256) (by kernel_rfl) (((ic_len _ _).trans hl_v37) : (ic .u16 v37).length = 256) (hS52.all 1 rfl)) (by kernel_rfl) (fun a59 hF59 => ?_)
    refine wpl_one hF59 (by kernel_rfl) (wp_store hF59 hS52 rfl 0 rfl (off := 0) (by kernel_rfl) (v := .agg (ic .u16 v37).toArray) (by kernel_rfl) (vs := ic .u16 v37) rfl (k := 256) (by kernel_rfl) (((ic_len _ _).trans hl_v37) : (ic .u16 v37).length = 256) (by have h2 := (((ic_len _ _).trans (len_is (rz 256) (n := 256) (List.length_replicate))) : (ic .u16 (rz 256)).length = 256); omega) (ic_one _ _) (cs' := ic .u16 v37) ((upd_ic _ _ _ _).trans (congrArg (ic .u16) (upd_all ((hl_v37).trans ((len_is (rz 256) (n := 256) (List.length_replicate))).symm)))) (by kernel_rfl) (L' := [.blk b50 (ic .u16 v37) 61, .blk b47 (ic .u16 v37) 61, .sl o25 v16.length k27 1 (ic .u8 v16) 5, .blk b20 ([Value.slice o10 v1.length k12, Value.slice (some ⟨b17, 0, none⟩) 1 1]) 24, .blk b17 (ic .u8 ([(IntKind.u8.wrap v5)])) 5, .blk b13 (ic .u16 (rz 256)) 61, .ro o10 v1.length k12 (ic .u8 v1)]) rfl (fun w60 a61 hS61 hF61 => (wpList_nil (then_n (wp_ret (ret_ok hF61 [.agg (ic .u16 v37).toArray] (⟨⟨⟨b50, 0, none⟩, by kernel_rfl, loadVarR (by kernel_rfl) (k := 256) (by kernel_rfl) (((ic_len _ _).trans hl_v37) : (ic .u16 v37).length = 256) (hS61.all 0 rfl)⟩, trivial⟩) (inl_ret ?_)))))))
    refine go_fr (hF45.next (.agg (ic .u16 v37).toArray) [4, 19] (M := [(4, pp b13 0), (19, .agg (ic .u16 v37).toArray)]) (by kernel_rfl)) (fun a62 hF62 => ?_)
    refine wpl_one hF62 (by kernel_rfl) (wp_store hF62 hS61 rfl 5 rfl (off := 0) (by kernel_rfl) (v := .agg (ic .u16 v37).toArray) (by kernel_rfl) (vs := ic .u16 v37) rfl (k := 256) (by kernel_rfl) (((ic_len _ _).trans hl_v37) : (ic .u16 v37).length = 256) (by have h2 := (((ic_len _ _).trans (len_is (rz 256) (n := 256) (List.length_replicate))) : (ic .u16 (rz 256)).length = 256); omega) (ic_one _ _) (cs' := ic .u16 v37) ((upd_ic _ _ _ _).trans (congrArg (ic .u16) (upd_all ((hl_v37).trans ((len_is (rz 256) (n := 256) (List.length_replicate))).symm)))) (by kernel_rfl) (L' := [.blk b50 (ic .u16 v37) 61, .blk b47 (ic .u16 v37) 61, .sl o25 v16.length k27 1 (ic .u8 v16) 5, .blk b20 ([Value.slice o10 v1.length k12, Value.slice (some ⟨b17, 0, none⟩) 1 1]) 24, .blk b17 (ic .u8 ([(IntKind.u8.wrap v5)])) 5, .blk b13 (ic .u16 v37) 61, .ro o10 v1.length k12 (ic .u8 v1)]) rfl (fun w63 a64 hS64 hF64 => (wpList_nil (then_n (wp_ret (ret_ok hF64 [.agg (ic .u16 v37).toArray] (⟨⟨⟨b13, 0, none⟩, by kernel_rfl, loadVarR (by kernel_rfl) (k := 256) (by kernel_rfl) (((ic_len _ _).trans hl_v37) : (ic .u16 v37).length = 256) (hS64.all 5 rfl)⟩, trivial⟩) ?_))))))
    have hr0 := Option.some.inj h
    subst hr0
    exact ⟨rfl, hS64.sub (List.nil_sublist _), hl_v37⟩
def i_kem_noises (v1 : List Int) (v5 : Int) : Option (List Int × List Int × List Int) :=
  ((i_kem_noise v1 (IntKind.i64.wrap (v5 + 0))).bind fun v116 => ((i_kem_noise v1 (IntKind.i64.wrap (v5 + 1))).bind fun v127 => ((i_kem_noise v1 (IntKind.i64.wrap (v5 + 2))).bind fun v138 => some (v116, v127, v138))))
theorem i_kem_noises_ok (v1 : List Int) (v5 : Int) {w : World} {o10 : Option Addr} {n11 k12 : Nat} (hn_n11 : v1.length = n11) (hrd_o10 : Rd w o10 n11 k12 (ic .u8 v1)) (c0 : List Int) (c1 : List Int) (c2 : List Int) (h : i_kem_noises v1 v5 = some (c0, c1, c2)) : Calls Try.prog 32 #[.slice o10 n11 k12, i6 v5] w (Ret (fun v w' => v = .agg (ic .u16 c0 ++ (ic .u16 c1 ++ (ic .u16 c2))).toArray ∧ St w w' [] ∧ c0.length = 256 ∧ c1.length = 256 ∧ c2.length = 256)) := by
  unfold i_kem_noises at h
  refine calls_of_wp Try.func32 rfl ?_
  have hF := Fr.start (#[.slice o10 v1.length k12, i6 v5] : Array Value) 17 19 [(0, .slice o10 v1.length k12), (1, i6 v5)] rfl (by kernel_rfl)
  subst hn_n11
  have hS : St w w [.ro o10 v1.length k12 (ic .u8 v1)] := St.start' ⟨hrd_o10, trivial⟩ rfl
  refine go_fr hF (fun a hF => (wp_seq (wp_region_lit ?_)))
  refine wpl_one hF (by kernel_rfl) (wp_alloc hF hS rfl (z := .agg (ic .u16 (rz 256) ++ (ic .u16 (rz 256) ++ (ic .u16 (rz 256)))).toArray) (by kernel_rfl) (ic .u16 (rz 256) ++ (ic .u16 (rz 256) ++ (ic .u16 (rz 256)))) rfl (by kernel_rfl) (fun b13 w14 a15 hS15 hF15 => (wpList_nil (then_n (wp_seq (wp_region_lit ?_))))))
  refine wpl_one hF15 (by kernel_rfl) (wp_alloc hF15 hS15 rfl (z := .agg (ic .u16 (rz 256) ++ (ic .u16 (rz 256) ++ (ic .u16 (rz 256)))).toArray) (by kernel_rfl) (ic .u16 (rz 256) ++ (ic .u16 (rz 256) ++ (ic .u16 (rz 256)))) rfl (by kernel_rfl) (fun b16 w17 a18 hS18 hF18 => (wpList_nil (then_n (wp_seq (wp_seq (wp_region_lit ?_)))))))
  refine wplp 1 [0, 1, 4, 5, 7] [(0, .slice o10 v1.length k12), (1, i6 v5), (4, pp b13 0), (5, pp b16 0), (7, i6 0)] hF18 (fun a19 hF19 => (wpList_nil (then_n (wp_block (wp_loop_rounds 4 (rounds_go (n := 3) (wp_seq (wp_region_lit ?_))))))))
  refine wplp 1 [0, 1, 4, 5, 7, 8] [(0, .slice o10 v1.length k12), (1, i6 v5), (4, pp b13 0), (5, pp b16 0), (7, i6 0), (8, .bool true)] hF19 (fun a20 hF20 => (wpList_nil (then_n (wp_seq (wp_cond_true hF20.e (wp_skip (then_n (wp_seq (wp_block (wp_seq (wp_region_lit ?_)))))))))))
  refine wplp 2 [0, 1, 4, 5, 6, 7] [(0, .slice o10 v1.length k12), (1, i6 v5), (4, pp b13 0), (5, pp b16 0), (6, i6 0), (7, i6 0)] hF20 (fun a21 hF21 => (wpList_nil (then_n (wp_region_lit ?_))))
  refine wplp 5 [0, 1, 4, 5, 7, 10, 11, 14] [(0, .slice o10 v1.length k12), (1, i6 v5), (4, pp b13 0), (5, pp b16 0), (7, i6 0), (10, i6 0), (11, .slice o10 v1.length k12), (14, i6 (IntKind.i64.wrap (v5 + 0)))] hF21 (fun a22 hF22 => ?_)
  obtain ⟨v116, hb23, h⟩ := bind_ok h
  refine wpl_one hF22 (by kernel_rfl) (wp_callR hF22 (by kernel_rfl) (g := 45) (args := #[.slice o10 v1.length k12, i6 (IntKind.i64.wrap (v5 + 0))]) (by kernel_rfl) (i_kem_noise_ok v1 (IntKind.i64.wrap (v5 + 0)) (len_is (v1) (n := v1.length) rfl) (hS18.rdro 2 rfl) v116 hb23) (fun vr w24 hp => ?_))
  obtain ⟨rfl, hS25, hl_v116⟩ := hp
  replace hS25 := St.call hS18 hS25 rfl
  refine go_fr (hF22.next (.agg (ic .u16 v116).toArray) [0, 1, 4, 5, 7, 10, 15] (M := [(0, .slice o10 v1.length k12), (1, i6 v5), (4, pp b13 0), (5, pp b16 0), (7, i6 0), (10, i6 0), (15, .agg (ic .u16 v116).toArray)]) (by kernel_rfl)) (fun a25 hF25 => ?_)
  refine wpl_val hF25 (by kernel_rfl) (v := pp b16 0) (run_indexA rfl (b := b16) (off := 0) hF25.e (k := .i64) (i := 0) hF25.e (len := 3) (E := 61) (by kernel_rfl) (s := 256) (by kernel_rfl) (by decide) (r := 0) rfl) (by kernel_rfl) (fun a26 hF26 => ?_)
  refine wpl_one hF26 (by kernel_rfl) (wp_store hF26 hS25 rfl 0 rfl (off := 0) (by kernel_rfl) (v := .agg (ic .u16 v116).toArray) (by kernel_rfl) (vs := ic .u16 v116) rfl (k := 256) (by kernel_rfl) (((ic_len _ _).trans hl_v116) : (ic .u16 v116).length = 256) (by have h2 := (app_len (((ic_len _ _).trans (len_is (rz 256) (n := 256) (List.length_replicate))) : (ic .u16 (rz 256)).length = 256) (app_len (((ic_len _ _).trans (len_is (rz 256) (n := 256) (List.length_replicate))) : (ic .u16 (rz 256)).length = 256) (((ic_len _ _).trans (len_is (rz 256) (n := 256) (List.length_replicate))) : (ic .u16 (rz 256)).length = 256))); omega) (ic_one _ _) (cs' := ic .u16 v116 ++ (ic .u16 (rz 256) ++ (ic .u16 (rz 256)))) (upd_l (by have h2 := (((ic_len _ _).trans (len_is (rz 256) (n := 256) (List.length_replicate))) : (ic .u16 (rz 256)).length = 256); have h3 := ((((ic_len _ _).trans hl_v116) : (ic .u16 v116).length = 256) : (ic .u16 v116).length = 256); omega) ((upd_ic _ _ _ _).trans (congrArg (ic .u16) (upd_all ((hl_v116).trans ((len_is (rz 256) (n := 256) (List.length_replicate))).symm))))) (by kernel_rfl) (L' := [.blk b16 (ic .u16 v116 ++ (ic .u16 (rz 256) ++ (ic .u16 (rz 256)))) 63, .blk b13 (ic .u16 (rz 256) ++ (ic .u16 (rz 256) ++ (ic .u16 (rz 256)))) 63, .ro o10 v1.length k12 (ic .u8 v1)]) rfl (fun w27 a28 hS28 hF28 => (wpList_nil (blk_n (then_n (wp_region_lit ?_))))))
  refine wplp 2 [0, 1, 4, 5, 7] [(0, .slice o10 v1.length k12), (1, i6 v5), (4, pp b13 0), (5, pp b16 0), (7, i6 1)] hF28 (fun a29 hF29 => (wpList_nil (then_n (rounds_go (n := 2) (wp_seq (wp_region_lit ?_))))))
  refine wplp 1 [0, 1, 4, 5, 7, 8] [(0, .slice o10 v1.length k12), (1, i6 v5), (4, pp b13 0), (5, pp b16 0), (7, i6 1), (8, .bool true)] hF29 (fun a30 hF30 => (wpList_nil (then_n (wp_seq (wp_cond_true hF30.e (wp_skip (then_n (wp_seq (wp_block (wp_seq (wp_region_lit ?_)))))))))))
  refine wplp 2 [0, 1, 4, 5, 6, 7] [(0, .slice o10 v1.length k12), (1, i6 v5), (4, pp b13 0), (5, pp b16 0), (6, i6 1), (7, i6 1)] hF30 (fun a31 hF31 => (wpList_nil (then_n (wp_region_lit ?_))))
  refine wplp 5 [0, 1, 4, 5, 7, 10, 11, 14] [(0, .slice o10 v1.length k12), (1, i6 v5), (4, pp b13 0), (5, pp b16 0), (7, i6 1), (10, i6 1), (11, .slice o10 v1.length k12), (14, i6 (IntKind.i64.wrap (v5 + 1)))] hF31 (fun a32 hF32 => ?_)
  obtain ⟨v127, hb33, h⟩ := bind_ok h
  refine wpl_one hF32 (by kernel_rfl) (wp_callR hF32 (by kernel_rfl) (g := 45) (args := #[.slice o10 v1.length k12, i6 (IntKind.i64.wrap (v5 + 1))]) (by kernel_rfl) (i_kem_noise_ok v1 (IntKind.i64.wrap (v5 + 1)) (len_is (v1) (n := v1.length) rfl) (hS28.rdro 2 rfl) v127 hb33) (fun vr w34 hp => ?_))
  obtain ⟨rfl, hS35, hl_v127⟩ := hp
  replace hS35 := St.call hS28 hS35 rfl
  refine go_fr (hF32.next (.agg (ic .u16 v127).toArray) [0, 1, 4, 5, 7, 10, 15] (M := [(0, .slice o10 v1.length k12), (1, i6 v5), (4, pp b13 0), (5, pp b16 0), (7, i6 1), (10, i6 1), (15, .agg (ic .u16 v127).toArray)]) (by kernel_rfl)) (fun a35 hF35 => ?_)
  refine wpl_val hF35 (by kernel_rfl) (v := pp b16 256) (run_indexA rfl (b := b16) (off := 0) hF35.e (k := .i64) (i := 1) hF35.e (len := 3) (E := 61) (by kernel_rfl) (s := 256) (by kernel_rfl) (by decide) (r := 256) rfl) (by kernel_rfl) (fun a36 hF36 => ?_)
  refine wpl_one hF36 (by kernel_rfl) (wp_store hF36 hS35 rfl 0 rfl (off := 256) (by kernel_rfl) (v := .agg (ic .u16 v127).toArray) (by kernel_rfl) (vs := ic .u16 v127) rfl (k := 256) (by kernel_rfl) (((ic_len _ _).trans hl_v127) : (ic .u16 v127).length = 256) (by have h2 := (app_len (((ic_len _ _).trans hl_v116) : (ic .u16 v116).length = 256) (app_len (((ic_len _ _).trans (len_is (rz 256) (n := 256) (List.length_replicate))) : (ic .u16 (rz 256)).length = 256) (((ic_len _ _).trans (len_is (rz 256) (n := 256) (List.length_replicate))) : (ic .u16 (rz 256)).length = 256))); omega) (ic_one _ _) (cs' := ic .u16 v116 ++ (ic .u16 v127 ++ (ic .u16 (rz 256)))) (upd_r2 (p := 256) (j := 0) (o := 256) (((ic_len _ _).trans hl_v116) : (ic .u16 v116).length = 256) rfl (upd_l (by have h2 := (((ic_len _ _).trans (len_is (rz 256) (n := 256) (List.length_replicate))) : (ic .u16 (rz 256)).length = 256); have h3 := ((((ic_len _ _).trans hl_v127) : (ic .u16 v127).length = 256) : (ic .u16 v127).length = 256); omega) ((upd_ic _ _ _ _).trans (congrArg (ic .u16) (upd_all ((hl_v127).trans ((len_is (rz 256) (n := 256) (List.length_replicate))).symm)))))) (by kernel_rfl) (L' := [.blk b16 (ic .u16 v116 ++ (ic .u16 v127 ++ (ic .u16 (rz 256)))) 63, .blk b13 (ic .u16 (rz 256) ++ (ic .u16 (rz 256) ++ (ic .u16 (rz 256)))) 63, .ro o10 v1.length k12 (ic .u8 v1)]) rfl (fun w37 a38 hS38 hF38 => (wpList_nil (blk_n (then_n (wp_region_lit ?_))))))
  refine wplp 2 [0, 1, 4, 5, 7] [(0, .slice o10 v1.length k12), (1, i6 v5), (4, pp b13 0), (5, pp b16 0), (7, i6 2)] hF38 (fun a39 hF39 => (wpList_nil (then_n (rounds_go (n := 1) (wp_seq (wp_region_lit ?_))))))
  refine wplp 1 [0, 1, 4, 5, 7, 8] [(0, .slice o10 v1.length k12), (1, i6 v5), (4, pp b13 0), (5, pp b16 0), (7, i6 2), (8, .bool true)] hF39 (fun a40 hF40 => (wpList_nil (then_n (wp_seq (wp_cond_true hF40.e (wp_skip (then_n (wp_seq (wp_block (wp_seq (wp_region_lit ?_)))))))))))
  refine wplp 2 [0, 1, 4, 5, 6, 7] [(0, .slice o10 v1.length k12), (1, i6 v5), (4, pp b13 0), (5, pp b16 0), (6, i6 2), (7, i6 2)] hF40 (fun a41 hF41 => (wpList_nil (then_n (wp_region_lit ?_))))
  refine wplp 5 [0, 1, 4, 5, 7, 10, 11, 14] [(0, .slice o10 v1.length k12), (1, i6 v5), (4, pp b13 0), (5, pp b16 0), (7, i6 2), (10, i6 2), (11, .slice o10 v1.length k12), (14, i6 (IntKind.i64.wrap (v5 + 2)))] hF41 (fun a42 hF42 => ?_)
  obtain ⟨v138, hb43, h⟩ := bind_ok h
  refine wpl_one hF42 (by kernel_rfl) (wp_callR hF42 (by kernel_rfl) (g := 45) (args := #[.slice o10 v1.length k12, i6 (IntKind.i64.wrap (v5 + 2))]) (by kernel_rfl) (i_kem_noise_ok v1 (IntKind.i64.wrap (v5 + 2)) (len_is (v1) (n := v1.length) rfl) (hS38.rdro 2 rfl) v138 hb43) (fun vr w44 hp => ?_))
  obtain ⟨rfl, hS45, hl_v138⟩ := hp
  replace hS45 := St.call hS38 hS45 rfl
  refine go_fr (hF42.next (.agg (ic .u16 v138).toArray) [0, 1, 4, 5, 7, 10, 15] (M := [(0, .slice o10 v1.length k12), (1, i6 v5), (4, pp b13 0), (5, pp b16 0), (7, i6 2), (10, i6 2), (15, .agg (ic .u16 v138).toArray)]) (by kernel_rfl)) (fun a45 hF45 => ?_)
  refine wpl_val hF45 (by kernel_rfl) (v := pp b16 512) (run_indexA rfl (b := b16) (off := 0) hF45.e (k := .i64) (i := 2) hF45.e (len := 3) (E := 61) (by kernel_rfl) (s := 256) (by kernel_rfl) (by decide) (r := 512) rfl) (by kernel_rfl) (fun a46 hF46 => ?_)
  refine wpl_one hF46 (by kernel_rfl) (wp_store hF46 hS45 rfl 0 rfl (off := 512) (by kernel_rfl) (v := .agg (ic .u16 v138).toArray) (by kernel_rfl) (vs := ic .u16 v138) rfl (k := 256) (by kernel_rfl) (((ic_len _ _).trans hl_v138) : (ic .u16 v138).length = 256) (by have h2 := (app_len (((ic_len _ _).trans hl_v116) : (ic .u16 v116).length = 256) (app_len (((ic_len _ _).trans hl_v127) : (ic .u16 v127).length = 256) (((ic_len _ _).trans (len_is (rz 256) (n := 256) (List.length_replicate))) : (ic .u16 (rz 256)).length = 256))); omega) (ic_one _ _) (cs' := ic .u16 v116 ++ (ic .u16 v127 ++ (ic .u16 v138))) (upd_r2 (p := 256) (j := 256) (o := 512) (((ic_len _ _).trans hl_v116) : (ic .u16 v116).length = 256) rfl (upd_r2 (p := 256) (j := 0) (o := 256) (((ic_len _ _).trans hl_v127) : (ic .u16 v127).length = 256) rfl ((upd_ic _ _ _ _).trans (congrArg (ic .u16) (upd_all ((hl_v138).trans ((len_is (rz 256) (n := 256) (List.length_replicate))).symm)))))) (by kernel_rfl) (L' := [.blk b16 (ic .u16 v116 ++ (ic .u16 v127 ++ (ic .u16 v138))) 63, .blk b13 (ic .u16 (rz 256) ++ (ic .u16 (rz 256) ++ (ic .u16 (rz 256)))) 63, .ro o10 v1.length k12 (ic .u8 v1)]) rfl (fun w47 a48 hS48 hF48 => (wpList_nil (blk_n (then_n (wp_region_lit ?_))))))
  refine wplp 2 [0, 1, 4, 5, 7] [(0, .slice o10 v1.length k12), (1, i6 v5), (4, pp b13 0), (5, pp b16 0), (7, i6 3)] hF48 (fun a49 hF49 => (wpList_nil (then_n (rounds_go (n := 0) (wp_seq (wp_region_lit ?_))))))
  refine wplp 1 [0, 1, 4, 5, 7, 8] [(0, .slice o10 v1.length k12), (1, i6 v5), (4, pp b13 0), (5, pp b16 0), (7, i6 3), (8, .bool false)] hF49 (fun a50 hF50 => (wpList_nil (then_n (wp_seq (wp_cond_false hF50.e (wp_exit ?_))))))
  refine then_x (then_x (blk_x (then_n (wp_seq (wp_region_lit ?_)))))
  refine wpl_val hF50 (by kernel_rfl) (v := .agg (ic .u16 v116 ++ (ic .u16 v127 ++ (ic .u16 v138))).toArray) (run_loadR rfl (b := b16) (off := 0) hF50.e (by kernel_rfl) (k := 768) (by kernel_rfl) (app_len (((ic_len _ _).trans hl_v116) : (ic .u16 v116).length = 256) (app_len (((ic_len _ _).trans hl_v127) : (ic .u16 v127).length = 256) (((ic_len _ _).trans hl_v138) : (ic .u16 v138).length = 256))) (hS48.all 0 rfl)) (by kernel_rfl) (fun a51 hF51 => ?_)
  refine wpl_one hF51 (by kernel_rfl) (wp_store hF51 hS48 rfl 1 rfl (off := 0) (by kernel_rfl) (v := .agg (ic .u16 v116 ++ (ic .u16 v127 ++ (ic .u16 v138))).toArray) (by kernel_rfl) (vs := ic .u16 v116 ++ (ic .u16 v127 ++ (ic .u16 v138))) rfl (k := 768) (by kernel_rfl) (app_len (((ic_len _ _).trans hl_v116) : (ic .u16 v116).length = 256) (app_len (((ic_len _ _).trans hl_v127) : (ic .u16 v127).length = 256) (((ic_len _ _).trans hl_v138) : (ic .u16 v138).length = 256))) (by have h2 := (app_len (((ic_len _ _).trans (len_is (rz 256) (n := 256) (List.length_replicate))) : (ic .u16 (rz 256)).length = 256) (app_len (((ic_len _ _).trans (len_is (rz 256) (n := 256) (List.length_replicate))) : (ic .u16 (rz 256)).length = 256) (((ic_len _ _).trans (len_is (rz 256) (n := 256) (List.length_replicate))) : (ic .u16 (rz 256)).length = 256))); omega) (by intro u hu; simp only [List.mem_append] at hu; rcases hu with hu | hu | hu <;> first | exact ic_one _ _ u hu | exact bc_one _ u hu | (revert u; decide)) (cs' := ic .u16 v116 ++ (ic .u16 v127 ++ (ic .u16 v138))) (upd_all (Eq.trans (b := 768) (app_len (((ic_len _ _).trans hl_v116) : (ic .u16 v116).length = 256) (app_len (((ic_len _ _).trans hl_v127) : (ic .u16 v127).length = 256) (((ic_len _ _).trans hl_v138) : (ic .u16 v138).length = 256))) (Eq.symm (app_len (((ic_len _ _).trans (len_is (rz 256) (n := 256) (List.length_replicate))) : (ic .u16 (rz 256)).length = 256) (app_len (((ic_len _ _).trans (len_is (rz 256) (n := 256) (List.length_replicate))) : (ic .u16 (rz 256)).length = 256) (((ic_len _ _).trans (len_is (rz 256) (n := 256) (List.length_replicate))) : (ic .u16 (rz 256)).length = 256)))))) (by kernel_rfl) (L' := [.blk b16 (ic .u16 v116 ++ (ic .u16 v127 ++ (ic .u16 v138))) 63, .blk b13 (ic .u16 v116 ++ (ic .u16 v127 ++ (ic .u16 v138))) 63, .ro o10 v1.length k12 (ic .u8 v1)]) rfl (fun w52 a53 hS53 hF53 => (wpList_nil (then_n (wp_ret (ret_ok hF53 [.agg (ic .u16 v116 ++ (ic .u16 v127 ++ (ic .u16 v138))).toArray] (⟨⟨⟨b13, 0, none⟩, by kernel_rfl, loadVarR (by kernel_rfl) (k := 768) (by kernel_rfl) (app_len (((ic_len _ _).trans hl_v116) : (ic .u16 v116).length = 256) (app_len (((ic_len _ _).trans hl_v127) : (ic .u16 v127).length = 256) (((ic_len _ _).trans hl_v138) : (ic .u16 v138).length = 256))) (hS53.all 1 rfl)⟩, trivial⟩) ?_))))))
  have hr0 := Option.some.inj h
  obtain ⟨hq0, hr1⟩ := Prod.mk.inj hr0
  obtain ⟨hq1, hr2⟩ := Prod.mk.inj hr1
  subst hq0
  subst hq1
  subst hr2
  exact ⟨rfl, hS53.sub (List.nil_sublist _), hl_v116, hl_v127, hl_v138⟩
def i_ring_times (v1 : Int) (v2 : Int) : Option (Int) :=
  some (IntKind.u16.wrap ((IntKind.u32.wrap ((IntKind.u32.wrap v1) * (IntKind.u32.wrap v2))).tmod 3329))
theorem i_ring_times_ok (v1 : Int) (v2 : Int) {w : World}  (c0 : Int) (h : i_ring_times v1 v2 = some c0) : Calls Try.prog 64 #[.int .u16 v1, .int .u16 v2] w (Ret (fun v w' => v = .int .u16 c0 ∧ St w w' [])) := by
  unfold i_ring_times at h
  refine calls_of_wp Try.func64 rfl ?_
  have hF := Fr.start (#[.int .u16 v1, .int .u16 v2] : Array Value) 10 12 [(0, .int .u16 v1), (1, .int .u16 v2)] rfl (by kernel_rfl)
  have hS := St.nil w
  refine go_fr hF (fun a hF => (wp_seq (wp_region_lit ?_)))
  refine wplp 1 [0, 1] [(0, .int .u16 v1), (1, .int .u16 v2)] hF (fun a10 hF10 => (wpList_nil (then_n (wp_seq (wp_region_lit ?_)))))
  refine wplp 8 [4] [(4, .int .u16 (IntKind.u16.wrap ((IntKind.u32.wrap ((IntKind.u32.wrap v1) * (IntKind.u32.wrap v2))).tmod 3329)))] hF10 (fun a11 hF11 => (wpList_nil (then_n (wp_ret (ret_ok hF11 [.int .u16 (IntKind.u16.wrap ((IntKind.u32.wrap ((IntKind.u32.wrap v1) * (IntKind.u32.wrap v2))).tmod 3329))] (⟨by kernel_rfl, trivial⟩) ?_)))))
  have hr0 := Option.some.inj h
  subst hr0
  exact ⟨rfl, hS.sub (List.nil_sublist _)⟩
def i_math_bits_Reverse8_str0 : List Int := [0, 128, 64, 192, 32, 160, 96, 224, 16, 144, 80, 208, 48, 176, 112, 240, 8, 136, 72, 200, 40, 168, 104, 232, 24, 152, 88, 216, 56, 184, 120, 248, 4, 132, 68, 196, 36, 164, 100, 228, 20, 148, 84, 212, 52, 180, 116, 244, 12, 140, 76, 204, 44, 172, 108, 236, 28, 156, 92, 220, 60, 188, 124, 252, 2, 130, 66, 194, 34, 162, 98, 226, 18, 146, 82, 210, 50, 178, 114, 242, 10, 138, 74, 202, 42, 170, 106, 234, 26, 154, 90, 218, 58, 186, 122, 250, 6, 134, 70, 198, 38, 166, 102, 230, 22, 150, 86, 214, 54, 182, 118, 246, 14, 142, 78, 206, 46, 174, 110, 238, 30, 158, 94, 222, 62, 190, 126, 254, 1, 129, 65, 193, 33, 161, 97, 225, 17, 145, 81, 209, 49, 177, 113, 241, 9, 137, 73, 201, 41, 169, 105, 233, 25, 153, 89, 217, 57, 185, 121, 249, 5, 133, 69, 197, 37, 165, 101, 229, 21, 149, 85, 213, 53, 181, 117, 245, 13, 141, 77, 205, 45, 173, 109, 237, 29, 157, 93, 221, 61, 189, 125, 253, 3, 131, 67, 195, 35, 163, 99, 227, 19, 147, 83, 211, 51, 179, 115, 243, 11, 139, 75, 203, 43, 171, 107, 235, 27, 155, 91, 219, 59, 187, 123, 251, 7, 135, 71, 199, 39, 167, 103, 231, 23, 151, 87, 215, 55, 183, 119, 247, 15, 143, 79, 207, 47, 175, 111, 239, 31, 159, 95, 223, 63, 191, 127, 255]
def i_math_bits_Reverse8 (v1 : Int) : Option (Int) :=
  (if inb v1 256 = true then some (rd i_math_bits_Reverse8_str0 v1.toNat) else none)
theorem i_math_bits_Reverse8_ok (v1 : Int) {w : World}  (c0 : Int) (h : i_math_bits_Reverse8 v1 = some c0) : Calls Try.prog 75 #[.int .u8 v1] w (Ret (fun v w' => v = .int .u8 c0 ∧ St w w' [])) := by
  unfold i_math_bits_Reverse8 at h
  refine calls_of_wp Try.func75 rfl ?_
  have hF := Fr.start (#[.int .u8 v1] : Array Value) 4 5 [(0, .int .u8 v1)] rfl (by kernel_rfl)
  have hS := St.nil w
  refine go_fr hF (fun a hF => (wp_seq (wp_region_lit ?_)))
  refine wplp 1 [0] [(0, .int .u8 v1)] hF (fun a10 hF10 => (wpList_nil (then_n (wp_seq (wp_region_lit ?_)))))
  refine wplp 1 [3] [(3, .int .u8 v1)] hF10 (fun a11 hF11 => ?_)
  obtain ⟨hg12, h⟩ := gd_ok h
  refine wpl_val hF11 (by kernel_rfl) (v := .int .u8 (rd i_math_bits_Reverse8_str0 v1.toNat)) (run_indexT rfl (s := ⟨#[0, 128, 64, 192, 32, 160, 96, 224, 16, 144, 80, 208, 48, 176, 112, 240, 8, 136, 72, 200, 40, 168, 104, 232, 24, 152, 88, 216, 56, 184, 120, 248, 4, 132, 68, 196, 36, 164, 100, 228, 20, 148, 84, 212, 52, 180, 116, 244, 12, 140, 76, 204, 44, 172, 108, 236, 28, 156, 92, 220, 60, 188, 124, 252, 2, 130, 66, 194, 34, 162, 98, 226, 18, 146, 82, 210, 50, 178, 114, 242, 10, 138, 74, 202, 42, 170, 106, 234, 26, 154, 90, 218, 58, 186, 122, 250, 6, 134, 70, 198, 38, 166, 102, 230, 22, 150, 86, 214, 54, 182, 118, 246, 14, 142, 78, 206, 46, 174, 110, 238, 30, 158, 94, 222, 62, 190, 126, 254, 1, 129, 65, 193, 33, 161, 97, 225, 17, 145, 81, 209, 49, 177, 113, 241, 9, 137, 73, 201, 41, 169, 105, 233, 25, 153, 89, 217, 57, 185, 121, 249, 5, 133, 69, 197, 37, 165, 101, 229, 21, 149, 85, 213, 53, 181, 117, 245, 13, 141, 77, 205, 45, 173, 109, 237, 29, 157, 93, 221, 61, 189, 125, 253, 3, 131, 67, 195, 35, 163, 99, 227, 19, 147, 83, 211, 51, 179, 115, 243, 11, 139, 75, 203, 43, 171, 107, 235, 27, 155, 91, 219, 59, 187, 123, 251, 7, 135, 71, 199, 39, 167, 103, 231, 23, 151, 87, 215, 55, 183, 119, 247, 15, 143, 79, 207, 47, 175, 111, 239, 31, 159, 95, 223, 63, 191, 127, 255]⟩) (by kernel_rfl) (k := .u8) (i := v1) hF11.e (by kernel_rfl) (xs := i_math_bits_Reverse8_str0) (by kernel_rfl) (m := 256) (by kernel_rfl) (inb_ok hg12)) (by kernel_rfl) (fun a13 hF13 => ?_)
  refine wplp 1 [2] [(2, .int .u8 (rd i_math_bits_Reverse8_str0 v1.toNat))] hF13 (fun a14 hF14 => (wpList_nil (then_n (wp_ret (ret_ok hF14 [.int .u8 (rd i_math_bits_Reverse8_str0 v1.toNat)] (⟨by kernel_rfl, trivial⟩) ?_)))))
  have hr0 := Option.some.inj h
  subst hr0
  exact ⟨rfl, hS.sub (List.nil_sublist _)⟩
def i_ring_powers_l1 : Nat → List Int → Int → Option (List Int)
  | 0, _, _ => none
  | k + 1, v45, v46 =>
    (if (decide (v46 < 128)) = true then (if inb (IntKind.i64.wrap (v46 - 1)) 128 = true then ((i_ring_times (rd v45 ((IntKind.i64.wrap (v46 - 1)).toNat)) 17).bind fun v58 => (if inb v46 128 = true then i_ring_powers_l1 k (v45.set v46.toNat v58) (IntKind.i64.wrap (v46 + 1)) else none)) else none) else some (v45))
def i_ring_powers_l2 (v47 : List Int) : Nat → List Int → Int → Option (List Int)
  | 0, _, _ => none
  | k + 1, v108, v109 =>
    (if (decide (v109 < 128)) = true then ((i_math_bits_Reverse8 (IntKind.u8.wrap v109)).bind fun v119 => (if inb (ishr .u8 v119 1) 128 = true then (if inb v109 128 = true then (nm_ (v108.set v109.toNat (rd v47 ((ishr .u8 v119 1).toNat))) fun v131 => i_ring_powers_l2 v47 k v131 (IntKind.i64.wrap (v109 + 1))) else none) else none)) else some (v108))
def i_ring_powers  : Option (List Int) :=
  ((i_ring_powers_l1 LIM ((List.replicate 128 (0 : Int)).set 0 1) 1).bind fun v47 => ((i_ring_powers_l2 v47 LIM (List.replicate 128 (0 : Int)) 0).bind fun v110 => some v110))
theorem i_ring_powers_ok  {w : World}  (c0 : List Int) (h : i_ring_powers  = some c0) : Calls Try.prog 63 #[] w (Ret (fun v w' => v = .agg (ic .u16 c0).toArray ∧ St w w' [] ∧ c0.length = 128)) := by
  unfold i_ring_powers at h
  refine calls_of_wp Try.func63 rfl ?_
  have hF := Fr.start (#[] : Array Value) 30 30 [] rfl (by kernel_rfl)
  have hS := St.nil w
  refine go_fr hF (fun a hF => (wp_seq (wp_region_lit ?_)))
  refine wpl_one hF (by kernel_rfl) (wp_alloc hF hS rfl (z := .agg (ic .u16 (rz 128)).toArray) (by kernel_rfl) (ic .u16 (rz 128)) rfl (by kernel_rfl) (fun b10 w11 a12 hS12 hF12 => (wpList_nil (then_n (wp_seq (wp_region_lit ?_))))))
  refine wpl_one hF12 (by kernel_rfl) (wp_alloc hF12 hS12 rfl (z := .agg (ic .u16 (rz 128)).toArray) (by kernel_rfl) (ic .u16 (rz 128)) rfl (by kernel_rfl) (fun b13 w14 a15 hS15 hF15 => ?_))
  refine wpl_one hF15 (by kernel_rfl) (wp_alloc hF15 hS15 rfl (z := .agg (ic .u16 (rz 128)).toArray) (by kernel_rfl) (ic .u16 (rz 128)) rfl (by kernel_rfl) (fun b16 w17 a18 hS18 hF18 => (wpList_nil (then_n (wp_seq (wp_region_lit ?_))))))
  refine wpl_val hF18 (by kernel_rfl) (v := pp b13 0) (run_indexA rfl (b := b13) (off := 0) hF18.e (k := .i64) (i := 0) hF18.e (len := 128) (E := 23) (by kernel_rfl) (s := 1) (by kernel_rfl) (by decide) (r := 0) rfl) (by kernel_rfl) (fun a19 hF19 => ?_)
  refine wpl_one hF19 (by kernel_rfl) (wp_store1 hF19 hS18 rfl 1 rfl (off := 0) (v := .int .u16 1) (by kernel_rfl) rfl rfl (.ic (lt_len (by decide : 0 < 128) (len_is (rz 128) (n := 128) (List.length_replicate)))) (L' := [.blk b16 (ic .u16 (rz 128)) 98, .blk b13 (ic .u16 ((rz 128).set 0 1)) 98, .blk b10 (ic .u16 (rz 128)) 98]) rfl (fun w20 a21 hS21 hF21 => (wpList_nil (then_n (wp_seq (wp_seq (wp_region_lit ?_)))))))
  refine wplp 1 [0, 1, 2, 3] [(0, pp b10 0), (1, pp b13 0), (2, pp b16 0), (3, i6 1)] hF21 (fun a22 hF22 => (wpList_nil (then_n ?_)))
  obtain ⟨ev23, hl24, h⟩ := bind_ok h
  refine block_cut (fun a' w' => ∃ (v47 : List Int), v47 = ev23 ∧ Fr 30 [] [(0, pp b10 0), (1, pp b13 0), (2, pp b16 0)] a' ∧ St w w' [.blk b16 (ic .u16 (rz 128)) 98, .blk b13 (ic .u16 v47) 98, .blk b10 (ic .u16 (rz 128)) 98] ∧ v47.length = 128) ?_ ?_
  ·
   refine wp_loop_ghost (fun k a' w' => ∃ (v45 : List Int) (v46 : Int), i_ring_powers_l1 k v45 v46 = some ev23 ∧ Fr 30 [] [(0, pp b10 0), (1, pp b13 0), (2, pp b16 0), (3, i6 v46)] a' ∧ St w w' [.blk b16 (ic .u16 (rz 128)) 98, .blk b13 (ic .u16 v45) 98, .blk b10 (ic .u16 (rz 128)) 98] ∧ v45.length = 128) LIM ⟨((rz 128).set 0 1), 1, hl24, Fr.pick [0, 1, 2, 3] (by kernel_rfl) hF22, hS21, (len_is (((rz 128).set 0 1)) (n := 128) (List.length_set.trans (len_is ((rz 128)) (n := 128) (List.length_replicate))))⟩ ?_
   rintro k25 a25 w26 ⟨v45, v46, hr25, hF25, hS25, hl_v45⟩
   cases k25 with
   | zero => rw [i_ring_powers_l1] at hr25; cases hr25
   | succ k25 =>
    rw [i_ring_powers_l1] at hr25
    refine wp_seq (wp_seq (wp_region_lit ?_))
    refine wplp 2 [0, 1, 2, 3, 7] [(0, pp b10 0), (1, pp b13 0), (2, pp b16 0), (3, i6 v46), (7, .bool (decide (v46 < 128)))] hF25 (fun a27 hF27 => (wpList_nil (then_n ?_)))
    refine wp_cond_split (t := (decide (v46 < 128))) hF27.e (fun ht28 => ?_) (fun ht28 => ?_)
    ·
     have h := if_t ht28 hr25
     refine wp_skip (then_n (wp_seq (wp_block (wp_region_lit ?_))))
     refine wplp 3 [0, 1, 2, 3, 10, 12] [(0, pp b10 0), (1, pp b13 0), (2, pp b16 0), (3, i6 v46), (10, i6 v46), (12, i6 (IntKind.i64.wrap (v46 - 1)))] hF27 (fun a29 hF29 => ?_)
     obtain ⟨hg30, h⟩ := gd_ok h
     refine wpl_val hF29 (by kernel_rfl) (v := pp b13 ((IntKind.i64.wrap (v46 - 1)).toNat)) (run_indexA rfl (b := b13) (off := 0) hF29.e (k := .i64) (i := (IntKind.i64.wrap (v46 - 1))) hF29.e (len := 128) (E := 23) (by kernel_rfl) (s := 1) (by kernel_rfl) (inb_ok hg30) (r := (IntKind.i64.wrap (v46 - 1)).toNat) (by simp only [Nat.zero_add, Nat.mul_one])) (by kernel_rfl) (fun a31 hF31 => ?_)
     refine wpl_val hF31 (by kernel_rfl) (v := .int .u16 (rd v45 ((IntKind.i64.wrap (v46 - 1)).toNat))) (run_load1 rfl (b := b13) (off := (IntKind.i64.wrap (v46 - 1)).toNat) hF31.e (by kernel_rfl) (hS25.at 1 rfl ((IntKind.i64.wrap (v46 - 1)).toNat) (ic_get (lt_len (inb_nat hg30) hl_v45)))) (by kernel_rfl) (fun a32 hF32 => ?_)
     obtain ⟨v58, hb33, h⟩ := bind_ok h
     refine wpl_one hF32 (by kernel_rfl) (wp_callR hF32 (by kernel_rfl) (g := 64) (args := #[.int .u16 (rd v45 ((IntKind.i64.wrap (v46 - 1)).toNat)), .int .u16 17]) (by kernel_rfl) (i_ring_times_ok (rd v45 ((IntKind.i64.wrap (v46 - 1)).toNat)) 17 v58 hb33) (fun vr w34 hp => ?_))
     obtain ⟨rfl, hS35⟩ := hp
     replace hS35 := St.call hS25 hS35 rfl
     refine go_fr (hF32.next (.int .u16 v58) [0, 1, 2, 3, 10, 15] (M := [(0, pp b10 0), (1, pp b13 0), (2, pp b16 0), (3, i6 v46), (10, i6 v46), (15, .int .u16 v58)]) (by kernel_rfl)) (fun a35 hF35 => ?_)
     obtain ⟨hg36, h⟩ := gd_ok h
     refine wpl_val hF35 (by kernel_rfl) (v := pp b13 v46.toNat) (run_indexA rfl (b := b13) (off := 0) hF35.e (k := .i64) (i := v46) hF35.e (len := 128) (E := 23) (by kernel_rfl) (s := 1) (by kernel_rfl) (inb_ok hg36) (r := v46.toNat) (by simp only [Nat.zero_add, Nat.mul_one])) (by kernel_rfl) (fun a37 hF37 => ?_)
     refine wpl_one hF37 (by kernel_rfl) (wp_store1 hF37 hS35 rfl 1 rfl (off := v46.toNat) (v := .int .u16 v58) (by kernel_rfl) rfl rfl (.ic (lt_len (inb_nat hg36) hl_v45)) (L' := [.blk b16 (ic .u16 (rz 128)) 98, .blk b13 (ic .u16 (v45.set v46.toNat v58)) 98, .blk b10 (ic .u16 (rz 128)) 98]) rfl (fun w38 a39 hS39 hF39 => (wpList_nil (blk_n (then_n (wp_region_lit ?_))))))
     refine wplp 3 [0, 1, 2, 3] [(0, pp b10 0), (1, pp b13 0), (2, pp b16 0), (3, i6 (IntKind.i64.wrap (v46 + 1)))] hF39 (fun a40 hF40 => (wpList_nil ?_))
     exact ⟨k25, Nat.lt_succ_self _, (v45.set v46.toNat v58), (IntKind.i64.wrap (v46 + 1)), h, Fr.pick [0, 1, 2, 3] (by kernel_rfl) hF40, hS39.sub (.cons_cons _ (.cons_cons _ (.cons_cons _ (.slnil)))), len_is ((v45.set v46.toNat v58)) (n := 128) (List.length_set.trans hl_v45)⟩
    ·
     have h := if_f ht28 hr25
     refine wp_exit ?_
     refine then_x (then_x (cut_x ?_))
     have hr := Option.some.inj h
     subst hr
     exact ⟨_, rfl, Fr.pick [0, 1, 2] (by kernel_rfl) hF27, hS25.sub (.cons_cons _ (.cons_cons _ (.cons_cons _ (.slnil)))), hl_v45⟩
  ·
   rintro a41 w42 ⟨v47, hev, hF41, hS41, hl_v47⟩
   subst hev
   refine then_n (wp_seq (wp_seq (wp_region_lit ?_)))
   refine wplp 1 [0, 1, 2, 17] [(0, pp b10 0), (1, pp b13 0), (2, pp b16 0), (17, i6 0)] hF41 (fun a43 hF43 => (wpList_nil (then_n ?_)))
   obtain ⟨ev44, hl45, h⟩ := bind_ok h
   refine block_cut (fun a' w' => ∃ (v110 : List Int), v110 = ev44 ∧ Fr 30 [] [(0, pp b10 0), (2, pp b16 0)] a' ∧ St w w' [.blk b16 (ic .u16 v110) 98, .blk b13 (ic .u16 v47) 98, .blk b10 (ic .u16 (rz 128)) 98] ∧ v110.length = 128) ?_ ?_
   ·
    refine wp_loop_ghost (fun k a' w' => ∃ (v108 : List Int) (v109 : Int), i_ring_powers_l2 v47 k v108 v109 = some ev44 ∧ Fr 30 [] [(0, pp b10 0), (1, pp b13 0), (2, pp b16 0), (17, i6 v109)] a' ∧ St w w' [.blk b16 (ic .u16 v108) 98, .blk b13 (ic .u16 v47) 98, .blk b10 (ic .u16 (rz 128)) 98] ∧ v108.length = 128) LIM ⟨(rz 128), 0, hl45, Fr.pick [0, 1, 2, 17] (by kernel_rfl) hF43, hS41, (len_is (rz 128) (n := 128) (List.length_replicate))⟩ ?_
    rintro k46 a46 w47 ⟨v108, v109, hr46, hF46, hS46, hl_v108⟩
    cases k46 with
    | zero => rw [i_ring_powers_l2] at hr46; cases hr46
    | succ k46 =>
     rw [i_ring_powers_l2] at hr46
     refine wp_seq (wp_region_lit ?_)
     refine wplp 1 [0, 1, 2, 17, 18] [(0, pp b10 0), (1, pp b13 0), (2, pp b16 0), (17, i6 v109), (18, .bool (decide (v109 < 128)))] hF46 (fun a48 hF48 => (wpList_nil (then_n (wp_seq ?_))))
     refine wp_cond_split (t := (decide (v109 < 128))) hF48.e (fun ht49 => ?_) (fun ht49 => ?_)
     ·
      have h := if_t ht49 hr46
      refine wp_skip (then_n (wp_seq (wp_block (wp_seq (wp_region_lit ?_)))))
      refine wplp 2 [0, 1, 2, 4, 17] [(0, pp b10 0), (1, pp b13 0), (2, pp b16 0), (4, i6 v109), (17, i6 v109)] hF48 (fun a50 hF50 => (wpList_nil (then_n (wp_region_lit ?_))))
      refine wplp 3 [0, 1, 2, 17, 20, 22] [(0, pp b10 0), (1, pp b13 0), (2, pp b16 0), (17, i6 v109), (20, i6 v109), (22, .int .u8 (IntKind.u8.wrap v109))] hF50 (fun a51 hF51 => ?_)
      obtain ⟨v119, hb52, h⟩ := bind_ok h
      refine wpl_one hF51 (by kernel_rfl) (wp_callR hF51 (by kernel_rfl) (g := 75) (args := #[.int .u8 (IntKind.u8.wrap v109)]) (by kernel_rfl) (i_math_bits_Reverse8_ok (IntKind.u8.wrap v109) v119 hb52) (fun vr w53 hp => ?_))
      obtain ⟨rfl, hS54⟩ := hp
      replace hS54 := St.call hS46 hS54 rfl
      refine go_fr (hF51.next (.int .u8 v119) [0, 1, 2, 17, 20, 23] (M := [(0, pp b10 0), (1, pp b13 0), (2, pp b16 0), (17, i6 v109), (20, i6 v109), (23, .int .u8 v119)]) (by kernel_rfl)) (fun a54 hF54 => ?_)
      refine wplp 1 [0, 1, 2, 17, 20, 24] [(0, pp b10 0), (1, pp b13 0), (2, pp b16 0), (17, i6 v109), (20, i6 v109), (24, .int .u8 (ishr .u8 v119 1))] hF54 (fun a55 hF55 => ?_)
      obtain ⟨hg56, h⟩ := gd_ok h
      refine wpl_val hF55 (by kernel_rfl) (v := pp b13 ((ishr .u8 v119 1).toNat)) (run_indexA rfl (b := b13) (off := 0) hF55.e (k := .u8) (i := (ishr .u8 v119 1)) hF55.e (len := 128) (E := 23) (by kernel_rfl) (s := 1) (by kernel_rfl) (inb_ok hg56) (r := (ishr .u8 v119 1).toNat) (by simp only [Nat.zero_add, Nat.mul_one])) (by kernel_rfl) (fun a57 hF57 => ?_)
      refine wpl_val hF57 (by kernel_rfl) (v := .int .u16 (rd v47 ((ishr .u8 v119 1).toNat))) (run_load1 rfl (b := b13) (off := (ishr .u8 v119 1).toNat) hF57.e (by kernel_rfl) (hS54.at 1 rfl ((ishr .u8 v119 1).toNat) (ic_get (lt_len (inb_nat hg56) hl_v47)))) (by kernel_rfl) (fun a58 hF58 => ?_)
      obtain ⟨hg59, h⟩ := gd_ok h
      refine wpl_val hF58 (by kernel_rfl) (v := pp b16 v109.toNat) (run_indexA rfl (b := b16) (off := 0) hF58.e (k := .i64) (i := v109) hF58.e (len := 128) (E := 23) (by kernel_rfl) (s := 1) (by kernel_rfl) (inb_ok hg59) (r := v109.toNat) (by simp only [Nat.zero_add, Nat.mul_one])) (by kernel_rfl) (fun a60 hF60 => ?_)
      refine wpl_one hF60 (by kernel_rfl) (wp_store1 hF60 hS54 rfl 0 rfl (off := v109.toNat) (v := .int .u16 (rd v47 ((ishr .u8 v119 1).toNat))) (by kernel_rfl) rfl rfl (.ic (lt_len (inb_nat hg59) hl_v108)) (L' := [.blk b16 (ic .u16 (v108.set v109.toNat (rd v47 ((ishr .u8 v119 1).toNat)))) 98, .blk b13 (ic .u16 v47) 98, .blk b10 (ic .u16 (rz 128)) 98]) rfl (fun w61 a62 hS62 hF62 => ?_))
      obtain ⟨v131, hv_v131, h⟩ := nm_ok h
      have hl_v131 : v131.length = 128 := (congrArg List.length hv_v131).trans (len_is ((v108.set v109.toNat (rd v47 ((ishr .u8 v119 1).toNat)))) (n := 128) (List.length_set.trans hl_v108))
      have hS63 := St.eqv (M := [.blk b16 (ic .u16 v131) 98, .blk b13 (ic .u16 v47) 98, .blk b10 (ic .u16 (rz 128)) 98]) hS62 (by rw [hv_v131])
      refine wpList_nil (blk_n (then_n (wp_region_lit ?_)))
      refine wplp 2 [0, 1, 2, 17] [(0, pp b10 0), (1, pp b13 0), (2, pp b16 0), (17, i6 (IntKind.i64.wrap (v109 + 1)))] hF62 (fun a64 hF64 => (wpList_nil ?_))
      exact ⟨k46, Nat.lt_succ_self _, v131, (IntKind.i64.wrap (v109 + 1)), h, Fr.pick [0, 1, 2, 17] (by kernel_rfl) hF64, hS63.sub (.cons_cons _ (.cons_cons _ (.cons_cons _ (.slnil)))), hl_v131⟩
     ·
      have h := if_f ht49 hr46
      refine wp_exit ?_
      refine then_x (then_x (cut_x ?_))
      have hr := Option.some.inj h
      subst hr
      exact ⟨_, rfl, Fr.pick [0, 2] (by kernel_rfl) hF48, hS46.sub (.cons_cons _ (.cons_cons _ (.cons_cons _ (.slnil)))), hl_v108⟩
   ·
    rintro a65 w66 ⟨v110, hev, hF65, hS65, hl_v110⟩
    subst hev
    refine then_n (wp_seq (wp_region_lit ?_))
    refine wpl_val hF65 (by kernel_rfl) (v := .agg (ic .u16 v110).toArray) (run_loadR rfl (b := b16) (off := 0) hF65.e (by kernel_rfl) (k := 128) (by kernel_rfl) (((ic_len _ _).trans hl_v110) : (ic .u16 v110).length = 128) (hS65.all 0 rfl)) (by kernel_rfl) (fun a67 hF67 => ?_)
    refine wpl_one hF67 (by kernel_rfl) (wp_store hF67 hS65 rfl 2 rfl (off := 0) (by kernel_rfl) (v := .agg (ic .u16 v110).toArray) (by kernel_rfl) (vs := ic .u16 v110) rfl (k := 128) (by kernel_rfl) (((ic_len _ _).trans hl_v110) : (ic .u16 v110).length = 128) (by have h2 := (((ic_len _ _).trans (len_is (rz 128) (n := 128) (List.length_replicate))) : (ic .u16 (rz 128)).length = 128); omega) (ic_one _ _) (cs' := ic .u16 v110) ((upd_ic _ _ _ _).trans (congrArg (ic .u16) (upd_all ((hl_v110).trans ((len_is (rz 128) (n := 128) (List.length_replicate))).symm)))) (by kernel_rfl) (L' := [.blk b16 (ic .u16 v110) 98, .blk b13 (ic .u16 v47) 98, .blk b10 (ic .u16 v110) 98]) rfl (fun w68 a69 hS69 hF69 => (wpList_nil (then_n (wp_ret (ret_ok hF69 [.agg (ic .u16 v110).toArray] (⟨⟨⟨b10, 0, none⟩, by kernel_rfl, loadVarR (by kernel_rfl) (k := 128) (by kernel_rfl) (((ic_len _ _).trans hl_v110) : (ic .u16 v110).length = 128) (hS69.all 2 rfl)⟩, trivial⟩) ?_))))))
    have hr0 := Option.some.inj h
    subst hr0
    exact ⟨rfl, hS69.sub (List.nil_sublist _), hl_v110⟩
def i_ring_Ntt_l13 (v1012 : Int) (v764 : Int) (v1011 : Int) (v15 : List Int) : Nat → List Int → Int → Option (List Int)
  | 0, _, _ => none
  | k + 1, v1092, v1093 =>
    (if (decide (v1093 < (IntKind.i64.wrap (v1012 + v764)))) = true then (if inb v1011 128 = true then (if inb (IntKind.i64.wrap (v1093 + v764)) 256 = true then ((i_ring_times (rd v15 v1011.toNat) (rd v1092 ((IntKind.i64.wrap (v1093 + v764)).toNat))).bind fun v1109 => (if inb v1093 256 = true then (if inb (IntKind.i64.wrap (v1093 + v764)) 256 = true then (nm_ ((v1092.set v1093.toNat ((IntKind.u16.wrap ((rd v1092 v1093.toNat) + v1109)).tmod 3329)).set ((IntKind.i64.wrap (v1093 + v764)).toNat) ((IntKind.u16.wrap ((IntKind.u16.wrap ((rd v1092 v1093.toNat) + 3329)) - v1109)).tmod 3329)) fun v1130 => i_ring_Ntt_l13 v1012 v764 v1011 v15 k v1130 (IntKind.i64.wrap (v1093 + 1))) else none) else none)) else none) else none) else some (v1092))
def i_ring_Ntt_l12 (v764 : Int) (v15 : List Int) : Nat → List Int → Int → Int → Option (List Int × Int)
  | 0, _, _, _ => none
  | k + 1, v1010, v1011, v1012 =>
    (if (decide (v1012 < 256)) = true then ((i_ring_Ntt_l13 v1012 v764 v1011 v15 LIM v1010 v1012).bind fun v1094 => i_ring_Ntt_l12 v764 v15 k v1094 (IntKind.i64.wrap (v1011 + 1)) (IntKind.i64.wrap (v1012 + (IntKind.i64.wrap (2 * v764))))) else some (v1010, v1011))
def i_ring_Ntt_l9 (v15 : List Int) : Nat → List Int → Int → Int → Option (List Int)
  | 0, _, _, _ => none
  | k + 1, v762, v763, v764 =>
    (if (decide (v764 ≥ 2)) = true then ((i_ring_Ntt_l12 v764 v15 LIM v762 v763 0).bind fun (v1013, v1014) => i_ring_Ntt_l9 v15 k v1013 v1014 (IntKind.i64.wrap (v764.tdiv 2))) else some (v762))
def i_ring_Ntt (v1 : List Int) : Option (List Int) :=
  ((i_ring_Reduce v1).bind fun v9 => ((i_ring_powers).bind fun v15 => ((i_ring_Ntt_l9 v15 LIM v9 1 128).bind fun v765 => some v765)))
theorem i_ring_Ntt_ok (v1 : List Int) {w : World} (hl_v1 : v1.length = 256) (c0 : List Int) (h : i_ring_Ntt v1 = some c0) : Calls Try.prog 55 #[.agg (ic .u16 v1).toArray] w (Ret (fun v w' => v = .agg (ic .u16 c0).toArray ∧ St w w' [] ∧ c0.length = 256)) := by
  unfold i_ring_Ntt at h
  refine calls_of_wp Try.func55 rfl ?_
  have hF := Fr.start (#[.agg (ic .u16 v1).toArray] : Array Value) 60 61 [(0, .agg (ic .u16 v1).toArray)] rfl (by kernel_rfl)
  have hS := St.nil w
  refine go_fr hF (fun a hF => (wp_seq (wp_region_lit ?_)))
  refine wpl_one hF (by kernel_rfl) (wp_box hF hS rfl (v := .agg (ic .u16 v1).toArray) (by kernel_rfl) (ic .u16 v1) rfl (by kernel_rfl) (fun b10 w11 a12 hS12 hF12 => ?_))
  refine wpl_one hF12 (by kernel_rfl) (wp_alloc hF12 hS12 rfl (z := .agg (ic .u16 (rz 256)).toArray) (by kernel_rfl) (ic .u16 (rz 256)) rfl (by kernel_rfl) (fun b13 w14 a15 hS15 hF15 => (wpList_nil (then_n (wp_seq (wp_region_lit ?_))))))
  refine wpl_val hF15 (by kernel_rfl) (v := .agg (ic .u16 v1).toArray) (run_loadR rfl (b := b10) (off := 0) hF15.e (by kernel_rfl) (k := 256) (by kernel_rfl) (((ic_len _ _).trans hl_v1) : (ic .u16 v1).length = 256) (hS15.all 1 rfl)) (by kernel_rfl) (fun a16 hF16 => ?_)
  obtain ⟨v9, hb17, h⟩ := bind_ok h
  refine wpl_one hF16 (by kernel_rfl) (wp_callR hF16 (by kernel_rfl) (g := 41) (args := #[.agg (ic .u16 v1).toArray]) (by kernel_rfl) (i_ring_Reduce_ok v1 hl_v1 v9 hb17) (fun vr w18 hp => ?_))
  obtain ⟨rfl, hS19, hl_v9⟩ := hp
  replace hS19 := St.call hS15 hS19 rfl
  refine go_fr (hF16.next (.agg (ic .u16 v9).toArray) [1, 2, 10] (M := [(1, pp b10 0), (2, pp b13 0), (10, .agg (ic .u16 v9).toArray)]) (by kernel_rfl)) (fun a19 hF19 => ?_)
  refine wpl_one hF19 (by kernel_rfl) (wp_store hF19 hS19 rfl 1 rfl (off := 0) (by kernel_rfl) (v := .agg (ic .u16 v9).toArray) (by kernel_rfl) (vs := ic .u16 v9) rfl (k := 256) (by kernel_rfl) (((ic_len _ _).trans hl_v9) : (ic .u16 v9).length = 256) (by have h2 := (((ic_len _ _).trans hl_v1) : (ic .u16 v1).length = 256); omega) (ic_one _ _) (cs' := ic .u16 v9) ((upd_ic _ _ _ _).trans (congrArg (ic .u16) (upd_all ((hl_v9).trans (hl_v1).symm)))) (by kernel_rfl) (L' := [.blk b13 (ic .u16 (rz 256)) 61, .blk b10 (ic .u16 v9) 61]) rfl (fun w20 a21 hS21 hF21 => (wpList_nil (then_n (wp_seq (wp_region_lit ?_))))))
  obtain ⟨v15, hb22, h⟩ := bind_ok h
  refine wpl_one hF21 (by kernel_rfl) (wp_callR hF21 (by kernel_rfl) (g := 63) (args := #[]) (by kernel_rfl) (i_ring_powers_ok v15 hb22) (fun vr w23 hp => ?_))
  obtain ⟨rfl, hS24, hl_v15⟩ := hp
  replace hS24 := St.call hS21 hS24 rfl
  refine go_fr (hF21.next (.agg (ic .u16 v15).toArray) [1, 2, 11] (M := [(1, pp b10 0), (2, pp b13 0), (11, .agg (ic .u16 v15).toArray)]) (by kernel_rfl)) (fun a24 hF24 => ?_)
  refine wpl_one hF24 (by kernel_rfl) (wp_alloc hF24 hS24 rfl (z := .agg (ic .u16 (rz 128)).toArray) (by kernel_rfl) (ic .u16 (rz 128)) rfl (by kernel_rfl) (fun b25 w26 a27 hS27 hF27 => ?_))
  refine wpl_one hF27 (by kernel_rfl) (wp_store hF27 hS27 rfl 0 rfl (off := 0) (by kernel_rfl) (v := .agg (ic .u16 v15).toArray) (by kernel_rfl) (vs := ic .u16 v15) rfl (k := 128) (by kernel_rfl) (((ic_len _ _).trans hl_v15) : (ic .u16 v15).length = 128) (by have h2 := (((ic_len _ _).trans (len_is (rz 128) (n := 128) (List.length_replicate))) : (ic .u16 (rz 128)).length = 128); omega) (ic_one _ _) (cs' := ic .u16 v15) ((upd_ic _ _ _ _).trans (congrArg (ic .u16) (upd_all ((hl_v15).trans ((len_is (rz 128) (n := 128) (List.length_replicate))).symm)))) (by kernel_rfl) (L' := [.blk b25 (ic .u16 v15) 98, .blk b13 (ic .u16 (rz 256)) 61, .blk b10 (ic .u16 v9) 61]) rfl (fun w28 a29 hS29 hF29 => (wpList_nil (then_n (wp_seq (wp_region_lit ?_))))))
  refine wplp 1 [1, 2, 3, 4] [(1, pp b10 0), (2, pp b13 0), (3, pp b25 0), (4, i6 1)] hF29 (fun a30 hF30 => (wpList_nil (then_n (wp_seq (wp_seq (wp_region_lit ?_))))))
  refine wplp 1 [1, 2, 3, 4, 5] [(1, pp b10 0), (2, pp b13 0), (3, pp b25 0), (4, i6 1), (5, i6 128)] hF30 (fun a31 hF31 => (wpList_nil (then_n ?_)))
  obtain ⟨ev32, hl33, h⟩ := bind_ok h
  refine block_cut (fun a' w' => ∃ (v765 : List Int), v765 = ev32 ∧ Fr 61 [] [(1, pp b10 0), (2, pp b13 0)] a' ∧ St w w' [.blk b25 (ic .u16 v15) 98, .blk b13 (ic .u16 (rz 256)) 61, .blk b10 (ic .u16 v765) 61] ∧ v765.length = 256) ?_ ?_
  ·
   refine wp_loop_ghost (fun k a' w' => ∃ (v762 : List Int) (v763 : Int) (v764 : Int), i_ring_Ntt_l9 v15 k v762 v763 v764 = some ev32 ∧ Fr 61 [] [(1, pp b10 0), (2, pp b13 0), (3, pp b25 0), (4, i6 v763), (5, i6 v764)] a' ∧ St w w' [.blk b25 (ic .u16 v15) 98, .blk b13 (ic .u16 (rz 256)) 61, .blk b10 (ic .u16 v762) 61] ∧ v762.length = 256) LIM ⟨v9, 1, 128, hl33, Fr.pick [1, 2, 3, 4, 5] (by kernel_rfl) hF31, hS29, hl_v9⟩ ?_
   rintro k34 a34 w35 ⟨v762, v763, v764, hr34, hF34, hS34, hl_v762⟩
   cases k34 with
   | zero => rw [i_ring_Ntt_l9] at hr34; cases hr34
   | succ k34 =>
    rw [i_ring_Ntt_l9] at hr34
    refine wp_seq (wp_seq (wp_region_lit ?_))
    refine wplp 2 [1, 2, 3, 4, 5, 13] [(1, pp b10 0), (2, pp b13 0), (3, pp b25 0), (4, i6 v763), (5, i6 v764), (13, .bool (decide (v764 ≥ 2)))] hF34 (fun a36 hF36 => (wpList_nil (then_n ?_)))
    refine wp_cond_split (t := (decide (v764 ≥ 2))) hF36.e (fun ht37 => ?_) (fun ht37 => ?_)
    ·
     have h := if_t ht37 hr34
     refine wp_skip (then_n (wp_seq (wp_block (wp_seq (wp_region_lit ?_)))))
     refine wplp 1 [1, 2, 3, 4, 5, 6] [(1, pp b10 0), (2, pp b13 0), (3, pp b25 0), (4, i6 v763), (5, i6 v764), (6, i6 0)] hF36 (fun a38 hF38 => (wpList_nil (then_n ?_)))
     obtain ⟨ev39, hl40, h⟩ := bind_ok h
     refine block_cut (fun a' w' => ∃ (v1013 : List Int) (v1014 : Int), ev39 = (v1013, v1014) ∧ Fr 61 [] [(1, pp b10 0), (2, pp b13 0), (3, pp b25 0), (4, i6 v1014), (5, i6 v764)] a' ∧ St w w' [.blk b25 (ic .u16 v15) 98, .blk b13 (ic .u16 (rz 256)) 61, .blk b10 (ic .u16 v1013) 61] ∧ v1013.length = 256) ?_ ?_
     ·
      refine wp_loop_ghost (fun k a' w' => ∃ (v1010 : List Int) (v1011 : Int) (v1012 : Int), i_ring_Ntt_l12 v764 v15 k v1010 v1011 v1012 = some ev39 ∧ Fr 61 [] [(1, pp b10 0), (2, pp b13 0), (3, pp b25 0), (4, i6 v1011), (5, i6 v764), (6, i6 v1012)] a' ∧ St w w' [.blk b25 (ic .u16 v15) 98, .blk b13 (ic .u16 (rz 256)) 61, .blk b10 (ic .u16 v1010) 61] ∧ v1010.length = 256) LIM ⟨v762, v763, 0, hl40, Fr.pick [1, 2, 3, 4, 5, 6] (by kernel_rfl) hF38, hS34, hl_v762⟩ ?_
      rintro k41 a41 w42 ⟨v1010, v1011, v1012, hr41, hF41, hS41, hl_v1010⟩
      cases k41 with
      | zero => rw [i_ring_Ntt_l12] at hr41; cases hr41
      | succ k41 =>
       rw [i_ring_Ntt_l12] at hr41
       refine wp_seq (wp_seq (wp_region_lit ?_))
       refine wplp 2 [1, 2, 3, 4, 5, 6, 17] [(1, pp b10 0), (2, pp b13 0), (3, pp b25 0), (4, i6 v1011), (5, i6 v764), (6, i6 v1012), (17, .bool (decide (v1012 < 256)))] hF41 (fun a43 hF43 => (wpList_nil (then_n ?_)))
       refine wp_cond_split (t := (decide (v1012 < 256))) hF43.e (fun ht44 => ?_) (fun ht44 => ?_)
       ·
        have h := if_t ht44 hr41
        refine wp_skip (then_n (wp_seq (wp_block (wp_seq (wp_seq (wp_region_lit ?_))))))
        refine wplp 2 [1, 2, 3, 4, 5, 6, 7] [(1, pp b10 0), (2, pp b13 0), (3, pp b25 0), (4, i6 v1011), (5, i6 v764), (6, i6 v1012), (7, i6 v1012)] hF43 (fun a45 hF45 => (wpList_nil (then_n ?_)))
        obtain ⟨ev46, hl47, h⟩ := bind_ok h
        refine block_cut (fun a' w' => ∃ (v1094 : List Int), v1094 = ev46 ∧ Fr 61 [] [(1, pp b10 0), (2, pp b13 0), (3, pp b25 0), (4, i6 v1011), (5, i6 v764), (6, i6 v1012)] a' ∧ St w w' [.blk b25 (ic .u16 v15) 98, .blk b13 (ic .u16 (rz 256)) 61, .blk b10 (ic .u16 v1094) 61] ∧ v1094.length = 256) ?_ ?_
        ·
         refine wp_loop_ghost (fun k a' w' => ∃ (v1092 : List Int) (v1093 : Int), i_ring_Ntt_l13 v1012 v764 v1011 v15 k v1092 v1093 = some ev46 ∧ Fr 61 [] [(1, pp b10 0), (2, pp b13 0), (3, pp b25 0), (4, i6 v1011), (5, i6 v764), (6, i6 v1012), (7, i6 v1093)] a' ∧ St w w' [.blk b25 (ic .u16 v15) 98, .blk b13 (ic .u16 (rz 256)) 61, .blk b10 (ic .u16 v1092) 61] ∧ v1092.length = 256) LIM ⟨v1010, v1012, hl47, Fr.pick [1, 2, 3, 4, 5, 6, 7] (by kernel_rfl) hF45, hS41, hl_v1010⟩ ?_
         rintro k48 a48 w49 ⟨v1092, v1093, hr48, hF48, hS48, hl_v1092⟩
         cases k48 with
         | zero => rw [i_ring_Ntt_l13] at hr48; cases hr48
         | succ k48 =>
          rw [i_ring_Ntt_l13] at hr48
          refine wp_seq (wp_seq (wp_region_lit ?_))
          refine wplp 5 [1, 2, 3, 4, 5, 6, 7, 27] [(1, pp b10 0), (2, pp b13 0), (3, pp b25 0), (4, i6 v1011), (5, i6 v764), (6, i6 v1012), (7, i6 v1093), (27, .bool (decide (v1093 < (IntKind.i64.wrap (v1012 + v764)))))] hF48 (fun a50 hF50 => (wpList_nil (then_n ?_)))
          refine wp_cond_split (t := (decide (v1093 < (IntKind.i64.wrap (v1012 + v764))))) hF50.e (fun ht51 => ?_) (fun ht51 => ?_)
          ·
           have h := if_t ht51 hr48
           refine wp_skip (then_n (wp_seq (wp_block (wp_seq (wp_region_noPanic (region_al [] (fun w' => St w w' [.blk b25 (ic .u16 v15) 98, .blk b13 (ic .u16 (rz 256)) 61, .blk b10 (ic .u16 v1092) 61]) 10 rfl (by kernel_rfl) ?_))))))
           have hS52 := St.draw1 hS48
           refine al_run (fun _ _ _ _ _ h => h) 6 [0, 3, 4, 5] rfl [1, 2, 3, 4, 5, 6, 7, 30, 35] [(1, pp b10 0), (2, pp b13 0), (3, pp b25 0), (4, i6 v1011), (5, i6 v764), (6, i6 v1012), (7, i6 v1093), (30, i6 v1011), (35, i6 (IntKind.i64.wrap (v1093 + v764)))] hF50 (by kernel_rfl) (fun _ => hS52) (fun a53 hF53 => ?_)
           obtain ⟨hg54, h⟩ := gd_ok h
           refine al_any (i := 1) rfl (by kernel_rfl) (fun _ _ _ _ h => h) hF53 (by kernel_rfl) (v := pp b25 v1011.toNat) (fun _ => run_indexA rfl (b := b25) (off := 0) hF53.e (k := .i64) (i := v1011) hF53.e (len := 128) (E := 23) (by kernel_rfl) (s := 1) (by kernel_rfl) (inb_ok hg54) (r := v1011.toNat) (by simp only [Nat.zero_add, Nat.mul_one])) (by kernel_rfl) (fun _ => hS52) (fun a55 hF55 => ?_)
           refine al_val (i := 2) rfl (by kernel_rfl) (fun _ _ _ _ h => h) hF55 (by kernel_rfl) (v := .int .u16 (rd v15 v1011.toNat)) (fun _ HS => run_load1 rfl (b := b25) (off := v1011.toNat) hF55.e (by kernel_rfl) (HS.at 0 rfl (v1011.toNat) (ic_get (lt_len (inb_nat hg54) hl_v15)))) (by kernel_rfl) (hS52.sub (.cons_cons _ (.cons_cons _ (.cons_cons _ (.slnil))))) (fun a56 hF56 => ?_)
           obtain ⟨hg57, h⟩ := gd_ok h
           refine al_any (i := 6) rfl (by kernel_rfl) (fun _ _ _ _ h => h) hF56 (by kernel_rfl) (v := pp b10 ((IntKind.i64.wrap (v1093 + v764)).toNat)) (fun _ => run_indexA rfl (b := b10) (off := 0) hF56.e (k := .i64) (i := (IntKind.i64.wrap (v1093 + v764))) hF56.e (len := 256) (E := 23) (by kernel_rfl) (s := 1) (by kernel_rfl) (inb_ok hg57) (r := (IntKind.i64.wrap (v1093 + v764)).toNat) (by simp only [Nat.zero_add, Nat.mul_one])) (by kernel_rfl) (fun _ => hS52) (fun a58 hF58 => ?_)
           refine al_val (i := 7) rfl (by kernel_rfl) (fun _ _ _ _ h => h) hF58 (by kernel_rfl) (v := .int .u16 (rd v1092 ((IntKind.i64.wrap (v1093 + v764)).toNat))) (fun _ HS => run_load1 rfl (b := b10) (off := (IntKind.i64.wrap (v1093 + v764)).toNat) hF58.e (by kernel_rfl) (HS.at 2 rfl ((IntKind.i64.wrap (v1093 + v764)).toNat) (ic_get (lt_len (inb_nat hg57) hl_v1092)))) (by kernel_rfl) (hS52.sub (.cons_cons _ (.cons_cons _ (.cons_cons _ (.slnil))))) (fun a59 hF59 => ?_)
           obtain ⟨v1109, hb60, h⟩ := bind_ok h
           refine al_one (i := 8) rfl (by kernel_rfl) hF59 (by kernel_rfl) (wp_callR hF59 (by kernel_rfl) (g := 64) (args := #[.int .u16 (rd v15 v1011.toNat), .int .u16 (rd v1092 ((IntKind.i64.wrap (v1093 + v764)).toNat))]) (by kernel_rfl) (i_ring_times_ok (rd v15 v1011.toNat) (rd v1092 ((IntKind.i64.wrap (v1093 + v764)).toNat)) v1109 hb60) (fun vr w61 hp => ?_))
           obtain ⟨rfl, hS62⟩ := hp
           replace hS62 := St.call hS52 hS62 rfl
           refine And.intro (fun _ => hS62) ?_
           refine go_fr (hF59.next (.int .u16 v1109) [1, 2, 3, 4, 5, 6, 7, 38] (M := [(1, pp b10 0), (2, pp b13 0), (3, pp b25 0), (4, i6 v1011), (5, i6 v764), (6, i6 v1012), (7, i6 v1093), (38, .int .u16 v1109)]) (by kernel_rfl)) (fun a62 hF62 => ?_)
           refine al_run (fun _ _ _ _ _ h => h) 0 [9] rfl [1, 2, 3, 4, 5, 6, 7, 8] [(1, pp b10 0), (2, pp b13 0), (3, pp b25 0), (4, i6 v1011), (5, i6 v764), (6, i6 v1012), (7, i6 v1093), (8, .int .u16 v1109)] hF62 (by kernel_rfl) (fun _ => hS62) (fun a63 hF63 => ?_)
           refine al_done (by kernel_rfl) ?_ _
           refine NoPanic.normal (then_n (wp_region_noPanic (region_al [18, 20] (fun w' => St w w' [.blk b25 (ic .u16 v15) 98, .blk b13 (ic .u16 (rz 256)) 61, .blk b10 (ic .u16 v1092) 61]) 21 rfl (by kernel_rfl) ?_)))
           have hS64 := St.draw1 hS62
           refine al_run (fun _ _ _ _ _ h => h) 13 [0, 1, 2, 3, 4, 7, 10, 14] rfl [1, 2, 3, 4, 5, 6, 7, 39, 42, 43, 46, 49, 53] [(1, pp b10 0), (2, pp b13 0), (3, pp b25 0), (4, i6 v1011), (5, i6 v764), (6, i6 v1012), (7, i6 v1093), (39, i6 v1093), (42, i6 (IntKind.i64.wrap (v1093 + v764))), (43, i6 v1093), (46, .int .u16 v1109), (49, i6 v1093), (53, .int .u16 v1109)] hF63 (by kernel_rfl) (fun _ => hS64) (fun a65 hF65 => ?_)
           obtain ⟨hg66, h⟩ := gd_ok h
           refine al_any (i := 5) rfl (by kernel_rfl) (fun _ _ _ _ h => h) hF65 (by kernel_rfl) (v := pp b10 v1093.toNat) (fun _ => run_indexA rfl (b := b10) (off := 0) hF65.e (k := .i64) (i := v1093) hF65.e (len := 256) (E := 23) (by kernel_rfl) (s := 1) (by kernel_rfl) (inb_ok hg66) (r := v1093.toNat) (by simp only [Nat.zero_add, Nat.mul_one])) (by kernel_rfl) (fun _ => hS64) (fun a67 hF67 => ?_)
           refine al_val (i := 6) rfl (by kernel_rfl) (fun _ _ _ _ h => h) hF67 (by kernel_rfl) (v := .int .u16 (rd v1092 v1093.toNat)) (fun _ HS => run_load1 rfl (b := b10) (off := v1093.toNat) hF67.e (by kernel_rfl) (HS.at 2 rfl (v1093.toNat) (ic_get (lt_len (inb_nat hg66) hl_v1092)))) (by kernel_rfl) (hS64.sub (.cons_cons _ (.cons_cons _ (.cons_cons _ (.slnil))))) (fun a68 hF68 => ?_)
           refine al_run (fun _ _ _ _ _ h => h) 9 [8, 9] rfl [1, 2, 3, 4, 5, 6, 7, 39, 42, 48, 49, 53] [(1, pp b10 0), (2, pp b13 0), (3, pp b25 0), (4, i6 v1011), (5, i6 v764), (6, i6 v1012), (7, i6 v1093), (39, i6 v1093), (42, i6 (IntKind.i64.wrap (v1093 + v764))), (48, .int .u16 ((IntKind.u16.wrap ((rd v1092 v1093.toNat) + v1109)).tmod 3329)), (49, i6 v1093), (53, .int .u16 v1109)] hF68 (by kernel_rfl) (fun _ => hS64) (fun a69 hF69 => ?_)
           refine al_any (i := 11) rfl (by kernel_rfl) (fun _ _ _ _ h => h) hF69 (by kernel_rfl) (v := pp b10 v1093.toNat) (fun _ => run_indexA rfl (b := b10) (off := 0) hF69.e (k := .i64) (i := v1093) hF69.e (len := 256) (E := 23) (by kernel_rfl) (s := 1) (by kernel_rfl) (inb_ok hg66) (r := v1093.toNat) (by simp only [Nat.zero_add, Nat.mul_one])) (by kernel_rfl) (fun _ => hS64) (fun a70 hF70 => ?_)
           refine al_val (i := 12) rfl (by kernel_rfl) (fun _ _ _ _ h => h) hF70 (by kernel_rfl) (v := .int .u16 (rd v1092 v1093.toNat)) (fun _ HS => run_load1 rfl (b := b10) (off := v1093.toNat) hF70.e (by kernel_rfl) (HS.at 2 rfl (v1093.toNat) (ic_get (lt_len (inb_nat hg66) hl_v1092)))) (by kernel_rfl) (hS64.sub (.cons_cons _ (.cons_cons _ (.cons_cons _ (.slnil))))) (fun a71 hF71 => ?_)
           refine al_run (fun _ _ _ _ _ h => h) 4 [13, 15, 16] rfl [1, 2, 3, 4, 5, 6, 7, 39, 42, 48, 55] [(1, pp b10 0), (2, pp b13 0), (3, pp b25 0), (4, i6 v1011), (5, i6 v764), (6, i6 v1012), (7, i6 v1093), (39, i6 v1093), (42, i6 (IntKind.i64.wrap (v1093 + v764))), (48, .int .u16 ((IntKind.u16.wrap ((rd v1092 v1093.toNat) + v1109)).tmod 3329)), (55, .int .u16 ((IntKind.u16.wrap ((IntKind.u16.wrap ((rd v1092 v1093.toNat) + 3329)) - v1109)).tmod 3329))] hF71 (by kernel_rfl) (fun _ => hS64) (fun a72 hF72 => ?_)
           refine al_any (i := 17) rfl (by kernel_rfl) (fun _ _ _ _ h => h) hF72 (by kernel_rfl) (v := pp b10 v1093.toNat) (fun _ => run_indexA rfl (b := b10) (off := 0) hF72.e (k := .i64) (i := v1093) hF72.e (len := 256) (E := 23) (by kernel_rfl) (s := 1) (by kernel_rfl) (inb_ok hg66) (r := v1093.toNat) (by simp only [Nat.zero_add, Nat.mul_one])) (by kernel_rfl) (fun _ => hS64) (fun a73 hF73 => ?_)
           refine al_one (i := 18) rfl (by kernel_rfl) hF73 (by kernel_rfl) (wp_store1 hF73 hS64 rfl 2 rfl (off := v1093.toNat) (v := .int .u16 ((IntKind.u16.wrap ((rd v1092 v1093.toNat) + v1109)).tmod 3329)) (by kernel_rfl) rfl rfl (.ic (lt_len (inb_nat hg66) hl_v1092)) (L' := [.blk b25 (ic .u16 v15) 98, .blk b13 (ic .u16 (rz 256)) 61, .blk b10 (ic .u16 (v1092.set v1093.toNat ((IntKind.u16.wrap ((rd v1092 v1093.toNat) + v1109)).tmod 3329))) 61]) rfl (fun w74 a75 hS75 hF75 => (And.intro (late_yes (by kernel_rfl)) ?_)))
           obtain ⟨hg76, h⟩ := gd_ok h
           refine al_any (i := 19) rfl (by kernel_rfl) (fun _ _ _ _ h => h) hF75 (by kernel_rfl) (v := pp b10 ((IntKind.i64.wrap (v1093 + v764)).toNat)) (fun _ => run_indexA rfl (b := b10) (off := 0) hF75.e (k := .i64) (i := (IntKind.i64.wrap (v1093 + v764))) hF75.e (len := 256) (E := 23) (by kernel_rfl) (s := 1) (by kernel_rfl) (inb_ok hg76) (r := (IntKind.i64.wrap (v1093 + v764)).toNat) (by simp only [Nat.zero_add, Nat.mul_one])) (by kernel_rfl) (late_yes (by kernel_rfl)) (fun a77 hF77 => ?_)
           refine al_one (i := 20) rfl (by kernel_rfl) hF77 (by kernel_rfl) (wp_store1 hF77 hS75 rfl 2 rfl (off := (IntKind.i64.wrap (v1093 + v764)).toNat) (v := .int .u16 ((IntKind.u16.wrap ((IntKind.u16.wrap ((rd v1092 v1093.toNat) + 3329)) - v1109)).tmod 3329)) (by kernel_rfl) rfl rfl (.ic (lt_len (inb_nat hg76) (len_is ((v1092.set v1093.toNat ((IntKind.u16.wrap ((rd v1092 v1093.toNat) + v1109)).tmod 3329))) (n := 256) (List.length_set.trans hl_v1092)))) (L' := [.blk b25 (ic .u16 v15) 98, .blk b13 (ic .u16 (rz 256)) 61, .blk b10 (ic .u16 ((v1092.set v1093.toNat ((IntKind.u16.wrap ((rd v1092 v1093.toNat) + v1109)).tmod 3329)).set ((IntKind.i64.wrap (v1093 + v764)).toNat) ((IntKind.u16.wrap ((IntKind.u16.wrap ((rd v1092 v1093.toNat) + 3329)) - v1109)).tmod 3329))) 61]) rfl (fun w78 a79 hS79 hF79 => (And.intro (late_yes (by kernel_rfl)) ?_)))
           refine al_done (by kernel_rfl) ?_ _
           refine NoPanic.normal (blk_n (then_n ?_))
           obtain ⟨v1130, hv_v1130, h⟩ := nm_ok h
           have hl_v1130 : v1130.length = 256 := (congrArg List.length hv_v1130).trans (len_is (((v1092.set v1093.toNat ((IntKind.u16.wrap ((rd v1092 v1093.toNat) + v1109)).tmod 3329)).set ((IntKind.i64.wrap (v1093 + v764)).toNat) ((IntKind.u16.wrap ((IntKind.u16.wrap ((rd v1092 v1093.toNat) + 3329)) - v1109)).tmod 3329))) (n := 256) (List.length_set.trans (len_is ((v1092.set v1093.toNat ((IntKind.u16.wrap ((rd v1092 v1093.toNat) + v1109)).tmod 3329))) (n := 256) (List.length_set.trans hl_v1092))))
           have hS80 := St.eqv (M := [.blk b25 (ic .u16 v15) 98, .blk b13 (ic .u16 (rz 256)) 61, .blk b10 (ic .u16 v1130) 61]) hS79 (by rw [hv_v1130])
           refine wp_region_lit ?_
           refine wplp 3 [1, 2, 3, 4, 5, 6, 7] [(1, pp b10 0), (2, pp b13 0), (3, pp b25 0), (4, i6 v1011), (5, i6 v764), (6, i6 v1012), (7, i6 (IntKind.i64.wrap (v1093 + 1)))] hF79 (fun a81 hF81 => (wpList_nil ?_))
           exact ⟨k48, Nat.lt_succ_self _, v1130, (IntKind.i64.wrap (v1093 + 1)), h, Fr.pick [1, 2, 3, 4, 5, 6, 7] (by kernel_rfl) hF81, hS80.sub (.cons_cons _ (.cons_cons _ (.cons_cons _ (.slnil)))), hl_v1130⟩
          ·
           have h := if_f ht51 hr48
           refine wp_exit ?_
           refine then_x (then_x (cut_x ?_))
           have hr := Option.some.inj h
           subst hr
           exact ⟨_, rfl, Fr.pick [1, 2, 3, 4, 5, 6] (by kernel_rfl) hF50, hS48.sub (.cons_cons _ (.cons_cons _ (.cons_cons _ (.slnil)))), hl_v1092⟩
        ·
         rintro a82 w83 ⟨v1094, hev, hF82, hS82, hl_v1094⟩
         subst hev
         refine then_n (wp_region_lit ?_)
         refine wplp 3 [1, 2, 3, 4, 5, 6] [(1, pp b10 0), (2, pp b13 0), (3, pp b25 0), (4, i6 (IntKind.i64.wrap (v1011 + 1))), (5, i6 v764), (6, i6 v1012)] hF82 (fun a84 hF84 => (wpList_nil (blk_n (then_n (wp_region_lit ?_)))))
         refine wplp 5 [1, 2, 3, 4, 5, 6] [(1, pp b10 0), (2, pp b13 0), (3, pp b25 0), (4, i6 (IntKind.i64.wrap (v1011 + 1))), (5, i6 v764), (6, i6 (IntKind.i64.wrap (v1012 + (IntKind.i64.wrap (2 * v764)))))] hF84 (fun a85 hF85 => (wpList_nil ?_))
         exact ⟨k41, Nat.lt_succ_self _, v1094, (IntKind.i64.wrap (v1011 + 1)), (IntKind.i64.wrap (v1012 + (IntKind.i64.wrap (2 * v764)))), h, Fr.pick [1, 2, 3, 4, 5, 6] (by kernel_rfl) hF85, hS82.sub (.cons_cons _ (.cons_cons _ (.cons_cons _ (.slnil)))), hl_v1094⟩
       ·
        have h := if_f ht44 hr41
        refine wp_exit ?_
        refine then_x (then_x (cut_x ?_))
        have hr := Option.some.inj h
        subst hr
        exact ⟨_, _, rfl, Fr.pick [1, 2, 3, 4, 5] (by kernel_rfl) hF43, hS41.sub (.cons_cons _ (.cons_cons _ (.cons_cons _ (.slnil)))), hl_v1010⟩
     ·
      rintro a86 w87 ⟨v1013, v1014, rfl, hF86, hS86, hl_v1013⟩
      refine blk_n (then_n (wp_region_lit ?_))
      refine wplp 3 [1, 2, 3, 4, 5] [(1, pp b10 0), (2, pp b13 0), (3, pp b25 0), (4, i6 v1014), (5, i6 (IntKind.i64.wrap (v764.tdiv 2)))] hF86 (fun a88 hF88 => (wpList_nil ?_))
      exact ⟨k34, Nat.lt_succ_self _, v1013, v1014, (IntKind.i64.wrap (v764.tdiv 2)), h, Fr.pick [1, 2, 3, 4, 5] (by kernel_rfl) hF88, hS86.sub (.cons_cons _ (.cons_cons _ (.cons_cons _ (.slnil)))), hl_v1013⟩
    ·
     have h := if_f ht37 hr34
     refine wp_exit ?_
     refine then_x (then_x (cut_x ?_))
     have hr := Option.some.inj h
     subst hr
     exact ⟨_, rfl, Fr.pick [1, 2] (by kernel_rfl) hF36, hS34.sub (.cons_cons _ (.cons_cons _ (.cons_cons _ (.slnil)))), hl_v762⟩
  ·
   rintro a89 w90 ⟨v765, hev, hF89, hS89, hl_v765⟩
   subst hev
   refine then_n (wp_seq (wp_region_lit ?_))
   refine wpl_val hF89 (by kernel_rfl) (v := .agg (ic .u16 v765).toArray) (run_loadR rfl (b := b10) (off := 0) hF89.e (by kernel_rfl) (k := 256) (by kernel_rfl) (((ic_len _ _).trans hl_v765) : (ic .u16 v765).length = 256) (hS89.all 2 rfl)) (by kernel_rfl) (fun a91 hF91 => ?_)
   refine wpl_one hF91 (by kernel_rfl) (wp_store hF91 hS89 rfl 1 rfl (off := 0) (by kernel_rfl) (v := .agg (ic .u16 v765).toArray) (by kernel_rfl) (vs := ic .u16 v765) rfl (k := 256) (by kernel_rfl) (((ic_len _ _).trans hl_v765) : (ic .u16 v765).length = 256) (by have h2 := (((ic_len _ _).trans (len_is (rz 256) (n := 256) (List.length_replicate))) : (ic .u16 (rz 256)).length = 256); omega) (ic_one _ _) (cs' := ic .u16 v765) ((upd_ic _ _ _ _).trans (congrArg (ic .u16) (upd_all ((hl_v765).trans ((len_is (rz 256) (n := 256) (List.length_replicate))).symm)))) (by kernel_rfl) (L' := [.blk b25 (ic .u16 v15) 98, .blk b13 (ic .u16 v765) 61, .blk b10 (ic .u16 v765) 61]) rfl (fun w92 a93 hS93 hF93 => (wpList_nil (then_n (wp_ret (ret_ok hF93 [.agg (ic .u16 v765).toArray] (⟨⟨⟨b13, 0, none⟩, by kernel_rfl, loadVarR (by kernel_rfl) (k := 256) (by kernel_rfl) (((ic_len _ _).trans hl_v765) : (ic .u16 v765).length = 256) (hS93.all 1 rfl)⟩, trivial⟩) ?_))))))
   have hr0 := Option.some.inj h
   subst hr0
   exact ⟨rfl, hS93.sub (List.nil_sublist _), hl_v765⟩
def i_kem_row_turned (v1 : List Int) (v2 : List Int) (v3 : List Int) : Option (List Int × List Int × List Int) :=
  ((i_ring_Ntt v1).bind fun v134 => ((i_ring_Ntt v2).bind fun v147 => ((i_ring_Ntt v3).bind fun v160 => some (v134, v147, v160))))
theorem i_kem_row_turned_ok (v1 : List Int) (v2 : List Int) (v3 : List Int) {w : World} (hl_v1 : v1.length = 256) (hl_v2 : v2.length = 256) (hl_v3 : v3.length = 256) (c0 : List Int) (c1 : List Int) (c2 : List Int) (h : i_kem_row_turned v1 v2 v3 = some (c0, c1, c2)) : Calls Try.prog 33 #[.agg (ic .u16 v1 ++ (ic .u16 v2 ++ (ic .u16 v3))).toArray] w (Ret (fun v w' => v = .agg (ic .u16 c0 ++ (ic .u16 c1 ++ (ic .u16 c2))).toArray ∧ St w w' [] ∧ c0.length = 256 ∧ c1.length = 256 ∧ c2.length = 256)) := by
  unfold i_kem_row_turned at h
  refine calls_of_wp Try.func33 rfl ?_
  have hF := Fr.start (#[.agg (ic .u16 v1 ++ (ic .u16 v2 ++ (ic .u16 v3))).toArray] : Array Value) 14 15 [(0, .agg (ic .u16 v1 ++ (ic .u16 v2 ++ (ic .u16 v3))).toArray)] rfl (by kernel_rfl)
  have hS := St.nil w
  refine go_fr hF (fun a hF => (wp_seq (wp_region_lit ?_)))
  refine wpl_one hF (by kernel_rfl) (wp_box hF hS rfl (v := .agg (ic .u16 v1 ++ (ic .u16 v2 ++ (ic .u16 v3))).toArray) (by kernel_rfl) (ic .u16 v1 ++ (ic .u16 v2 ++ (ic .u16 v3))) rfl (by kernel_rfl) (fun b10 w11 a12 hS12 hF12 => ?_))
  refine wpl_one hF12 (by kernel_rfl) (wp_alloc hF12 hS12 rfl (z := .agg (ic .u16 (rz 256) ++ (ic .u16 (rz 256) ++ (ic .u16 (rz 256)))).toArray) (by kernel_rfl) (ic .u16 (rz 256) ++ (ic .u16 (rz 256) ++ (ic .u16 (rz 256)))) rfl (by kernel_rfl) (fun b13 w14 a15 hS15 hF15 => (wpList_nil (then_n (wp_seq (wp_seq (wp_region_lit ?_)))))))
  refine wplp 1 [1, 2, 4] [(1, pp b10 0), (2, pp b13 0), (4, i6 0)] hF15 (fun a16 hF16 => (wpList_nil (then_n (wp_block (wp_loop_rounds 4 (rounds_go (n := 3) (wp_seq (wp_region_lit ?_))))))))
  refine wplp 1 [1, 2, 4, 5] [(1, pp b10 0), (2, pp b13 0), (4, i6 0), (5, .bool true)] hF16 (fun a17 hF17 => (wpList_nil (then_n (wp_seq (wp_cond_true hF17.e (wp_skip (then_n (wp_seq (wp_block (wp_seq (wp_region_lit ?_)))))))))))
  refine wplp 2 [1, 2, 3, 4] [(1, pp b10 0), (2, pp b13 0), (3, i6 0), (4, i6 0)] hF17 (fun a18 hF18 => (wpList_nil (then_n (wp_region_lit ?_))))
  refine wplp 2 [1, 2, 4, 7, 8] [(1, pp b10 0), (2, pp b13 0), (4, i6 0), (7, i6 0), (8, i6 0)] hF18 (fun a19 hF19 => ?_)
  refine wpl_val hF19 (by kernel_rfl) (v := pp b10 0) (run_indexA rfl (b := b10) (off := 0) hF19.e (k := .i64) (i := 0) hF19.e (len := 3) (E := 61) (by kernel_rfl) (s := 256) (by kernel_rfl) (by decide) (r := 0) rfl) (by kernel_rfl) (fun a20 hF20 => ?_)
  refine wpl_val hF20 (by kernel_rfl) (v := .agg (ic .u16 v1).toArray) (run_loadR rfl (b := b10) (off := 0) hF20.e (by kernel_rfl) (k := 256) (by kernel_rfl) (((ic_len _ _).trans hl_v1) : (ic .u16 v1).length = 256) (range_l (hS15.all 1 rfl))) (by kernel_rfl) (fun a21 hF21 => ?_)
  obtain ⟨v134, hb22, h⟩ := bind_ok h
  refine wpl_one hF21 (by kernel_rfl) (wp_callR hF21 (by kernel_rfl) (g := 55) (args := #[.agg (ic .u16 v1).toArray]) (by kernel_rfl) (i_ring_Ntt_ok v1 hl_v1 v134 hb22) (fun vr w23 hp => ?_))
  obtain ⟨rfl, hS24, hl_v134⟩ := hp
  replace hS24 := St.call hS15 hS24 rfl
  refine go_fr (hF21.next (.agg (ic .u16 v134).toArray) [1, 2, 4, 7, 11] (M := [(1, pp b10 0), (2, pp b13 0), (4, i6 0), (7, i6 0), (11, .agg (ic .u16 v134).toArray)]) (by kernel_rfl)) (fun a24 hF24 => ?_)
  refine wpl_val hF24 (by kernel_rfl) (v := pp b10 0) (run_indexA rfl (b := b10) (off := 0) hF24.e (k := .i64) (i := 0) hF24.e (len := 3) (E := 61) (by kernel_rfl) (s := 256) (by kernel_rfl) (by decide) (r := 0) rfl) (by kernel_rfl) (fun a25 hF25 => ?_)
  refine wpl_one hF25 (by kernel_rfl) (wp_store hF25 hS24 rfl 1 rfl (off := 0) (by kernel_rfl) (v := .agg (ic .u16 v134).toArray) (by kernel_rfl) (vs := ic .u16 v134) rfl (k := 256) (by kernel_rfl) (((ic_len _ _).trans hl_v134) : (ic .u16 v134).length = 256) (by have h2 := (app_len (((ic_len _ _).trans hl_v1) : (ic .u16 v1).length = 256) (app_len (((ic_len _ _).trans hl_v2) : (ic .u16 v2).length = 256) (((ic_len _ _).trans hl_v3) : (ic .u16 v3).length = 256))); omega) (ic_one _ _) (cs' := ic .u16 v134 ++ (ic .u16 v2 ++ (ic .u16 v3))) (upd_l (by have h2 := (((ic_len _ _).trans hl_v1) : (ic .u16 v1).length = 256); have h3 := ((((ic_len _ _).trans hl_v134) : (ic .u16 v134).length = 256) : (ic .u16 v134).length = 256); omega) ((upd_ic _ _ _ _).trans (congrArg (ic .u16) (upd_all ((hl_v134).trans (hl_v1).symm))))) (by kernel_rfl) (L' := [.blk b13 (ic .u16 (rz 256) ++ (ic .u16 (rz 256) ++ (ic .u16 (rz 256)))) 63, .blk b10 (ic .u16 v134 ++ (ic .u16 v2 ++ (ic .u16 v3))) 63]) rfl (fun w26 a27 hS27 hF27 => (wpList_nil (blk_n (then_n (wp_region_lit ?_))))))
  refine wplp 2 [1, 2, 4] [(1, pp b10 0), (2, pp b13 0), (4, i6 1)] hF27 (fun a28 hF28 => (wpList_nil (then_n (rounds_go (n := 2) (wp_seq (wp_region_lit ?_))))))
  refine wplp 1 [1, 2, 4, 5] [(1, pp b10 0), (2, pp b13 0), (4, i6 1), (5, .bool true)] hF28 (fun a29 hF29 => (wpList_nil (then_n (wp_seq (wp_cond_true hF29.e (wp_skip (then_n (wp_seq (wp_block (wp_seq (wp_region_lit ?_)))))))))))
  refine wplp 2 [1, 2, 3, 4] [(1, pp b10 0), (2, pp b13 0), (3, i6 1), (4, i6 1)] hF29 (fun a30 hF30 => (wpList_nil (then_n (wp_region_lit ?_))))
  refine wplp 2 [1, 2, 4, 7, 8] [(1, pp b10 0), (2, pp b13 0), (4, i6 1), (7, i6 1), (8, i6 1)] hF30 (fun a31 hF31 => ?_)
  refine wpl_val hF31 (by kernel_rfl) (v := pp b10 256) (run_indexA rfl (b := b10) (off := 0) hF31.e (k := .i64) (i := 1) hF31.e (len := 3) (E := 61) (by kernel_rfl) (s := 256) (by kernel_rfl) (by decide) (r := 256) rfl) (by kernel_rfl) (fun a32 hF32 => ?_)
  refine wpl_val hF32 (by kernel_rfl) (v := .agg (ic .u16 v2).toArray) (run_loadR rfl (b := b10) (off := 256) hF32.e (by kernel_rfl) (k := 256) (by kernel_rfl) (((ic_len _ _).trans hl_v2) : (ic .u16 v2).length = 256) (range_l (range_r (hS27.all 1 rfl) (((ic_len _ _).trans hl_v134) : (ic .u16 v134).length = 256) rfl))) (by kernel_rfl) (fun a33 hF33 => ?_)
  obtain ⟨v147, hb34, h⟩ := bind_ok h
  refine wpl_one hF33 (by kernel_rfl) (wp_callR hF33 (by kernel_rfl) (g := 55) (args := #[.agg (ic .u16 v2).toArray]) (by kernel_rfl) (i_ring_Ntt_ok v2 hl_v2 v147 hb34) (fun vr w35 hp => ?_))
  obtain ⟨rfl, hS36, hl_v147⟩ := hp
  replace hS36 := St.call hS27 hS36 rfl
  refine go_fr (hF33.next (.agg (ic .u16 v147).toArray) [1, 2, 4, 7, 11] (M := [(1, pp b10 0), (2, pp b13 0), (4, i6 1), (7, i6 1), (11, .agg (ic .u16 v147).toArray)]) (by kernel_rfl)) (fun a36 hF36 => ?_)
  refine wpl_val hF36 (by kernel_rfl) (v := pp b10 256) (run_indexA rfl (b := b10) (off := 0) hF36.e (k := .i64) (i := 1) hF36.e (len := 3) (E := 61) (by kernel_rfl) (s := 256) (by kernel_rfl) (by decide) (r := 256) rfl) (by kernel_rfl) (fun a37 hF37 => ?_)
  refine wpl_one hF37 (by kernel_rfl) (wp_store hF37 hS36 rfl 1 rfl (off := 256) (by kernel_rfl) (v := .agg (ic .u16 v147).toArray) (by kernel_rfl) (vs := ic .u16 v147) rfl (k := 256) (by kernel_rfl) (((ic_len _ _).trans hl_v147) : (ic .u16 v147).length = 256) (by have h2 := (app_len (((ic_len _ _).trans hl_v134) : (ic .u16 v134).length = 256) (app_len (((ic_len _ _).trans hl_v2) : (ic .u16 v2).length = 256) (((ic_len _ _).trans hl_v3) : (ic .u16 v3).length = 256))); omega) (ic_one _ _) (cs' := ic .u16 v134 ++ (ic .u16 v147 ++ (ic .u16 v3))) (upd_r2 (p := 256) (j := 0) (o := 256) (((ic_len _ _).trans hl_v134) : (ic .u16 v134).length = 256) rfl (upd_l (by have h2 := (((ic_len _ _).trans hl_v2) : (ic .u16 v2).length = 256); have h3 := ((((ic_len _ _).trans hl_v147) : (ic .u16 v147).length = 256) : (ic .u16 v147).length = 256); omega) ((upd_ic _ _ _ _).trans (congrArg (ic .u16) (upd_all ((hl_v147).trans (hl_v2).symm)))))) (by kernel_rfl) (L' := [.blk b13 (ic .u16 (rz 256) ++ (ic .u16 (rz 256) ++ (ic .u16 (rz 256)))) 63, .blk b10 (ic .u16 v134 ++ (ic .u16 v147 ++ (ic .u16 v3))) 63]) rfl (fun w38 a39 hS39 hF39 => (wpList_nil (blk_n (then_n (wp_region_lit ?_))))))
  refine wplp 2 [1, 2, 4] [(1, pp b10 0), (2, pp b13 0), (4, i6 2)] hF39 (fun a40 hF40 => (wpList_nil (then_n (rounds_go (n := 1) (wp_seq (wp_region_lit ?_))))))
  refine wplp 1 [1, 2, 4, 5] [(1, pp b10 0), (2, pp b13 0), (4, i6 2), (5, .bool true)] hF40 (fun a41 hF41 => (wpList_nil (then_n (wp_seq (wp_cond_true hF41.e (wp_skip (then_n (wp_seq (wp_block (wp_seq (wp_region_lit ?_)))))))))))
  refine wplp 2 [1, 2, 3, 4] [(1, pp b10 0), (2, pp b13 0), (3, i6 2), (4, i6 2)] hF41 (fun a42 hF42 => (wpList_nil (then_n (wp_region_lit ?_))))
  refine wplp 2 [1, 2, 4, 7, 8] [(1, pp b10 0), (2, pp b13 0), (4, i6 2), (7, i6 2), (8, i6 2)] hF42 (fun a43 hF43 => ?_)
  refine wpl_val hF43 (by kernel_rfl) (v := pp b10 512) (run_indexA rfl (b := b10) (off := 0) hF43.e (k := .i64) (i := 2) hF43.e (len := 3) (E := 61) (by kernel_rfl) (s := 256) (by kernel_rfl) (by decide) (r := 512) rfl) (by kernel_rfl) (fun a44 hF44 => ?_)
  refine wpl_val hF44 (by kernel_rfl) (v := .agg (ic .u16 v3).toArray) (run_loadR rfl (b := b10) (off := 512) hF44.e (by kernel_rfl) (k := 256) (by kernel_rfl) (((ic_len _ _).trans hl_v3) : (ic .u16 v3).length = 256) (range_r (range_r (hS39.all 1 rfl) (((ic_len _ _).trans hl_v134) : (ic .u16 v134).length = 256) rfl) (((ic_len _ _).trans hl_v147) : (ic .u16 v147).length = 256) rfl)) (by kernel_rfl) (fun a45 hF45 => ?_)
  obtain ⟨v160, hb46, h⟩ := bind_ok h
  refine wpl_one hF45 (by kernel_rfl) (wp_callR hF45 (by kernel_rfl) (g := 55) (args := #[.agg (ic .u16 v3).toArray]) (by kernel_rfl) (i_ring_Ntt_ok v3 hl_v3 v160 hb46) (fun vr w47 hp => ?_))
  obtain ⟨rfl, hS48, hl_v160⟩ := hp
  replace hS48 := St.call hS39 hS48 rfl
  refine go_fr (hF45.next (.agg (ic .u16 v160).toArray) [1, 2, 4, 7, 11] (M := [(1, pp b10 0), (2, pp b13 0), (4, i6 2), (7, i6 2), (11, .agg (ic .u16 v160).toArray)]) (by kernel_rfl)) (fun a48 hF48 => ?_)
  refine wpl_val hF48 (by kernel_rfl) (v := pp b10 512) (run_indexA rfl (b := b10) (off := 0) hF48.e (k := .i64) (i := 2) hF48.e (len := 3) (E := 61) (by kernel_rfl) (s := 256) (by kernel_rfl) (by decide) (r := 512) rfl) (by kernel_rfl) (fun a49 hF49 => ?_)
  refine wpl_one hF49 (by kernel_rfl) (wp_store hF49 hS48 rfl 1 rfl (off := 512) (by kernel_rfl) (v := .agg (ic .u16 v160).toArray) (by kernel_rfl) (vs := ic .u16 v160) rfl (k := 256) (by kernel_rfl) (((ic_len _ _).trans hl_v160) : (ic .u16 v160).length = 256) (by have h2 := (app_len (((ic_len _ _).trans hl_v134) : (ic .u16 v134).length = 256) (app_len (((ic_len _ _).trans hl_v147) : (ic .u16 v147).length = 256) (((ic_len _ _).trans hl_v3) : (ic .u16 v3).length = 256))); omega) (ic_one _ _) (cs' := ic .u16 v134 ++ (ic .u16 v147 ++ (ic .u16 v160))) (upd_r2 (p := 256) (j := 256) (o := 512) (((ic_len _ _).trans hl_v134) : (ic .u16 v134).length = 256) rfl (upd_r2 (p := 256) (j := 0) (o := 256) (((ic_len _ _).trans hl_v147) : (ic .u16 v147).length = 256) rfl ((upd_ic _ _ _ _).trans (congrArg (ic .u16) (upd_all ((hl_v160).trans (hl_v3).symm)))))) (by kernel_rfl) (L' := [.blk b13 (ic .u16 (rz 256) ++ (ic .u16 (rz 256) ++ (ic .u16 (rz 256)))) 63, .blk b10 (ic .u16 v134 ++ (ic .u16 v147 ++ (ic .u16 v160))) 63]) rfl (fun w50 a51 hS51 hF51 => (wpList_nil (blk_n (then_n (wp_region_lit ?_))))))
  refine wplp 2 [1, 2, 4] [(1, pp b10 0), (2, pp b13 0), (4, i6 3)] hF51 (fun a52 hF52 => (wpList_nil (then_n (rounds_go (n := 0) (wp_seq (wp_region_lit ?_))))))
  refine wplp 1 [1, 2, 4, 5] [(1, pp b10 0), (2, pp b13 0), (4, i6 3), (5, .bool false)] hF52 (fun a53 hF53 => (wpList_nil (then_n (wp_seq (wp_cond_false hF53.e (wp_exit ?_))))))
  refine then_x (then_x (blk_x (then_n (wp_seq (wp_region_lit ?_)))))
  refine wpl_val hF53 (by kernel_rfl) (v := .agg (ic .u16 v134 ++ (ic .u16 v147 ++ (ic .u16 v160))).toArray) (run_loadR rfl (b := b10) (off := 0) hF53.e (by kernel_rfl) (k := 768) (by kernel_rfl) (app_len (((ic_len _ _).trans hl_v134) : (ic .u16 v134).length = 256) (app_len (((ic_len _ _).trans hl_v147) : (ic .u16 v147).length = 256) (((ic_len _ _).trans hl_v160) : (ic .u16 v160).length = 256))) (hS51.all 1 rfl)) (by kernel_rfl) (fun a54 hF54 => ?_)
  refine wpl_one hF54 (by kernel_rfl) (wp_store hF54 hS51 rfl 0 rfl (off := 0) (by kernel_rfl) (v := .agg (ic .u16 v134 ++ (ic .u16 v147 ++ (ic .u16 v160))).toArray) (by kernel_rfl) (vs := ic .u16 v134 ++ (ic .u16 v147 ++ (ic .u16 v160))) rfl (k := 768) (by kernel_rfl) (app_len (((ic_len _ _).trans hl_v134) : (ic .u16 v134).length = 256) (app_len (((ic_len _ _).trans hl_v147) : (ic .u16 v147).length = 256) (((ic_len _ _).trans hl_v160) : (ic .u16 v160).length = 256))) (by have h2 := (app_len (((ic_len _ _).trans (len_is (rz 256) (n := 256) (List.length_replicate))) : (ic .u16 (rz 256)).length = 256) (app_len (((ic_len _ _).trans (len_is (rz 256) (n := 256) (List.length_replicate))) : (ic .u16 (rz 256)).length = 256) (((ic_len _ _).trans (len_is (rz 256) (n := 256) (List.length_replicate))) : (ic .u16 (rz 256)).length = 256))); omega) (by intro u hu; simp only [List.mem_append] at hu; rcases hu with hu | hu | hu <;> first | exact ic_one _ _ u hu | exact bc_one _ u hu | (revert u; decide)) (cs' := ic .u16 v134 ++ (ic .u16 v147 ++ (ic .u16 v160))) (upd_all (Eq.trans (b := 768) (app_len (((ic_len _ _).trans hl_v134) : (ic .u16 v134).length = 256) (app_len (((ic_len _ _).trans hl_v147) : (ic .u16 v147).length = 256) (((ic_len _ _).trans hl_v160) : (ic .u16 v160).length = 256))) (Eq.symm (app_len (((ic_len _ _).trans (len_is (rz 256) (n := 256) (List.length_replicate))) : (ic .u16 (rz 256)).length = 256) (app_len (((ic_len _ _).trans (len_is (rz 256) (n := 256) (List.length_replicate))) : (ic .u16 (rz 256)).length = 256) (((ic_len _ _).trans (len_is (rz 256) (n := 256) (List.length_replicate))) : (ic .u16 (rz 256)).length = 256)))))) (by kernel_rfl) (L' := [.blk b13 (ic .u16 v134 ++ (ic .u16 v147 ++ (ic .u16 v160))) 63, .blk b10 (ic .u16 v134 ++ (ic .u16 v147 ++ (ic .u16 v160))) 63]) rfl (fun w55 a56 hS56 hF56 => (wpList_nil (then_n (wp_ret (ret_ok hF56 [.agg (ic .u16 v134 ++ (ic .u16 v147 ++ (ic .u16 v160))).toArray] (⟨⟨⟨b13, 0, none⟩, by kernel_rfl, loadVarR (by kernel_rfl) (k := 768) (by kernel_rfl) (app_len (((ic_len _ _).trans hl_v134) : (ic .u16 v134).length = 256) (app_len (((ic_len _ _).trans hl_v147) : (ic .u16 v147).length = 256) (((ic_len _ _).trans hl_v160) : (ic .u16 v160).length = 256))) (hS56.all 0 rfl)⟩, trivial⟩) ?_))))))
  have hr0 := Option.some.inj h
  obtain ⟨hq0, hr1⟩ := Prod.mk.inj hr0
  obtain ⟨hq1, hr2⟩ := Prod.mk.inj hr1
  subst hq0
  subst hq1
  subst hr2
  exact ⟨rfl, hS56.sub (List.nil_sublist _), hl_v134, hl_v147, hl_v160⟩
def i_octet_Join_2 (v3 : List Int) (v7 : List Int) : Option (List Int) :=
  (nm_ (IntKind.i64.wrap ((IntKind.i64.wrap (0 + (v3.length : Int))) + (v7.length : Int))) fun v60 => (if (decide (0 ≤ v60) && decide (v60 ≤ 1099511627776)) = true then (if decide (0 + v3.length ≤ 1099511627776) = true then (if decide (v3.length + v7.length ≤ 1099511627776) = true then some (v3 ++ v7) else none) else none) else none))
theorem i_octet_Join_2_ok (v3 : List Int) (v7 : List Int) {w : World} {o10 : Option Addr} {n11 k12 : Nat} {o13 : Option Addr} {n14 k15 : Nat} {o16 : Option Addr} {k17 : Nat} (hrd_o16 : Rd w o16 2 k17 [.slice o10 n11 k12, .slice o13 n14 k15]) (hn_n11 : v3.length = n11) (hrd_o10 : Rd w o10 n11 k12 (ic .u8 v3)) (hn_n14 : v7.length = n14) (hrd_o13 : Rd w o13 n14 k15 (ic .u8 v7)) (c0 : List Int) (h : i_octet_Join_2 v3 v7 = some c0) : Calls Try.prog 20 #[.slice o16 2 k17] w (Ret (fun v w' => ∃ (o18 : Option Addr) (n18 k18 : Nat), n18 = c0.length ∧ v = .slice o18 n18 k18 ∧ St w w' [.sl o18 n18 k18 1 (ic .u8 c0) 5])) := by
  unfold i_octet_Join_2 at h
  refine calls_of_wp Try.func20 rfl ?_
  have hF := Fr.start (#[.slice o16 2 k17] : Array Value) 32 33 [(0, .slice o16 2 k17)] rfl (by kernel_rfl)
  subst hn_n11
  subst hn_n14
  have hS : St w w [.ro o16 2 k17 ([Value.slice o10 v3.length k12, Value.slice o13 v7.length k15]), .ro o10 v3.length k12 (ic .u8 v3), .ro o13 v7.length k15 (ic .u8 v7)] := St.start' ⟨hrd_o16, hrd_o10, hrd_o13, trivial⟩ rfl
  refine go_fr hF (fun a hF => (wp_seq (wp_region_lit ?_)))
  refine wplp 1 [0] [(0, .slice o16 2 k17)] hF (fun a19 hF19 => (wpList_nil (then_n (wp_seq (wp_region_lit ?_)))))
  refine wplp 1 [0, 3] [(0, .slice o16 2 k17), (3, i6 0)] hF19 (fun a20 hF20 => (wpList_nil (then_n (wp_seq (wp_seq (wp_region_lit ?_))))))
  refine wplp 3 [0, 3, 9, 10, 11] [(0, .slice o16 2 k17), (3, i6 0), (9, .slice o16 2 k17), (10, i6 2), (11, i6 0)] hF20 (fun a21 hF21 => (wpList_nil (then_n (wp_block (wp_loop_rounds 3 (rounds_go (n := 2) (wp_seq (wp_region_lit ?_))))))))
  refine wplp 1 [0, 3, 9, 10, 11, 12] [(0, .slice o16 2 k17), (3, i6 0), (9, .slice o16 2 k17), (10, i6 2), (11, i6 0), (12, .bool true)] hF21 (fun a22 hF22 => (wpList_nil (then_n (wp_seq (wp_cond_true hF22.e (wp_skip (then_n (wp_seq (wp_block (wp_seq (wp_region_lit ?_)))))))))))
  refine wpl_val hF22 (by kernel_rfl) (v := pp (blkOf o16) (offOf o16 + 0)) (run_indexS rfl (ao := o16) (m := 2) (c := k17) hF22.e (rd_ne hS 0 rfl rfl (j := 0) (v := .slice o10 v3.length k12) rfl) (k := .i64) (i := 0) hF22.e (E := 24) (by kernel_rfl) (s := 1) (by kernel_rfl) (by decide) (r := offOf o16 + 0) rfl) (by kernel_rfl) (fun a23 hF23 => ?_)
  refine wpl_val hF23 (by kernel_rfl) (v := .slice o10 v3.length k12) (run_load1 rfl (b := blkOf o16) (off := offOf o16 + 0) hF23.e (by kernel_rfl) (hS.atA 0 rfl rfl (0) rfl)) (by kernel_rfl) (fun a24 hF24 => ?_)
  refine wplp 1 [0, 3, 5, 9, 10, 11] [(0, .slice o16 2 k17), (3, i6 0), (5, .slice o10 v3.length k12), (9, .slice o16 2 k17), (10, i6 2), (11, i6 0)] hF24 (fun a25 hF25 => (wpList_nil (then_n (wp_region_lit ?_))))
  refine wplp 5 [0, 3, 9, 10, 11] [(0, .slice o16 2 k17), (3, i6 (IntKind.i64.wrap (0 + (v3.length : Int)))), (9, .slice o16 2 k17), (10, i6 2), (11, i6 0)] hF25 (fun a26 hF26 => (wpList_nil (blk_n (then_n (wp_region_lit ?_)))))
  refine wplp 2 [0, 3, 9, 10, 11] [(0, .slice o16 2 k17), (3, i6 (IntKind.i64.wrap (0 + (v3.length : Int)))), (9, .slice o16 2 k17), (10, i6 2), (11, i6 1)] hF26 (fun a27 hF27 => (wpList_nil (then_n (rounds_go (n := 1) (wp_seq (wp_region_lit ?_))))))
  refine wplp 1 [0, 3, 9, 10, 11, 12] [(0, .slice o16 2 k17), (3, i6 (IntKind.i64.wrap (0 + (v3.length : Int)))), (9, .slice o16 2 k17), (10, i6 2), (11, i6 1), (12, .bool true)] hF27 (fun a28 hF28 => (wpList_nil (then_n (wp_seq (wp_cond_true hF28.e (wp_skip (then_n (wp_seq (wp_block (wp_seq (wp_region_lit ?_)))))))))))
  refine wpl_val hF28 (by kernel_rfl) (v := pp (blkOf o16) (offOf o16 + 1)) (run_indexS rfl (ao := o16) (m := 2) (c := k17) hF28.e (rd_ne hS 0 rfl rfl (j := 1) (v := .slice o13 v7.length k15) rfl) (k := .i64) (i := 1) hF28.e (E := 24) (by kernel_rfl) (s := 1) (by kernel_rfl) (by decide) (r := offOf o16 + 1) rfl) (by kernel_rfl) (fun a29 hF29 => ?_)
  refine wpl_val hF29 (by kernel_rfl) (v := .slice o13 v7.length k15) (run_load1 rfl (b := blkOf o16) (off := offOf o16 + 1) hF29.e (by kernel_rfl) (hS.atA 0 rfl rfl (1) rfl)) (by kernel_rfl) (fun a30 hF30 => ?_)
  refine wplp 1 [0, 3, 5, 9, 10, 11] [(0, .slice o16 2 k17), (3, i6 (IntKind.i64.wrap (0 + (v3.length : Int)))), (5, .slice o13 v7.length k15), (9, .slice o16 2 k17), (10, i6 2), (11, i6 1)] hF30 (fun a31 hF31 => (wpList_nil (then_n (wp_region_lit ?_))))
  refine wplp 5 [0, 3, 9, 10, 11] [(0, .slice o16 2 k17), (3, i6 (IntKind.i64.wrap ((IntKind.i64.wrap (0 + (v3.length : Int))) + (v7.length : Int)))), (9, .slice o16 2 k17), (10, i6 2), (11, i6 1)] hF31 (fun a32 hF32 => (wpList_nil (blk_n (then_n ?_))))
  obtain ⟨v60, hv_v60, h⟩ := nm_ok h
  have hF33 := Fr.eqv (L := [(0, .slice o16 2 k17), (3, i6 (IntKind.i64.wrap ((IntKind.i64.wrap (0 + (v3.length : Int))) + (v7.length : Int)))), (9, .slice o16 2 k17), (10, i6 2), (11, i6 1)]) (Fr.pick [0, 3, 9, 10, 11] (by kernel_rfl) hF32) (M := [(0, .slice o16 2 k17), (3, i6 v60), (9, .slice o16 2 k17), (10, i6 2), (11, i6 1)]) (by rw [hv_v60])
  refine wp_region_lit ?_
  refine wplp 2 [0, 3, 9, 10, 11] [(0, .slice o16 2 k17), (3, i6 v60), (9, .slice o16 2 k17), (10, i6 2), (11, i6 2)] hF33 (fun a34 hF34 => (wpList_nil (then_n (rounds_go (n := 0) (wp_seq (wp_region_lit ?_))))))
  refine wplp 1 [0, 3, 9, 10, 11, 12] [(0, .slice o16 2 k17), (3, i6 v60), (9, .slice o16 2 k17), (10, i6 2), (11, i6 2), (12, .bool false)] hF34 (fun a35 hF35 => (wpList_nil (then_n (wp_seq (wp_cond_false hF35.e (wp_exit ?_))))))
  refine then_x (then_x (blk_x (then_n (wp_seq (wp_region_lit ?_)))))
  refine wplp 1 [0, 20] [(0, .slice o16 2 k17), (20, i6 v60)] hF35 (fun a36 hF36 => ?_)
  obtain ⟨hg37, h⟩ := gd_ok h
  refine wpl_one hF36 (by kernel_rfl) (wp_make0 hF36 hS rfl (E := 5) (by kernel_rfl) (by_ := 1) (z := .int .u8 0) (by kernel_rfl) (by kernel_rfl) (k1 := .i64) (k2 := .i64) (i := v60) (by kernel_rfl) (by kernel_rfl) hg37 (by decide) (by kernel_rfl) (fun o38 k39 w40 a41 hS41 hF41 => ?_))
  refine wplp 1 [0, 6] [(0, .slice o16 2 k17), (6, .slice o38 0 k39)] hF41 (fun a42 hF42 => (wpList_nil (then_n (wp_seq (wp_seq (wp_region_lit ?_))))))
  refine wplp 3 [6, 22, 23, 24] [(6, .slice o38 0 k39), (22, .slice o16 2 k17), (23, i6 2), (24, i6 0)] hF42 (fun a43 hF43 => (wpList_nil (then_n (wp_block (wp_loop_rounds 3 (rounds_go (n := 2) (wp_seq (wp_region_lit ?_))))))))
  refine wplp 1 [6, 22, 23, 24, 25] [(6, .slice o38 0 k39), (22, .slice o16 2 k17), (23, i6 2), (24, i6 0), (25, .bool true)] hF43 (fun a44 hF44 => (wpList_nil (then_n (wp_seq (wp_cond_true hF44.e (wp_skip (then_n (wp_seq (wp_block (wp_seq (wp_region_lit ?_)))))))))))
  refine wpl_val hF44 (by kernel_rfl) (v := pp (blkOf o16) (offOf o16 + 0)) (run_indexS rfl (ao := o16) (m := 2) (c := k17) hF44.e (rd_ne hS41 1 rfl rfl (j := 0) (v := .slice o10 v3.length k12) rfl) (k := .i64) (i := 0) hF44.e (E := 24) (by kernel_rfl) (s := 1) (by kernel_rfl) (by decide) (r := offOf o16 + 0) rfl) (by kernel_rfl) (fun a45 hF45 => ?_)
  refine wpl_val hF45 (by kernel_rfl) (v := .slice o10 v3.length k12) (run_load1 rfl (b := blkOf o16) (off := offOf o16 + 0) hF45.e (by kernel_rfl) (hS41.atA 1 rfl rfl (0) rfl)) (by kernel_rfl) (fun a46 hF46 => ?_)
  refine wplp 1 [6, 8, 22, 23, 24] [(6, .slice o38 0 k39), (8, .slice o10 v3.length k12), (22, .slice o16 2 k17), (23, i6 2), (24, i6 0)] hF46 (fun a47 hF47 => (wpList_nil (then_n (wp_region_lit ?_))))
  refine wplp 2 [22, 23, 24, 28, 29] [(22, .slice o16 2 k17), (23, i6 2), (24, i6 0), (28, .slice o38 0 k39), (29, .slice o10 v3.length k12)] hF47 (fun a48 hF48 => ?_)
  obtain ⟨hg49, h⟩ := gd_ok h
  refine wpl_one hF48 (by kernel_rfl) (wp_append hF48 hS41 rfl 0 rfl (by kernel_rfl) (ao2 := o10) (m2 := v3.length) (c2 := k12) (by kernel_rfl) (hS41.rdro 2 rfl) ((ic_len _ _).trans ((len_is (v3) (n := v3.length) rfl) : (v3).length = v3.length)) (ic_one _ _) (by kernel_rfl) (by_ := 1) (by kernel_rfl) (of_decide_eq_true hg49) (by decide) (m' := v3.length) (by have h1 := ((len_is ([] : List Int) (n := 0) rfl) : ([]).length = 0); have h2 := ((len_is (v3) (n := v3.length) rfl) : (v3).length = v3.length); (try simp only [List.length_append, List.length_cons, List.length_nil, List.nil_append] at h1 h2 ⊢) <;> omega) (cs' := ic .u8 v3) (by simp only [ic, List.map_nil, List.nil_append]) (by kernel_rfl) (L' := fun o50 k51 => [.sl o50 v3.length k51 1 (ic .u8 v3) 5, .ro o16 2 k17 ([Value.slice o10 v3.length k12, Value.slice o13 v7.length k15]), .ro o10 v3.length k12 (ic .u8 v3), .ro o13 v7.length k15 (ic .u8 v7)]) (fun _ _ => rfl) (fun o50 k51 w52 a53 hS53 hF53 => ?_))
  refine wplp 1 [6, 22, 23, 24] [(6, .slice o50 v3.length k51), (22, .slice o16 2 k17), (23, i6 2), (24, i6 0)] hF53 (fun a54 hF54 => (wpList_nil (blk_n (then_n (wp_region_lit ?_)))))
  refine wplp 2 [6, 22, 23, 24] [(6, .slice o50 v3.length k51), (22, .slice o16 2 k17), (23, i6 2), (24, i6 1)] hF54 (fun a55 hF55 => (wpList_nil (then_n (rounds_go (n := 1) (wp_seq (wp_region_lit ?_))))))
  refine wplp 1 [6, 22, 23, 24, 25] [(6, .slice o50 v3.length k51), (22, .slice o16 2 k17), (23, i6 2), (24, i6 1), (25, .bool true)] hF55 (fun a56 hF56 => (wpList_nil (then_n (wp_seq (wp_cond_true hF56.e (wp_skip (then_n (wp_seq (wp_block (wp_seq (wp_region_lit ?_)))))))))))
  refine wpl_val hF56 (by kernel_rfl) (v := pp (blkOf o16) (offOf o16 + 1)) (run_indexS rfl (ao := o16) (m := 2) (c := k17) hF56.e (rd_ne hS53 1 rfl rfl (j := 1) (v := .slice o13 v7.length k15) rfl) (k := .i64) (i := 1) hF56.e (E := 24) (by kernel_rfl) (s := 1) (by kernel_rfl) (by decide) (r := offOf o16 + 1) rfl) (by kernel_rfl) (fun a57 hF57 => ?_)
  refine wpl_val hF57 (by kernel_rfl) (v := .slice o13 v7.length k15) (run_load1 rfl (b := blkOf o16) (off := offOf o16 + 1) hF57.e (by kernel_rfl) (hS53.atA 1 rfl rfl (1) rfl)) (by kernel_rfl) (fun a58 hF58 => ?_)
  refine wplp 1 [6, 8, 22, 23, 24] [(6, .slice o50 v3.length k51), (8, .slice o13 v7.length k15), (22, .slice o16 2 k17), (23, i6 2), (24, i6 1)] hF58 (fun a59 hF59 => (wpList_nil (then_n (wp_region_lit ?_))))
  refine wplp 2 [22, 23, 24, 28, 29] [(22, .slice o16 2 k17), (23, i6 2), (24, i6 1), (28, .slice o50 v3.length k51), (29, .slice o13 v7.length k15)] hF59 (fun a60 hF60 => ?_)
  obtain ⟨hg61, h⟩ := gd_ok h
  refine wpl_one hF60 (by kernel_rfl) (wp_append hF60 hS53 rfl 0 rfl (by kernel_rfl) (ao2 := o13) (m2 := v7.length) (c2 := k15) (by kernel_rfl) (hS53.rdro 3 rfl) ((ic_len _ _).trans ((len_is (v7) (n := v7.length) rfl) : (v7).length = v7.length)) (ic_one _ _) (by kernel_rfl) (by_ := 1) (by kernel_rfl) (of_decide_eq_true hg61) (by decide) (m' := (v3 ++ v7).length) (by have h1 := ((len_is (v3) (n := v3.length) rfl) : (v3).length = v3.length); have h2 := ((len_is (v7) (n := v7.length) rfl) : (v7).length = v7.length); (try simp only [List.length_append, List.length_cons, List.length_nil] at h1 h2 ⊢) <;> omega) (cs' := ic .u8 (v3 ++ v7)) (ic_app _ _ _) (by kernel_rfl) (L' := fun o62 k63 => [.sl o62 ((v3 ++ v7).length) k63 1 (ic .u8 (v3 ++ v7)) 5, .ro o16 2 k17 ([Value.slice o10 v3.length k12, Value.slice o13 v7.length k15]), .ro o10 v3.length k12 (ic .u8 v3), .ro o13 v7.length k15 (ic .u8 v7)]) (fun _ _ => rfl) (fun o62 k63 w64 a65 hS65 hF65 => ?_))
  refine wplp 1 [6, 22, 23, 24] [(6, .slice o62 ((v3 ++ v7).length) k63), (22, .slice o16 2 k17), (23, i6 2), (24, i6 1)] hF65 (fun a66 hF66 => (wpList_nil (blk_n (then_n (wp_region_lit ?_)))))
  refine wplp 2 [6, 22, 23, 24] [(6, .slice o62 ((v3 ++ v7).length) k63), (22, .slice o16 2 k17), (23, i6 2), (24, i6 2)] hF66 (fun a67 hF67 => (wpList_nil (then_n (rounds_go (n := 0) (wp_seq (wp_region_lit ?_))))))
  refine wplp 1 [6, 22, 23, 24, 25] [(6, .slice o62 ((v3 ++ v7).length) k63), (22, .slice o16 2 k17), (23, i6 2), (24, i6 2), (25, .bool false)] hF67 (fun a68 hF68 => (wpList_nil (then_n (wp_seq (wp_cond_false hF68.e (wp_exit ?_))))))
  refine then_x (then_x (blk_x (then_n (wp_seq (wp_region_lit ?_)))))
  refine wplp 2 [2] [(2, .slice o62 ((v3 ++ v7).length) k63)] hF68 (fun a69 hF69 => (wpList_nil (then_n (wp_ret (ret_ok hF69 [.slice o62 ((v3 ++ v7).length) k63] (⟨by kernel_rfl, trivial⟩) ?_)))))
  have hr0 := Option.some.inj h
  subst hr0
  exact ⟨o62, ((v3 ++ v7).length), k63, (Eq.symm ((len_is ((v3 ++ v7)) (n := (v3 ++ v7).length) rfl) : ((v3 ++ v7)).length = (v3 ++ v7).length)), rfl, hS65.sub (.cons_cons _ (.cons _ (.cons _ (.cons _ (.slnil)))))⟩
end Go.Proofs.YtapilbdboeggdaaR.Gx
