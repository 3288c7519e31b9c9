/-
A part of the proof: printed walks of the functions that the law reaches, and plain laws over them.
-/
import Derived.Test.YtapilbdboeggdaaRProg
import Derived.Test.YtapilbdboeggdaaRW00
import Derived.Test.YtapilbdboeggdaaRW01
import Derived.Test.YtapilbdboeggdaaRW02
set_option maxRecDepth 1000000
set_option linter.unusedVariables false
set_option linter.unusedSimpArgs false
set_option maxHeartbeats 4000000
namespace Go.Proofs.YtapilbdboeggdaaR.Gx
open Go Go.RowKit
def i_keccak_Shake_c256_c128_2_l6 (v3 : List Int) : Nat → List Int → Int → Int → Option (List Int × Int)
  | 0, _, _, _ => none
  | k + 1, v19401, v19402, v19403 =>
    (if (decide (v19403 < (v3.length : Int))) = true then (if inb v19403 v3.length = true then (if inb (IntKind.i64.wrap (v19402.tdiv 8)) 25 = true then (if decide (0 ≤ (IntKind.i64.wrap (8 * (v19402.tmod 8)))) = true then (nm_ (v19401.set ((IntKind.i64.wrap (v19402.tdiv 8)).toNat) (ixor .u64 (rd v19401 ((IntKind.i64.wrap (v19402.tdiv 8)).toNat)) (ishl .u64 (IntKind.u64.wrap (rd v3 v19403.toNat)) (IntKind.i64.wrap (8 * (v19402.tmod 8)))))) fun v19434 => (if ((IntKind.i64.wrap (v19402 + 1)) == 136) = true then ((i_keccak_Permute v19434).bind fun v19449 => i_keccak_Shake_c256_c128_2_l6 v3 k v19449 0 (IntKind.i64.wrap (v19403 + 1))) else i_keccak_Shake_c256_c128_2_l6 v3 k v19434 (IntKind.i64.wrap (v19402 + 1)) (IntKind.i64.wrap (v19403 + 1)))) else none) else none) else none) else some (v19401, v19402))
def i_keccak_Shake_c256_c128_2_l7 (v7 : List Int) : Nat → List Int → Int → Int → Option (List Int × Int)
  | 0, _, _, _ => none
  | k + 1, v22798, v22799, v22800 =>
    (if (decide (v22800 < (v7.length : Int))) = true then (if inb v22800 v7.length = true then (if inb (IntKind.i64.wrap (v22799.tdiv 8)) 25 = true then (if decide (0 ≤ (IntKind.i64.wrap (8 * (v22799.tmod 8)))) = true then (nm_ (v22798.set ((IntKind.i64.wrap (v22799.tdiv 8)).toNat) (ixor .u64 (rd v22798 ((IntKind.i64.wrap (v22799.tdiv 8)).toNat)) (ishl .u64 (IntKind.u64.wrap (rd v7 v22800.toNat)) (IntKind.i64.wrap (8 * (v22799.tmod 8)))))) fun v22831 => (if ((IntKind.i64.wrap (v22799 + 1)) == 136) = true then ((i_keccak_Permute v22831).bind fun v22846 => i_keccak_Shake_c256_c128_2_l7 v7 k v22846 0 (IntKind.i64.wrap (v22800 + 1))) else i_keccak_Shake_c256_c128_2_l7 v7 k v22831 (IntKind.i64.wrap (v22799 + 1)) (IntKind.i64.wrap (v22800 + 1)))) else none) else none) else none) else some (v22798, v22799))
def i_keccak_Shake_c256_c128_2_l8 : Nat → List Int → Int → List Int → Int → Option (List Int × Int × List Int)
  | 0, _, _, _, _ => none
  | k + 1, v23110, v23111, v23112, v23113 =>
    (if (decide (v23113 < 128)) = true then (if (v23111 == 136) = true then ((i_keccak_Permute v23110).bind fun v23132 => (if inb v23113 128 = true then (nm_ (v23112.set v23113.toNat (IntKind.u8.wrap (ishr .u64 (rd v23132 0) 0))) fun v23154 => i_keccak_Shake_c256_c128_2_l8 k v23132 1 v23154 (IntKind.i64.wrap (v23113 + 1))) else none)) else (if inb (IntKind.i64.wrap (v23111.tdiv 8)) 25 = true then (if decide (0 ≤ (IntKind.i64.wrap (8 * (v23111.tmod 8)))) = true then (if inb v23113 128 = true then (nm_ (v23112.set v23113.toNat (IntKind.u8.wrap (ishr .u64 (rd v23110 ((IntKind.i64.wrap (v23111.tdiv 8)).toNat)) (IntKind.i64.wrap (8 * (v23111.tmod 8)))))) fun v23178 => i_keccak_Shake_c256_c128_2_l8 k v23110 (IntKind.i64.wrap (v23111 + 1)) v23178 (IntKind.i64.wrap (v23113 + 1))) else none) else none) else none)) else some (v23110, v23111, v23112))
def i_keccak_Shake_c256_c128_2 (v3 : List Int) (v7 : List Int) : Option (List Int × Int) :=
  ((i_keccak_Shake_c256_c128_2_l6 v3 LIM (List.replicate 25 (0 : Int)) 0 0).bind fun (v19404, v19405) => ((i_keccak_Shake_c256_c128_2_l7 v7 LIM v19404 v19405 0).bind fun (v22801, v22802) => (if inb (IntKind.i64.wrap (v22802.tdiv 8)) 25 = true then (if decide (0 ≤ (IntKind.i64.wrap (8 * (v22802.tmod 8)))) = true then (nm_ (v22801.set ((IntKind.i64.wrap (v22802.tdiv 8)).toNat) (ixor .u64 (rd v22801 ((IntKind.i64.wrap (v22802.tdiv 8)).toNat)) (ishl .u64 31 (IntKind.i64.wrap (8 * (v22802.tmod 8)))))) fun v22880 => (nm_ (v22880.set 16 (ixor .u64 (rd v22880 16) 9223372036854775808)) fun v22901 => ((i_keccak_Permute v22901).bind fun v22905 => ((i_keccak_Shake_c256_c128_2_l8 LIM v22905 0 (List.replicate 128 (0 : Int)) 0).bind fun (v23114, v23115, v23116) => some (v23116, 0))))) else none) else none)))
theorem i_keccak_Shake_c256_c128_2_ok (v3 : List Int) (v7 : List Int) {w : World} {o10 : Option Addr} {n11 k12 : Nat} {o13 : Option Addr} {n14 k15 : Nat} {o16 : Option Addr} {k17 : Nat} (hrd_o16 : Rd w o16 2 k17 [.slice o10 n11 k12, .slice o13 n14 k15]) (hn_n11 : v3.length = n11) (hrd_o10 : Rd w o10 n11 k12 (ic .u8 v3)) (hn_n14 : v7.length = n14) (hrd_o13 : Rd w o13 n14 k15 (ic .u8 v7)) (c0 : List Int) (c1 : Int) (h : i_keccak_Shake_c256_c128_2 v3 v7 = some (c0, c1)) : Calls Try.prog 29 #[i6 256, i6 128, .slice o16 2 k17] w (Ret (fun v w' => ∃ (o18 : Option Addr) (n18 k18 : Nat), n18 = c0.length ∧ v = .tuple #[.slice o18 n18 k18, i6 c1] ∧ St w w' [.sl o18 n18 k18 1 (ic .u8 c0) 5])) := by
  unfold i_keccak_Shake_c256_c128_2 at h
  refine calls_of_wp Try.func29 rfl ?_
  have hF := Fr.start (#[i6 256, i6 128, .slice o16 2 k17] : Array Value) 31 34 [(0, i6 256), (1, i6 128), (2, .slice o16 2 k17)] rfl (by kernel_rfl)
  subst hn_n11
  subst hn_n14
  have hS : St w w [.ro o16 2 k17 ([Value.slice o10 v3.length k12, Value.slice o13 v7.length k15]), .ro o10 v3.length k12 (ic .u8 v3), .ro o13 v7.length k15 (ic .u8 v7)] := St.start' ⟨hrd_o16, hrd_o10, hrd_o13, trivial⟩ rfl
  refine go_fr hF (fun a hF => (wp_seq (wp_region_lit ?_)))
  refine wplp 2 [0, 1, 2] [(0, i6 256), (1, i6 128), (2, .slice o16 2 k17)] hF (fun a19 hF19 => (wpList_nil (then_n (wp_seq (wp_seq (wp_region_lit ?_))))))
  refine wplp 6 [0, 1, 2, 14] [(0, i6 256), (1, i6 128), (2, .slice o16 2 k17), (14, .bool false)] hF19 (fun a20 hF20 => (wpList_nil (then_n (wp_cond_false hF20.e (wp_skip (then_n (wp_seq (wp_seq (wp_region_lit ?_)))))))))
  refine wplp 1 [0, 1, 2, 15] [(0, i6 256), (1, i6 128), (2, .slice o16 2 k17), (15, i6 128)] hF20 (fun a21 hF21 => ?_)
  refine wpl_one hF21 (by kernel_rfl) (wp_inl hF21 (by kernel_rfl) (g := 49) (args := #[i6 128]) (by kernel_rfl) (calls_of_wp Try.func49 rfl ?_))
  refine go_fr (Fr.start (#[i6 128] : Array Value) 8 9 [(0, i6 128)] rfl (by kernel_rfl)) (fun a22 hF22 => (wp_seq (wp_region_lit ?_)))
  refine wplp 1 [0] [(0, i6 128)] hF22 (fun a23 hF23 => (wpList_nil (then_n (wp_seq (wp_block (wp_seq (wp_region_lit ?_)))))))
  refine wplp 3 [0, 3] [(0, i6 128), (3, .bool false)] hF23 (fun a24 hF24 => (wpList_nil (then_n (wp_cond_false hF24.e (wp_seq (wp_region_lit ?_))))))
  refine wplp 3 [6] [(6, .bool false)] hF24 (fun a25 hF25 => (wpList_nil (then_n (wp_cond_false hF25.e (wp_skip (blk_n (then_n (wp_seq (wp_region_lit ?_)))))))))
  refine wplp 1 [2] [(2, i6 0)] hF25 (fun a26 hF26 => (wpList_nil (then_n (wp_ret (ret_ok hF26 [i6 0] (⟨by kernel_rfl, trivial⟩) (inl_ret ?_))))))
  refine go_fr (hF21.next (i6 0) [0, 1, 2, 16] (M := [(0, i6 256), (1, i6 128), (2, .slice o16 2 k17), (16, i6 0)]) (by kernel_rfl)) (fun a27 hF27 => ?_)
  refine wplp 1 [0, 1, 2, 8] [(0, i6 256), (1, i6 128), (2, .slice o16 2 k17), (8, i6 0)] hF27 (fun a28 hF28 => (wpList_nil (then_n (wp_seq (wp_region_lit ?_)))))
  refine wplp 2 [0, 1, 2, 8, 18] [(0, i6 256), (1, i6 128), (2, .slice o16 2 k17), (8, i6 0), (18, .bool false)] hF28 (fun a29 hF29 => (wpList_nil (then_n (wp_cond_false hF29.e (wp_skip (then_n (wp_seq (wp_seq (wp_region_lit ?_)))))))))
  refine wplp 2 [1, 2, 21] [(1, i6 128), (2, .slice o16 2 k17), (21, .bool false)] hF29 (fun a30 hF30 => (wpList_nil (then_n (wp_cond_false hF30.e (wp_skip (then_n (wp_seq (wp_region_lit ?_))))))))
  refine wplp 1 [1, 28] [(1, i6 128), (28, .slice o16 2 k17)] hF30 (fun a31 hF31 => ?_)
  refine wpl_one hF31 (by kernel_rfl) (wp_inl hF31 (by kernel_rfl) (g := 52) (args := #[.slice o16 2 k17]) (by kernel_rfl) (calls_of_wp Try.func52 rfl ?_))
  refine go_fr (Fr.start (#[.slice o16 2 k17] : Array Value) 4 5 [(0, .slice o16 2 k17)] rfl (by kernel_rfl)) (fun a32 hF32 => (wp_seq (wp_region_lit ?_)))
  refine wplp 1 [0] [(0, .slice o16 2 k17)] hF32 (fun a33 hF33 => (wpList_nil (then_n (wp_seq (wp_region_lit ?_)))))
  refine wplp 1 [3] [(3, .slice o16 2 k17)] hF33 (fun a34 hF34 => ?_)
  refine wpl_one hF34 (by kernel_rfl) (wp_inl hF34 (by kernel_rfl) (g := 68) (args := #[i6 136, .slice o16 2 k17]) (by kernel_rfl) (calls_of_wp Try.func68 rfl ?_))
  refine go_fr (Fr.start (#[i6 136, .slice o16 2 k17] : Array Value) 14 16 [(0, i6 136), (1, .slice o16 2 k17)] rfl (by kernel_rfl)) (fun a35 hF35 => (wp_seq (wp_region_lit ?_)))
  refine wplp 1 [0, 1] [(0, i6 136), (1, .slice o16 2 k17)] hF35 (fun a36 hF36 => (wpList_nil (then_n (wp_seq (wp_region_lit ?_)))))
  refine wplp 3 [1, 8] [(1, .slice o16 2 k17), (8, .agg ([Value.bool true] ++ (ic .u64 (rz 25) ++ ([i6 136, i6 0, i6 0]))).toArray)] hF36 (fun a37 hF37 => ?_)
  refine wpl_one hF37 (by kernel_rfl) (wp_box hF37 hS rfl (v := .agg ([Value.bool true] ++ (ic .u64 (rz 25) ++ ([i6 136, i6 0, i6 0]))).toArray) (by kernel_rfl) ([Value.bool true] ++ (ic .u64 (rz 25) ++ ([i6 136, i6 0, i6 0]))) rfl (by kernel_rfl) (fun b38 w39 a40 hS40 hF40 => ?_))
  refine wplp 1 [1, 5] [(1, .slice o16 2 k17), (5, pp b38 0)] hF40 (fun a41 hF41 => (wpList_nil (then_n (wp_seq (wp_region_lit ?_)))))
  refine wplp 4 [5, 12, 13] [(5, pp b38 0), (12, pp b38 1), (13, .slice o16 2 k17)] hF41 (fun a42 hF42 => ?_)
  refine wpl_one hF42 (by kernel_rfl) (wp_inl hF42 (by kernel_rfl) (g := 38) (args := #[pp b38 1, .int .u8 31, .slice o16 2 k17]) (by kernel_rfl) (calls_of_wp Try.func38 rfl ?_))
  refine go_fr (Fr.start (#[pp b38 1, .int .u8 31, .slice o16 2 k17] : Array Value) 75 78 [(0, pp b38 1), (1, .int .u8 31), (2, .slice o16 2 k17)] rfl (by kernel_rfl)) (fun a43 hF43 => (wp_seq (wp_seq (wp_region_lit ?_))))
  refine wplp 3 [0, 1, 10, 11, 12] [(0, pp b38 1), (1, .int .u8 31), (10, .slice o16 2 k17), (11, i6 2), (12, i6 0)] hF43 (fun a44 hF44 => (wpList_nil (then_n (wp_block (wp_loop_rounds 3 (rounds_go (n := 2) (wp_seq (wp_region_lit ?_))))))))
  refine wplp 1 [0, 1, 10, 11, 12, 13] [(0, pp b38 1), (1, .int .u8 31), (10, .slice o16 2 k17), (11, i6 2), (12, i6 0), (13, .bool true)] hF44 (fun a45 hF45 => (wpList_nil (then_n (wp_seq (wp_cond_true hF45.e (wp_skip (then_n (wp_seq (wp_block (wp_seq (wp_region_lit ?_)))))))))))
  refine wpl_val hF45 (by kernel_rfl) (v := pp (blkOf o16) (offOf o16 + 0)) (run_indexS rfl (ao := o16) (m := 2) (c := k17) hF45.e (rd_ne hS40 1 rfl rfl (j := 0) (v := .slice o10 v3.length k12) rfl) (k := .i64) (i := 0) hF45.e (E := 24) (by kernel_rfl) (s := 1) (by kernel_rfl) (by decide) (r := offOf o16 + 0) rfl) (by kernel_rfl) (fun a46 hF46 => ?_)
  refine wpl_val hF46 (by kernel_rfl) (v := .slice o10 v3.length k12) (run_load1 rfl (b := blkOf o16) (off := offOf o16 + 0) hF46.e (by kernel_rfl) (hS40.atA 1 rfl rfl (0) rfl)) (by kernel_rfl) (fun a47 hF47 => ?_)
  refine wplp 1 [0, 1, 7, 10, 11, 12] [(0, pp b38 1), (1, .int .u8 31), (7, .slice o10 v3.length k12), (10, .slice o16 2 k17), (11, i6 2), (12, i6 0)] hF47 (fun a48 hF48 => (wpList_nil (then_n (wp_seq (wp_region_lit ?_)))))
  refine wplp 3 [0, 1, 10, 11, 12, 16, 17, 18] [(0, pp b38 1), (1, .int .u8 31), (10, .slice o16 2 k17), (11, i6 2), (12, i6 0), (16, .slice o10 v3.length k12), (17, i6 (v3.length : Int)), (18, i6 0)] hF48 (fun a49 hF49 => (wpList_nil (then_n ?_)))
  obtain ⟨ev50, hl51, h⟩ := bind_ok h
  refine block_cut (fun a' w' => ∃ (v19404 : List Int) (v19405 : Int), ev50 = (v19404, v19405) ∧ Fr 78 [] [(0, pp b38 1), (1, .int .u8 31), (10, .slice o16 2 k17), (11, i6 2), (12, i6 0)] a' ∧ St w w' [.blk b38 ([Value.bool true] ++ (ic .u64 v19404 ++ ([i6 136, i6 v19405, i6 0]))) 104, .ro o16 2 k17 ([Value.slice o10 v3.length k12, Value.slice o13 v7.length k15]), .ro o10 v3.length k12 (ic .u8 v3), .ro o13 v7.length k15 (ic .u8 v7)] ∧ v19404.length = 25) ?_ ?_
  ·
   refine wp_loop_ghost (fun k a' w' => ∃ (v19401 : List Int) (v19402 : Int) (v19403 : Int), i_keccak_Shake_c256_c128_2_l6 v3 k v19401 v19402 v19403 = some ev50 ∧ Fr 78 [] [(0, pp b38 1), (1, .int .u8 31), (10, .slice o16 2 k17), (11, i6 2), (12, i6 0), (16, .slice o10 v3.length k12), (17, i6 (v3.length : Int)), (18, i6 v19403)] a' ∧ St w w' [.blk b38 ([Value.bool true] ++ (ic .u64 v19401 ++ ([i6 136, i6 v19402, i6 0]))) 104, .ro o16 2 k17 ([Value.slice o10 v3.length k12, Value.slice o13 v7.length k15]), .ro o10 v3.length k12 (ic .u8 v3), .ro o13 v7.length k15 (ic .u8 v7)] ∧ v19401.length = 25) LIM ⟨(rz 25), 0, 0, hl51, Fr.pick [0, 1, 10, 11, 12, 16, 17, 18] (by kernel_rfl) hF49, hS40, (len_is (rz 25) (n := 25) (List.length_replicate))⟩ ?_
   rintro k52 a52 w53 ⟨v19401, v19402, v19403, hr52, hF52, hS52, hl_v19401⟩
   cases k52 with
   | zero => rw [i_keccak_Shake_c256_c128_2_l6] at hr52; cases hr52
   | succ k52 =>
    rw [i_keccak_Shake_c256_c128_2_l6] at hr52
    refine wp_seq (wp_region_lit ?_)
    refine wplp 1 [0, 1, 10, 11, 12, 16, 17, 18, 19] [(0, pp b38 1), (1, .int .u8 31), (10, .slice o16 2 k17), (11, i6 2), (12, i6 0), (16, .slice o10 v3.length k12), (17, i6 (v3.length : Int)), (18, i6 v19403), (19, .bool (decide (v19403 < (v3.length : Int))))] hF52 (fun a54 hF54 => (wpList_nil (then_n (wp_seq ?_))))
    refine wp_cond_split (t := (decide (v19403 < (v3.length : Int)))) hF54.e (fun ht55 => ?_) (fun ht55 => ?_)
    ·
     have h := if_t ht55 hr52
     refine wp_skip (then_n (wp_seq (wp_block (wp_seq (wp_region_lit ?_)))))
     obtain ⟨hg56, h⟩ := gd_ok h
     refine wpl_val hF54 (by kernel_rfl) (v := pp (blkOf o10) (offOf o10 + v19403.toNat)) (run_indexS rfl (ao := o10) (m := v3.length) (c := k12) hF54.e (rd_ne hS52 2 rfl rfl (j := v19403.toNat) (v := .int .u8 (rd v3 v19403.toNat)) (ic_get (lt_len (inb_nat hg56) (len_is (v3) (n := v3.length) rfl)))) (k := .i64) (i := v19403) hF54.e (E := 5) (by kernel_rfl) (s := 1) (by kernel_rfl) (inb_ok hg56) (r := offOf o10 + v19403.toNat) (by simp only [Nat.mul_one])) (by kernel_rfl) (fun a57 hF57 => ?_)
     refine wpl_val hF57 (by kernel_rfl) (v := .int .u8 (rd v3 v19403.toNat)) (run_load1 rfl (b := blkOf o10) (off := offOf o10 + v19403.toNat) hF57.e (by kernel_rfl) (hS52.atA 2 rfl rfl (v19403.toNat) (ic_get (lt_len (inb_nat hg56) (len_is (v3) (n := v3.length) rfl))))) (by kernel_rfl) (fun a58 hF58 => ?_)
     refine wplp 1 [0, 1, 9, 10, 11, 12, 16, 17, 18] [(0, pp b38 1), (1, .int .u8 31), (9, .int .u8 (rd v3 v19403.toNat)), (10, .slice o16 2 k17), (11, i6 2), (12, i6 0), (16, .slice o10 v3.length k12), (17, i6 (v3.length : Int)), (18, i6 v19403)] hF58 (fun a59 hF59 => (wpList_nil (then_n (wp_seq (wp_region_lit ?_)))))
     refine wplp 2 [0, 1, 10, 11, 12, 16, 17, 18, 22, 23] [(0, pp b38 1), (1, .int .u8 31), (10, .slice o16 2 k17), (11, i6 2), (12, i6 0), (16, .slice o10 v3.length k12), (17, i6 (v3.length : Int)), (18, i6 v19403), (22, pp b38 1), (23, .int .u8 (rd v3 v19403.toNat))] hF59 (fun a60 hF60 => ?_)
     refine wpl_one hF60 (by kernel_rfl) (wp_inl hF60 (by kernel_rfl) (g := 60) (args := #[pp b38 1, .int .u8 (rd v3 v19403.toNat)]) (by kernel_rfl) (calls_of_wp Try.func60 rfl ?_))
     refine go_fr (Fr.start (#[pp b38 1, .int .u8 (rd v3 v19403.toNat)] : Array Value) 25 27 [(0, pp b38 1), (1, .int .u8 (rd v3 v19403.toNat))] rfl (by kernel_rfl)) (fun a61 hF61 => (wp_region_noPanic (region_al [23] (fun w' => St w w' [.blk b38 ([Value.bool true] ++ (ic .u64 v19401 ++ ([i6 136, i6 v19402, i6 0]))) 104, .ro o16 2 k17 ([Value.slice o10 v3.length k12, Value.slice o13 v7.length k15]), .ro o10 v3.length k12 (ic .u8 v3), .ro o13 v7.length k15 (ic .u8 v7)]) 24 rfl (by kernel_rfl) ?_)))
     have hS62 := St.draw1 hS52
     refine al_run (fun _ _ _ _ _ h => h) 11 [0, 1, 2, 3, 6, 7, 10, 11, 12, 13, 14, 20, 21] rfl [7, 11, 15, 18, 25] [(7, pp b38 27), (11, pp b38 1), (15, .int .u64 (IntKind.u64.wrap (rd v3 v19403.toNat))), (18, pp b38 27), (25, pp b38 1)] hF61 (by kernel_rfl) (fun _ => hS62) (fun a63 hF63 => ?_)
     refine al_val (i := 4) rfl (by kernel_rfl) (fun _ _ _ _ h => h) hF63 (by kernel_rfl) (v := i6 v19402) (fun _ HS => run_load1 rfl (b := b38) (off := 27) hF63.e (by kernel_rfl) (HS.at 0 rfl (27) (seg_r (p := 1) (j := 26) (len_is ([Value.bool true] : List Value) (n := 1) rfl) (seg_r (p := 25) (j := 1) (((ic_len _ _).trans hl_v19401) : (ic .u64 v19401).length = 25) rfl)))) (by kernel_rfl) (hS62.sub (.cons_cons _ (.cons_cons _ (.cons_cons _ (.cons_cons _ (.slnil)))))) (fun a64 hF64 => ?_)
     refine al_run (fun _ _ _ _ _ h => h) 9 [5] rfl [9, 11, 15, 18, 25] [(9, i6 (IntKind.i64.wrap (v19402.tdiv 8))), (11, pp b38 1), (15, .int .u64 (IntKind.u64.wrap (rd v3 v19403.toNat))), (18, pp b38 27), (25, pp b38 1)] hF64 (by kernel_rfl) (fun _ => hS62) (fun a65 hF65 => ?_)
     obtain ⟨hg66, h⟩ := gd_ok h
     refine al_any (i := 8) rfl (by kernel_rfl) (fun _ _ _ _ h => h) hF65 (by kernel_rfl) (v := pp b38 (1 + (IntKind.i64.wrap (v19402.tdiv 8)).toNat)) (fun _ => run_indexA rfl (b := b38) (off := 1) hF65.e (k := .i64) (i := (IntKind.i64.wrap (v19402.tdiv 8))) hF65.e (len := 25) (E := 71) (by kernel_rfl) (s := 1) (by kernel_rfl) (inb_ok hg66) (r := 1 + (IntKind.i64.wrap (v19402.tdiv 8)).toNat) (by simp only [Nat.zero_add, Nat.mul_one])) (by kernel_rfl) (fun _ => hS62) (fun a67 hF67 => ?_)
     refine al_val (i := 9) rfl (by kernel_rfl) (fun _ _ _ _ h => h) hF67 (by kernel_rfl) (v := .int .u64 (rd v19401 ((IntKind.i64.wrap (v19402.tdiv 8)).toNat))) (fun _ HS => run_load1 rfl (b := b38) (off := 1 + (IntKind.i64.wrap (v19402.tdiv 8)).toNat) hF67.e (by kernel_rfl) (HS.at 0 rfl (1 + (IntKind.i64.wrap (v19402.tdiv 8)).toNat) (seg_r (p := 1) (j := (IntKind.i64.wrap (v19402.tdiv 8)).toNat) (len_is ([Value.bool true] : List Value) (n := 1) rfl) (seg_l (ic_get (lt_len (inb_nat hg66) hl_v19401)))))) (by kernel_rfl) (hS62.sub (.cons_cons _ (.cons_cons _ (.cons_cons _ (.cons_cons _ (.slnil)))))) (fun a68 hF68 => ?_)
     refine al_val (i := 15) rfl (by kernel_rfl) (fun _ _ _ _ h => h) hF68 (by kernel_rfl) (v := i6 v19402) (fun _ HS => run_load1 rfl (b := b38) (off := 27) hF68.e (by kernel_rfl) (HS.at 0 rfl (27) (seg_r (p := 1) (j := 26) (len_is ([Value.bool true] : List Value) (n := 1) rfl) (seg_r (p := 25) (j := 1) (((ic_len _ _).trans hl_v19401) : (ic .u64 v19401).length = 25) rfl)))) (by kernel_rfl) (hS62.sub (.cons_cons _ (.cons_cons _ (.cons_cons _ (.cons_cons _ (.slnil)))))) (fun a69 hF69 => ?_)
     refine al_run (fun _ _ _ _ _ h => h) 4 [16, 17] rfl [9, 13, 15, 21, 25] [(9, i6 (IntKind.i64.wrap (v19402.tdiv 8))), (13, .int .u64 (rd v19401 ((IntKind.i64.wrap (v19402.tdiv 8)).toNat))), (15, .int .u64 (IntKind.u64.wrap (rd v3 v19403.toNat))), (21, i6 (IntKind.i64.wrap (8 * (v19402.tmod 8)))), (25, pp b38 1)] hF69 (by kernel_rfl) (fun _ => hS62) (fun a70 hF70 => ?_)
     obtain ⟨hg71, h⟩ := gd_ok h
     refine al_any (i := 18) rfl (by kernel_rfl) (fun _ _ _ _ h => h) hF70 (by kernel_rfl) (v := .int .u64 (ishl .u64 (IntKind.u64.wrap (rd v3 v19403.toNat)) (IntKind.i64.wrap (8 * (v19402.tmod 8))))) (fun _ => run_shift rfl (.inl rfl) (k := .u64) (yk := .i64) (p := (IntKind.u64.wrap (rd v3 v19403.toNat))) (q := (IntKind.i64.wrap (8 * (v19402.tmod 8)))) hF70.e hF70.e (of_decide_eq_true hg71)) (by kernel_rfl) (fun _ => hS62) (fun a72 hF72 => ?_)
     refine al_run (fun _ _ _ _ _ h => h) 2 [19] rfl [9, 23, 25] [(9, i6 (IntKind.i64.wrap (v19402.tdiv 8))), (23, .int .u64 (ixor .u64 (rd v19401 ((IntKind.i64.wrap (v19402.tdiv 8)).toNat)) (ishl .u64 (IntKind.u64.wrap (rd v3 v19403.toNat)) (IntKind.i64.wrap (8 * (v19402.tmod 8)))))), (25, pp b38 1)] hF72 (by kernel_rfl) (fun _ => hS62) (fun a73 hF73 => ?_)
     refine al_any (i := 22) rfl (by kernel_rfl) (fun _ _ _ _ h => h) hF73 (by kernel_rfl) (v := pp b38 (1 + (IntKind.i64.wrap (v19402.tdiv 8)).toNat)) (fun _ => run_indexA rfl (b := b38) (off := 1) hF73.e (k := .i64) (i := (IntKind.i64.wrap (v19402.tdiv 8))) hF73.e (len := 25) (E := 71) (by kernel_rfl) (s := 1) (by kernel_rfl) (inb_ok hg66) (r := 1 + (IntKind.i64.wrap (v19402.tdiv 8)).toNat) (by simp only [Nat.zero_add, Nat.mul_one])) (by kernel_rfl) (fun _ => hS62) (fun a74 hF74 => ?_)
     refine al_one (i := 23) rfl (by kernel_rfl) hF74 (by kernel_rfl) (wp_store1 hF74 hS62 rfl 0 rfl (off := 1 + (IntKind.i64.wrap (v19402.tdiv 8)).toNat) (v := .int .u64 (ixor .u64 (rd v19401 ((IntKind.i64.wrap (v19402.tdiv 8)).toNat)) (ishl .u64 (IntKind.u64.wrap (rd v3 v19403.toNat)) (IntKind.i64.wrap (8 * (v19402.tmod 8)))))) (by kernel_rfl) rfl rfl (.r (p := 1) (j := (IntKind.i64.wrap (v19402.tdiv 8)).toNat) (len_is ([Value.bool true] : List Value) (n := 1) rfl) rfl (.l (.ic (lt_len (inb_nat hg66) hl_v19401)))) (L' := [.blk b38 ([Value.bool true] ++ (ic .u64 (v19401.set ((IntKind.i64.wrap (v19402.tdiv 8)).toNat) (ixor .u64 (rd v19401 ((IntKind.i64.wrap (v19402.tdiv 8)).toNat)) (ishl .u64 (IntKind.u64.wrap (rd v3 v19403.toNat)) (IntKind.i64.wrap (8 * (v19402.tmod 8)))))) ++ ([i6 136, i6 v19402, i6 0]))) 104, .ro o16 2 k17 ([Value.slice o10 v3.length k12, Value.slice o13 v7.length k15]), .ro o10 v3.length k12 (ic .u8 v3), .ro o13 v7.length k15 (ic .u8 v7)]) rfl (fun w75 a76 hS76 hF76 => (And.intro (late_yes (by kernel_rfl)) ?_)))
     refine al_done (by kernel_rfl) ?_ _
     refine NoPanic.normal (end_ok hF76 [] trivial (inl_ret ?_))
     refine go_fr (hF60.next (.tuple #[]) [0, 1, 10, 11, 12, 16, 17, 18] (M := [(0, pp b38 1), (1, .int .u8 31), (10, .slice o16 2 k17), (11, i6 2), (12, i6 0), (16, .slice o10 v3.length k12), (17, i6 (v3.length : Int)), (18, i6 v19403)]) (by kernel_rfl)) (fun a77 hF77 => ?_)
     obtain ⟨v19434, hv_v19434, h⟩ := nm_ok h
     have hl_v19434 : v19434.length = 25 := (congrArg List.length hv_v19434).trans (len_is ((v19401.set ((IntKind.i64.wrap (v19402.tdiv 8)).toNat) (ixor .u64 (rd v19401 ((IntKind.i64.wrap (v19402.tdiv 8)).toNat)) (ishl .u64 (IntKind.u64.wrap (rd v3 v19403.toNat)) (IntKind.i64.wrap (8 * (v19402.tmod 8))))))) (n := 25) (List.length_set.trans hl_v19401))
     have hS78 := St.eqv (M := [.blk b38 ([Value.bool true] ++ (ic .u64 v19434 ++ ([i6 136, i6 v19402, i6 0]))) 104, .ro o16 2 k17 ([Value.slice o10 v3.length k12, Value.slice o13 v7.length k15]), .ro o10 v3.length k12 (ic .u8 v3), .ro o13 v7.length k15 (ic .u8 v7)]) hS76 (by rw [hv_v19434])
     refine wpList_nil (then_n (wp_seq (wp_region_lit ?_)))
     refine wplp 3 [0, 1, 10, 11, 12, 16, 17, 18, 25, 27] [(0, pp b38 1), (1, .int .u8 31), (10, .slice o16 2 k17), (11, i6 2), (12, i6 0), (16, .slice o10 v3.length k12), (17, i6 (v3.length : Int)), (18, i6 v19403), (25, pp b38 1), (27, pp b38 27)] hF77 (fun a79 hF79 => ?_)
     refine wpl_val hF79 (by kernel_rfl) (v := i6 v19402) (run_load1 rfl (b := b38) (off := 27) hF79.e (by kernel_rfl) (hS78.at 0 rfl (27) (seg_r (p := 1) (j := 26) (len_is ([Value.bool true] : List Value) (n := 1) rfl) (seg_r (p := 25) (j := 1) (((ic_len _ _).trans hl_v19434) : (ic .u64 v19434).length = 25) rfl)))) (by kernel_rfl) (fun a80 hF80 => ?_)
     refine wplp 3 [0, 1, 10, 11, 12, 16, 17, 18, 29, 31] [(0, pp b38 1), (1, .int .u8 31), (10, .slice o16 2 k17), (11, i6 2), (12, i6 0), (16, .slice o10 v3.length k12), (17, i6 (v3.length : Int)), (18, i6 v19403), (29, i6 (IntKind.i64.wrap (v19402 + 1))), (31, pp b38 27)] hF80 (fun a81 hF81 => ?_)
     refine wpl_one hF81 (by kernel_rfl) (wp_store1 hF81 hS78 rfl 0 rfl (off := 27) (v := i6 (IntKind.i64.wrap (v19402 + 1))) (by kernel_rfl) rfl rfl (.r (p := 1) (j := 26) (len_is ([Value.bool true] : List Value) (n := 1) rfl) rfl (.r (p := 25) (j := 1) (((ic_len _ _).trans hl_v19434) : (ic .u64 v19434).length = 25) rfl (.lit (Nat.le_of_ble_eq_true rfl) rfl))) (L' := [.blk b38 ([Value.bool true] ++ (ic .u64 v19434 ++ ([i6 136, i6 (IntKind.i64.wrap (v19402 + 1)), i6 0]))) 104, .ro o16 2 k17 ([Value.slice o10 v3.length k12, Value.slice o13 v7.length k15]), .ro o10 v3.length k12 (ic .u8 v3), .ro o13 v7.length k15 (ic .u8 v7)]) rfl (fun w82 a83 hS83 hF83 => (wpList_nil (then_n (wp_seq (wp_region_noPanic (region_al [] (fun w' => St w w' [.blk b38 ([Value.bool true] ++ (ic .u64 v19434 ++ ([i6 136, i6 (IntKind.i64.wrap (v19402 + 1)), i6 0]))) 104, .ro o16 2 k17 ([Value.slice o10 v3.length k12, Value.slice o13 v7.length k15]), .ro o10 v3.length k12 (ic .u8 v3), .ro o13 v7.length k15 (ic .u8 v7)]) 9 rfl (by kernel_rfl) ?_)))))))
     have hS84 := St.draw1 hS83
     refine al_run (fun _ _ _ _ _ h => h) 3 [0, 1, 2, 4, 5, 6] rfl [0, 1, 10, 11, 12, 16, 17, 18, 34, 38] [(0, pp b38 1), (1, .int .u8 31), (10, .slice o16 2 k17), (11, i6 2), (12, i6 0), (16, .slice o10 v3.length k12), (17, i6 (v3.length : Int)), (18, i6 v19403), (34, pp b38 27), (38, pp b38 26)] hF83 (by kernel_rfl) (fun _ => hS84) (fun a85 hF85 => ?_)
     refine al_val (i := 3) rfl (by kernel_rfl) (fun _ _ _ _ h => h) hF85 (by kernel_rfl) (v := i6 (IntKind.i64.wrap (v19402 + 1))) (fun _ HS => run_load1 rfl (b := b38) (off := 27) hF85.e (by kernel_rfl) (HS.at 0 rfl (27) (seg_r (p := 1) (j := 26) (len_is ([Value.bool true] : List Value) (n := 1) rfl) (seg_r (p := 25) (j := 1) (((ic_len _ _).trans hl_v19434) : (ic .u64 v19434).length = 25) rfl)))) (by kernel_rfl) (hS84.sub (.cons_cons _ (.cons_cons _ (.cons_cons _ (.cons_cons _ (.slnil)))))) (fun a86 hF86 => ?_)
     refine al_val (i := 7) rfl (by kernel_rfl) (fun _ _ _ _ h => h) hF86 (by kernel_rfl) (v := i6 136) (fun _ HS => run_load1 rfl (b := b38) (off := 26) hF86.e (by kernel_rfl) (HS.at 0 rfl (26) (seg_r (p := 1) (j := 25) (len_is ([Value.bool true] : List Value) (n := 1) rfl) (seg_r (p := 25) (j := 0) (((ic_len _ _).trans hl_v19434) : (ic .u64 v19434).length = 25) rfl)))) (by kernel_rfl) (hS84.sub (.cons_cons _ (.cons_cons _ (.cons_cons _ (.cons_cons _ (.slnil)))))) (fun a87 hF87 => ?_)
     refine al_run (fun _ _ _ _ _ h => h) 0 [8] rfl [0, 1, 10, 11, 12, 16, 17, 18, 40] [(0, pp b38 1), (1, .int .u8 31), (10, .slice o16 2 k17), (11, i6 2), (12, i6 0), (16, .slice o10 v3.length k12), (17, i6 (v3.length : Int)), (18, i6 v19403), (40, .bool ((IntKind.i64.wrap (v19402 + 1)) == 136))] hF87 (by kernel_rfl) (fun _ => hS84) (fun a88 hF88 => ?_)
     refine al_done (by kernel_rfl) ?_ _
     refine NoPanic.normal (then_n ?_)
     refine wp_cond_split (t := ((IntKind.i64.wrap (v19402 + 1)) == 136)) hF88.e (fun ht89 => ?_) (fun ht89 => ?_)
     ·
      have h := if_t ht89 h
      refine wp_region_lit ?_
      refine wplp 5 [0, 1, 10, 11, 12, 16, 17, 18, 41, 42, 45] [(0, pp b38 1), (1, .int .u8 31), (10, .slice o16 2 k17), (11, i6 2), (12, i6 0), (16, .slice o10 v3.length k12), (17, i6 (v3.length : Int)), (18, i6 v19403), (41, pp b38 1), (42, pp b38 1), (45, pp b38 1)] hF88 (fun a90 hF90 => ?_)
      refine wpl_val hF90 (by kernel_rfl) (v := .agg (ic .u64 v19434).toArray) (run_loadR rfl (b := b38) (off := 1) hF90.e (by kernel_rfl) (k := 25) (by kernel_rfl) (((ic_len _ _).trans hl_v19434) : (ic .u64 v19434).length = 25) (range_l (range_r (hS84.all 0 rfl) (len_is ([Value.bool true] : List Value) (n := 1) rfl) rfl))) (by kernel_rfl) (fun a91 hF91 => ?_)
      obtain ⟨v19449, hb92, h⟩ := bind_ok h
      refine wpl_one hF91 (by kernel_rfl) (wp_callR hF91 (by kernel_rfl) (g := 61) (args := #[.agg (ic .u64 v19434).toArray]) (by kernel_rfl) (i_keccak_Permute_ok v19434 hl_v19434 v19449 hb92) (fun vr w93 hp => ?_))
      obtain ⟨rfl, hS94, hl_v19449⟩ := hp
      replace hS94 := St.call hS84 hS94 rfl
      refine go_fr (hF91.next (.agg (ic .u64 v19449).toArray) [0, 1, 10, 11, 12, 16, 17, 18, 41, 42, 47] (M := [(0, pp b38 1), (1, .int .u8 31), (10, .slice o16 2 k17), (11, i6 2), (12, i6 0), (16, .slice o10 v3.length k12), (17, i6 (v3.length : Int)), (18, i6 v19403), (41, pp b38 1), (42, pp b38 1), (47, .agg (ic .u64 v19449).toArray)]) (by kernel_rfl)) (fun a94 hF94 => ?_)
      refine wplp 2 [0, 1, 10, 11, 12, 16, 17, 18, 42, 47, 49] [(0, pp b38 1), (1, .int .u8 31), (10, .slice o16 2 k17), (11, i6 2), (12, i6 0), (16, .slice o10 v3.length k12), (17, i6 (v3.length : Int)), (18, i6 v19403), (42, pp b38 1), (47, .agg (ic .u64 v19449).toArray), (49, pp b38 1)] hF94 (fun a95 hF95 => ?_)
      refine wpl_one hF95 (by kernel_rfl) (wp_store hF95 hS94 rfl 0 rfl (off := 1) (by kernel_rfl) (v := .agg (ic .u64 v19449).toArray) (by kernel_rfl) (vs := ic .u64 v19449) rfl (k := 25) (by kernel_rfl) (((ic_len _ _).trans hl_v19449) : (ic .u64 v19449).length = 25) (by have h2 := (app_len (len_is ([Value.bool true] : List Value) (n := 1) rfl) (app_len (((ic_len _ _).trans hl_v19434) : (ic .u64 v19434).length = 25) (len_is ([i6 136, i6 (IntKind.i64.wrap (v19402 + 1)), i6 0] : List Value) (n := 3) rfl))); omega) (ic_one _ _) (cs' := [Value.bool true] ++ (ic .u64 v19449 ++ ([i6 136, i6 (IntKind.i64.wrap (v19402 + 1)), i6 0]))) (upd_r2 (p := 1) (j := 0) (o := 1) (len_is ([Value.bool true] : List Value) (n := 1) rfl) rfl (upd_l (by have h2 := (((ic_len _ _).trans hl_v19434) : (ic .u64 v19434).length = 25); have h3 := ((((ic_len _ _).trans hl_v19449) : (ic .u64 v19449).length = 25) : (ic .u64 v19449).length = 25); omega) ((upd_ic _ _ _ _).trans (congrArg (ic .u64) (upd_all ((hl_v19449).trans (hl_v19434).symm)))))) (by kernel_rfl) (L' := [.blk b38 ([Value.bool true] ++ (ic .u64 v19449 ++ ([i6 136, i6 (IntKind.i64.wrap (v19402 + 1)), i6 0]))) 104, .ro o16 2 k17 ([Value.slice o10 v3.length k12, Value.slice o13 v7.length k15]), .ro o10 v3.length k12 (ic .u8 v3), .ro o13 v7.length k15 (ic .u8 v7)]) rfl (fun w96 a97 hS97 hF97 => ?_))
      refine wplp 2 [0, 1, 10, 11, 12, 16, 17, 18, 51] [(0, pp b38 1), (1, .int .u8 31), (10, .slice o16 2 k17), (11, i6 2), (12, i6 0), (16, .slice o10 v3.length k12), (17, i6 (v3.length : Int)), (18, i6 v19403), (51, pp b38 27)] hF97 (fun a98 hF98 => ?_)
      refine wpl_one hF98 (by kernel_rfl) (wp_store1 hF98 hS97 rfl 0 rfl (off := 27) (v := i6 0) (by kernel_rfl) rfl rfl (.r (p := 1) (j := 26) (len_is ([Value.bool true] : List Value) (n := 1) rfl) rfl (.r (p := 25) (j := 1) (((ic_len _ _).trans hl_v19449) : (ic .u64 v19449).length = 25) rfl (.lit (Nat.le_of_ble_eq_true rfl) rfl))) (L' := [.blk b38 ([Value.bool true] ++ (ic .u64 v19449 ++ ([i6 136, i6 0, i6 0]))) 104, .ro o16 2 k17 ([Value.slice o10 v3.length k12, Value.slice o13 v7.length k15]), .ro o10 v3.length k12 (ic .u8 v3), .ro o13 v7.length k15 (ic .u8 v7)]) rfl (fun w99 a100 hS100 hF100 => (wpList_nil (blk_n (then_n (wp_region_lit ?_))))))
      refine wplp 2 [0, 1, 10, 11, 12, 16, 17, 18] [(0, pp b38 1), (1, .int .u8 31), (10, .slice o16 2 k17), (11, i6 2), (12, i6 0), (16, .slice o10 v3.length k12), (17, i6 (v3.length : Int)), (18, i6 (IntKind.i64.wrap (v19403 + 1)))] hF100 (fun a101 hF101 => (wpList_nil ?_))
      exact ⟨k52, Nat.lt_succ_self _, v19449, 0, (IntKind.i64.wrap (v19403 + 1)), h, Fr.pick [0, 1, 10, 11, 12, 16, 17, 18] (by kernel_rfl) hF101, hS100.sub (.cons_cons _ (.cons_cons _ (.cons_cons _ (.cons_cons _ (.slnil))))), hl_v19449⟩
     ·
      have h := if_f ht89 h
      refine wp_skip (blk_n (then_n (wp_region_lit ?_)))
      refine wplp 2 [0, 1, 10, 11, 12, 16, 17, 18] [(0, pp b38 1), (1, .int .u8 31), (10, .slice o16 2 k17), (11, i6 2), (12, i6 0), (16, .slice o10 v3.length k12), (17, i6 (v3.length : Int)), (18, i6 (IntKind.i64.wrap (v19403 + 1)))] hF88 (fun a102 hF102 => (wpList_nil ?_))
      exact ⟨k52, Nat.lt_succ_self _, v19434, (IntKind.i64.wrap (v19402 + 1)), (IntKind.i64.wrap (v19403 + 1)), h, Fr.pick [0, 1, 10, 11, 12, 16, 17, 18] (by kernel_rfl) hF102, hS84.sub (.cons_cons _ (.cons_cons _ (.cons_cons _ (.cons_cons _ (.slnil))))), hl_v19434⟩
    ·
     have h := if_f ht55 hr52
     refine wp_exit ?_
     refine then_x (then_x (cut_x ?_))
     have hr := Option.some.inj h
     subst hr
     exact ⟨_, _, rfl, Fr.pick [0, 1, 10, 11, 12] (by kernel_rfl) hF54, hS52.sub (.cons_cons _ (.cons_cons _ (.cons_cons _ (.cons_cons _ (.slnil))))), hl_v19401⟩
  ·
   rintro a103 w104 ⟨v19404, v19405, rfl, hF103, hS103, hl_v19404⟩
   refine blk_n (then_n (wp_region_lit ?_))
   refine wplp 2 [0, 1, 10, 11, 12] [(0, pp b38 1), (1, .int .u8 31), (10, .slice o16 2 k17), (11, i6 2), (12, i6 1)] hF103 (fun a105 hF105 => (wpList_nil (then_n (rounds_go (n := 1) (wp_seq (wp_region_lit ?_))))))
   refine wplp 1 [0, 1, 10, 11, 12, 13] [(0, pp b38 1), (1, .int .u8 31), (10, .slice o16 2 k17), (11, i6 2), (12, i6 1), (13, .bool true)] hF105 (fun a106 hF106 => (wpList_nil (then_n (wp_seq (wp_cond_true hF106.e (wp_skip (then_n (wp_seq (wp_block (wp_seq (wp_region_lit ?_)))))))))))
   refine wpl_val hF106 (by kernel_rfl) (v := pp (blkOf o16) (offOf o16 + 1)) (run_indexS rfl (ao := o16) (m := 2) (c := k17) hF106.e (rd_ne hS103 1 rfl rfl (j := 1) (v := .slice o13 v7.length k15) rfl) (k := .i64) (i := 1) hF106.e (E := 24) (by kernel_rfl) (s := 1) (by kernel_rfl) (by decide) (r := offOf o16 + 1) rfl) (by kernel_rfl) (fun a107 hF107 => ?_)
   refine wpl_val hF107 (by kernel_rfl) (v := .slice o13 v7.length k15) (run_load1 rfl (b := blkOf o16) (off := offOf o16 + 1) hF107.e (by kernel_rfl) (hS103.atA 1 rfl rfl (1) rfl)) (by kernel_rfl) (fun a108 hF108 => ?_)
   refine wplp 1 [0, 1, 7, 10, 11, 12] [(0, pp b38 1), (1, .int .u8 31), (7, .slice o13 v7.length k15), (10, .slice o16 2 k17), (11, i6 2), (12, i6 1)] hF108 (fun a109 hF109 => (wpList_nil (then_n (wp_seq (wp_region_lit ?_)))))
   refine wplp 3 [0, 1, 10, 11, 12, 16, 17, 18] [(0, pp b38 1), (1, .int .u8 31), (10, .slice o16 2 k17), (11, i6 2), (12, i6 1), (16, .slice o13 v7.length k15), (17, i6 (v7.length : Int)), (18, i6 0)] hF109 (fun a110 hF110 => (wpList_nil (then_n ?_)))
   obtain ⟨ev111, hl112, h⟩ := bind_ok h
   refine block_cut (fun a' w' => ∃ (v22801 : List Int) (v22802 : Int), ev111 = (v22801, v22802) ∧ Fr 78 [] [(0, pp b38 1), (1, .int .u8 31), (10, .slice o16 2 k17), (11, i6 2), (12, i6 1)] a' ∧ St w w' [.blk b38 ([Value.bool true] ++ (ic .u64 v22801 ++ ([i6 136, i6 v22802, i6 0]))) 104, .ro o16 2 k17 ([Value.slice o10 v3.length k12, Value.slice o13 v7.length k15]), .ro o10 v3.length k12 (ic .u8 v3), .ro o13 v7.length k15 (ic .u8 v7)] ∧ v22801.length = 25) ?_ ?_
   ·
    refine wp_loop_ghost (fun k a' w' => ∃ (v22798 : List Int) (v22799 : Int) (v22800 : Int), i_keccak_Shake_c256_c128_2_l7 v7 k v22798 v22799 v22800 = some ev111 ∧ Fr 78 [] [(0, pp b38 1), (1, .int .u8 31), (10, .slice o16 2 k17), (11, i6 2), (12, i6 1), (16, .slice o13 v7.length k15), (17, i6 (v7.length : Int)), (18, i6 v22800)] a' ∧ St w w' [.blk b38 ([Value.bool true] ++ (ic .u64 v22798 ++ ([i6 136, i6 v22799, i6 0]))) 104, .ro o16 2 k17 ([Value.slice o10 v3.length k12, Value.slice o13 v7.length k15]), .ro o10 v3.length k12 (ic .u8 v3), .ro o13 v7.length k15 (ic .u8 v7)] ∧ v22798.length = 25) LIM ⟨v19404, v19405, 0, hl112, Fr.pick [0, 1, 10, 11, 12, 16, 17, 18] (by kernel_rfl) hF110, hS103, hl_v19404⟩ ?_
    rintro k113 a113 w114 ⟨v22798, v22799, v22800, hr113, hF113, hS113, hl_v22798⟩
    cases k113 with
    | zero => rw [i_keccak_Shake_c256_c128_2_l7] at hr113; cases hr113
    | succ k113 =>
     rw [i_keccak_Shake_c256_c128_2_l7] at hr113
     refine wp_seq (wp_region_lit ?_)
     refine wplp 1 [0, 1, 10, 11, 12, 16, 17, 18, 19] [(0, pp b38 1), (1, .int .u8 31), (10, .slice o16 2 k17), (11, i6 2), (12, i6 1), (16, .slice o13 v7.length k15), (17, i6 (v7.length : Int)), (18, i6 v22800), (19, .bool (decide (v22800 < (v7.length : Int))))] hF113 (fun a115 hF115 => (wpList_nil (then_n (wp_seq ?_))))
     refine wp_cond_split (t := (decide (v22800 < (v7.length : Int)))) hF115.e (fun ht116 => ?_) (fun ht116 => ?_)
     ·
      have h := if_t ht116 hr113
      refine wp_skip (then_n (wp_seq (wp_block (wp_seq (wp_region_lit ?_)))))
      obtain ⟨hg117, h⟩ := gd_ok h
      refine wpl_val hF115 (by kernel_rfl) (v := pp (blkOf o13) (offOf o13 + v22800.toNat)) (run_indexS rfl (ao := o13) (m := v7.length) (c := k15) hF115.e (rd_ne hS113 3 rfl rfl (j := v22800.toNat) (v := .int .u8 (rd v7 v22800.toNat)) (ic_get (lt_len (inb_nat hg117) (len_is (v7) (n := v7.length) rfl)))) (k := .i64) (i := v22800) hF115.e (E := 5) (by kernel_rfl) (s := 1) (by kernel_rfl) (inb_ok hg117) (r := offOf o13 + v22800.toNat) (by simp only [Nat.mul_one])) (by kernel_rfl) (fun a118 hF118 => ?_)
      refine wpl_val hF118 (by kernel_rfl) (v := .int .u8 (rd v7 v22800.toNat)) (run_load1 rfl (b := blkOf o13) (off := offOf o13 + v22800.toNat) hF118.e (by kernel_rfl) (hS113.atA 3 rfl rfl (v22800.toNat) (ic_get (lt_len (inb_nat hg117) (len_is (v7) (n := v7.length) rfl))))) (by kernel_rfl) (fun a119 hF119 => ?_)
      refine wplp 1 [0, 1, 9, 10, 11, 12, 16, 17, 18] [(0, pp b38 1), (1, .int .u8 31), (9, .int .u8 (rd v7 v22800.toNat)), (10, .slice o16 2 k17), (11, i6 2), (12, i6 1), (16, .slice o13 v7.length k15), (17, i6 (v7.length : Int)), (18, i6 v22800)] hF119 (fun a120 hF120 => (wpList_nil (then_n (wp_seq (wp_region_lit ?_)))))
      refine wplp 2 [0, 1, 10, 11, 12, 16, 17, 18, 22, 23] [(0, pp b38 1), (1, .int .u8 31), (10, .slice o16 2 k17), (11, i6 2), (12, i6 1), (16, .slice o13 v7.length k15), (17, i6 (v7.length : Int)), (18, i6 v22800), (22, pp b38 1), (23, .int .u8 (rd v7 v22800.toNat))] hF120 (fun a121 hF121 => ?_)
      refine wpl_one hF121 (by kernel_rfl) (wp_inl hF121 (by kernel_rfl) (g := 60) (args := #[pp b38 1, .int .u8 (rd v7 v22800.toNat)]) (by kernel_rfl) (calls_of_wp Try.func60 rfl ?_))
      refine go_fr (Fr.start (#[pp b38 1, .int .u8 (rd v7 v22800.toNat)] : Array Value) 25 27 [(0, pp b38 1), (1, .int .u8 (rd v7 v22800.toNat))] rfl (by kernel_rfl)) (fun a122 hF122 => (wp_region_noPanic (region_al [23] (fun w' => St w w' [.blk b38 ([Value.bool true] ++ (ic .u64 v22798 ++ ([i6 136, i6 v22799, i6 0]))) 104, .ro o16 2 k17 ([Value.slice o10 v3.length k12, Value.slice o13 v7.length k15]), .ro o10 v3.length k12 (ic .u8 v3), .ro o13 v7.length k15 (ic .u8 v7)]) 24 rfl (by kernel_rfl) ?_)))
      have hS123 := St.draw1 hS113
      refine al_run (fun _ _ _ _ _ h => h) 11 [0, 1, 2, 3, 6, 7, 10, 11, 12, 13, 14, 20, 21] rfl [7, 11, 15, 18, 25] [(7, pp b38 27), (11, pp b38 1), (15, .int .u64 (IntKind.u64.wrap (rd v7 v22800.toNat))), (18, pp b38 27), (25, pp b38 1)] hF122 (by kernel_rfl) (fun _ => hS123) (fun a124 hF124 => ?_)
      refine al_val (i := 4) rfl (by kernel_rfl) (fun _ _ _ _ h => h) hF124 (by kernel_rfl) (v := i6 v22799) (fun _ HS => run_load1 rfl (b := b38) (off := 27) hF124.e (by kernel_rfl) (HS.at 0 rfl (27) (seg_r (p := 1) (j := 26) (len_is ([Value.bool true] : List Value) (n := 1) rfl) (seg_r (p := 25) (j := 1) (((ic_len _ _).trans hl_v22798) : (ic .u64 v22798).length = 25) rfl)))) (by kernel_rfl) (hS123.sub (.cons_cons _ (.cons_cons _ (.cons_cons _ (.cons_cons _ (.slnil)))))) (fun a125 hF125 => ?_)
      refine al_run (fun _ _ _ _ _ h => h) 9 [5] rfl [9, 11, 15, 18, 25] [(9, i6 (IntKind.i64.wrap (v22799.tdiv 8))), (11, pp b38 1), (15, .int .u64 (IntKind.u64.wrap (rd v7 v22800.toNat))), (18, pp b38 27), (25, pp b38 1)] hF125 (by kernel_rfl) (fun _ => hS123) (fun a126 hF126 => ?_)
      obtain ⟨hg127, h⟩ := gd_ok h
      refine al_any (i := 8) rfl (by kernel_rfl) (fun _ _ _ _ h => h) hF126 (by kernel_rfl) (v := pp b38 (1 + (IntKind.i64.wrap (v22799.tdiv 8)).toNat)) (fun _ => run_indexA rfl (b := b38) (off := 1) hF126.e (k := .i64) (i := (IntKind.i64.wrap (v22799.tdiv 8))) hF126.e (len := 25) (E := 71) (by kernel_rfl) (s := 1) (by kernel_rfl) (inb_ok hg127) (r := 1 + (IntKind.i64.wrap (v22799.tdiv 8)).toNat) (by simp only [Nat.zero_add, Nat.mul_one])) (by kernel_rfl) (fun _ => hS123) (fun a128 hF128 => ?_)
      refine al_val (i := 9) rfl (by kernel_rfl) (fun _ _ _ _ h => h) hF128 (by kernel_rfl) (v := .int .u64 (rd v22798 ((IntKind.i64.wrap (v22799.tdiv 8)).toNat))) (fun _ HS => run_load1 rfl (b := b38) (off := 1 + (IntKind.i64.wrap (v22799.tdiv 8)).toNat) hF128.e (by kernel_rfl) (HS.at 0 rfl (1 + (IntKind.i64.wrap (v22799.tdiv 8)).toNat) (seg_r (p := 1) (j := (IntKind.i64.wrap (v22799.tdiv 8)).toNat) (len_is ([Value.bool true] : List Value) (n := 1) rfl) (seg_l (ic_get (lt_len (inb_nat hg127) hl_v22798)))))) (by kernel_rfl) (hS123.sub (.cons_cons _ (.cons_cons _ (.cons_cons _ (.cons_cons _ (.slnil)))))) (fun a129 hF129 => ?_)
      refine al_val (i := 15) rfl (by kernel_rfl) (fun _ _ _ _ h => h) hF129 (by kernel_rfl) (v := i6 v22799) (fun _ HS => run_load1 rfl (b := b38) (off := 27) hF129.e (by kernel_rfl) (HS.at 0 rfl (27) (seg_r (p := 1) (j := 26) (len_is ([Value.bool true] : List Value) (n := 1) rfl) (seg_r (p := 25) (j := 1) (((ic_len _ _).trans hl_v22798) : (ic .u64 v22798).length = 25) rfl)))) (by kernel_rfl) (hS123.sub (.cons_cons _ (.cons_cons _ (.cons_cons _ (.cons_cons _ (.slnil)))))) (fun a130 hF130 => ?_)
      refine al_run (fun _ _ _ _ _ h => h) 4 [16, 17] rfl [9, 13, 15, 21, 25] [(9, i6 (IntKind.i64.wrap (v22799.tdiv 8))), (13, .int .u64 (rd v22798 ((IntKind.i64.wrap (v22799.tdiv 8)).toNat))), (15, .int .u64 (IntKind.u64.wrap (rd v7 v22800.toNat))), (21, i6 (IntKind.i64.wrap (8 * (v22799.tmod 8)))), (25, pp b38 1)] hF130 (by kernel_rfl) (fun _ => hS123) (fun a131 hF131 => ?_)
      obtain ⟨hg132, h⟩ := gd_ok h
      refine al_any (i := 18) rfl (by kernel_rfl) (fun _ _ _ _ h => h) hF131 (by kernel_rfl) (v := .int .u64 (ishl .u64 (IntKind.u64.wrap (rd v7 v22800.toNat)) (IntKind.i64.wrap (8 * (v22799.tmod 8))))) (fun _ => run_shift rfl (.inl rfl) (k := .u64) (yk := .i64) (p := (IntKind.u64.wrap (rd v7 v22800.toNat))) (q := (IntKind.i64.wrap (8 * (v22799.tmod 8)))) hF131.e hF131.e (of_decide_eq_true hg132)) (by kernel_rfl) (fun _ => hS123) (fun a133 hF133 => ?_)
      refine al_run (fun _ _ _ _ _ h => h) 2 [19] rfl [9, 23, 25] [(9, i6 (IntKind.i64.wrap (v22799.tdiv 8))), (23, .int .u64 (ixor .u64 (rd v22798 ((IntKind.i64.wrap (v22799.tdiv 8)).toNat)) (ishl .u64 (IntKind.u64.wrap (rd v7 v22800.toNat)) (IntKind.i64.wrap (8 * (v22799.tmod 8)))))), (25, pp b38 1)] hF133 (by kernel_rfl) (fun _ => hS123) (fun a134 hF134 => ?_)
      refine al_any (i := 22) rfl (by kernel_rfl) (fun _ _ _ _ h => h) hF134 (by kernel_rfl) (v := pp b38 (1 + (IntKind.i64.wrap (v22799.tdiv 8)).toNat)) (fun _ => run_indexA rfl (b := b38) (off := 1) hF134.e (k := .i64) (i := (IntKind.i64.wrap (v22799.tdiv 8))) hF134.e (len := 25) (E := 71) (by kernel_rfl) (s := 1) (by kernel_rfl) (inb_ok hg127) (r := 1 + (IntKind.i64.wrap (v22799.tdiv 8)).toNat) (by simp only [Nat.zero_add, Nat.mul_one])) (by kernel_rfl) (fun _ => hS123) (fun a135 hF135 => ?_)
      refine al_one (i := 23) rfl (by kernel_rfl) hF135 (by kernel_rfl) (wp_store1 hF135 hS123 rfl 0 rfl (off := 1 + (IntKind.i64.wrap (v22799.tdiv 8)).toNat) (v := .int .u64 (ixor .u64 (rd v22798 ((IntKind.i64.wrap (v22799.tdiv 8)).toNat)) (ishl .u64 (IntKind.u64.wrap (rd v7 v22800.toNat)) (IntKind.i64.wrap (8 * (v22799.tmod 8)))))) (by kernel_rfl) rfl rfl (.r (p := 1) (j := (IntKind.i64.wrap (v22799.tdiv 8)).toNat) (len_is ([Value.bool true] : List Value) (n := 1) rfl) rfl (.l (.ic (lt_len (inb_nat hg127) hl_v22798)))) (L' := [.blk b38 ([Value.bool true] ++ (ic .u64 (v22798.set ((IntKind.i64.wrap (v22799.tdiv 8)).toNat) (ixor .u64 (rd v22798 ((IntKind.i64.wrap (v22799.tdiv 8)).toNat)) (ishl .u64 (IntKind.u64.wrap (rd v7 v22800.toNat)) (IntKind.i64.wrap (8 * (v22799.tmod 8)))))) ++ ([i6 136, i6 v22799, i6 0]))) 104, .ro o16 2 k17 ([Value.slice o10 v3.length k12, Value.slice o13 v7.length k15]), .ro o10 v3.length k12 (ic .u8 v3), .ro o13 v7.length k15 (ic .u8 v7)]) rfl (fun w136 a137 hS137 hF137 => (And.intro (late_yes (by kernel_rfl)) ?_)))
      refine al_done (by kernel_rfl) ?_ _
      refine NoPanic.normal (end_ok hF137 [] trivial (inl_ret ?_))
      refine go_fr (hF121.next (.tuple #[]) [0, 1, 10, 11, 12, 16, 17, 18] (M := [(0, pp b38 1), (1, .int .u8 31), (10, .slice o16 2 k17), (11, i6 2), (12, i6 1), (16, .slice o13 v7.length k15), (17, i6 (v7.length : Int)), (18, i6 v22800)]) (by kernel_rfl)) (fun a138 hF138 => ?_)
      obtain ⟨v22831, hv_v22831, h⟩ := nm_ok h
      have hl_v22831 : v22831.length = 25 := (congrArg List.length hv_v22831).trans (len_is ((v22798.set ((IntKind.i64.wrap (v22799.tdiv 8)).toNat) (ixor .u64 (rd v22798 ((IntKind.i64.wrap (v22799.tdiv 8)).toNat)) (ishl .u64 (IntKind.u64.wrap (rd v7 v22800.toNat)) (IntKind.i64.wrap (8 * (v22799.tmod 8))))))) (n := 25) (List.length_set.trans hl_v22798))
      have hS139 := St.eqv (M := [.blk b38 ([Value.bool true] ++ (ic .u64 v22831 ++ ([i6 136, i6 v22799, i6 0]))) 104, .ro o16 2 k17 ([Value.slice o10 v3.length k12, Value.slice o13 v7.length k15]), .ro o10 v3.length k12 (ic .u8 v3), .ro o13 v7.length k15 (ic .u8 v7)]) hS137 (by rw [hv_v22831])
      refine wpList_nil (then_n (wp_seq (wp_region_lit ?_)))
      refine wplp 3 [0, 1, 10, 11, 12, 16, 17, 18, 25, 27] [(0, pp b38 1), (1, .int .u8 31), (10, .slice o16 2 k17), (11, i6 2), (12, i6 1), (16, .slice o13 v7.length k15), (17, i6 (v7.length : Int)), (18, i6 v22800), (25, pp b38 1), (27, pp b38 27)] hF138 (fun a140 hF140 => ?_)
      refine wpl_val hF140 (by kernel_rfl) (v := i6 v22799) (run_load1 rfl (b := b38) (off := 27) hF140.e (by kernel_rfl) (hS139.at 0 rfl (27) (seg_r (p := 1) (j := 26) (len_is ([Value.bool true] : List Value) (n := 1) rfl) (seg_r (p := 25) (j := 1) (((ic_len _ _).trans hl_v22831) : (ic .u64 v22831).length = 25) rfl)))) (by kernel_rfl) (fun a141 hF141 => ?_)
      refine wplp 3 [0, 1, 10, 11, 12, 16, 17, 18, 29, 31] [(0, pp b38 1), (1, .int .u8 31), (10, .slice o16 2 k17), (11, i6 2), (12, i6 1), (16, .slice o13 v7.length k15), (17, i6 (v7.length : Int)), (18, i6 v22800), (29, i6 (IntKind.i64.wrap (v22799 + 1))), (31, pp b38 27)] hF141 (fun a142 hF142 => ?_)
      refine wpl_one hF142 (by kernel_rfl) (wp_store1 hF142 hS139 rfl 0 rfl (off := 27) (v := i6 (IntKind.i64.wrap (v22799 + 1))) (by kernel_rfl) rfl rfl (.r (p := 1) (j := 26) (len_is ([Value.bool true] : List Value) (n := 1) rfl) rfl (.r (p := 25) (j := 1) (((ic_len _ _).trans hl_v22831) : (ic .u64 v22831).length = 25) rfl (.lit (Nat.le_of_ble_eq_true rfl) rfl))) (L' := [.blk b38 ([Value.bool true] ++ (ic .u64 v22831 ++ ([i6 136, i6 (IntKind.i64.wrap (v22799 + 1)), i6 0]))) 104, .ro o16 2 k17 ([Value.slice o10 v3.length k12, Value.slice o13 v7.length k15]), .ro o10 v3.length k12 (ic .u8 v3), .ro o13 v7.length k15 (ic .u8 v7)]) rfl (fun w143 a144 hS144 hF144 => (wpList_nil (then_n (wp_seq (wp_region_noPanic (region_al [] (fun w' => St w w' [.blk b38 ([Value.bool true] ++ (ic .u64 v22831 ++ ([i6 136, i6 (IntKind.i64.wrap (v22799 + 1)), i6 0]))) 104, .ro o16 2 k17 ([Value.slice o10 v3.length k12, Value.slice o13 v7.length k15]), .ro o10 v3.length k12 (ic .u8 v3), .ro o13 v7.length k15 (ic .u8 v7)]) 9 rfl (by kernel_rfl) ?_)))))))
      have hS145 := St.draw1 hS144
      refine al_run (fun _ _ _ _ _ h => h) 3 [0, 1, 2, 4, 5, 6] rfl [0, 1, 10, 11, 12, 16, 17, 18, 34, 38] [(0, pp b38 1), (1, .int .u8 31), (10, .slice o16 2 k17), (11, i6 2), (12, i6 1), (16, .slice o13 v7.length k15), (17, i6 (v7.length : Int)), (18, i6 v22800), (34, pp b38 27), (38, pp b38 26)] hF144 (by kernel_rfl) (fun _ => hS145) (fun a146 hF146 => ?_)
      refine al_val (i := 3) rfl (by kernel_rfl) (fun _ _ _ _ h => h) hF146 (by kernel_rfl) (v := i6 (IntKind.i64.wrap (v22799 + 1))) (fun _ HS => run_load1 rfl (b := b38) (off := 27) hF146.e (by kernel_rfl) (HS.at 0 rfl (27) (seg_r (p := 1) (j := 26) (len_is ([Value.bool true] : List Value) (n := 1) rfl) (seg_r (p := 25) (j := 1) (((ic_len _ _).trans hl_v22831) : (ic .u64 v22831).length = 25) rfl)))) (by kernel_rfl) (hS145.sub (.cons_cons _ (.cons_cons _ (.cons_cons _ (.cons_cons _ (.slnil)))))) (fun a147 hF147 => ?_)
      refine al_val (i := 7) rfl (by kernel_rfl) (fun _ _ _ _ h => h) hF147 (by kernel_rfl) (v := i6 136) (fun _ HS => run_load1 rfl (b := b38) (off := 26) hF147.e (by kernel_rfl) (HS.at 0 rfl (26) (seg_r (p := 1) (j := 25) (len_is ([Value.bool true] : List Value) (n := 1) rfl) (seg_r (p := 25) (j := 0) (((ic_len _ _).trans hl_v22831) : (ic .u64 v22831).length = 25) rfl)))) (by kernel_rfl) (hS145.sub (.cons_cons _ (.cons_cons _ (.cons_cons _ (.cons_cons _ (.slnil)))))) (fun a148 hF148 => ?_)
      refine al_run (fun _ _ _ _ _ h => h) 0 [8] rfl [0, 1, 10, 11, 12, 16, 17, 18, 40] [(0, pp b38 1), (1, .int .u8 31), (10, .slice o16 2 k17), (11, i6 2), (12, i6 1), (16, .slice o13 v7.length k15), (17, i6 (v7.length : Int)), (18, i6 v22800), (40, .bool ((IntKind.i64.wrap (v22799 + 1)) == 136))] hF148 (by kernel_rfl) (fun _ => hS145) (fun a149 hF149 => ?_)
      refine al_done (by kernel_rfl) ?_ _
      refine NoPanic.normal (then_n ?_)
      refine wp_cond_split (t := ((IntKind.i64.wrap (v22799 + 1)) == 136)) hF149.e (fun ht150 => ?_) (fun ht150 => ?_)
      ·
       have h := if_t ht150 h
       refine wp_region_lit ?_
       refine wplp 5 [0, 1, 10, 11, 12, 16, 17, 18, 41, 42, 45] [(0, pp b38 1), (1, .int .u8 31), (10, .slice o16 2 k17), (11, i6 2), (12, i6 1), (16, .slice o13 v7.length k15), (17, i6 (v7.length : Int)), (18, i6 v22800), (41, pp b38 1), (42, pp b38 1), (45, pp b38 1)] hF149 (fun a151 hF151 => ?_)
       refine wpl_val hF151 (by kernel_rfl) (v := .agg (ic .u64 v22831).toArray) (run_loadR rfl (b := b38) (off := 1) hF151.e (by kernel_rfl) (k := 25) (by kernel_rfl) (((ic_len _ _).trans hl_v22831) : (ic .u64 v22831).length = 25) (range_l (range_r (hS145.all 0 rfl) (len_is ([Value.bool true] : List Value) (n := 1) rfl) rfl))) (by kernel_rfl) (fun a152 hF152 => ?_)
       obtain ⟨v22846, hb153, h⟩ := bind_ok h
       refine wpl_one hF152 (by kernel_rfl) (wp_callR hF152 (by kernel_rfl) (g := 61) (args := #[.agg (ic .u64 v22831).toArray]) (by kernel_rfl) (i_keccak_Permute_ok v22831 hl_v22831 v22846 hb153) (fun vr w154 hp => ?_))
       obtain ⟨rfl, hS155, hl_v22846⟩ := hp
       replace hS155 := St.call hS145 hS155 rfl
       refine go_fr (hF152.next (.agg (ic .u64 v22846).toArray) [0, 1, 10, 11, 12, 16, 17, 18, 41, 42, 47] (M := [(0, pp b38 1), (1, .int .u8 31), (10, .slice o16 2 k17), (11, i6 2), (12, i6 1), (16, .slice o13 v7.length k15), (17, i6 (v7.length : Int)), (18, i6 v22800), (41, pp b38 1), (42, pp b38 1), (47, .agg (ic .u64 v22846).toArray)]) (by kernel_rfl)) (fun a155 hF155 => ?_)
       refine wplp 2 [0, 1, 10, 11, 12, 16, 17, 18, 42, 47, 49] [(0, pp b38 1), (1, .int .u8 31), (10, .slice o16 2 k17), (11, i6 2), (12, i6 1), (16, .slice o13 v7.length k15), (17, i6 (v7.length : Int)), (18, i6 v22800), (42, pp b38 1), (47, .agg (ic .u64 v22846).toArray), (49, pp b38 1)] hF155 (fun a156 hF156 => ?_)
       refine wpl_one hF156 (by kernel_rfl) (wp_store hF156 hS155 rfl 0 rfl (off := 1) (by kernel_rfl) (v := .agg (ic .u64 v22846).toArray) (by kernel_rfl) (vs := ic .u64 v22846) rfl (k := 25) (by kernel_rfl) (((ic_len _ _).trans hl_v22846) : (ic .u64 v22846).length = 25) (by have h2 := (app_len (len_is ([Value.bool true] : List Value) (n := 1) rfl) (app_len (((ic_len _ _).trans hl_v22831) : (ic .u64 v22831).length = 25) (len_is ([i6 136, i6 (IntKind.i64.wrap (v22799 + 1)), i6 0] : List Value) (n := 3) rfl))); omega) (ic_one _ _) (cs' := [Value.bool true] ++ (ic .u64 v22846 ++ ([i6 136, i6 (IntKind.i64.wrap (v22799 + 1)), i6 0]))) (upd_r2 (p := 1) (j := 0) (o := 1) (len_is ([Value.bool true] : List Value) (n := 1) rfl) rfl (upd_l (by have h2 := (((ic_len _ _).trans hl_v22831) : (ic .u64 v22831).length = 25); have h3 := ((((ic_len _ _).trans hl_v22846) : (ic .u64 v22846).length = 25) : (ic .u64 v22846).length = 25); omega) ((upd_ic _ _ _ _).trans (congrArg (ic .u64) (upd_all ((hl_v22846).trans (hl_v22831).symm)))))) (by kernel_rfl) (L' := [.blk b38 ([Value.bool true] ++ (ic .u64 v22846 ++ ([i6 136, i6 (IntKind.i64.wrap (v22799 + 1)), i6 0]))) 104, .ro o16 2 k17 ([Value.slice o10 v3.length k12, Value.slice o13 v7.length k15]), .ro o10 v3.length k12 (ic .u8 v3), .ro o13 v7.length k15 (ic .u8 v7)]) rfl (fun w157 a158 hS158 hF158 => ?_))
       refine wplp 2 [0, 1, 10, 11, 12, 16, 17, 18, 51] [(0, pp b38 1), (1, .int .u8 31), (10, .slice o16 2 k17), (11, i6 2), (12, i6 1), (16, .slice o13 v7.length k15), (17, i6 (v7.length : Int)), (18, i6 v22800), (51, pp b38 27)] hF158 (fun a159 hF159 => ?_)
       refine wpl_one hF159 (by kernel_rfl) (wp_store1 hF159 hS158 rfl 0 rfl (off := 27) (v := i6 0) (by kernel_rfl) rfl rfl (.r (p := 1) (j := 26) (len_is ([Value.bool true] : List Value) (n := 1) rfl) rfl (.r (p := 25) (j := 1) (((ic_len _ _).trans hl_v22846) : (ic .u64 v22846).length = 25) rfl (.lit (Nat.le_of_ble_eq_true rfl) rfl))) (L' := [.blk b38 ([Value.bool true] ++ (ic .u64 v22846 ++ ([i6 136, i6 0, i6 0]))) 104, .ro o16 2 k17 ([Value.slice o10 v3.length k12, Value.slice o13 v7.length k15]), .ro o10 v3.length k12 (ic .u8 v3), .ro o13 v7.length k15 (ic .u8 v7)]) rfl (fun w160 a161 hS161 hF161 => (wpList_nil (blk_n (then_n (wp_region_lit ?_))))))
       refine wplp 2 [0, 1, 10, 11, 12, 16, 17, 18] [(0, pp b38 1), (1, .int .u8 31), (10, .slice o16 2 k17), (11, i6 2), (12, i6 1), (16, .slice o13 v7.length k15), (17, i6 (v7.length : Int)), (18, i6 (IntKind.i64.wrap (v22800 + 1)))] hF161 (fun a162 hF162 => (wpList_nil ?_))
       exact ⟨k113, Nat.lt_succ_self _, v22846, 0, (IntKind.i64.wrap (v22800 + 1)), h, Fr.pick [0, 1, 10, 11, 12, 16, 17, 18] (by kernel_rfl) hF162, hS161.sub (.cons_cons _ (.cons_cons _ (.cons_cons _ (.cons_cons _ (.slnil))))), hl_v22846⟩
      ·
       have h := if_f ht150 h
       refine wp_skip (blk_n (then_n (wp_region_lit ?_)))
       refine wplp 2 [0, 1, 10, 11, 12, 16, 17, 18] [(0, pp b38 1), (1, .int .u8 31), (10, .slice o16 2 k17), (11, i6 2), (12, i6 1), (16, .slice o13 v7.length k15), (17, i6 (v7.length : Int)), (18, i6 (IntKind.i64.wrap (v22800 + 1)))] hF149 (fun a163 hF163 => (wpList_nil ?_))
       exact ⟨k113, Nat.lt_succ_self _, v22831, (IntKind.i64.wrap (v22799 + 1)), (IntKind.i64.wrap (v22800 + 1)), h, Fr.pick [0, 1, 10, 11, 12, 16, 17, 18] (by kernel_rfl) hF163, hS145.sub (.cons_cons _ (.cons_cons _ (.cons_cons _ (.cons_cons _ (.slnil))))), hl_v22831⟩
     ·
      have h := if_f ht116 hr113
      refine wp_exit ?_
      refine then_x (then_x (cut_x ?_))
      have hr := Option.some.inj h
      subst hr
      exact ⟨_, _, rfl, Fr.pick [0, 1, 10, 11, 12] (by kernel_rfl) hF115, hS113.sub (.cons_cons _ (.cons_cons _ (.cons_cons _ (.cons_cons _ (.slnil))))), hl_v22798⟩
   ·
    rintro a164 w165 ⟨v22801, v22802, rfl, hF164, hS164, hl_v22801⟩
    refine blk_n (then_n (wp_region_lit ?_))
    refine wplp 2 [0, 1, 10, 11, 12] [(0, pp b38 1), (1, .int .u8 31), (10, .slice o16 2 k17), (11, i6 2), (12, i6 2)] hF164 (fun a166 hF166 => (wpList_nil (then_n (rounds_go (n := 0) (wp_seq (wp_region_lit ?_))))))
    refine wplp 1 [0, 1, 10, 11, 12, 13] [(0, pp b38 1), (1, .int .u8 31), (10, .slice o16 2 k17), (11, i6 2), (12, i6 2), (13, .bool false)] hF166 (fun a167 hF167 => (wpList_nil (then_n (wp_seq (wp_cond_false hF167.e (wp_exit ?_))))))
    refine then_x (then_x (blk_x (then_n (wp_seq (wp_region_lit ?_)))))
    refine wplp 2 [0, 54, 55] [(0, pp b38 1), (54, pp b38 1), (55, .int .u8 31)] hF167 (fun a168 hF168 => ?_)
    refine wpl_one hF168 (by kernel_rfl) (wp_inl hF168 (by kernel_rfl) (g := 60) (args := #[pp b38 1, .int .u8 31]) (by kernel_rfl) (calls_of_wp Try.func60 rfl ?_))
    refine go_fr (Fr.start (#[pp b38 1, .int .u8 31] : Array Value) 25 27 [(0, pp b38 1), (1, .int .u8 31)] rfl (by kernel_rfl)) (fun a169 hF169 => (wp_region_noPanic (region_al [23] (fun w' => St w w' [.blk b38 ([Value.bool true] ++ (ic .u64 v22801 ++ ([i6 136, i6 v22802, i6 0]))) 104, .ro o16 2 k17 ([Value.slice o10 v3.length k12, Value.slice o13 v7.length k15]), .ro o10 v3.length k12 (ic .u8 v3), .ro o13 v7.length k15 (ic .u8 v7)]) 24 rfl (by kernel_rfl) ?_)))
    have hS170 := St.draw1 hS164
    refine al_run (fun _ _ _ _ _ h => h) 11 [0, 1, 2, 3, 6, 7, 10, 11, 12, 13, 14, 20, 21] rfl [7, 11, 15, 18, 25] [(7, pp b38 27), (11, pp b38 1), (15, .int .u64 31), (18, pp b38 27), (25, pp b38 1)] hF169 (by kernel_rfl) (fun _ => hS170) (fun a171 hF171 => ?_)
    refine al_val (i := 4) rfl (by kernel_rfl) (fun _ _ _ _ h => h) hF171 (by kernel_rfl) (v := i6 v22802) (fun _ HS => run_load1 rfl (b := b38) (off := 27) hF171.e (by kernel_rfl) (HS.at 0 rfl (27) (seg_r (p := 1) (j := 26) (len_is ([Value.bool true] : List Value) (n := 1) rfl) (seg_r (p := 25) (j := 1) (((ic_len _ _).trans hl_v22801) : (ic .u64 v22801).length = 25) rfl)))) (by kernel_rfl) (hS170.sub (.cons_cons _ (.cons_cons _ (.cons_cons _ (.cons_cons _ (.slnil)))))) (fun a172 hF172 => ?_)
    refine al_run (fun _ _ _ _ _ h => h) 9 [5] rfl [9, 11, 15, 18, 25] [(9, i6 (IntKind.i64.wrap (v22802.tdiv 8))), (11, pp b38 1), (15, .int .u64 31), (18, pp b38 27), (25, pp b38 1)] hF172 (by kernel_rfl) (fun _ => hS170) (fun a173 hF173 => ?_)
    obtain ⟨hg174, h⟩ := gd_ok h
    refine al_any (i := 8) rfl (by kernel_rfl) (fun _ _ _ _ h => h) hF173 (by kernel_rfl) (v := pp b38 (1 + (IntKind.i64.wrap (v22802.tdiv 8)).toNat)) (fun _ => run_indexA rfl (b := b38) (off := 1) hF173.e (k := .i64) (i := (IntKind.i64.wrap (v22802.tdiv 8))) hF173.e (len := 25) (E := 71) (by kernel_rfl) (s := 1) (by kernel_rfl) (inb_ok hg174) (r := 1 + (IntKind.i64.wrap (v22802.tdiv 8)).toNat) (by simp only [Nat.zero_add, Nat.mul_one])) (by kernel_rfl) (fun _ => hS170) (fun a175 hF175 => ?_)
    refine al_val (i := 9) rfl (by kernel_rfl) (fun _ _ _ _ h => h) hF175 (by kernel_rfl) (v := .int .u64 (rd v22801 ((IntKind.i64.wrap (v22802.tdiv 8)).toNat))) (fun _ HS => run_load1 rfl (b := b38) (off := 1 + (IntKind.i64.wrap (v22802.tdiv 8)).toNat) hF175.e (by kernel_rfl) (HS.at 0 rfl (1 + (IntKind.i64.wrap (v22802.tdiv 8)).toNat) (seg_r (p := 1) (j := (IntKind.i64.wrap (v22802.tdiv 8)).toNat) (len_is ([Value.bool true] : List Value) (n := 1) rfl) (seg_l (ic_get (lt_len (inb_nat hg174) hl_v22801)))))) (by kernel_rfl) (hS170.sub (.cons_cons _ (.cons_cons _ (.cons_cons _ (.cons_cons _ (.slnil)))))) (fun a176 hF176 => ?_)
    refine al_val (i := 15) rfl (by kernel_rfl) (fun _ _ _ _ h => h) hF176 (by kernel_rfl) (v := i6 v22802) (fun _ HS => run_load1 rfl (b := b38) (off := 27) hF176.e (by kernel_rfl) (HS.at 0 rfl (27) (seg_r (p := 1) (j := 26) (len_is ([Value.bool true] : List Value) (n := 1) rfl) (seg_r (p := 25) (j := 1) (((ic_len _ _).trans hl_v22801) : (ic .u64 v22801).length = 25) rfl)))) (by kernel_rfl) (hS170.sub (.cons_cons _ (.cons_cons _ (.cons_cons _ (.cons_cons _ (.slnil)))))) (fun a177 hF177 => ?_)
    refine al_run (fun _ _ _ _ _ h => h) 4 [16, 17] rfl [9, 13, 15, 21, 25] [(9, i6 (IntKind.i64.wrap (v22802.tdiv 8))), (13, .int .u64 (rd v22801 ((IntKind.i64.wrap (v22802.tdiv 8)).toNat))), (15, .int .u64 31), (21, i6 (IntKind.i64.wrap (8 * (v22802.tmod 8)))), (25, pp b38 1)] hF177 (by kernel_rfl) (fun _ => hS170) (fun a178 hF178 => ?_)
    obtain ⟨hg179, h⟩ := gd_ok h
    refine al_any (i := 18) rfl (by kernel_rfl) (fun _ _ _ _ h => h) hF178 (by kernel_rfl) (v := .int .u64 (ishl .u64 31 (IntKind.i64.wrap (8 * (v22802.tmod 8))))) (fun _ => run_shift rfl (.inl rfl) (k := .u64) (yk := .i64) (p := 31) (q := (IntKind.i64.wrap (8 * (v22802.tmod 8)))) hF178.e hF178.e (of_decide_eq_true hg179)) (by kernel_rfl) (fun _ => hS170) (fun a180 hF180 => ?_)
    refine al_run (fun _ _ _ _ _ h => h) 2 [19] rfl [9, 23, 25] [(9, i6 (IntKind.i64.wrap (v22802.tdiv 8))), (23, .int .u64 (ixor .u64 (rd v22801 ((IntKind.i64.wrap (v22802.tdiv 8)).toNat)) (ishl .u64 31 (IntKind.i64.wrap (8 * (v22802.tmod 8)))))), (25, pp b38 1)] hF180 (by kernel_rfl) (fun _ => hS170) (fun a181 hF181 => ?_)
    refine al_any (i := 22) rfl (by kernel_rfl) (fun _ _ _ _ h => h) hF181 (by kernel_rfl) (v := pp b38 (1 + (IntKind.i64.wrap (v22802.tdiv 8)).toNat)) (fun _ => run_indexA rfl (b := b38) (off := 1) hF181.e (k := .i64) (i := (IntKind.i64.wrap (v22802.tdiv 8))) hF181.e (len := 25) (E := 71) (by kernel_rfl) (s := 1) (by kernel_rfl) (inb_ok hg174) (r := 1 + (IntKind.i64.wrap (v22802.tdiv 8)).toNat) (by simp only [Nat.zero_add, Nat.mul_one])) (by kernel_rfl) (fun _ => hS170) (fun a182 hF182 => ?_)
    refine al_one (i := 23) rfl (by kernel_rfl) hF182 (by kernel_rfl) (wp_store1 hF182 hS170 rfl 0 rfl (off := 1 + (IntKind.i64.wrap (v22802.tdiv 8)).toNat) (v := .int .u64 (ixor .u64 (rd v22801 ((IntKind.i64.wrap (v22802.tdiv 8)).toNat)) (ishl .u64 31 (IntKind.i64.wrap (8 * (v22802.tmod 8)))))) (by kernel_rfl) rfl rfl (.r (p := 1) (j := (IntKind.i64.wrap (v22802.tdiv 8)).toNat) (len_is ([Value.bool true] : List Value) (n := 1) rfl) rfl (.l (.ic (lt_len (inb_nat hg174) hl_v22801)))) (L' := [.blk b38 ([Value.bool true] ++ (ic .u64 (v22801.set ((IntKind.i64.wrap (v22802.tdiv 8)).toNat) (ixor .u64 (rd v22801 ((IntKind.i64.wrap (v22802.tdiv 8)).toNat)) (ishl .u64 31 (IntKind.i64.wrap (8 * (v22802.tmod 8)))))) ++ ([i6 136, i6 v22802, i6 0]))) 104, .ro o16 2 k17 ([Value.slice o10 v3.length k12, Value.slice o13 v7.length k15]), .ro o10 v3.length k12 (ic .u8 v3), .ro o13 v7.length k15 (ic .u8 v7)]) rfl (fun w183 a184 hS184 hF184 => (And.intro (late_yes (by kernel_rfl)) ?_)))
    refine al_done (by kernel_rfl) ?_ _
    refine NoPanic.normal (end_ok hF184 [] trivial (inl_ret ?_))
    refine go_fr (hF168.next (.tuple #[]) [0] (M := [(0, pp b38 1)]) (by kernel_rfl)) (fun a185 hF185 => ?_)
    obtain ⟨v22880, hv_v22880, h⟩ := nm_ok h
    have hl_v22880 : v22880.length = 25 := (congrArg List.length hv_v22880).trans (len_is ((v22801.set ((IntKind.i64.wrap (v22802.tdiv 8)).toNat) (ixor .u64 (rd v22801 ((IntKind.i64.wrap (v22802.tdiv 8)).toNat)) (ishl .u64 31 (IntKind.i64.wrap (8 * (v22802.tmod 8))))))) (n := 25) (List.length_set.trans hl_v22801))
    have hS186 := St.eqv (M := [.blk b38 ([Value.bool true] ++ (ic .u64 v22880 ++ ([i6 136, i6 v22802, i6 0]))) 104, .ro o16 2 k17 ([Value.slice o10 v3.length k12, Value.slice o13 v7.length k15]), .ro o10 v3.length k12 (ic .u8 v3), .ro o13 v7.length k15 (ic .u8 v7)]) hS184 (by rw [hv_v22880])
    refine wpList_nil (then_n (wp_seq (wp_region_lit ?_)))
    refine wplp 4 [0, 57, 60] [(0, pp b38 1), (57, pp b38 1), (60, pp b38 26)] hF185 (fun a187 hF187 => ?_)
    refine wpl_val hF187 (by kernel_rfl) (v := i6 136) (run_load1 rfl (b := b38) (off := 26) hF187.e (by kernel_rfl) (hS186.at 0 rfl (26) (seg_r (p := 1) (j := 25) (len_is ([Value.bool true] : List Value) (n := 1) rfl) (seg_r (p := 25) (j := 0) (((ic_len _ _).trans hl_v22880) : (ic .u64 v22880).length = 25) rfl)))) (by kernel_rfl) (fun a188 hF188 => ?_)
    refine wplp 3 [0, 62, 64] [(0, pp b38 1), (62, i6 135), (64, pp b38 27)] hF188 (fun a189 hF189 => ?_)
    refine wpl_one hF189 (by kernel_rfl) (wp_store1 hF189 hS186 rfl 0 rfl (off := 27) (v := i6 135) (by kernel_rfl) rfl rfl (.r (p := 1) (j := 26) (len_is ([Value.bool true] : List Value) (n := 1) rfl) rfl (.r (p := 25) (j := 1) (((ic_len _ _).trans hl_v22880) : (ic .u64 v22880).length = 25) rfl (.lit (Nat.le_of_ble_eq_true rfl) rfl))) (L' := [.blk b38 ([Value.bool true] ++ (ic .u64 v22880 ++ ([i6 136, i6 135, i6 0]))) 104, .ro o16 2 k17 ([Value.slice o10 v3.length k12, Value.slice o13 v7.length k15]), .ro o10 v3.length k12 (ic .u8 v3), .ro o13 v7.length k15 (ic .u8 v7)]) rfl (fun w190 a191 hS191 hF191 => (wpList_nil (then_n (wp_seq (wp_region_lit ?_))))))
    refine wplp 1 [0, 65] [(0, pp b38 1), (65, pp b38 1)] hF191 (fun a192 hF192 => ?_)
    refine wpl_one hF192 (by kernel_rfl) (wp_inl hF192 (by kernel_rfl) (g := 60) (args := #[pp b38 1, .int .u8 128]) (by kernel_rfl) (calls_of_wp Try.func60 rfl ?_))
    refine go_fr (Fr.start (#[pp b38 1, .int .u8 128] : Array Value) 25 27 [(0, pp b38 1), (1, .int .u8 128)] rfl (by kernel_rfl)) (fun a193 hF193 => (wp_region_noPanic (region_al [23] (fun w' => St w w' [.blk b38 ([Value.bool true] ++ (ic .u64 v22880 ++ ([i6 136, i6 135, i6 0]))) 104, .ro o16 2 k17 ([Value.slice o10 v3.length k12, Value.slice o13 v7.length k15]), .ro o10 v3.length k12 (ic .u8 v3), .ro o13 v7.length k15 (ic .u8 v7)]) 24 rfl (by kernel_rfl) ?_)))
    have hS194 := St.draw1 hS191
    refine al_run (fun _ _ _ _ _ h => h) 11 [0, 1, 2, 3, 6, 7, 10, 11, 12, 13, 14, 20, 21] rfl [7, 11, 15, 18, 25] [(7, pp b38 27), (11, pp b38 1), (15, .int .u64 128), (18, pp b38 27), (25, pp b38 1)] hF193 (by kernel_rfl) (fun _ => hS194) (fun a195 hF195 => ?_)
    refine al_val (i := 4) rfl (by kernel_rfl) (fun _ _ _ _ h => h) hF195 (by kernel_rfl) (v := i6 135) (fun _ HS => run_load1 rfl (b := b38) (off := 27) hF195.e (by kernel_rfl) (HS.at 0 rfl (27) (seg_r (p := 1) (j := 26) (len_is ([Value.bool true] : List Value) (n := 1) rfl) (seg_r (p := 25) (j := 1) (((ic_len _ _).trans hl_v22880) : (ic .u64 v22880).length = 25) rfl)))) (by kernel_rfl) (hS194.sub (.cons_cons _ (.cons_cons _ (.cons_cons _ (.cons_cons _ (.slnil)))))) (fun a196 hF196 => ?_)
    refine al_run (fun _ _ _ _ _ h => h) 9 [5] rfl [9, 11, 15, 18, 25] [(9, i6 16), (11, pp b38 1), (15, .int .u64 128), (18, pp b38 27), (25, pp b38 1)] hF196 (by kernel_rfl) (fun _ => hS194) (fun a197 hF197 => ?_)
    refine al_any (i := 8) rfl (by kernel_rfl) (fun _ _ _ _ h => h) hF197 (by kernel_rfl) (v := pp b38 17) (fun _ => run_indexA rfl (b := b38) (off := 1) hF197.e (k := .i64) (i := 16) hF197.e (len := 25) (E := 71) (by kernel_rfl) (s := 1) (by kernel_rfl) (by decide) (r := 17) rfl) (by kernel_rfl) (fun _ => hS194) (fun a198 hF198 => ?_)
    refine al_val (i := 9) rfl (by kernel_rfl) (fun _ _ _ _ h => h) hF198 (by kernel_rfl) (v := .int .u64 (rd v22880 16)) (fun _ HS => run_load1 rfl (b := b38) (off := 17) hF198.e (by kernel_rfl) (HS.at 0 rfl (17) (seg_r (p := 1) (j := 16) (len_is ([Value.bool true] : List Value) (n := 1) rfl) (seg_l (ic_get (lt_len (by decide : 16 < 25) hl_v22880)))))) (by kernel_rfl) (hS194.sub (.cons_cons _ (.cons_cons _ (.cons_cons _ (.cons_cons _ (.slnil)))))) (fun a199 hF199 => ?_)
    refine al_val (i := 15) rfl (by kernel_rfl) (fun _ _ _ _ h => h) hF199 (by kernel_rfl) (v := i6 135) (fun _ HS => run_load1 rfl (b := b38) (off := 27) hF199.e (by kernel_rfl) (HS.at 0 rfl (27) (seg_r (p := 1) (j := 26) (len_is ([Value.bool true] : List Value) (n := 1) rfl) (seg_r (p := 25) (j := 1) (((ic_len _ _).trans hl_v22880) : (ic .u64 v22880).length = 25) rfl)))) (by kernel_rfl) (hS194.sub (.cons_cons _ (.cons_cons _ (.cons_cons _ (.cons_cons _ (.slnil)))))) (fun a200 hF200 => ?_)
    refine al_run (fun _ _ _ _ _ h => h) 2 [16, 17, 18, 19] rfl [9, 23, 25] [(9, i6 16), (23, .int .u64 (ixor .u64 (rd v22880 16) 9223372036854775808)), (25, pp b38 1)] hF200 (by kernel_rfl) (fun _ => hS194) (fun a201 hF201 => ?_)
    refine al_any (i := 22) rfl (by kernel_rfl) (fun _ _ _ _ h => h) hF201 (by kernel_rfl) (v := pp b38 17) (fun _ => run_indexA rfl (b := b38) (off := 1) hF201.e (k := .i64) (i := 16) hF201.e (len := 25) (E := 71) (by kernel_rfl) (s := 1) (by kernel_rfl) (by decide) (r := 17) rfl) (by kernel_rfl) (fun _ => hS194) (fun a202 hF202 => ?_)
    refine al_one (i := 23) rfl (by kernel_rfl) hF202 (by kernel_rfl) (wp_store1 hF202 hS194 rfl 0 rfl (off := 17) (v := .int .u64 (ixor .u64 (rd v22880 16) 9223372036854775808)) (by kernel_rfl) rfl rfl (.r (p := 1) (j := 16) (len_is ([Value.bool true] : List Value) (n := 1) rfl) rfl (.l (.ic (lt_len (by decide : 16 < 25) hl_v22880)))) (L' := [.blk b38 ([Value.bool true] ++ (ic .u64 (v22880.set 16 (ixor .u64 (rd v22880 16) 9223372036854775808)) ++ ([i6 136, i6 135, i6 0]))) 104, .ro o16 2 k17 ([Value.slice o10 v3.length k12, Value.slice o13 v7.length k15]), .ro o10 v3.length k12 (ic .u8 v3), .ro o13 v7.length k15 (ic .u8 v7)]) rfl (fun w203 a204 hS204 hF204 => (And.intro (late_yes (by kernel_rfl)) ?_)))
    refine al_done (by kernel_rfl) ?_ _
    refine NoPanic.normal (end_ok hF204 [] trivial (inl_ret ?_))
    refine go_fr (hF192.next (.tuple #[]) [0] (M := [(0, pp b38 1)]) (by kernel_rfl)) (fun a205 hF205 => ?_)
    obtain ⟨v22901, hv_v22901, h⟩ := nm_ok h
    have hl_v22901 : v22901.length = 25 := (congrArg List.length hv_v22901).trans (len_is ((v22880.set 16 (ixor .u64 (rd v22880 16) 9223372036854775808))) (n := 25) (List.length_set.trans hl_v22880))
    have hS206 := St.eqv (M := [.blk b38 ([Value.bool true] ++ (ic .u64 v22901 ++ ([i6 136, i6 135, i6 0]))) 104, .ro o16 2 k17 ([Value.slice o10 v3.length k12, Value.slice o13 v7.length k15]), .ro o10 v3.length k12 (ic .u8 v3), .ro o13 v7.length k15 (ic .u8 v7)]) hS204 (by rw [hv_v22901])
    refine wpList_nil (then_n (wp_region_lit ?_))
    refine wplp 5 [67, 68, 71] [(67, pp b38 1), (68, pp b38 1), (71, pp b38 1)] hF205 (fun a207 hF207 => ?_)
    refine wpl_val hF207 (by kernel_rfl) (v := .agg (ic .u64 v22901).toArray) (run_loadR rfl (b := b38) (off := 1) hF207.e (by kernel_rfl) (k := 25) (by kernel_rfl) (((ic_len _ _).trans hl_v22901) : (ic .u64 v22901).length = 25) (range_l (range_r (hS206.all 0 rfl) (len_is ([Value.bool true] : List Value) (n := 1) rfl) rfl))) (by kernel_rfl) (fun a208 hF208 => ?_)
    obtain ⟨v22905, hb209, h⟩ := bind_ok h
    refine wpl_one hF208 (by kernel_rfl) (wp_callR hF208 (by kernel_rfl) (g := 61) (args := #[.agg (ic .u64 v22901).toArray]) (by kernel_rfl) (i_keccak_Permute_ok v22901 hl_v22901 v22905 hb209) (fun vr w210 hp => ?_))
    obtain ⟨rfl, hS211, hl_v22905⟩ := hp
    replace hS211 := St.call hS206 hS211 rfl
    refine go_fr (hF208.next (.agg (ic .u64 v22905).toArray) [67, 68, 73] (M := [(67, pp b38 1), (68, pp b38 1), (73, .agg (ic .u64 v22905).toArray)]) (by kernel_rfl)) (fun a211 hF211 => ?_)
    refine wplp 2 [68, 73, 75] [(68, pp b38 1), (73, .agg (ic .u64 v22905).toArray), (75, pp b38 1)] hF211 (fun a212 hF212 => ?_)
    refine wpl_one hF212 (by kernel_rfl) (wp_store hF212 hS211 rfl 0 rfl (off := 1) (by kernel_rfl) (v := .agg (ic .u64 v22905).toArray) (by kernel_rfl) (vs := ic .u64 v22905) rfl (k := 25) (by kernel_rfl) (((ic_len _ _).trans hl_v22905) : (ic .u64 v22905).length = 25) (by have h2 := (app_len (len_is ([Value.bool true] : List Value) (n := 1) rfl) (app_len (((ic_len _ _).trans hl_v22901) : (ic .u64 v22901).length = 25) (len_is ([i6 136, i6 135, i6 0] : List Value) (n := 3) rfl))); omega) (ic_one _ _) (cs' := [Value.bool true] ++ (ic .u64 v22905 ++ ([i6 136, i6 135, i6 0]))) (upd_r2 (p := 1) (j := 0) (o := 1) (len_is ([Value.bool true] : List Value) (n := 1) rfl) rfl (upd_l (by have h2 := (((ic_len _ _).trans hl_v22901) : (ic .u64 v22901).length = 25); have h3 := ((((ic_len _ _).trans hl_v22905) : (ic .u64 v22905).length = 25) : (ic .u64 v22905).length = 25); omega) ((upd_ic _ _ _ _).trans (congrArg (ic .u64) (upd_all ((hl_v22905).trans (hl_v22901).symm)))))) (by kernel_rfl) (L' := [.blk b38 ([Value.bool true] ++ (ic .u64 v22905 ++ ([i6 136, i6 135, i6 0]))) 104, .ro o16 2 k17 ([Value.slice o10 v3.length k12, Value.slice o13 v7.length k15]), .ro o10 v3.length k12 (ic .u8 v3), .ro o13 v7.length k15 (ic .u8 v7)]) rfl (fun w213 a214 hS214 hF214 => ?_))
    refine wplp 2 [77] [(77, pp b38 27)] hF214 (fun a215 hF215 => ?_)
    refine wpl_one hF215 (by kernel_rfl) (wp_store1 hF215 hS214 rfl 0 rfl (off := 27) (v := i6 0) (by kernel_rfl) rfl rfl (.r (p := 1) (j := 26) (len_is ([Value.bool true] : List Value) (n := 1) rfl) rfl (.r (p := 25) (j := 1) (((ic_len _ _).trans hl_v22905) : (ic .u64 v22905).length = 25) rfl (.lit (Nat.le_of_ble_eq_true rfl) rfl))) (L' := [.blk b38 ([Value.bool true] ++ (ic .u64 v22905 ++ ([i6 136, i6 0, i6 0]))) 104, .ro o16 2 k17 ([Value.slice o10 v3.length k12, Value.slice o13 v7.length k15]), .ro o10 v3.length k12 (ic .u8 v3), .ro o13 v7.length k15 (ic .u8 v7)]) rfl (fun w216 a217 hS217 hF217 => (wpList_nil (end_ok hF217 [] trivial (inl_ret ?_)))))
    refine go_fr (hF42.next (.tuple #[]) [5] (M := [(5, pp b38 0)]) (by kernel_rfl)) (fun a218 hF218 => (wpList_nil (then_n (wp_seq (wp_region_lit ?_)))))
    refine wplp 2 [4] [(4, pp b38 0)] hF218 (fun a219 hF219 => (wpList_nil (then_n (wp_ret (ret_ok hF219 [pp b38 0] (⟨by kernel_rfl, trivial⟩) (inl_ret ?_))))))
    refine go_fr (hF34.next (pp b38 0) [4] (M := [(4, pp b38 0)]) (by kernel_rfl)) (fun a220 hF220 => ?_)
    refine wplp 1 [2] [(2, pp b38 0)] hF220 (fun a221 hF221 => (wpList_nil (then_n (wp_ret (ret_ok hF221 [pp b38 0] (⟨by kernel_rfl, trivial⟩) (inl_ret ?_))))))
    refine go_fr (hF31.next (pp b38 0) [1, 29] (M := [(1, i6 128), (29, pp b38 0)]) (by kernel_rfl)) (fun a222 hF222 => ?_)
    refine wplp 1 [29, 30] [(29, pp b38 0), (30, i6 128)] hF222 (fun a223 hF223 => ?_)
    refine wpl_one hF223 (by kernel_rfl) (wp_inl hF223 (by kernel_rfl) (g := 51) (args := #[pp b38 0, i6 128]) (by kernel_rfl) (calls_of_wp Try.func51 rfl ?_))
    refine go_fr (Fr.start (#[pp b38 0, i6 128] : Array Value) 29 31 [(0, pp b38 0), (1, i6 128)] rfl (by kernel_rfl)) (fun a224 hF224 => (wp_seq (wp_region_lit ?_)))
    refine wplp 2 [0, 1] [(0, pp b38 0), (1, i6 128)] hF224 (fun a225 hF225 => (wpList_nil (then_n (wp_seq (wp_seq (wp_region_lit ?_))))))
    refine wplp 1 [0, 1, 8] [(0, pp b38 0), (1, i6 128), (8, pp b38 0)] hF225 (fun a226 hF226 => ?_)
    refine wpl_one hF226 (by kernel_rfl) (wp_inl hF226 (by kernel_rfl) (g := 69) (args := #[pp b38 0]) (by kernel_rfl) (calls_of_wp Try.func69 rfl ?_))
    refine go_fr (Fr.start (#[pp b38 0] : Array Value) 11 12 [(0, pp b38 0)] rfl (by kernel_rfl)) (fun a227 hF227 => (wp_seq (wp_region_lit ?_)))
    refine wplp 1 [0] [(0, pp b38 0)] hF227 (fun a228 hF228 => (wpList_nil (then_n (wp_seq (wp_region_lit ?_)))))
    refine wplp 6 [5, 8] [(5, .bool false), (8, pp b38 0)] hF228 (fun a229 hF229 => ?_)
    refine wpl_val hF229 (by kernel_rfl) (v := .bool true) (run_load1 rfl (b := b38) (off := 0) hF229.e (by kernel_rfl) (hS217.at 0 rfl (0) (seg_l rfl))) (by kernel_rfl) (fun a230 hF230 => ?_)
    refine wplp 3 [2] [(2, .bool false)] hF230 (fun a231 hF231 => (wpList_nil (then_n (wp_ret (ret_ok hF231 [.bool false] (⟨by kernel_rfl, trivial⟩) (inl_ret ?_))))))
    refine go_fr (hF226.next (.bool false) [0, 1, 9] (M := [(0, pp b38 0), (1, i6 128), (9, .bool false)]) (by kernel_rfl)) (fun a232 hF232 => (wpList_nil (then_n (wp_cond_false hF232.e (wp_skip (then_n (wp_seq (wp_seq (wp_region_lit ?_)))))))))
    refine wplp 1 [0, 1, 10] [(0, pp b38 0), (1, i6 128), (10, i6 128)] hF232 (fun a233 hF233 => ?_)
    refine wpl_one hF233 (by kernel_rfl) (wp_inl hF233 (by kernel_rfl) (g := 49) (args := #[i6 128]) (by kernel_rfl) (calls_of_wp Try.func49 rfl ?_))
    refine go_fr (Fr.start (#[i6 128] : Array Value) 8 9 [(0, i6 128)] rfl (by kernel_rfl)) (fun a234 hF234 => (wp_seq (wp_region_lit ?_)))
    refine wplp 1 [0] [(0, i6 128)] hF234 (fun a235 hF235 => (wpList_nil (then_n (wp_seq (wp_block (wp_seq (wp_region_lit ?_)))))))
    refine wplp 3 [0, 3] [(0, i6 128), (3, .bool false)] hF235 (fun a236 hF236 => (wpList_nil (then_n (wp_cond_false hF236.e (wp_seq (wp_region_lit ?_))))))
    refine wplp 3 [6] [(6, .bool false)] hF236 (fun a237 hF237 => (wpList_nil (then_n (wp_cond_false hF237.e (wp_skip (blk_n (then_n (wp_seq (wp_region_lit ?_)))))))))
    refine wplp 1 [2] [(2, i6 0)] hF237 (fun a238 hF238 => (wpList_nil (then_n (wp_ret (ret_ok hF238 [i6 0] (⟨by kernel_rfl, trivial⟩) (inl_ret ?_))))))
    refine go_fr (hF233.next (i6 0) [0, 1, 11] (M := [(0, pp b38 0), (1, i6 128), (11, i6 0)]) (by kernel_rfl)) (fun a239 hF239 => ?_)
    refine wplp 1 [0, 1, 6] [(0, pp b38 0), (1, i6 128), (6, i6 0)] hF239 (fun a240 hF240 => (wpList_nil (then_n (wp_seq (wp_region_lit ?_)))))
    refine wplp 2 [0, 1, 6, 13] [(0, pp b38 0), (1, i6 128), (6, i6 0), (13, .bool false)] hF240 (fun a241 hF241 => (wpList_nil (then_n (wp_cond_false hF241.e (wp_skip (then_n (wp_seq (wp_region_lit ?_))))))))
    refine wplp 1 [0, 1, 15] [(0, pp b38 0), (1, i6 128), (15, i6 128)] hF241 (fun a242 hF242 => ?_)
    refine wpl_one hF242 (by kernel_rfl) (wp_make hF242 hS217 rfl (E := 5) (by kernel_rfl) (by_ := 1) (z := .int .u8 0) (by kernel_rfl) (by kernel_rfl) rfl (k1 := .i64) (k2 := .i64) (i := 128) (by kernel_rfl) (by kernel_rfl) (by decide) (by decide) (m := 128) rfl (cs := ic .u8 (rz 128)) (ic_rep _ _ _) (by kernel_rfl) (fun b243 w244 a245 hS245 hF245 => ?_))
    refine wplp 1 [0, 1, 7] [(0, pp b38 0), (1, i6 128), (7, .slice (some ⟨b243, 0, none⟩) 128 128)] hF245 (fun a246 hF246 => (wpList_nil (then_n (wp_seq (wp_region_lit ?_)))))
    refine wplp 4 [0, 1, 7, 19, 20] [(0, pp b38 0), (1, i6 128), (7, .slice (some ⟨b243, 0, none⟩) 128 128), (19, pp b38 1), (20, .slice (some ⟨b243, 0, none⟩) 128 128)] hF246 (fun a247 hF247 => ?_)
    refine wpl_one hF247 (by kernel_rfl) (wp_inl hF247 (by kernel_rfl) (g := 39) (args := #[pp b38 1, .slice (some ⟨b243, 0, none⟩) 128 128]) (by kernel_rfl) (calls_of_wp Try.func39 rfl ?_))
    refine go_fr (Fr.start (#[pp b38 1, .slice (some ⟨b243, 0, none⟩) 128 128] : Array Value) 57 59 [(0, pp b38 1), (1, .slice (some ⟨b243, 0, none⟩) 128 128)] rfl (by kernel_rfl)) (fun a248 hF248 => (wp_seq (wp_region_lit ?_)))
    refine wplp 3 [0, 1, 6, 7] [(0, pp b38 1), (1, .slice (some ⟨b243, 0, none⟩) 128 128), (6, i6 128), (7, i6 0)] hF248 (fun a249 hF249 => (wpList_nil (then_n ?_)))
    obtain ⟨ev250, hl251, h⟩ := bind_ok h
    refine block_cut (fun a' w' => ∃ (v23114 : List Int) (v23115 : Int) (v23116 : List Int), ev250 = (v23114, v23115, v23116) ∧ Fr 59 [] [] a' ∧ St w w' [.blk b243 (ic .u8 v23116) 5, .blk b38 ([Value.bool true] ++ (ic .u64 v23114 ++ ([i6 136, i6 v23115, i6 0]))) 104, .ro o16 2 k17 ([Value.slice o10 v3.length k12, Value.slice o13 v7.length k15]), .ro o10 v3.length k12 (ic .u8 v3), .ro o13 v7.length k15 (ic .u8 v7)] ∧ v23114.length = 25 ∧ v23116.length = 128) ?_ ?_
    ·
     refine wp_loop_ghost (fun k a' w' => ∃ (v23110 : List Int) (v23111 : Int) (v23112 : List Int) (v23113 : Int), i_keccak_Shake_c256_c128_2_l8 k v23110 v23111 v23112 v23113 = some ev250 ∧ Fr 59 [] [(0, pp b38 1), (1, .slice (some ⟨b243, 0, none⟩) 128 128), (6, i6 128), (7, i6 v23113)] a' ∧ St w w' [.blk b243 (ic .u8 v23112) 5, .blk b38 ([Value.bool true] ++ (ic .u64 v23110 ++ ([i6 136, i6 v23111, i6 0]))) 104, .ro o16 2 k17 ([Value.slice o10 v3.length k12, Value.slice o13 v7.length k15]), .ro o10 v3.length k12 (ic .u8 v3), .ro o13 v7.length k15 (ic .u8 v7)] ∧ v23110.length = 25 ∧ v23112.length = 128) LIM ⟨v22905, 0, (rz 128), 0, hl251, Fr.pick [0, 1, 6, 7] (by kernel_rfl) hF249, hS245, hl_v22905, (len_is (rz 128) (n := 128) (List.length_replicate))⟩ ?_
     rintro k252 a252 w253 ⟨v23110, v23111, v23112, v23113, hr252, hF252, hS252, hl_v23110, hl_v23112⟩
     cases k252 with
     | zero => rw [i_keccak_Shake_c256_c128_2_l8] at hr252; cases hr252
     | succ k252 =>
      rw [i_keccak_Shake_c256_c128_2_l8] at hr252
      refine wp_seq (wp_region_lit ?_)
      refine wplp 1 [0, 1, 6, 7, 8] [(0, pp b38 1), (1, .slice (some ⟨b243, 0, none⟩) 128 128), (6, i6 128), (7, i6 v23113), (8, .bool (decide (v23113 < 128)))] hF252 (fun a254 hF254 => (wpList_nil (then_n (wp_seq ?_))))
      refine wp_cond_split (t := (decide (v23113 < 128))) hF254.e (fun ht255 => ?_) (fun ht255 => ?_)
      ·
       have h := if_t ht255 hr252
       refine wp_skip (then_n (wp_seq (wp_block (wp_seq (wp_region_lit ?_)))))
       refine wplp 2 [0, 1, 4, 6, 7] [(0, pp b38 1), (1, .slice (some ⟨b243, 0, none⟩) 128 128), (4, i6 v23113), (6, i6 128), (7, i6 v23113)] hF254 (fun a256 hF256 => (wpList_nil (then_n (wp_seq (wp_seq (wp_region_noPanic (region_al [] (fun w' => St w w' [.blk b243 (ic .u8 v23112) 5, .blk b38 ([Value.bool true] ++ (ic .u64 v23110 ++ ([i6 136, i6 v23111, i6 0]))) 104, .ro o16 2 k17 ([Value.slice o10 v3.length k12, Value.slice o13 v7.length k15]), .ro o10 v3.length k12 (ic .u8 v3), .ro o13 v7.length k15 (ic .u8 v7)]) 9 rfl (by kernel_rfl) ?_)))))))
       have hS257 := St.draw1 hS252
       refine al_run (fun _ _ _ _ _ h => h) 3 [0, 1, 2, 4, 5, 6] rfl [0, 1, 4, 6, 7, 12, 16] [(0, pp b38 1), (1, .slice (some ⟨b243, 0, none⟩) 128 128), (4, i6 v23113), (6, i6 128), (7, i6 v23113), (12, pp b38 27), (16, pp b38 26)] hF256 (by kernel_rfl) (fun _ => hS257) (fun a258 hF258 => ?_)
       refine al_val (i := 3) rfl (by kernel_rfl) (fun _ _ _ _ h => h) hF258 (by kernel_rfl) (v := i6 v23111) (fun _ HS => run_load1 rfl (b := b38) (off := 27) hF258.e (by kernel_rfl) (HS.at 1 rfl (27) (seg_r (p := 1) (j := 26) (len_is ([Value.bool true] : List Value) (n := 1) rfl) (seg_r (p := 25) (j := 1) (((ic_len _ _).trans hl_v23110) : (ic .u64 v23110).length = 25) rfl)))) (by kernel_rfl) (hS257.sub (.cons_cons _ (.cons_cons _ (.cons_cons _ (.cons_cons _ (.cons_cons _ (.slnil))))))) (fun a259 hF259 => ?_)
       refine al_val (i := 7) rfl (by kernel_rfl) (fun _ _ _ _ h => h) hF259 (by kernel_rfl) (v := i6 136) (fun _ HS => run_load1 rfl (b := b38) (off := 26) hF259.e (by kernel_rfl) (HS.at 1 rfl (26) (seg_r (p := 1) (j := 25) (len_is ([Value.bool true] : List Value) (n := 1) rfl) (seg_r (p := 25) (j := 0) (((ic_len _ _).trans hl_v23110) : (ic .u64 v23110).length = 25) rfl)))) (by kernel_rfl) (hS257.sub (.cons_cons _ (.cons_cons _ (.cons_cons _ (.cons_cons _ (.cons_cons _ (.slnil))))))) (fun a260 hF260 => ?_)
       refine al_run (fun _ _ _ _ _ h => h) 0 [8] rfl [0, 1, 4, 6, 7, 18] [(0, pp b38 1), (1, .slice (some ⟨b243, 0, none⟩) 128 128), (4, i6 v23113), (6, i6 128), (7, i6 v23113), (18, .bool (v23111 == 136))] hF260 (by kernel_rfl) (fun _ => hS257) (fun a261 hF261 => ?_)
       refine al_done (by kernel_rfl) ?_ _
       refine NoPanic.normal (then_n ?_)
       refine wp_cond_split (t := (v23111 == 136)) hF261.e (fun ht262 => ?_) (fun ht262 => ?_)
       ·
        have h := if_t ht262 h
        refine wp_region_lit ?_
        refine wplp 5 [0, 1, 4, 6, 7, 19, 20, 23] [(0, pp b38 1), (1, .slice (some ⟨b243, 0, none⟩) 128 128), (4, i6 v23113), (6, i6 128), (7, i6 v23113), (19, pp b38 1), (20, pp b38 1), (23, pp b38 1)] hF261 (fun a263 hF263 => ?_)
        refine wpl_val hF263 (by kernel_rfl) (v := .agg (ic .u64 v23110).toArray) (run_loadR rfl (b := b38) (off := 1) hF263.e (by kernel_rfl) (k := 25) (by kernel_rfl) (((ic_len _ _).trans hl_v23110) : (ic .u64 v23110).length = 25) (range_l (range_r (hS257.all 1 rfl) (len_is ([Value.bool true] : List Value) (n := 1) rfl) rfl))) (by kernel_rfl) (fun a264 hF264 => ?_)
        obtain ⟨v23132, hb265, h⟩ := bind_ok h
        refine wpl_one hF264 (by kernel_rfl) (wp_callR hF264 (by kernel_rfl) (g := 61) (args := #[.agg (ic .u64 v23110).toArray]) (by kernel_rfl) (i_keccak_Permute_ok v23110 hl_v23110 v23132 hb265) (fun vr w266 hp => ?_))
        obtain ⟨rfl, hS267, hl_v23132⟩ := hp
        replace hS267 := St.call hS257 hS267 rfl
        refine go_fr (hF264.next (.agg (ic .u64 v23132).toArray) [0, 1, 4, 6, 7, 19, 20, 25] (M := [(0, pp b38 1), (1, .slice (some ⟨b243, 0, none⟩) 128 128), (4, i6 v23113), (6, i6 128), (7, i6 v23113), (19, pp b38 1), (20, pp b38 1), (25, .agg (ic .u64 v23132).toArray)]) (by kernel_rfl)) (fun a267 hF267 => ?_)
        refine wplp 2 [0, 1, 4, 6, 7, 20, 25, 27] [(0, pp b38 1), (1, .slice (some ⟨b243, 0, none⟩) 128 128), (4, i6 v23113), (6, i6 128), (7, i6 v23113), (20, pp b38 1), (25, .agg (ic .u64 v23132).toArray), (27, pp b38 1)] hF267 (fun a268 hF268 => ?_)
        refine wpl_one hF268 (by kernel_rfl) (wp_store hF268 hS267 rfl 1 rfl (off := 1) (by kernel_rfl) (v := .agg (ic .u64 v23132).toArray) (by kernel_rfl) (vs := ic .u64 v23132) rfl (k := 25) (by kernel_rfl) (((ic_len _ _).trans hl_v23132) : (ic .u64 v23132).length = 25) (by have h2 := (app_len (len_is ([Value.bool true] : List Value) (n := 1) rfl) (app_len (((ic_len _ _).trans hl_v23110) : (ic .u64 v23110).length = 25) (len_is ([i6 136, i6 v23111, i6 0] : List Value) (n := 3) rfl))); omega) (ic_one _ _) (cs' := [Value.bool true] ++ (ic .u64 v23132 ++ ([i6 136, i6 v23111, i6 0]))) (upd_r2 (p := 1) (j := 0) (o := 1) (len_is ([Value.bool true] : List Value) (n := 1) rfl) rfl (upd_l (by have h2 := (((ic_len _ _).trans hl_v23110) : (ic .u64 v23110).length = 25); have h3 := ((((ic_len _ _).trans hl_v23132) : (ic .u64 v23132).length = 25) : (ic .u64 v23132).length = 25); omega) ((upd_ic _ _ _ _).trans (congrArg (ic .u64) (upd_all ((hl_v23132).trans (hl_v23110).symm)))))) (by kernel_rfl) (L' := [.blk b243 (ic .u8 v23112) 5, .blk b38 ([Value.bool true] ++ (ic .u64 v23132 ++ ([i6 136, i6 v23111, i6 0]))) 104, .ro o16 2 k17 ([Value.slice o10 v3.length k12, Value.slice o13 v7.length k15]), .ro o10 v3.length k12 (ic .u8 v3), .ro o13 v7.length k15 (ic .u8 v7)]) rfl (fun w269 a270 hS270 hF270 => ?_))
        refine wplp 2 [0, 1, 4, 6, 7, 29] [(0, pp b38 1), (1, .slice (some ⟨b243, 0, none⟩) 128 128), (4, i6 v23113), (6, i6 128), (7, i6 v23113), (29, pp b38 27)] hF270 (fun a271 hF271 => ?_)
        refine wpl_one hF271 (by kernel_rfl) (wp_store1 hF271 hS270 rfl 1 rfl (off := 27) (v := i6 0) (by kernel_rfl) rfl rfl (.r (p := 1) (j := 26) (len_is ([Value.bool true] : List Value) (n := 1) rfl) rfl (.r (p := 25) (j := 1) (((ic_len _ _).trans hl_v23132) : (ic .u64 v23132).length = 25) rfl (.lit (Nat.le_of_ble_eq_true rfl) rfl))) (L' := [.blk b243 (ic .u8 v23112) 5, .blk b38 ([Value.bool true] ++ (ic .u64 v23132 ++ ([i6 136, i6 0, i6 0]))) 104, .ro o16 2 k17 ([Value.slice o10 v3.length k12, Value.slice o13 v7.length k15]), .ro o10 v3.length k12 (ic .u8 v3), .ro o13 v7.length k15 (ic .u8 v7)]) rfl (fun w272 a273 hS273 hF273 => (wpList_nil (then_n (wp_seq (wp_region_noPanic (region_al [21] (fun w' => St w w' [.blk b243 (ic .u8 v23112) 5, .blk b38 ([Value.bool true] ++ (ic .u64 v23132 ++ ([i6 136, i6 0, i6 0]))) 104, .ro o16 2 k17 ([Value.slice o10 v3.length k12, Value.slice o13 v7.length k15]), .ro o10 v3.length k12 (ic .u8 v3), .ro o13 v7.length k15 (ic .u8 v7)]) 22 rfl (by kernel_rfl) ?_)))))))
        have hS274 := St.draw1 hS273
        refine al_run (fun _ _ _ _ _ h => h) 11 [0, 1, 2, 3, 4, 5, 8, 9, 12, 13, 14] rfl [0, 1, 6, 7, 30, 31, 35, 39, 44] [(0, pp b38 1), (1, .slice (some ⟨b243, 0, none⟩) 128 128), (6, i6 128), (7, i6 v23113), (30, .slice (some ⟨b243, 0, none⟩) 128 128), (31, i6 v23113), (35, pp b38 27), (39, pp b38 1), (44, pp b38 27)] hF273 (by kernel_rfl) (fun _ => hS274) (fun a275 hF275 => ?_)
        refine al_val (i := 6) rfl (by kernel_rfl) (fun _ _ _ _ h => h) hF275 (by kernel_rfl) (v := i6 0) (fun _ HS => run_load1 rfl (b := b38) (off := 27) hF275.e (by kernel_rfl) (HS.at 1 rfl (27) (seg_r (p := 1) (j := 26) (len_is ([Value.bool true] : List Value) (n := 1) rfl) (seg_r (p := 25) (j := 1) (((ic_len _ _).trans hl_v23132) : (ic .u64 v23132).length = 25) rfl)))) (by kernel_rfl) (hS274.sub (.cons_cons _ (.cons_cons _ (.cons_cons _ (.cons_cons _ (.cons_cons _ (.slnil))))))) (fun a276 hF276 => ?_)
        refine al_run (fun _ _ _ _ _ h => h) 9 [7] rfl [0, 1, 6, 7, 30, 31, 37, 39, 44] [(0, pp b38 1), (1, .slice (some ⟨b243, 0, none⟩) 128 128), (6, i6 128), (7, i6 v23113), (30, .slice (some ⟨b243, 0, none⟩) 128 128), (31, i6 v23113), (37, i6 0), (39, pp b38 1), (44, pp b38 27)] hF276 (by kernel_rfl) (fun _ => hS274) (fun a277 hF277 => ?_)
        refine al_any (i := 10) rfl (by kernel_rfl) (fun _ _ _ _ h => h) hF277 (by kernel_rfl) (v := pp b38 1) (fun _ => run_indexA rfl (b := b38) (off := 1) hF277.e (k := .i64) (i := 0) hF277.e (len := 25) (E := 71) (by kernel_rfl) (s := 1) (by kernel_rfl) (by decide) (r := 1) rfl) (by kernel_rfl) (fun _ => hS274) (fun a278 hF278 => ?_)
        refine al_val (i := 11) rfl (by kernel_rfl) (fun _ _ _ _ h => h) hF278 (by kernel_rfl) (v := .int .u64 (rd v23132 0)) (fun _ HS => run_load1 rfl (b := b38) (off := 1) hF278.e (by kernel_rfl) (HS.at 1 rfl (1) (seg_r (p := 1) (j := 0) (len_is ([Value.bool true] : List Value) (n := 1) rfl) (seg_l (ic_get (lt_len (by decide : 0 < 25) hl_v23132)))))) (by kernel_rfl) (hS274.sub (.cons_cons _ (.cons_cons _ (.cons_cons _ (.cons_cons _ (.cons_cons _ (.slnil))))))) (fun a279 hF279 => ?_)
        refine al_val (i := 15) rfl (by kernel_rfl) (fun _ _ _ _ h => h) hF279 (by kernel_rfl) (v := i6 0) (fun _ HS => run_load1 rfl (b := b38) (off := 27) hF279.e (by kernel_rfl) (HS.at 1 rfl (27) (seg_r (p := 1) (j := 26) (len_is ([Value.bool true] : List Value) (n := 1) rfl) (seg_r (p := 25) (j := 1) (((ic_len _ _).trans hl_v23132) : (ic .u64 v23132).length = 25) rfl)))) (by kernel_rfl) (hS274.sub (.cons_cons _ (.cons_cons _ (.cons_cons _ (.cons_cons _ (.cons_cons _ (.slnil))))))) (fun a280 hF280 => ?_)
        refine al_run (fun _ _ _ _ _ h => h) 2 [16, 17, 18, 19] rfl [0, 1, 6, 7, 30, 31, 49] [(0, pp b38 1), (1, .slice (some ⟨b243, 0, none⟩) 128 128), (6, i6 128), (7, i6 v23113), (30, .slice (some ⟨b243, 0, none⟩) 128 128), (31, i6 v23113), (49, .int .u8 (IntKind.u8.wrap (ishr .u64 (rd v23132 0) 0)))] hF280 (by kernel_rfl) (fun _ => hS274) (fun a281 hF281 => ?_)
        obtain ⟨hg282, h⟩ := gd_ok h
        refine al_any (i := 20) rfl (by kernel_rfl) (fun _ _ _ _ h => h) hF281 (by kernel_rfl) (v := pp b243 v23113.toNat) (fun _ => run_indexS rfl (ao := some ⟨b243, 0, none⟩) (m := 128) (c := 128) hF281.e rfl (k := .i64) (i := v23113) hF281.e (E := 5) (by kernel_rfl) (s := 1) (by kernel_rfl) (inb_ok hg282) (r := v23113.toNat) (by simp only [offOf, Option.map_some, Option.getD_some, Nat.zero_add, Nat.mul_one])) (by kernel_rfl) (fun _ => hS274) (fun a283 hF283 => ?_)
        refine al_one (i := 21) rfl (by kernel_rfl) hF283 (by kernel_rfl) (wp_store1 hF283 hS274 rfl 0 rfl (off := v23113.toNat) (v := .int .u8 (IntKind.u8.wrap (ishr .u64 (rd v23132 0) 0))) (by kernel_rfl) rfl rfl (.ic (lt_len (inb_nat hg282) hl_v23112)) (L' := [.blk b243 (ic .u8 (v23112.set v23113.toNat (IntKind.u8.wrap (ishr .u64 (rd v23132 0) 0)))) 5, .blk b38 ([Value.bool true] ++ (ic .u64 v23132 ++ ([i6 136, i6 0, i6 0]))) 104, .ro o16 2 k17 ([Value.slice o10 v3.length k12, Value.slice o13 v7.length k15]), .ro o10 v3.length k12 (ic .u8 v3), .ro o13 v7.length k15 (ic .u8 v7)]) rfl (fun w284 a285 hS285 hF285 => (And.intro (late_yes (by kernel_rfl)) ?_)))
        refine al_done (by kernel_rfl) ?_ _
        refine NoPanic.normal (then_n ?_)
        obtain ⟨v23154, hv_v23154, h⟩ := nm_ok h
        have hl_v23154 : v23154.length = 128 := (congrArg List.length hv_v23154).trans (len_is ((v23112.set v23113.toNat (IntKind.u8.wrap (ishr .u64 (rd v23132 0) 0)))) (n := 128) (List.length_set.trans hl_v23112))
        have hS286 := St.eqv (M := [.blk b243 (ic .u8 v23154) 5, .blk b38 ([Value.bool true] ++ (ic .u64 v23132 ++ ([i6 136, i6 0, i6 0]))) 104, .ro o16 2 k17 ([Value.slice o10 v3.length k12, Value.slice o13 v7.length k15]), .ro o10 v3.length k12 (ic .u8 v3), .ro o13 v7.length k15 (ic .u8 v7)]) hS285 (by rw [hv_v23154])
        refine wp_region_lit ?_
        refine wplp 3 [0, 1, 6, 7, 51, 53] [(0, pp b38 1), (1, .slice (some ⟨b243, 0, none⟩) 128 128), (6, i6 128), (7, i6 v23113), (51, pp b38 1), (53, pp b38 27)] hF285 (fun a287 hF287 => ?_)
        refine wpl_val hF287 (by kernel_rfl) (v := i6 0) (run_load1 rfl (b := b38) (off := 27) hF287.e (by kernel_rfl) (hS286.at 1 rfl (27) (seg_r (p := 1) (j := 26) (len_is ([Value.bool true] : List Value) (n := 1) rfl) (seg_r (p := 25) (j := 1) (((ic_len _ _).trans hl_v23132) : (ic .u64 v23132).length = 25) rfl)))) (by kernel_rfl) (fun a288 hF288 => ?_)
        refine wplp 3 [0, 1, 6, 7, 55, 57] [(0, pp b38 1), (1, .slice (some ⟨b243, 0, none⟩) 128 128), (6, i6 128), (7, i6 v23113), (55, i6 1), (57, pp b38 27)] hF288 (fun a289 hF289 => ?_)
        refine wpl_one hF289 (by kernel_rfl) (wp_store1 hF289 hS286 rfl 1 rfl (off := 27) (v := i6 1) (by kernel_rfl) rfl rfl (.r (p := 1) (j := 26) (len_is ([Value.bool true] : List Value) (n := 1) rfl) rfl (.r (p := 25) (j := 1) (((ic_len _ _).trans hl_v23132) : (ic .u64 v23132).length = 25) rfl (.lit (Nat.le_of_ble_eq_true rfl) rfl))) (L' := [.blk b243 (ic .u8 v23154) 5, .blk b38 ([Value.bool true] ++ (ic .u64 v23132 ++ ([i6 136, i6 1, i6 0]))) 104, .ro o16 2 k17 ([Value.slice o10 v3.length k12, Value.slice o13 v7.length k15]), .ro o10 v3.length k12 (ic .u8 v3), .ro o13 v7.length k15 (ic .u8 v7)]) rfl (fun w290 a291 hS291 hF291 => (wpList_nil (blk_n (then_n (wp_region_lit ?_))))))
        refine wplp 2 [0, 1, 6, 7] [(0, pp b38 1), (1, .slice (some ⟨b243, 0, none⟩) 128 128), (6, i6 128), (7, i6 (IntKind.i64.wrap (v23113 + 1)))] hF291 (fun a292 hF292 => (wpList_nil ?_))
        exact ⟨k252, Nat.lt_succ_self _, v23132, 1, v23154, (IntKind.i64.wrap (v23113 + 1)), h, Fr.pick [0, 1, 6, 7] (by kernel_rfl) hF292, hS291.sub (.cons_cons _ (.cons_cons _ (.cons_cons _ (.cons_cons _ (.cons_cons _ (.slnil)))))), hl_v23132, hl_v23154⟩
       ·
        have h := if_f ht262 h
        refine wp_skip (then_n (wp_seq (wp_region_noPanic (region_al [21] (fun w' => St w w' [.blk b243 (ic .u8 v23112) 5, .blk b38 ([Value.bool true] ++ (ic .u64 v23110 ++ ([i6 136, i6 v23111, i6 0]))) 104, .ro o16 2 k17 ([Value.slice o10 v3.length k12, Value.slice o13 v7.length k15]), .ro o10 v3.length k12 (ic .u8 v3), .ro o13 v7.length k15 (ic .u8 v7)]) 22 rfl (by kernel_rfl) ?_))))
        have hS293 := St.draw1 hS257
        refine al_run (fun _ _ _ _ _ h => h) 11 [0, 1, 2, 3, 4, 5, 8, 9, 12, 13, 14] rfl [0, 1, 6, 7, 30, 31, 35, 39, 44] [(0, pp b38 1), (1, .slice (some ⟨b243, 0, none⟩) 128 128), (6, i6 128), (7, i6 v23113), (30, .slice (some ⟨b243, 0, none⟩) 128 128), (31, i6 v23113), (35, pp b38 27), (39, pp b38 1), (44, pp b38 27)] hF261 (by kernel_rfl) (fun _ => hS293) (fun a294 hF294 => ?_)
        refine al_val (i := 6) rfl (by kernel_rfl) (fun _ _ _ _ h => h) hF294 (by kernel_rfl) (v := i6 v23111) (fun _ HS => run_load1 rfl (b := b38) (off := 27) hF294.e (by kernel_rfl) (HS.at 1 rfl (27) (seg_r (p := 1) (j := 26) (len_is ([Value.bool true] : List Value) (n := 1) rfl) (seg_r (p := 25) (j := 1) (((ic_len _ _).trans hl_v23110) : (ic .u64 v23110).length = 25) rfl)))) (by kernel_rfl) (hS293.sub (.cons_cons _ (.cons_cons _ (.cons_cons _ (.cons_cons _ (.cons_cons _ (.slnil))))))) (fun a295 hF295 => ?_)
        refine al_run (fun _ _ _ _ _ h => h) 9 [7] rfl [0, 1, 6, 7, 30, 31, 37, 39, 44] [(0, pp b38 1), (1, .slice (some ⟨b243, 0, none⟩) 128 128), (6, i6 128), (7, i6 v23113), (30, .slice (some ⟨b243, 0, none⟩) 128 128), (31, i6 v23113), (37, i6 (IntKind.i64.wrap (v23111.tdiv 8))), (39, pp b38 1), (44, pp b38 27)] hF295 (by kernel_rfl) (fun _ => hS293) (fun a296 hF296 => ?_)
        obtain ⟨hg297, h⟩ := gd_ok h
        refine al_any (i := 10) rfl (by kernel_rfl) (fun _ _ _ _ h => h) hF296 (by kernel_rfl) (v := pp b38 (1 + (IntKind.i64.wrap (v23111.tdiv 8)).toNat)) (fun _ => run_indexA rfl (b := b38) (off := 1) hF296.e (k := .i64) (i := (IntKind.i64.wrap (v23111.tdiv 8))) hF296.e (len := 25) (E := 71) (by kernel_rfl) (s := 1) (by kernel_rfl) (inb_ok hg297) (r := 1 + (IntKind.i64.wrap (v23111.tdiv 8)).toNat) (by simp only [Nat.zero_add, Nat.mul_one])) (by kernel_rfl) (fun _ => hS293) (fun a298 hF298 => ?_)
        refine al_val (i := 11) rfl (by kernel_rfl) (fun _ _ _ _ h => h) hF298 (by kernel_rfl) (v := .int .u64 (rd v23110 ((IntKind.i64.wrap (v23111.tdiv 8)).toNat))) (fun _ HS => run_load1 rfl (b := b38) (off := 1 + (IntKind.i64.wrap (v23111.tdiv 8)).toNat) hF298.e (by kernel_rfl) (HS.at 1 rfl (1 + (IntKind.i64.wrap (v23111.tdiv 8)).toNat) (seg_r (p := 1) (j := (IntKind.i64.wrap (v23111.tdiv 8)).toNat) (len_is ([Value.bool true] : List Value) (n := 1) rfl) (seg_l (ic_get (lt_len (inb_nat hg297) hl_v23110)))))) (by kernel_rfl) (hS293.sub (.cons_cons _ (.cons_cons _ (.cons_cons _ (.cons_cons _ (.cons_cons _ (.slnil))))))) (fun a299 hF299 => ?_)
        refine al_val (i := 15) rfl (by kernel_rfl) (fun _ _ _ _ h => h) hF299 (by kernel_rfl) (v := i6 v23111) (fun _ HS => run_load1 rfl (b := b38) (off := 27) hF299.e (by kernel_rfl) (HS.at 1 rfl (27) (seg_r (p := 1) (j := 26) (len_is ([Value.bool true] : List Value) (n := 1) rfl) (seg_r (p := 25) (j := 1) (((ic_len _ _).trans hl_v23110) : (ic .u64 v23110).length = 25) rfl)))) (by kernel_rfl) (hS293.sub (.cons_cons _ (.cons_cons _ (.cons_cons _ (.cons_cons _ (.cons_cons _ (.slnil))))))) (fun a300 hF300 => ?_)
        refine al_run (fun _ _ _ _ _ h => h) 4 [16, 17] rfl [0, 1, 6, 7, 30, 31, 41, 47] [(0, pp b38 1), (1, .slice (some ⟨b243, 0, none⟩) 128 128), (6, i6 128), (7, i6 v23113), (30, .slice (some ⟨b243, 0, none⟩) 128 128), (31, i6 v23113), (41, .int .u64 (rd v23110 ((IntKind.i64.wrap (v23111.tdiv 8)).toNat))), (47, i6 (IntKind.i64.wrap (8 * (v23111.tmod 8))))] hF300 (by kernel_rfl) (fun _ => hS293) (fun a301 hF301 => ?_)
        obtain ⟨hg302, h⟩ := gd_ok h
        refine al_any (i := 18) rfl (by kernel_rfl) (fun _ _ _ _ h => h) hF301 (by kernel_rfl) (v := .int .u64 (ishr .u64 (rd v23110 ((IntKind.i64.wrap (v23111.tdiv 8)).toNat)) (IntKind.i64.wrap (8 * (v23111.tmod 8))))) (fun _ => run_shift rfl (.inr rfl) (k := .u64) (yk := .i64) (p := (rd v23110 ((IntKind.i64.wrap (v23111.tdiv 8)).toNat))) (q := (IntKind.i64.wrap (8 * (v23111.tmod 8)))) hF301.e hF301.e (of_decide_eq_true hg302)) (by kernel_rfl) (fun _ => hS293) (fun a303 hF303 => ?_)
        refine al_run (fun _ _ _ _ _ h => h) 2 [19] rfl [0, 1, 6, 7, 30, 31, 49] [(0, pp b38 1), (1, .slice (some ⟨b243, 0, none⟩) 128 128), (6, i6 128), (7, i6 v23113), (30, .slice (some ⟨b243, 0, none⟩) 128 128), (31, i6 v23113), (49, .int .u8 (IntKind.u8.wrap (ishr .u64 (rd v23110 ((IntKind.i64.wrap (v23111.tdiv 8)).toNat)) (IntKind.i64.wrap (8 * (v23111.tmod 8))))))] hF303 (by kernel_rfl) (fun _ => hS293) (fun a304 hF304 => ?_)
        obtain ⟨hg305, h⟩ := gd_ok h
        refine al_any (i := 20) rfl (by kernel_rfl) (fun _ _ _ _ h => h) hF304 (by kernel_rfl) (v := pp b243 v23113.toNat) (fun _ => run_indexS rfl (ao := some ⟨b243, 0, none⟩) (m := 128) (c := 128) hF304.e rfl (k := .i64) (i := v23113) hF304.e (E := 5) (by kernel_rfl) (s := 1) (by kernel_rfl) (inb_ok hg305) (r := v23113.toNat) (by simp only [offOf, Option.map_some, Option.getD_some, Nat.zero_add, Nat.mul_one])) (by kernel_rfl) (fun _ => hS293) (fun a306 hF306 => ?_)
        refine al_one (i := 21) rfl (by kernel_rfl) hF306 (by kernel_rfl) (wp_store1 hF306 hS293 rfl 0 rfl (off := v23113.toNat) (v := .int .u8 (IntKind.u8.wrap (ishr .u64 (rd v23110 ((IntKind.i64.wrap (v23111.tdiv 8)).toNat)) (IntKind.i64.wrap (8 * (v23111.tmod 8)))))) (by kernel_rfl) rfl rfl (.ic (lt_len (inb_nat hg305) hl_v23112)) (L' := [.blk b243 (ic .u8 (v23112.set v23113.toNat (IntKind.u8.wrap (ishr .u64 (rd v23110 ((IntKind.i64.wrap (v23111.tdiv 8)).toNat)) (IntKind.i64.wrap (8 * (v23111.tmod 8))))))) 5, .blk b38 ([Value.bool true] ++ (ic .u64 v23110 ++ ([i6 136, i6 v23111, i6 0]))) 104, .ro o16 2 k17 ([Value.slice o10 v3.length k12, Value.slice o13 v7.length k15]), .ro o10 v3.length k12 (ic .u8 v3), .ro o13 v7.length k15 (ic .u8 v7)]) rfl (fun w307 a308 hS308 hF308 => (And.intro (late_yes (by kernel_rfl)) ?_)))
        refine al_done (by kernel_rfl) ?_ _
        refine NoPanic.normal (then_n ?_)
        obtain ⟨v23178, hv_v23178, h⟩ := nm_ok h
        have hl_v23178 : v23178.length = 128 := (congrArg List.length hv_v23178).trans (len_is ((v23112.set v23113.toNat (IntKind.u8.wrap (ishr .u64 (rd v23110 ((IntKind.i64.wrap (v23111.tdiv 8)).toNat)) (IntKind.i64.wrap (8 * (v23111.tmod 8))))))) (n := 128) (List.length_set.trans hl_v23112))
        have hS309 := St.eqv (M := [.blk b243 (ic .u8 v23178) 5, .blk b38 ([Value.bool true] ++ (ic .u64 v23110 ++ ([i6 136, i6 v23111, i6 0]))) 104, .ro o16 2 k17 ([Value.slice o10 v3.length k12, Value.slice o13 v7.length k15]), .ro o10 v3.length k12 (ic .u8 v3), .ro o13 v7.length k15 (ic .u8 v7)]) hS308 (by rw [hv_v23178])
        refine wp_region_lit ?_
        refine wplp 3 [0, 1, 6, 7, 51, 53] [(0, pp b38 1), (1, .slice (some ⟨b243, 0, none⟩) 128 128), (6, i6 128), (7, i6 v23113), (51, pp b38 1), (53, pp b38 27)] hF308 (fun a310 hF310 => ?_)
        refine wpl_val hF310 (by kernel_rfl) (v := i6 v23111) (run_load1 rfl (b := b38) (off := 27) hF310.e (by kernel_rfl) (hS309.at 1 rfl (27) (seg_r (p := 1) (j := 26) (len_is ([Value.bool true] : List Value) (n := 1) rfl) (seg_r (p := 25) (j := 1) (((ic_len _ _).trans hl_v23110) : (ic .u64 v23110).length = 25) rfl)))) (by kernel_rfl) (fun a311 hF311 => ?_)
        refine wplp 3 [0, 1, 6, 7, 55, 57] [(0, pp b38 1), (1, .slice (some ⟨b243, 0, none⟩) 128 128), (6, i6 128), (7, i6 v23113), (55, i6 (IntKind.i64.wrap (v23111 + 1))), (57, pp b38 27)] hF311 (fun a312 hF312 => ?_)
        refine wpl_one hF312 (by kernel_rfl) (wp_store1 hF312 hS309 rfl 1 rfl (off := 27) (v := i6 (IntKind.i64.wrap (v23111 + 1))) (by kernel_rfl) rfl rfl (.r (p := 1) (j := 26) (len_is ([Value.bool true] : List Value) (n := 1) rfl) rfl (.r (p := 25) (j := 1) (((ic_len _ _).trans hl_v23110) : (ic .u64 v23110).length = 25) rfl (.lit (Nat.le_of_ble_eq_true rfl) rfl))) (L' := [.blk b243 (ic .u8 v23178) 5, .blk b38 ([Value.bool true] ++ (ic .u64 v23110 ++ ([i6 136, i6 (IntKind.i64.wrap (v23111 + 1)), i6 0]))) 104, .ro o16 2 k17 ([Value.slice o10 v3.length k12, Value.slice o13 v7.length k15]), .ro o10 v3.length k12 (ic .u8 v3), .ro o13 v7.length k15 (ic .u8 v7)]) rfl (fun w313 a314 hS314 hF314 => (wpList_nil (blk_n (then_n (wp_region_lit ?_))))))
        refine wplp 2 [0, 1, 6, 7] [(0, pp b38 1), (1, .slice (some ⟨b243, 0, none⟩) 128 128), (6, i6 128), (7, i6 (IntKind.i64.wrap (v23113 + 1)))] hF314 (fun a315 hF315 => (wpList_nil ?_))
        exact ⟨k252, Nat.lt_succ_self _, v23110, (IntKind.i64.wrap (v23111 + 1)), v23178, (IntKind.i64.wrap (v23113 + 1)), h, Fr.pick [0, 1, 6, 7] (by kernel_rfl) hF315, hS314.sub (.cons_cons _ (.cons_cons _ (.cons_cons _ (.cons_cons _ (.cons_cons _ (.slnil)))))), hl_v23110, hl_v23178⟩
      ·
       have h := if_f ht255 hr252
       refine wp_exit ?_
       refine then_x (then_x (cut_x ?_))
       have hr := Option.some.inj h
       subst hr
       exact ⟨_, _, _, rfl, Fr.pick [] (by kernel_rfl) hF254, hS252.sub (.cons_cons _ (.cons_cons _ (.cons_cons _ (.cons_cons _ (.cons_cons _ (.slnil)))))), hl_v23110, hl_v23112⟩
    ·
     rintro a316 w317 ⟨v23114, v23115, v23116, rfl, hF316, hS316, hl_v23114, hl_v23116⟩
     refine end_ok hF316 [] trivial (inl_ret ?_)
     refine go_fr (hF247.next (.tuple #[]) [0, 1, 7] (M := [(0, pp b38 0), (1, i6 128), (7, .slice (some ⟨b243, 0, none⟩) 128 128)]) (by kernel_rfl)) (fun a318 hF318 => (wpList_nil (then_n (wp_seq (wp_region_lit ?_)))))
     refine wplp 3 [1, 7, 22, 24] [(1, i6 128), (7, .slice (some ⟨b243, 0, none⟩) 128 128), (22, pp b38 0), (24, pp b38 28)] hF318 (fun a319 hF319 => ?_)
     refine wpl_val hF319 (by kernel_rfl) (v := i6 0) (run_load1 rfl (b := b38) (off := 28) hF319.e (by kernel_rfl) (hS316.at 1 rfl (28) (seg_r (p := 1) (j := 27) (len_is ([Value.bool true] : List Value) (n := 1) rfl) (seg_r (p := 25) (j := 2) (((ic_len _ _).trans hl_v23114) : (ic .u64 v23114).length = 25) rfl)))) (by kernel_rfl) (fun a320 hF320 => ?_)
     refine wplp 4 [7, 27, 29] [(7, .slice (some ⟨b243, 0, none⟩) 128 128), (27, i6 128), (29, pp b38 28)] hF320 (fun a321 hF321 => ?_)
     refine wpl_one hF321 (by kernel_rfl) (wp_store1 hF321 hS316 rfl 1 rfl (off := 28) (v := i6 128) (by kernel_rfl) rfl rfl (.r (p := 1) (j := 27) (len_is ([Value.bool true] : List Value) (n := 1) rfl) rfl (.r (p := 25) (j := 2) (((ic_len _ _).trans hl_v23114) : (ic .u64 v23114).length = 25) rfl (.lit (Nat.le_of_ble_eq_true rfl) rfl))) (L' := [.blk b243 (ic .u8 v23116) 5, .blk b38 ([Value.bool true] ++ (ic .u64 v23114 ++ ([i6 136, i6 v23115, i6 128]))) 104, .ro o16 2 k17 ([Value.slice o10 v3.length k12, Value.slice o13 v7.length k15]), .ro o10 v3.length k12 (ic .u8 v3), .ro o13 v7.length k15 (ic .u8 v7)]) rfl (fun w322 a323 hS323 hF323 => (wpList_nil (then_n (wp_seq (wp_region_lit ?_))))))
     refine wplp 3 [4, 5] [(4, .slice (some ⟨b243, 0, none⟩) 128 128), (5, i6 0)] hF323 (fun a324 hF324 => (wpList_nil (then_n (wp_ret (ret_ok hF324 [.slice (some ⟨b243, 0, none⟩) 128 128, i6 0] (⟨by kernel_rfl, by kernel_rfl, trivial⟩) (inl_ret ?_))))))
     refine go_fr (hF223.next (.tuple #[.slice (some ⟨b243, 0, none⟩) 128 128, i6 0]) [31] (M := [(31, .tuple #[.slice (some ⟨b243, 0, none⟩) 128 128, i6 0])]) (by kernel_rfl)) (fun a325 hF325 => ?_)
     refine wplp 4 [6, 7] [(6, .slice (some ⟨b243, 0, none⟩) 128 128), (7, i6 0)] hF325 (fun a326 hF326 => (wpList_nil (then_n (wp_ret (ret_ok hF326 [.slice (some ⟨b243, 0, none⟩) 128 128, i6 0] (⟨by kernel_rfl, by kernel_rfl, trivial⟩) ?_)))))
     have hS327 := St.eqv (M := [.sl (some ⟨b243, 0, none⟩) 128 128 1 (ic .u8 v23116) 5, .blk b38 ([Value.bool true] ++ (ic .u64 v23114 ++ ([i6 136, i6 v23115, i6 128]))) 104, .ro o16 2 k17 ([Value.slice o10 v3.length k12, Value.slice o13 v7.length k15]), .ro o10 v3.length k12 (ic .u8 v3), .ro o13 v7.length k15 (ic .u8 v7)]) (St.toSl hS323 0 rfl (m := 128) ((ic_len _ _).trans hl_v23116) (by decide)) rfl
     have hr0 := Option.some.inj h
     obtain ⟨hq0, hr1⟩ := Prod.mk.inj hr0
     subst hq0
     subst hr1
     exact ⟨(some ⟨b243, 0, none⟩), 128, 128, (Eq.symm (hl_v23116 : (v23116).length = 128)), rfl, hS327.sub (.cons_cons _ (.cons _ (.cons _ (.cons _ (.cons _ (.slnil))))))⟩
def i_octet_Same_l1 (v1 : List Int) (v5 : List Int) : Nat → Int → Int → Option (Int)
  | 0, _, _ => none
  | k + 1, v43, v44 =>
    (if (decide (v43 < (v1.length : Int))) = true then (if inb v43 v1.length = true then (if inb v43 v5.length = true then i_octet_Same_l1 v1 v5 k (IntKind.i64.wrap (v43 + 1)) (ior .u8 v44 (ixor .u8 (rd v1 v43.toNat) (rd v5 v43.toNat))) else none) else none) else some (v44))
def i_octet_Same (v1 : List Int) (v5 : List Int) : Option (Bool) :=
  (if ((v1.length : Int) != (v5.length : Int)) = true then some false else ((i_octet_Same_l1 v1 v5 LIM 0 0).bind fun v45 => some (v45 == 0)))
theorem i_octet_Same_ok (v1 : List Int) (v5 : List Int) {w : World} {o10 : Option Addr} {n11 k12 : Nat} {o13 : Option Addr} {n14 k15 : Nat} (hn_n11 : v1.length = n11) (hrd_o10 : Rd w o10 n11 k12 (ic .u8 v1)) (hn_n14 : v5.length = n14) (hrd_o13 : Rd w o13 n14 k15 (ic .u8 v5)) (c0 : Bool) (h : i_octet_Same v1 v5 = some c0) : Calls Try.prog 22 #[.slice o10 n11 k12, .slice o13 n14 k15] w (Ret (fun v w' => v = .bool c0 ∧ St w w' [])) := by
  unfold i_octet_Same at h
  refine calls_of_wp Try.func22 rfl ?_
  have hF := Fr.start (#[.slice o10 v1.length k12, .slice o13 v5.length k15] : Array Value) 29 31 [(0, .slice o10 v1.length k12), (1, .slice o13 v5.length k15)] rfl (by kernel_rfl)
  subst hn_n11
  subst hn_n14
  have hS : St w w [.ro o10 v1.length k12 (ic .u8 v1), .ro o13 v5.length k15 (ic .u8 v5)] := St.start' ⟨hrd_o10, hrd_o13, trivial⟩ rfl
  refine go_fr hF (fun a hF => (wp_seq (wp_region_lit ?_)))
  refine wplp 1 [0, 1] [(0, .slice o10 v1.length k12), (1, .slice o13 v5.length k15)] hF (fun a16 hF16 => (wpList_nil (then_n (wp_seq (wp_seq (wp_region_lit ?_))))))
  refine wplp 5 [0, 1, 11] [(0, .slice o10 v1.length k12), (1, .slice o13 v5.length k15), (11, .bool ((v1.length : Int) != (v5.length : Int)))] hF16 (fun a17 hF17 => (wpList_nil (then_n ?_)))
  refine wp_cond_split (t := ((v1.length : Int) != (v5.length : Int))) hF17.e (fun ht18 => ?_) (fun ht18 => ?_)
  ·
   have h := if_t ht18 h
   refine wp_seq (wp_region_lit ?_)
   refine wplp 1 [4] [(4, .bool false)] hF17 (fun a19 hF19 => (wpList_nil (then_n (wp_ret ?_))))
   refine then_r (ret_ok hF19 [.bool false] (⟨by kernel_rfl, trivial⟩) ?_)
   have hr0 := Option.some.inj h
   subst hr0
   exact ⟨rfl, hS.sub (List.nil_sublist _)⟩
  ·
   have h := if_f ht18 h
   refine wp_skip (then_n (wp_seq (wp_region_lit ?_)))
   refine wplp 1 [0, 1, 5] [(0, .slice o10 v1.length k12), (1, .slice o13 v5.length k15), (5, .int .u8 0)] hF17 (fun a20 hF20 => (wpList_nil (then_n (wp_seq (wp_seq (wp_region_lit ?_))))))
   refine wplp 3 [0, 1, 5, 13, 14] [(0, .slice o10 v1.length k12), (1, .slice o13 v5.length k15), (5, .int .u8 0), (13, i6 (v1.length : Int)), (14, i6 0)] hF20 (fun a21 hF21 => (wpList_nil (then_n ?_)))
   obtain ⟨ev22, hl23, h⟩ := bind_ok h
   refine block_cut (fun a' w' => ∃ (v45 : Int), v45 = ev22 ∧ Fr 31 [] [(5, .int .u8 v45)] a' ∧ St w w' [.ro o10 v1.length k12 (ic .u8 v1), .ro o13 v5.length k15 (ic .u8 v5)]) ?_ ?_
   ·
    refine wp_loop_ghost (fun k a' w' => ∃ (v43 : Int) (v44 : Int), i_octet_Same_l1 v1 v5 k v43 v44 = some ev22 ∧ Fr 31 [] [(0, .slice o10 v1.length k12), (1, .slice o13 v5.length k15), (5, .int .u8 v44), (13, i6 (v1.length : Int)), (14, i6 v43)] a' ∧ St w w' [.ro o10 v1.length k12 (ic .u8 v1), .ro o13 v5.length k15 (ic .u8 v5)]) LIM ⟨0, 0, hl23, Fr.pick [0, 1, 5, 13, 14] (by kernel_rfl) hF21, hS⟩ ?_
    rintro k24 a24 w25 ⟨v43, v44, hr24, hF24, hS24⟩
    cases k24 with
    | zero => rw [i_octet_Same_l1] at hr24; cases hr24
    | succ k24 =>
     rw [i_octet_Same_l1] at hr24
     refine wp_seq (wp_region_lit ?_)
     refine wplp 1 [0, 1, 5, 13, 14, 15] [(0, .slice o10 v1.length k12), (1, .slice o13 v5.length k15), (5, .int .u8 v44), (13, i6 (v1.length : Int)), (14, i6 v43), (15, .bool (decide (v43 < (v1.length : Int))))] hF24 (fun a26 hF26 => (wpList_nil (then_n (wp_seq ?_))))
     refine wp_cond_split (t := (decide (v43 < (v1.length : Int)))) hF26.e (fun ht27 => ?_) (fun ht27 => ?_)
     ·
      have h := if_t ht27 hr24
      refine wp_skip (then_n (wp_seq (wp_block (wp_seq (wp_region_lit ?_)))))
      refine wplp 2 [0, 1, 5, 6, 13, 14] [(0, .slice o10 v1.length k12), (1, .slice o13 v5.length k15), (5, .int .u8 v44), (6, i6 v43), (13, i6 (v1.length : Int)), (14, i6 v43)] hF26 (fun a28 hF28 => (wpList_nil (then_n (wp_region_noPanic (region_al [] (fun w' => St w w' [.ro o10 v1.length k12 (ic .u8 v1), .ro o13 v5.length k15 (ic .u8 v5)]) 12 rfl (by kernel_rfl) ?_)))))
      have hS29 := St.draw1 hS24
      refine al_run (fun _ _ _ _ _ h => h) 7 [0, 1, 2, 5, 6] rfl [0, 1, 5, 13, 14, 17, 18, 19, 22, 23] [(0, .slice o10 v1.length k12), (1, .slice o13 v5.length k15), (5, .int .u8 v44), (13, i6 (v1.length : Int)), (14, i6 v43), (17, .int .u8 v44), (18, .slice o10 v1.length k12), (19, i6 v43), (22, .slice o13 v5.length k15), (23, i6 v43)] hF28 (by kernel_rfl) (fun _ => hS29) (fun a30 hF30 => ?_)
      obtain ⟨hg31, h⟩ := gd_ok h
      refine al_any (i := 3) rfl (by kernel_rfl) (fun _ _ _ _ h => h) hF30 (by kernel_rfl) (v := pp (blkOf o10) (offOf o10 + v43.toNat)) (fun _ => run_indexS rfl (ao := o10) (m := v1.length) (c := k12) hF30.e (rd_ne hS29 0 rfl rfl (j := v43.toNat) (v := .int .u8 (rd v1 v43.toNat)) (ic_get (lt_len (inb_nat hg31) (len_is (v1) (n := v1.length) rfl)))) (k := .i64) (i := v43) hF30.e (E := 5) (by kernel_rfl) (s := 1) (by kernel_rfl) (inb_ok hg31) (r := offOf o10 + v43.toNat) (by simp only [Nat.mul_one])) (by kernel_rfl) (fun _ => hS29) (fun a32 hF32 => ?_)
      refine al_val (i := 4) rfl (by kernel_rfl) (fun _ _ _ _ h => h) hF32 (by kernel_rfl) (v := .int .u8 (rd v1 v43.toNat)) (fun _ HS => run_load1 rfl (b := blkOf o10) (off := offOf o10 + v43.toNat) hF32.e (by kernel_rfl) (HS.atA 0 rfl rfl (v43.toNat) (ic_get (lt_len (inb_nat hg31) (len_is (v1) (n := v1.length) rfl))))) (by kernel_rfl) (hS29.sub (.cons_cons _ (.cons_cons _ (.slnil)))) (fun a33 hF33 => ?_)
      obtain ⟨hg34, h⟩ := gd_ok h
      refine al_any (i := 7) rfl (by kernel_rfl) (fun _ _ _ _ h => h) hF33 (by kernel_rfl) (v := pp (blkOf o13) (offOf o13 + v43.toNat)) (fun _ => run_indexS rfl (ao := o13) (m := v5.length) (c := k15) hF33.e (rd_ne hS29 1 rfl rfl (j := v43.toNat) (v := .int .u8 (rd v5 v43.toNat)) (ic_get (lt_len (inb_nat hg34) (len_is (v5) (n := v5.length) rfl)))) (k := .i64) (i := v43) hF33.e (E := 5) (by kernel_rfl) (s := 1) (by kernel_rfl) (inb_ok hg34) (r := offOf o13 + v43.toNat) (by simp only [Nat.mul_one])) (by kernel_rfl) (fun _ => hS29) (fun a35 hF35 => ?_)
      refine al_val (i := 8) rfl (by kernel_rfl) (fun _ _ _ _ h => h) hF35 (by kernel_rfl) (v := .int .u8 (rd v5 v43.toNat)) (fun _ HS => run_load1 rfl (b := blkOf o13) (off := offOf o13 + v43.toNat) hF35.e (by kernel_rfl) (HS.atA 1 rfl rfl (v43.toNat) (ic_get (lt_len (inb_nat hg34) (len_is (v5) (n := v5.length) rfl))))) (by kernel_rfl) (hS29.sub (.cons_cons _ (.cons_cons _ (.slnil)))) (fun a36 hF36 => ?_)
      refine al_run (fun _ _ _ _ _ h => h) 0 [9, 10, 11] rfl [0, 1, 5, 13, 14] [(0, .slice o10 v1.length k12), (1, .slice o13 v5.length k15), (5, .int .u8 (ior .u8 v44 (ixor .u8 (rd v1 v43.toNat) (rd v5 v43.toNat)))), (13, i6 (v1.length : Int)), (14, i6 v43)] hF36 (by kernel_rfl) (fun _ => hS29) (fun a37 hF37 => ?_)
      refine al_done (by kernel_rfl) ?_ _
      refine NoPanic.normal (blk_n (then_n (wp_region_lit ?_)))
      refine wplp 2 [0, 1, 5, 13, 14] [(0, .slice o10 v1.length k12), (1, .slice o13 v5.length k15), (5, .int .u8 (ior .u8 v44 (ixor .u8 (rd v1 v43.toNat) (rd v5 v43.toNat)))), (13, i6 (v1.length : Int)), (14, i6 (IntKind.i64.wrap (v43 + 1)))] hF37 (fun a38 hF38 => (wpList_nil ?_))
      exact ⟨k24, Nat.lt_succ_self _, (IntKind.i64.wrap (v43 + 1)), (ior .u8 v44 (ixor .u8 (rd v1 v43.toNat) (rd v5 v43.toNat))), h, Fr.pick [0, 1, 5, 13, 14] (by kernel_rfl) hF38, hS29.sub (.cons_cons _ (.cons_cons _ (.slnil)))⟩
     ·
      have h := if_f ht27 hr24
      refine wp_exit ?_
      refine then_x (then_x (cut_x ?_))
      have hr := Option.some.inj h
      subst hr
      exact ⟨_, rfl, Fr.pick [5] (by kernel_rfl) hF26, hS24.sub (.cons_cons _ (.cons_cons _ (.slnil)))⟩
   ·
    rintro a39 w40 ⟨v45, hev, hF39, hS39⟩
    subst hev
    refine then_n (wp_seq (wp_region_lit ?_))
    refine wplp 3 [4] [(4, .bool (v45 == 0))] hF39 (fun a41 hF41 => (wpList_nil (then_n (wp_ret (ret_ok hF41 [.bool (v45 == 0)] (⟨by kernel_rfl, trivial⟩) ?_)))))
    have hr0 := Option.some.inj h
    subst hr0
    exact ⟨rfl, hS39.sub (List.nil_sublist _)⟩
def i_kem_CheckDk (v1 : List Int) : Option (Int) :=
  (if ((v1.length : Int) != 2400) = true then some 141 else (if decide (2336 ≤ v1.length) = true then ((i_keccak_Sha3256_1 (sub v1 1152 2336)).bind fun v16 => (if decide (2368 ≤ v1.length) = true then ((i_octet_Same v16 (sub v1 2336 2368)).bind fun v30 => (if (!v30) = true then some 141 else some 0)) else none)) else none))
theorem i_kem_CheckDk_ok (v1 : List Int) {w : World} {o10 : Option Addr} {n11 k12 : Nat} (hn_n11 : v1.length = n11) (hrd_o10 : Rd w o10 n11 k12 (ic .u8 v1)) (c0 : Int) (h : i_kem_CheckDk v1 = some c0) : Calls Try.prog 9 #[.slice o10 n11 k12] w (Ret (fun v w' => v = i6 c0 ∧ St w w' [])) := by
  unfold i_kem_CheckDk at h
  refine calls_of_wp Try.func9 rfl ?_
  have hF := Fr.start (#[.slice o10 v1.length k12] : Array Value) 15 16 [(0, .slice o10 v1.length k12)] rfl (by kernel_rfl)
  subst hn_n11
  have hS : St w w [.ro o10 v1.length k12 (ic .u8 v1)] := St.start' ⟨hrd_o10, trivial⟩ rfl
  refine go_fr hF (fun a hF => (wp_seq (wp_region_lit ?_)))
  refine wplp 1 [0] [(0, .slice o10 v1.length k12)] hF (fun a13 hF13 => (wpList_nil (then_n (wp_seq (wp_seq (wp_region_lit ?_))))))
  refine wplp 3 [0, 6] [(0, .slice o10 v1.length k12), (6, .bool ((v1.length : Int) != 2400))] hF13 (fun a14 hF14 => (wpList_nil (then_n ?_)))
  refine wp_cond_split (t := ((v1.length : Int) != 2400)) hF14.e (fun ht15 => ?_) (fun ht15 => ?_)
  ·
   have h := if_t ht15 h
   refine wp_seq (wp_region_lit ?_)
   refine wplp 1 [2] [(2, i6 141)] hF14 (fun a16 hF16 => (wpList_nil (then_n (wp_ret ?_))))
   refine then_r (ret_ok hF16 [i6 141] (⟨by kernel_rfl, trivial⟩) ?_)
   have hr0 := Option.some.inj h
   subst hr0
   exact ⟨rfl, hS.sub (List.nil_sublist _)⟩
  ·
   have h := if_f ht15 h
   refine wp_skip (then_n (wp_seq (wp_seq (wp_region_lit ?_))))
   refine wplp 1 [0, 7] [(0, .slice o10 v1.length k12), (7, .slice o10 v1.length k12)] hF14 (fun a17 hF17 => ?_)
   obtain ⟨hg18, h⟩ := gd_ok h
   have hS19 := St.eqv (M := [.ro (subA o10 k12 1152 1) 1184 (k12 - 1152) (ic .u8 (sub v1 1152 2336)), .ro o10 v1.length k12 (ic .u8 v1)]) (St.roSub hS 0 rfl (((ic_len _ _).trans ((len_is (v1) (n := v1.length) rfl) : (v1).length = v1.length))) (by decide : 1152 ≤ 2336) (of_decide_eq_true hg18)) (by rw [ic_sub']; try rfl)
   refine wpl_val hF17 (by kernel_rfl) (v := .slice (subA o10 k12 1152 1) 1184 (k12 - 1152)) (run_sliceS rfl (ao := o10) (m := v1.length) (c := k12) hF17.e (E := 5) (by kernel_rfl) (s := 1) (by kernel_rfl) (l := 1152) (h := 2336) (.so hF17 .i64 1152 (by kernel_rfl) rfl) (.so hF17 .i64 2336 (by kernel_rfl) rfl) (by decide : 1152 ≤ 2336) (Nat.le_trans (of_decide_eq_true hg18) (hS.rdro 0 rfl).nc)) (by kernel_rfl) (fun a20 hF20 => ?_)
   refine wpl_one hF20 (by kernel_rfl) (wp_buildSlice hF20 hS19 rfl (E := 24) (by kernel_rfl) (by kernel_rfl) (z := .slice none 0 0) (by kernel_rfl) rfl (ps := [(0, .slice (subA o10 k12 1152 1) 1184 (k12 - 1152))]) (by kernel_rfl) (by kernel_rfl) (cs := [Value.slice (subA o10 k12 1152 1) 1184 (k12 - 1152)]) (by kernel_rfl) (by decide) (by kernel_rfl) (fun b21 w22 a23 hS23 hF23 => ?_))
   obtain ⟨v16, hb24, h⟩ := bind_ok h
   refine wpl_one hF23 (by kernel_rfl) (wp_callR hF23 (by kernel_rfl) (g := 19) (args := #[.slice (some ⟨b21, 0, none⟩) 1 1]) (by kernel_rfl) (i_keccak_Sha3256_1_ok (sub v1 1152 2336) (hS23.rdW 0 rfl (Nat.le_refl _)) (len_is ((sub v1 1152 2336)) (n := 1184) (sub_len (by decide : 1152 ≤ 2336) (by have h1 := (of_decide_eq_true hg18); have h2 := ((len_is (v1) (n := v1.length) rfl) : (v1).length = v1.length); omega))) (hS23.rdro 1 rfl) v16 hb24) (fun vr w25 hp => ?_))
   obtain ⟨rfl, hS26, hl_v16⟩ := hp
   replace hS26 := St.call hS23 hS26 rfl
   refine go_fr (hF23.next (.agg (ic .u8 v16).toArray) [0, 10] (M := [(0, .slice o10 v1.length k12), (10, .agg (ic .u8 v16).toArray)]) (by kernel_rfl)) (fun a26 hF26 => ?_)
   refine wpl_one hF26 (by kernel_rfl) (wp_alloc hF26 hS26 rfl (z := .agg (ic .u8 (rz 32)).toArray) (by kernel_rfl) (ic .u8 (rz 32)) rfl (by kernel_rfl) (fun b27 w28 a29 hS29 hF29 => ?_))
   refine wpl_one hF29 (by kernel_rfl) (wp_store hF29 hS29 rfl 0 rfl (off := 0) (by kernel_rfl) (v := .agg (ic .u8 v16).toArray) (by kernel_rfl) (vs := ic .u8 v16) rfl (k := 32) (by kernel_rfl) (((ic_len _ _).trans hl_v16) : (ic .u8 v16).length = 32) (by have h2 := (((ic_len _ _).trans (len_is (rz 32) (n := 32) (List.length_replicate))) : (ic .u8 (rz 32)).length = 32); omega) (ic_one _ _) (cs' := ic .u8 v16) ((upd_ic _ _ _ _).trans (congrArg (ic .u8) (upd_all ((hl_v16).trans ((len_is (rz 32) (n := 32) (List.length_replicate))).symm)))) (by kernel_rfl) (L' := [.blk b27 (ic .u8 v16) 22, .blk b21 ([Value.slice (subA o10 k12 1152 1) 1184 (k12 - 1152)]) 24, .ro (subA o10 k12 1152 1) 1184 (k12 - 1152) (ic .u8 (sub v1 1152 2336)), .ro o10 v1.length k12 (ic .u8 v1)]) rfl (fun w30 a31 hS31 hF31 => (wpList_nil (then_n (wp_seq (wp_region_noPanic (region_al [] (fun w' => St w w' [.blk b27 (ic .u8 v16) 22, .blk b21 ([Value.slice (subA o10 k12 1152 1) 1184 (k12 - 1152)]) 24, .ro (subA o10 k12 1152 1) 1184 (k12 - 1152) (ic .u8 (sub v1 1152 2336)), .ro o10 v1.length k12 (ic .u8 v1)]) 5 rfl (by kernel_rfl) ?_)))))))
   have hS32 := St.draw1 hS31
   refine al_run (fun _ _ _ _ _ h => h) 3 [0, 1] rfl [11, 12] [(11, .slice (some ⟨b27, 0, none⟩) 32 32), (12, .slice o10 v1.length k12)] hF31 (by kernel_rfl) (fun _ => hS32) (fun a33 hF33 => ?_)
   obtain ⟨hg34, h⟩ := gd_ok h
   have hS35 := St.eqv (M := [.ro (subA o10 k12 2336 1) 32 (k12 - 2336) (ic .u8 (sub v1 2336 2368)), .blk b27 (ic .u8 v16) 22, .blk b21 ([Value.slice (subA o10 k12 1152 1) 1184 (k12 - 1152)]) 24, .ro (subA o10 k12 1152 1) 1184 (k12 - 1152) (ic .u8 (sub v1 1152 2336)), .ro o10 v1.length k12 (ic .u8 v1)]) (St.roSub hS32 3 rfl (((ic_len _ _).trans ((len_is (v1) (n := v1.length) rfl) : (v1).length = v1.length))) (by decide : 2336 ≤ 2368) (of_decide_eq_true hg34)) (by rw [ic_sub']; try rfl)
   refine al_any (i := 2) rfl (by kernel_rfl) (fun _ _ _ _ h => h) hF33 (by kernel_rfl) (v := .slice (subA o10 k12 2336 1) 32 (k12 - 2336)) (fun _ => run_sliceS rfl (ao := o10) (m := v1.length) (c := k12) hF33.e (E := 5) (by kernel_rfl) (s := 1) (by kernel_rfl) (l := 2336) (h := 2368) (.so hF33 .i64 2336 (by kernel_rfl) rfl) (.so hF33 .i64 2368 (by kernel_rfl) rfl) (by decide : 2336 ≤ 2368) (Nat.le_trans (of_decide_eq_true hg34) (hS32.rdro 3 rfl).nc)) (by kernel_rfl) (fun _ => hS35.sub (.cons _ (.cons_cons _ (.cons_cons _ (.cons_cons _ (.cons_cons _ (.slnil))))))) (fun a36 hF36 => ?_)
   obtain ⟨v30, hb37, h⟩ := bind_ok h
   refine al_one (i := 3) rfl (by kernel_rfl) hF36 (by kernel_rfl) (wp_callR hF36 (by kernel_rfl) (g := 22) (args := #[.slice (some ⟨b27, 0, none⟩) 32 32, .slice (subA o10 k12 2336 1) 32 (k12 - 2336)]) (by kernel_rfl) (i_octet_Same_ok v16 (sub v1 2336 2368) hl_v16 (hS35.rdW 1 rfl (Nat.le_refl _)) (len_is ((sub v1 2336 2368)) (n := 32) (sub_len (by decide : 2336 ≤ 2368) (by have h1 := (of_decide_eq_true hg34); have h2 := ((len_is (v1) (n := v1.length) rfl) : (v1).length = v1.length); omega))) (hS35.rdro 0 rfl) v30 hb37) (fun vr w38 hp => ?_))
   obtain ⟨rfl, hS39⟩ := hp
   replace hS39 := St.call hS35 hS39 rfl
   refine And.intro (fun _ => hS39.sub (.cons _ (.cons_cons _ (.cons_cons _ (.cons_cons _ (.cons_cons _ (.slnil))))))) ?_
   refine go_fr (hF36.next (.bool v30) [14] (M := [(14, .bool v30)]) (by kernel_rfl)) (fun a39 hF39 => ?_)
   refine al_run (fun _ _ _ _ _ h => h) 0 [4] rfl [15] [(15, .bool (!v30))] hF39 (by kernel_rfl) (fun _ => hS39.sub (.cons _ (.cons_cons _ (.cons_cons _ (.cons_cons _ (.cons_cons _ (.slnil))))))) (fun a40 hF40 => ?_)
   refine al_done (by kernel_rfl) ?_ _
   refine NoPanic.normal (then_n ?_)
   refine wp_cond_split (t := (!v30)) hF40.e (fun ht41 => ?_) (fun ht41 => ?_)
   ·
    have h := if_t ht41 h
    refine wp_seq (wp_region_lit ?_)
    refine wplp 1 [2] [(2, i6 141)] hF40 (fun a42 hF42 => (wpList_nil (then_n (wp_ret ?_))))
    refine then_r (ret_ok hF42 [i6 141] (⟨by kernel_rfl, trivial⟩) ?_)
    have hr0 := Option.some.inj h
    subst hr0
    exact ⟨rfl, hS39.sub (List.nil_sublist _)⟩
   ·
    have h := if_f ht41 h
    refine wp_skip (then_n (wp_seq (wp_region_lit ?_)))
    refine wplp 1 [2] [(2, i6 0)] hF40 (fun a43 hF43 => (wpList_nil (then_n (wp_ret (ret_ok hF43 [i6 0] (⟨by kernel_rfl, trivial⟩) ?_)))))
    have hr0 := Option.some.inj h
    subst hr0
    exact ⟨rfl, hS39.sub (List.nil_sublist _)⟩
def i_ring_Canon (v1 : List Int) : Option (Bool) :=
  (if ((v1.length : Int) != 384) = true then some false else ((i_ring_raw 12 v1).bind fun v10 => ((i_ring_Reduce v10).bind fun v22 => some (v10 == v22))))
theorem i_ring_Canon_ok (v1 : List Int) {w : World} {o10 : Option Addr} {n11 k12 : Nat} (hn_n11 : v1.length = n11) (hrd_o10 : Rd w o10 n11 k12 (ic .u8 v1)) (c0 : Bool) (h : i_ring_Canon v1 = some c0) : Calls Try.prog 21 #[.slice o10 n11 k12] w (Ret (fun v w' => v = .bool c0 ∧ St w w' [])) := by
  unfold i_ring_Canon at h
  refine calls_of_wp Try.func21 rfl ?_
  have hF := Fr.start (#[.slice o10 v1.length k12] : Array Value) 12 13 [(0, .slice o10 v1.length k12)] rfl (by kernel_rfl)
  subst hn_n11
  have hS : St w w [.ro o10 v1.length k12 (ic .u8 v1)] := St.start' ⟨hrd_o10, trivial⟩ rfl
  refine go_fr hF (fun a hF => (wp_seq (wp_region_lit ?_)))
  refine wplp 1 [0] [(0, .slice o10 v1.length k12)] hF (fun a13 hF13 => (wpList_nil (then_n (wp_seq (wp_seq (wp_region_lit ?_))))))
  refine wplp 3 [0, 6] [(0, .slice o10 v1.length k12), (6, .bool ((v1.length : Int) != 384))] hF13 (fun a14 hF14 => (wpList_nil (then_n ?_)))
  refine wp_cond_split (t := ((v1.length : Int) != 384)) hF14.e (fun ht15 => ?_) (fun ht15 => ?_)
  ·
   have h := if_t ht15 h
   refine wp_seq (wp_region_lit ?_)
   refine wplp 1 [2] [(2, .bool false)] hF14 (fun a16 hF16 => (wpList_nil (then_n (wp_ret ?_))))
   refine then_r (ret_ok hF16 [.bool false] (⟨by kernel_rfl, trivial⟩) ?_)
   have hr0 := Option.some.inj h
   subst hr0
   exact ⟨rfl, hS.sub (List.nil_sublist _)⟩
  ·
   have h := if_f ht15 h
   refine wp_skip (then_n (wp_seq (wp_region_lit ?_)))
   refine wplp 1 [7] [(7, .slice o10 v1.length k12)] hF14 (fun a17 hF17 => ?_)
   obtain ⟨v10, hb18, h⟩ := bind_ok h
   refine wpl_one hF17 (by kernel_rfl) (wp_callR hF17 (by kernel_rfl) (g := 40) (args := #[i6 12, .slice o10 v1.length k12]) (by kernel_rfl) (i_ring_raw_ok 12 v1 (len_is (v1) (n := v1.length) rfl) (hS.rdro 0 rfl) v10 hb18) (fun vr w19 hp => ?_))
   obtain ⟨rfl, hS20, hl_v10⟩ := hp
   replace hS20 := St.call hS hS20 rfl
   refine go_fr (hF17.next (.agg (ic .u16 v10).toArray) [8] (M := [(8, .agg (ic .u16 v10).toArray)]) (by kernel_rfl)) (fun a20 hF20 => ?_)
   refine wpl_one hF20 (by kernel_rfl) (wp_alloc hF20 hS20 rfl (z := .agg (ic .u16 (rz 256)).toArray) (by kernel_rfl) (ic .u16 (rz 256)) rfl (by kernel_rfl) (fun b21 w22 a23 hS23 hF23 => ?_))
   refine wpl_one hF23 (by kernel_rfl) (wp_store hF23 hS23 rfl 0 rfl (off := 0) (by kernel_rfl) (v := .agg (ic .u16 v10).toArray) (by kernel_rfl) (vs := ic .u16 v10) rfl (k := 256) (by kernel_rfl) (((ic_len _ _).trans hl_v10) : (ic .u16 v10).length = 256) (by have h2 := (((ic_len _ _).trans (len_is (rz 256) (n := 256) (List.length_replicate))) : (ic .u16 (rz 256)).length = 256); omega) (ic_one _ _) (cs' := ic .u16 v10) ((upd_ic _ _ _ _).trans (congrArg (ic .u16) (upd_all ((hl_v10).trans ((len_is (rz 256) (n := 256) (List.length_replicate))).symm)))) (by kernel_rfl) (L' := [.blk b21 (ic .u16 v10) 61, .ro o10 v1.length k12 (ic .u8 v1)]) rfl (fun w24 a25 hS25 hF25 => (wpList_nil (then_n (wp_seq (wp_region_noPanic (region_al [] (fun w' => St w w' [.blk b21 (ic .u16 v10) 61, .ro o10 v1.length k12 (ic .u8 v1)]) 5 rfl (by kernel_rfl) ?_)))))))
   have hS26 := St.draw1 hS25
   refine al_val (i := 0) rfl (by kernel_rfl) (fun _ _ _ _ h => h) hF25 (by kernel_rfl) (v := .agg (ic .u16 v10).toArray) (fun _ HS => run_loadR rfl (b := b21) (off := 0) hF25.e (by kernel_rfl) (k := 256) (by kernel_rfl) (((ic_len _ _).trans hl_v10) : (ic .u16 v10).length = 256) (HS.all 0 rfl)) (by kernel_rfl) (hS26.sub (.cons_cons _ (.cons_cons _ (.slnil)))) (fun a27 hF27 => ?_)
   refine al_val (i := 1) rfl (by kernel_rfl) (fun _ _ _ _ h => h) hF27 (by kernel_rfl) (v := .agg (ic .u16 v10).toArray) (fun _ HS => run_loadR rfl (b := b21) (off := 0) hF27.e (by kernel_rfl) (k := 256) (by kernel_rfl) (((ic_len _ _).trans hl_v10) : (ic .u16 v10).length = 256) (HS.all 0 rfl)) (by kernel_rfl) (hS26.sub (.cons_cons _ (.cons_cons _ (.slnil)))) (fun a28 hF28 => ?_)
   obtain ⟨v22, hb29, h⟩ := bind_ok h
   refine al_one (i := 2) rfl (by kernel_rfl) hF28 (by kernel_rfl) (wp_callR hF28 (by kernel_rfl) (g := 41) (args := #[.agg (ic .u16 v10).toArray]) (by kernel_rfl) (i_ring_Reduce_ok v10 hl_v10 v22 hb29) (fun vr w30 hp => ?_))
   obtain ⟨rfl, hS31, hl_v22⟩ := hp
   replace hS31 := St.call hS26 hS31 rfl
   refine And.intro (fun _ => hS31) ?_
   refine go_fr (hF28.next (.agg (ic .u16 v22).toArray) [9, 11] (M := [(9, .agg (ic .u16 v10).toArray), (11, .agg (ic .u16 v22).toArray)]) (by kernel_rfl)) (fun a31 hF31 => ?_)
   refine al_any (i := 3) rfl (by kernel_rfl) (fun _ _ _ _ h => h) hF31 (by kernel_rfl) (v := .bool (v10 == v22)) (fun _ => run_eqArr (neg := false) rfl (k := .u16) (xs := v10) (ys := v22) hF31.e hF31.e (E := 23) (len := 256) (k' := .u16) (by kernel_rfl) (by kernel_rfl) (by kernel_rfl) (by kernel_rfl) hl_v10 hl_v22 (by kernel_rfl)) (by kernel_rfl) (fun _ => hS31) (fun a32 hF32 => ?_)
   refine al_run (fun _ _ _ _ _ h => h) 0 [4] rfl [2] [(2, .bool (v10 == v22))] hF32 (by kernel_rfl) (fun _ => hS31) (fun a33 hF33 => ?_)
   refine al_done (by kernel_rfl) ?_ _
   refine NoPanic.normal (then_n (wp_ret (ret_ok hF33 [.bool (v10 == v22)] (⟨by kernel_rfl, trivial⟩) ?_)))
   have hr0 := Option.some.inj h
   subst hr0
   exact ⟨rfl, hS31.sub (List.nil_sublist _)⟩
def i_kem_CheckEk (v1 : List Int) : Option (Int) :=
  (if ((v1.length : Int) != 1184) = true then some 140 else (if decide (384 ≤ v1.length) = true then ((i_ring_Canon (sub v1 0 384)).bind fun v143 => (if (!v143) = true then some 140 else (if decide (768 ≤ v1.length) = true then ((i_ring_Canon (sub v1 384 768)).bind fun v157 => (if (!v157) = true then some 140 else (if decide (1152 ≤ v1.length) = true then ((i_ring_Canon (sub v1 768 1152)).bind fun v171 => (if (!v171) = true then some 140 else some 0)) else none))) else none))) else none))
theorem i_kem_CheckEk_ok (v1 : List Int) {w : World} {o10 : Option Addr} {n11 k12 : Nat} (hn_n11 : v1.length = n11) (hrd_o10 : Rd w o10 n11 k12 (ic .u8 v1)) (c0 : Int) (h : i_kem_CheckEk v1 = some c0) : Calls Try.prog 8 #[.slice o10 n11 k12] w (Ret (fun v w' => v = i6 c0 ∧ St w w' [])) := by
  unfold i_kem_CheckEk at h
  refine calls_of_wp Try.func8 rfl ?_
  have hF := Fr.start (#[.slice o10 v1.length k12] : Array Value) 19 20 [(0, .slice o10 v1.length k12)] rfl (by kernel_rfl)
  subst hn_n11
  have hS : St w w [.ro o10 v1.length k12 (ic .u8 v1)] := St.start' ⟨hrd_o10, trivial⟩ rfl
  refine go_fr hF (fun a hF => (wp_seq (wp_region_lit ?_)))
  refine wplp 1 [0] [(0, .slice o10 v1.length k12)] hF (fun a13 hF13 => (wpList_nil (then_n (wp_seq (wp_seq (wp_region_lit ?_))))))
  refine wplp 3 [0, 6] [(0, .slice o10 v1.length k12), (6, .bool ((v1.length : Int) != 1184))] hF13 (fun a14 hF14 => (wpList_nil (then_n ?_)))
  refine wp_cond_split (t := ((v1.length : Int) != 1184)) hF14.e (fun ht15 => ?_) (fun ht15 => ?_)
  ·
   have h := if_t ht15 h
   refine wp_seq (wp_region_lit ?_)
   refine wplp 1 [2] [(2, i6 140)] hF14 (fun a16 hF16 => (wpList_nil (then_n (wp_ret ?_))))
   refine then_r (ret_ok hF16 [i6 140] (⟨by kernel_rfl, trivial⟩) ?_)
   have hr0 := Option.some.inj h
   subst hr0
   exact ⟨rfl, hS.sub (List.nil_sublist _)⟩
  ·
   have h := if_f ht15 h
   refine wp_skip (then_n (wp_seq (wp_seq (wp_region_lit ?_))))
   refine wplp 1 [0, 7] [(0, .slice o10 v1.length k12), (7, i6 0)] hF14 (fun a17 hF17 => (wpList_nil (then_n (wp_block (wp_loop_rounds 4 (rounds_go (n := 3) (wp_seq (wp_region_lit ?_))))))))
   refine wplp 1 [0, 7, 8] [(0, .slice o10 v1.length k12), (7, i6 0), (8, .bool true)] hF17 (fun a18 hF18 => (wpList_nil (then_n (wp_seq (wp_cond_true hF18.e (wp_skip (then_n (wp_seq (wp_block (wp_seq (wp_region_lit ?_)))))))))))
   refine wplp 2 [0, 3, 7] [(0, .slice o10 v1.length k12), (3, i6 0), (7, i6 0)] hF18 (fun a19 hF19 => (wpList_nil (then_n (wp_seq (wp_region_lit ?_)))))
   refine wplp 6 [0, 7, 10, 12, 15] [(0, .slice o10 v1.length k12), (7, i6 0), (10, .slice o10 v1.length k12), (12, i6 0), (15, i6 384)] hF19 (fun a20 hF20 => ?_)
   obtain ⟨hg21, h⟩ := gd_ok h
   have hS22 := St.eqv (M := [.ro (subA o10 k12 0 1) 384 (k12 - 0) (ic .u8 (sub v1 0 384)), .ro o10 v1.length k12 (ic .u8 v1)]) (St.roSub hS 0 rfl (((ic_len _ _).trans ((len_is (v1) (n := v1.length) rfl) : (v1).length = v1.length))) (by decide : 0 ≤ 384) (of_decide_eq_true hg21)) (by rw [ic_sub']; try rfl)
   refine wpl_val hF20 (by kernel_rfl) (v := .slice (subA o10 k12 0 1) 384 (k12 - 0)) (run_sliceS rfl (ao := o10) (m := v1.length) (c := k12) hF20.e (E := 5) (by kernel_rfl) (s := 1) (by kernel_rfl) (l := 0) (h := 384) (.so hF20 .i64 0 (by kernel_rfl) rfl) (.so hF20 .i64 384 (by kernel_rfl) rfl) (by decide : 0 ≤ 384) (Nat.le_trans (of_decide_eq_true hg21) (hS.rdro 0 rfl).nc)) (by kernel_rfl) (fun a23 hF23 => ?_)
   obtain ⟨v143, hb24, h⟩ := bind_ok h
   refine wpl_one hF23 (by kernel_rfl) (wp_callR hF23 (by kernel_rfl) (g := 21) (args := #[.slice (subA o10 k12 0 1) 384 (k12 - 0)]) (by kernel_rfl) (i_ring_Canon_ok (sub v1 0 384) (len_is ((sub v1 0 384)) (n := 384) (sub_len (by decide : 0 ≤ 384) (by have h1 := (of_decide_eq_true hg21); have h2 := ((len_is (v1) (n := v1.length) rfl) : (v1).length = v1.length); omega))) (hS22.rdro 0 rfl) v143 hb24) (fun vr w25 hp => ?_))
   obtain ⟨rfl, hS26⟩ := hp
   replace hS26 := St.call hS22 hS26 rfl
   refine go_fr (hF23.next (.bool v143) [0, 7, 17] (M := [(0, .slice o10 v1.length k12), (7, i6 0), (17, .bool v143)]) (by kernel_rfl)) (fun a26 hF26 => ?_)
   refine wplp 1 [0, 7, 18] [(0, .slice o10 v1.length k12), (7, i6 0), (18, .bool (!v143))] hF26 (fun a27 hF27 => (wpList_nil (then_n ?_)))
   refine wp_cond_split (t := (!v143)) hF27.e (fun ht28 => ?_) (fun ht28 => ?_)
   ·
    have h := if_t ht28 h
    refine wp_seq (wp_region_lit ?_)
    refine wplp 1 [2] [(2, i6 140)] hF27 (fun a29 hF29 => (wpList_nil (then_n (wp_ret ?_))))
    refine blk_r (then_r (then_r (blk_r (then_r (ret_ok hF29 [i6 140] (⟨by kernel_rfl, trivial⟩) ?_)))))
    have hr0 := Option.some.inj h
    subst hr0
    exact ⟨rfl, hS26.sub (List.nil_sublist _)⟩
   ·
    have h := if_f ht28 h
    refine wp_skip (blk_n (then_n (wp_region_lit ?_)))
    refine wplp 2 [0, 7] [(0, .slice o10 v1.length k12), (7, i6 1)] hF27 (fun a30 hF30 => (wpList_nil (then_n (rounds_go (n := 2) (wp_seq (wp_region_lit ?_))))))
    refine wplp 1 [0, 7, 8] [(0, .slice o10 v1.length k12), (7, i6 1), (8, .bool true)] hF30 (fun a31 hF31 => (wpList_nil (then_n (wp_seq (wp_cond_true hF31.e (wp_skip (then_n (wp_seq (wp_block (wp_seq (wp_region_lit ?_)))))))))))
    refine wplp 2 [0, 3, 7] [(0, .slice o10 v1.length k12), (3, i6 1), (7, i6 1)] hF31 (fun a32 hF32 => (wpList_nil (then_n (wp_seq (wp_region_lit ?_)))))
    refine wplp 6 [0, 7, 10, 12, 15] [(0, .slice o10 v1.length k12), (7, i6 1), (10, .slice o10 v1.length k12), (12, i6 384), (15, i6 768)] hF32 (fun a33 hF33 => ?_)
    obtain ⟨hg34, h⟩ := gd_ok h
    have hS35 := St.eqv (M := [.ro (subA o10 k12 384 1) 384 (k12 - 384) (ic .u8 (sub v1 384 768)), .ro (subA o10 k12 0 1) 384 (k12 - 0) (ic .u8 (sub v1 0 384)), .ro o10 v1.length k12 (ic .u8 v1)]) (St.roSub hS26 1 rfl (((ic_len _ _).trans ((len_is (v1) (n := v1.length) rfl) : (v1).length = v1.length))) (by decide : 384 ≤ 768) (of_decide_eq_true hg34)) (by rw [ic_sub']; try rfl)
    refine wpl_val hF33 (by kernel_rfl) (v := .slice (subA o10 k12 384 1) 384 (k12 - 384)) (run_sliceS rfl (ao := o10) (m := v1.length) (c := k12) hF33.e (E := 5) (by kernel_rfl) (s := 1) (by kernel_rfl) (l := 384) (h := 768) (.so hF33 .i64 384 (by kernel_rfl) rfl) (.so hF33 .i64 768 (by kernel_rfl) rfl) (by decide : 384 ≤ 768) (Nat.le_trans (of_decide_eq_true hg34) (hS26.rdro 1 rfl).nc)) (by kernel_rfl) (fun a36 hF36 => ?_)
    obtain ⟨v157, hb37, h⟩ := bind_ok h
    refine wpl_one hF36 (by kernel_rfl) (wp_callR hF36 (by kernel_rfl) (g := 21) (args := #[.slice (subA o10 k12 384 1) 384 (k12 - 384)]) (by kernel_rfl) (i_ring_Canon_ok (sub v1 384 768) (len_is ((sub v1 384 768)) (n := 384) (sub_len (by decide : 384 ≤ 768) (by have h1 := (of_decide_eq_true hg34); have h2 := ((len_is (v1) (n := v1.length) rfl) : (v1).length = v1.length); omega))) (hS35.rdro 0 rfl) v157 hb37) (fun vr w38 hp => ?_))
    obtain ⟨rfl, hS39⟩ := hp
    replace hS39 := St.call hS35 hS39 rfl
    refine go_fr (hF36.next (.bool v157) [0, 7, 17] (M := [(0, .slice o10 v1.length k12), (7, i6 1), (17, .bool v157)]) (by kernel_rfl)) (fun a39 hF39 => ?_)
    refine wplp 1 [0, 7, 18] [(0, .slice o10 v1.length k12), (7, i6 1), (18, .bool (!v157))] hF39 (fun a40 hF40 => (wpList_nil (then_n ?_)))
    refine wp_cond_split (t := (!v157)) hF40.e (fun ht41 => ?_) (fun ht41 => ?_)
    ·
     have h := if_t ht41 h
     refine wp_seq (wp_region_lit ?_)
     refine wplp 1 [2] [(2, i6 140)] hF40 (fun a42 hF42 => (wpList_nil (then_n (wp_ret ?_))))
     refine blk_r (then_r (then_r (blk_r (then_r (ret_ok hF42 [i6 140] (⟨by kernel_rfl, trivial⟩) ?_)))))
     have hr0 := Option.some.inj h
     subst hr0
     exact ⟨rfl, hS39.sub (List.nil_sublist _)⟩
    ·
     have h := if_f ht41 h
     refine wp_skip (blk_n (then_n (wp_region_lit ?_)))
     refine wplp 2 [0, 7] [(0, .slice o10 v1.length k12), (7, i6 2)] hF40 (fun a43 hF43 => (wpList_nil (then_n (rounds_go (n := 1) (wp_seq (wp_region_lit ?_))))))
     refine wplp 1 [0, 7, 8] [(0, .slice o10 v1.length k12), (7, i6 2), (8, .bool true)] hF43 (fun a44 hF44 => (wpList_nil (then_n (wp_seq (wp_cond_true hF44.e (wp_skip (then_n (wp_seq (wp_block (wp_seq (wp_region_lit ?_)))))))))))
     refine wplp 2 [0, 3, 7] [(0, .slice o10 v1.length k12), (3, i6 2), (7, i6 2)] hF44 (fun a45 hF45 => (wpList_nil (then_n (wp_seq (wp_region_lit ?_)))))
     refine wplp 6 [0, 7, 10, 12, 15] [(0, .slice o10 v1.length k12), (7, i6 2), (10, .slice o10 v1.length k12), (12, i6 768), (15, i6 1152)] hF45 (fun a46 hF46 => ?_)
     obtain ⟨hg47, h⟩ := gd_ok h
     have hS48 := St.eqv (M := [.ro (subA o10 k12 768 1) 384 (k12 - 768) (ic .u8 (sub v1 768 1152)), .ro (subA o10 k12 384 1) 384 (k12 - 384) (ic .u8 (sub v1 384 768)), .ro (subA o10 k12 0 1) 384 (k12 - 0) (ic .u8 (sub v1 0 384)), .ro o10 v1.length k12 (ic .u8 v1)]) (St.roSub hS39 2 rfl (((ic_len _ _).trans ((len_is (v1) (n := v1.length) rfl) : (v1).length = v1.length))) (by decide : 768 ≤ 1152) (of_decide_eq_true hg47)) (by rw [ic_sub']; try rfl)
     refine wpl_val hF46 (by kernel_rfl) (v := .slice (subA o10 k12 768 1) 384 (k12 - 768)) (run_sliceS rfl (ao := o10) (m := v1.length) (c := k12) hF46.e (E := 5) (by kernel_rfl) (s := 1) (by kernel_rfl) (l := 768) (h := 1152) (.so hF46 .i64 768 (by kernel_rfl) rfl) (.so hF46 .i64 1152 (by kernel_rfl) rfl) (by decide : 768 ≤ 1152) (Nat.le_trans (of_decide_eq_true hg47) (hS39.rdro 2 rfl).nc)) (by kernel_rfl) (fun a49 hF49 => ?_)
     obtain ⟨v171, hb50, h⟩ := bind_ok h
     refine wpl_one hF49 (by kernel_rfl) (wp_callR hF49 (by kernel_rfl) (g := 21) (args := #[.slice (subA o10 k12 768 1) 384 (k12 - 768)]) (by kernel_rfl) (i_ring_Canon_ok (sub v1 768 1152) (len_is ((sub v1 768 1152)) (n := 384) (sub_len (by decide : 768 ≤ 1152) (by have h1 := (of_decide_eq_true hg47); have h2 := ((len_is (v1) (n := v1.length) rfl) : (v1).length = v1.length); omega))) (hS48.rdro 0 rfl) v171 hb50) (fun vr w51 hp => ?_))
     obtain ⟨rfl, hS52⟩ := hp
     replace hS52 := St.call hS48 hS52 rfl
     refine go_fr (hF49.next (.bool v171) [0, 7, 17] (M := [(0, .slice o10 v1.length k12), (7, i6 2), (17, .bool v171)]) (by kernel_rfl)) (fun a52 hF52 => ?_)
     refine wplp 1 [0, 7, 18] [(0, .slice o10 v1.length k12), (7, i6 2), (18, .bool (!v171))] hF52 (fun a53 hF53 => (wpList_nil (then_n ?_)))
     refine wp_cond_split (t := (!v171)) hF53.e (fun ht54 => ?_) (fun ht54 => ?_)
     ·
      have h := if_t ht54 h
      refine wp_seq (wp_region_lit ?_)
      refine wplp 1 [2] [(2, i6 140)] hF53 (fun a55 hF55 => (wpList_nil (then_n (wp_ret ?_))))
      refine blk_r (then_r (then_r (blk_r (then_r (ret_ok hF55 [i6 140] (⟨by kernel_rfl, trivial⟩) ?_)))))
      have hr0 := Option.some.inj h
      subst hr0
      exact ⟨rfl, hS52.sub (List.nil_sublist _)⟩
     ·
      have h := if_f ht54 h
      refine wp_skip (blk_n (then_n (wp_region_lit ?_)))
      refine wplp 2 [0, 7] [(0, .slice o10 v1.length k12), (7, i6 3)] hF53 (fun a56 hF56 => (wpList_nil (then_n (rounds_go (n := 0) (wp_seq (wp_region_lit ?_))))))
      refine wplp 1 [0, 7, 8] [(0, .slice o10 v1.length k12), (7, i6 3), (8, .bool false)] hF56 (fun a57 hF57 => (wpList_nil (then_n (wp_seq (wp_cond_false hF57.e (wp_exit ?_))))))
      refine then_x (then_x (blk_x (then_n (wp_seq (wp_region_lit ?_)))))
      refine wplp 1 [2] [(2, i6 0)] hF57 (fun a58 hF58 => (wpList_nil (then_n (wp_ret (ret_ok hF58 [i6 0] (⟨by kernel_rfl, trivial⟩) ?_)))))
      have hr0 := Option.some.inj h
      subst hr0
      exact ⟨rfl, hS52.sub (List.nil_sublist _)⟩
def i_kem_Decaps (v1 : List Int) (v5 : List Int) : Option (List Int × Int) :=
  ((i_kem_CheckDk v1).bind fun v17 => (if (v17 != 0) = true then some (List.replicate 32 (0 : Int), v17) else (if ((v5.length : Int) != 1088) = true then some (List.replicate 32 (0 : Int), 142) else (if decide (1152 ≤ v1.length) = true then none else none))))
theorem i_kem_Decaps_ok (v1 : List Int) (v5 : List Int) {w : World} {o10 : Option Addr} {n11 k12 : Nat} {o13 : Option Addr} {n14 k15 : Nat} (hn_n11 : v1.length = n11) (hrd_o10 : Rd w o10 n11 k12 (ic .u8 v1)) (hn_n14 : v5.length = n14) (hrd_o13 : Rd w o13 n14 k15 (ic .u8 v5)) (c0 : List Int) (c1 : Int) (h : i_kem_Decaps v1 v5 = some (c0, c1)) : Calls Try.prog 11 #[.slice o10 n11 k12, .slice o13 n14 k15] w (Ret (fun v w' => v = .tuple #[.agg (ic .u8 c0).toArray, i6 c1] ∧ St w w' [] ∧ c0.length = 32)) := by
  unfold i_kem_Decaps at h
  refine calls_of_wp_defers Try.func11 rfl ?_
  have hF := Fr.start (#[.slice o10 v1.length k12, .slice o13 v5.length k15] : Array Value) 59 61 [(0, .slice o10 v1.length k12), (1, .slice o13 v5.length k15)] rfl (by kernel_rfl)
  subst hn_n11
  subst hn_n14
  have hS : St w w [.ro o10 v1.length k12 (ic .u8 v1), .ro o13 v5.length k15 (ic .u8 v5)] := St.start' ⟨hrd_o10, hrd_o13, trivial⟩ rfl
  refine go_fr hF (fun a hF => (wp_seq (wp_region_lit ?_)))
  refine wpl_one hF (by kernel_rfl) (wp_alloc hF hS rfl (z := .agg (ic .u8 (rz 32)).toArray) (by kernel_rfl) (ic .u8 (rz 32)) rfl (by kernel_rfl) (fun b16 w17 a18 hS18 hF18 => ?_))
  refine wpl_one hF18 (by kernel_rfl) (wp_alloc hF18 hS18 rfl (z := i6 0) (by kernel_rfl) ([i6 0]) rfl (by kernel_rfl) (fun b19 w20 a21 hS21 hF21 => (wpList_nil (then_n (wp_seq (wp_region_lit ?_))))))
  refine wpl_one hF21 (by kernel_rfl) (wp_defer hF21 (d := dc b19) (by kernel_rfl) (by kernel_rfl) (by kernel_rfl) (fun a22 hF22 => (wpList_nil (then_n (wp_seq (wp_seq (wp_region_lit ?_)))))))
  refine wplp 1 [0, 1, 4, 5, 13] [(0, .slice o10 v1.length k12), (1, .slice o13 v5.length k15), (4, pp b16 0), (5, pp b19 0), (13, .slice o10 v1.length k12)] hF22 (fun a23 hF23 => ?_)
  obtain ⟨v17, hb24, h⟩ := bind_ok h
  refine wpl_one hF23 (by kernel_rfl) (wp_callR hF23 (by kernel_rfl) (g := 9) (args := #[.slice o10 v1.length k12]) (by kernel_rfl) (i_kem_CheckDk_ok v1 (len_is (v1) (n := v1.length) rfl) (hS21.rdro 2 rfl) v17 hb24) (fun vr w25 hp => ?_))
  obtain ⟨rfl, hS26⟩ := hp
  replace hS26 := St.call hS21 hS26 rfl
  refine go_fr (hF23.next (i6 v17) [0, 1, 4, 5, 14] (M := [(0, .slice o10 v1.length k12), (1, .slice o13 v5.length k15), (4, pp b16 0), (5, pp b19 0), (14, i6 v17)]) (by kernel_rfl)) (fun a26 hF26 => ?_)
  refine wplp 1 [0, 1, 4, 5, 6] [(0, .slice o10 v1.length k12), (1, .slice o13 v5.length k15), (4, pp b16 0), (5, pp b19 0), (6, i6 v17)] hF26 (fun a27 hF27 => (wpList_nil (then_n (wp_seq (wp_region_lit ?_)))))
  refine wplp 2 [0, 1, 4, 5, 6, 16] [(0, .slice o10 v1.length k12), (1, .slice o13 v5.length k15), (4, pp b16 0), (5, pp b19 0), (6, i6 v17), (16, .bool (v17 != 0))] hF27 (fun a28 hF28 => (wpList_nil (then_n ?_)))
  refine wp_cond_split (t := (v17 != 0)) hF28.e (fun ht29 => ?_) (fun ht29 => ?_)
  ·
   have h := if_t ht29 h
   refine wp_seq (wp_region_lit ?_)
   refine wpl_val hF28 (by kernel_rfl) (v := .agg (ic .u8 (rz 32)).toArray) (run_loadR rfl (b := b16) (off := 0) hF28.e (by kernel_rfl) (k := 32) (by kernel_rfl) (((ic_len _ _).trans (len_is (rz 32) (n := 32) (List.length_replicate))) : (ic .u8 (rz 32)).length = 32) (hS26.all 1 rfl)) (by kernel_rfl) (fun a30 hF30 => ?_)
   refine wplp 1 [4, 5, 17, 18] [(4, pp b16 0), (5, pp b19 0), (17, .agg (ic .u8 (rz 32)).toArray), (18, i6 v17)] hF30 (fun a31 hF31 => ?_)
   refine wpl_one hF31 (by kernel_rfl) (wp_store hF31 hS26 rfl 1 rfl (off := 0) (by kernel_rfl) (v := .agg (ic .u8 (rz 32)).toArray) (by kernel_rfl) (vs := ic .u8 (rz 32)) rfl (k := 32) (by kernel_rfl) (((ic_len _ _).trans (len_is (rz 32) (n := 32) (List.length_replicate))) : (ic .u8 (rz 32)).length = 32) (by have h2 := (((ic_len _ _).trans (len_is (rz 32) (n := 32) (List.length_replicate))) : (ic .u8 (rz 32)).length = 32); omega) (ic_one _ _) (cs' := ic .u8 (rz 32)) ((upd_ic _ _ _ _).trans (congrArg (ic .u8) (upd_all (((len_is (rz 32) (n := 32) (List.length_replicate))).trans ((len_is (rz 32) (n := 32) (List.length_replicate))).symm)))) (by kernel_rfl) (L' := [.blk b19 ([i6 0]) 25, .blk b16 (ic .u8 (rz 32)) 22, .ro o10 v1.length k12 (ic .u8 v1), .ro o13 v5.length k15 (ic .u8 v5)]) rfl (fun w32 a33 hS33 hF33 => ?_))
   refine wpl_one hF33 (by kernel_rfl) (wp_store1 hF33 hS33 rfl 0 rfl (off := 0) (v := i6 v17) (by kernel_rfl) rfl rfl (.lit (Nat.le_of_ble_eq_true rfl) rfl) (L' := [.blk b19 ([i6 v17]) 25, .blk b16 (ic .u8 (rz 32)) 22, .ro o10 v1.length k12 (ic .u8 v1), .ro o13 v5.length k15 (ic .u8 v5)]) rfl (fun w34 a35 hS35 hF35 => (wpList_nil (then_n (wp_ret ?_)))))
   refine then_r (retD_ok hF35 [.agg (ic .u8 (rz 32)).toArray, i6 v17] (⟨⟨⟨b16, 0, none⟩, by kernel_rfl, loadVarR (by kernel_rfl) (k := 32) (by kernel_rfl) (((ic_len _ _).trans (len_is (rz 32) (n := 32) (List.length_replicate))) : (ic .u8 (rz 32)).length = 32) (hS35.all 1 rfl)⟩, ⟨⟨b19, 0, none⟩, by kernel_rfl, loadVar1 (by kernel_rfl) (hS35.at 0 rfl 0 rfl)⟩, trivial⟩) ?_)
   have hr0 := Option.some.inj h
   obtain ⟨hq0, hr1⟩ := Prod.mk.inj hr0
   subst hq0
   subst hr1
   exact ⟨rfl, hS35.sub (List.nil_sublist _), (len_is (rz 32) (n := 32) (List.length_replicate))⟩
  ·
   have h := if_f ht29 h
   refine wp_skip (then_n (wp_seq (wp_seq (wp_region_lit ?_))))
   refine wplp 3 [0, 1, 4, 5, 21] [(0, .slice o10 v1.length k12), (1, .slice o13 v5.length k15), (4, pp b16 0), (5, pp b19 0), (21, .bool ((v5.length : Int) != 1088))] hF28 (fun a36 hF36 => (wpList_nil (then_n ?_)))
   refine wp_cond_split (t := ((v5.length : Int) != 1088)) hF36.e (fun ht37 => ?_) (fun ht37 => ?_)
   ·
    have h := if_t ht37 h
    refine wp_seq (wp_region_lit ?_)
    refine wpl_val hF36 (by kernel_rfl) (v := .agg (ic .u8 (rz 32)).toArray) (run_loadR rfl (b := b16) (off := 0) hF36.e (by kernel_rfl) (k := 32) (by kernel_rfl) (((ic_len _ _).trans (len_is (rz 32) (n := 32) (List.length_replicate))) : (ic .u8 (rz 32)).length = 32) (hS26.all 1 rfl)) (by kernel_rfl) (fun a38 hF38 => ?_)
    refine wpl_one hF38 (by kernel_rfl) (wp_store hF38 hS26 rfl 1 rfl (off := 0) (by kernel_rfl) (v := .agg (ic .u8 (rz 32)).toArray) (by kernel_rfl) (vs := ic .u8 (rz 32)) rfl (k := 32) (by kernel_rfl) (((ic_len _ _).trans (len_is (rz 32) (n := 32) (List.length_replicate))) : (ic .u8 (rz 32)).length = 32) (by have h2 := (((ic_len _ _).trans (len_is (rz 32) (n := 32) (List.length_replicate))) : (ic .u8 (rz 32)).length = 32); omega) (ic_one _ _) (cs' := ic .u8 (rz 32)) ((upd_ic _ _ _ _).trans (congrArg (ic .u8) (upd_all (((len_is (rz 32) (n := 32) (List.length_replicate))).trans ((len_is (rz 32) (n := 32) (List.length_replicate))).symm)))) (by kernel_rfl) (L' := [.blk b19 ([i6 0]) 25, .blk b16 (ic .u8 (rz 32)) 22, .ro o10 v1.length k12 (ic .u8 v1), .ro o13 v5.length k15 (ic .u8 v5)]) rfl (fun w39 a40 hS40 hF40 => ?_))
    refine wpl_one hF40 (by kernel_rfl) (wp_store1 hF40 hS40 rfl 0 rfl (off := 0) (v := i6 142) (by kernel_rfl) rfl rfl (.lit (Nat.le_of_ble_eq_true rfl) rfl) (L' := [.blk b19 ([i6 142]) 25, .blk b16 (ic .u8 (rz 32)) 22, .ro o10 v1.length k12 (ic .u8 v1), .ro o13 v5.length k15 (ic .u8 v5)]) rfl (fun w41 a42 hS42 hF42 => (wpList_nil (then_n (wp_ret ?_)))))
    refine then_r (retD_ok hF42 [.agg (ic .u8 (rz 32)).toArray, i6 142] (⟨⟨⟨b16, 0, none⟩, by kernel_rfl, loadVarR (by kernel_rfl) (k := 32) (by kernel_rfl) (((ic_len _ _).trans (len_is (rz 32) (n := 32) (List.length_replicate))) : (ic .u8 (rz 32)).length = 32) (hS42.all 1 rfl)⟩, ⟨⟨b19, 0, none⟩, by kernel_rfl, loadVar1 (by kernel_rfl) (hS42.at 0 rfl 0 rfl)⟩, trivial⟩) ?_)
    have hr0 := Option.some.inj h
    obtain ⟨hq0, hr1⟩ := Prod.mk.inj hr0
    subst hq0
    subst hr1
    exact ⟨rfl, hS42.sub (List.nil_sublist _), (len_is (rz 32) (n := 32) (List.length_replicate))⟩
   ·
    have h := if_f ht37 h
    refine wp_skip (then_n (wp_seq (wp_region_lit ?_)))
    refine wplp 1 [0, 1, 4, 5, 23] [(0, .slice o10 v1.length k12), (1, .slice o13 v5.length k15), (4, pp b16 0), (5, pp b19 0), (23, .slice o10 v1.length k12)] hF36 (fun a43 hF43 => ?_)
    obtain ⟨hg44, h⟩ := gd_ok h
    have hS45 := St.eqv (M := [.ro (subA o10 k12 0 1) 1152 (k12 - 0) (ic .u8 (sub v1 0 1152)), .blk b19 ([i6 0]) 25, .blk b16 (ic .u8 (rz 32)) 22, .ro o10 v1.length k12 (ic .u8 v1), .ro o13 v5.length k15 (ic .u8 v5)]) (St.roSub hS26 2 rfl (((ic_len _ _).trans ((len_is (v1) (n := v1.length) rfl) : (v1).length = v1.length))) (by decide : 0 ≤ 1152) (of_decide_eq_true hg44)) (by rw [ic_sub']; try rfl)
    refine wpl_val hF43 (by kernel_rfl) (v := .slice (subA o10 k12 0 1) 1152 (k12 - 0)) (run_sliceS rfl (ao := o10) (m := v1.length) (c := k12) hF43.e (E := 5) (by kernel_rfl) (s := 1) (by kernel_rfl) (l := 0) (h := 1152) .no (.so hF43 .i64 1152 (by kernel_rfl) rfl) (by decide : 0 ≤ 1152) (Nat.le_trans (of_decide_eq_true hg44) (hS26.rdro 2 rfl).nc)) (by kernel_rfl) (fun a46 hF46 => ?_)
    refine wplp 1 [0, 1, 4, 5, 24, 25] [(0, .slice o10 v1.length k12), (1, .slice o13 v5.length k15), (4, pp b16 0), (5, pp b19 0), (24, .slice (subA o10 k12 0 1) 1152 (k12 - 0)), (25, .slice o13 v5.length k15)] hF46 (fun a47 hF47 => ?_)
    cases h
def i_kem_Encaps (v1 : List Int) (v5 : List Int) : Option (List Int × List Int × Int) :=
  ((i_kem_CheckEk v1).bind fun v18 => (if (v18 != 0) = true then some (List.replicate 32 (0 : Int), [], v18) else none))
theorem i_kem_Encaps_ok (v1 : List Int) (v5 : List Int) {w : World} {o10 : Option Addr} {n11 k12 : Nat} (hl_v5 : v5.length = 32) (hn_n11 : v1.length = n11) (hrd_o10 : Rd w o10 n11 k12 (ic .u8 v1)) (c0 : List Int) (c1 : List Int) (c2 : Int) (h : i_kem_Encaps v1 v5 = some (c0, c1, c2)) : Calls Try.prog 10 #[.slice o10 n11 k12, .agg (ic .u8 v5).toArray] w (Ret (fun v w' => ∃ (o13 : Option Addr) (n13 k13 : Nat), n13 = c1.length ∧ v = .tuple #[.agg (ic .u8 c0).toArray, .slice o13 n13 k13, i6 c2] ∧ St w w' [.sl o13 n13 k13 1 (ic .u8 c1) 5] ∧ c0.length = 32)) := by
  unfold i_kem_Encaps at h
  refine calls_of_wp_defers Try.func10 rfl ?_
  have hF := Fr.start (#[.slice o10 v1.length k12, .agg (ic .u8 v5).toArray] : Array Value) 32 34 [(0, .slice o10 v1.length k12), (1, .agg (ic .u8 v5).toArray)] rfl (by kernel_rfl)
  subst hn_n11
  have hS : St w w [.ro o10 v1.length k12 (ic .u8 v1)] := St.start' ⟨hrd_o10, trivial⟩ rfl
  refine go_fr hF (fun a hF => (wp_seq (wp_region_lit ?_)))
  refine wpl_one hF (by kernel_rfl) (wp_box hF hS rfl (v := .agg (ic .u8 v5).toArray) (by kernel_rfl) (ic .u8 v5) rfl (by kernel_rfl) (fun b14 w15 a16 hS16 hF16 => ?_))
  refine wpl_one hF16 (by kernel_rfl) (wp_alloc hF16 hS16 rfl (z := .agg (ic .u8 (rz 32)).toArray) (by kernel_rfl) (ic .u8 (rz 32)) rfl (by kernel_rfl) (fun b17 w18 a19 hS19 hF19 => ?_))
  refine wplp 1 [0, 3, 4, 5] [(0, .slice o10 v1.length k12), (3, pp b14 0), (4, pp b17 0), (5, .slice none 0 0)] hF19 (fun a20 hF20 => ?_)
  refine wpl_one hF20 (by kernel_rfl) (wp_alloc hF20 hS19 rfl (z := i6 0) (by kernel_rfl) ([i6 0]) rfl (by kernel_rfl) (fun b21 w22 a23 hS23 hF23 => (wpList_nil (then_n (wp_seq (wp_region_lit ?_))))))
  refine wpl_one hF23 (by kernel_rfl) (wp_defer hF23 (d := dc b21) (by kernel_rfl) (by kernel_rfl) (by kernel_rfl) (fun a24 hF24 => (wpList_nil (then_n (wp_seq (wp_seq (wp_region_lit ?_)))))))
  refine wplp 1 [0, 3, 4, 5, 6, 11] [(0, .slice o10 v1.length k12), (3, pp b14 0), (4, pp b17 0), (5, .slice none 0 0), (6, pp b21 0), (11, .slice o10 v1.length k12)] hF24 (fun a25 hF25 => ?_)
  obtain ⟨v18, hb26, h⟩ := bind_ok h
  refine wpl_one hF25 (by kernel_rfl) (wp_callR hF25 (by kernel_rfl) (g := 8) (args := #[.slice o10 v1.length k12]) (by kernel_rfl) (i_kem_CheckEk_ok v1 (len_is (v1) (n := v1.length) rfl) (hS23.rdro 3 rfl) v18 hb26) (fun vr w27 hp => ?_))
  obtain ⟨rfl, hS28⟩ := hp
  replace hS28 := St.call hS23 hS28 rfl
  refine go_fr (hF25.next (i6 v18) [0, 3, 4, 5, 6, 12] (M := [(0, .slice o10 v1.length k12), (3, pp b14 0), (4, pp b17 0), (5, .slice none 0 0), (6, pp b21 0), (12, i6 v18)]) (by kernel_rfl)) (fun a28 hF28 => ?_)
  refine wplp 1 [0, 3, 4, 5, 6, 7] [(0, .slice o10 v1.length k12), (3, pp b14 0), (4, pp b17 0), (5, .slice none 0 0), (6, pp b21 0), (7, i6 v18)] hF28 (fun a29 hF29 => (wpList_nil (then_n (wp_seq (wp_region_lit ?_)))))
  refine wplp 2 [0, 3, 4, 5, 6, 7, 14] [(0, .slice o10 v1.length k12), (3, pp b14 0), (4, pp b17 0), (5, .slice none 0 0), (6, pp b21 0), (7, i6 v18), (14, .bool (v18 != 0))] hF29 (fun a30 hF30 => (wpList_nil (then_n ?_)))
  refine wp_cond_split (t := (v18 != 0)) hF30.e (fun ht31 => ?_) (fun ht31 => ?_)
  ·
   have h := if_t ht31 h
   refine wp_seq (wp_region_lit ?_)
   refine wpl_val hF30 (by kernel_rfl) (v := .agg (ic .u8 (rz 32)).toArray) (run_loadR rfl (b := b17) (off := 0) hF30.e (by kernel_rfl) (k := 32) (by kernel_rfl) (((ic_len _ _).trans (len_is (rz 32) (n := 32) (List.length_replicate))) : (ic .u8 (rz 32)).length = 32) (hS28.all 1 rfl)) (by kernel_rfl) (fun a32 hF32 => ?_)
   refine wplp 1 [4, 5, 6, 15, 16] [(4, pp b17 0), (5, .slice none 0 0), (6, pp b21 0), (15, .agg (ic .u8 (rz 32)).toArray), (16, i6 v18)] hF32 (fun a33 hF33 => ?_)
   refine wpl_one hF33 (by kernel_rfl) (wp_store hF33 hS28 rfl 1 rfl (off := 0) (by kernel_rfl) (v := .agg (ic .u8 (rz 32)).toArray) (by kernel_rfl) (vs := ic .u8 (rz 32)) rfl (k := 32) (by kernel_rfl) (((ic_len _ _).trans (len_is (rz 32) (n := 32) (List.length_replicate))) : (ic .u8 (rz 32)).length = 32) (by have h2 := (((ic_len _ _).trans (len_is (rz 32) (n := 32) (List.length_replicate))) : (ic .u8 (rz 32)).length = 32); omega) (ic_one _ _) (cs' := ic .u8 (rz 32)) ((upd_ic _ _ _ _).trans (congrArg (ic .u8) (upd_all (((len_is (rz 32) (n := 32) (List.length_replicate))).trans ((len_is (rz 32) (n := 32) (List.length_replicate))).symm)))) (by kernel_rfl) (L' := [.blk b21 ([i6 0]) 25, .blk b17 (ic .u8 (rz 32)) 22, .blk b14 (ic .u8 v5) 22, .ro o10 v1.length k12 (ic .u8 v1)]) rfl (fun w34 a35 hS35 hF35 => ?_))
   refine wplp 1 [4, 5, 6, 16] [(4, pp b17 0), (5, .slice none 0 0), (6, pp b21 0), (16, i6 v18)] hF35 (fun a36 hF36 => ?_)
   refine wpl_one hF36 (by kernel_rfl) (wp_store1 hF36 hS35 rfl 0 rfl (off := 0) (v := i6 v18) (by kernel_rfl) rfl rfl (.lit (Nat.le_of_ble_eq_true rfl) rfl) (L' := [.blk b21 ([i6 v18]) 25, .blk b17 (ic .u8 (rz 32)) 22, .blk b14 (ic .u8 v5) 22, .ro o10 v1.length k12 (ic .u8 v1)]) rfl (fun w37 a38 hS38 hF38 => (wpList_nil (then_n (wp_ret ?_)))))
   refine then_r (retD_ok hF38 [.agg (ic .u8 (rz 32)).toArray, .slice none 0 0, i6 v18] (⟨⟨⟨b17, 0, none⟩, by kernel_rfl, loadVarR (by kernel_rfl) (k := 32) (by kernel_rfl) (((ic_len _ _).trans (len_is (rz 32) (n := 32) (List.length_replicate))) : (ic .u8 (rz 32)).length = 32) (hS38.all 1 rfl)⟩, by kernel_rfl, ⟨⟨b21, 0, none⟩, by kernel_rfl, loadVar1 (by kernel_rfl) (hS38.at 0 rfl 0 rfl)⟩, trivial⟩) ?_)
   have hS39 := St.addnil hS38 1 5
   have hr0 := Option.some.inj h
   obtain ⟨hq0, hr1⟩ := Prod.mk.inj hr0
   obtain ⟨hq1, hr2⟩ := Prod.mk.inj hr1
   subst hq0
   subst hq1
   subst hr2
   exact ⟨none, 0, 0, rfl, rfl, hS39.sub (.cons_cons _ (.cons _ (.cons _ (.cons _ (.cons _ (.slnil)))))), (len_is (rz 32) (n := 32) (List.length_replicate))⟩
  ·
   have h := if_f ht31 h
   refine wp_skip (then_n (wp_seq (wp_region_lit ?_)))
   refine wplp 1 [0, 3, 4, 5, 6, 17] [(0, .slice o10 v1.length k12), (3, pp b14 0), (4, pp b17 0), (5, .slice none 0 0), (6, pp b21 0), (17, .slice o10 v1.length k12)] hF30 (fun a40 hF40 => ?_)
   refine wpl_one hF40 (by kernel_rfl) (wp_buildSlice hF40 hS28 rfl (E := 24) (by kernel_rfl) (by kernel_rfl) (z := .slice none 0 0) (by kernel_rfl) rfl (ps := [(0, .slice o10 v1.length k12)]) (by kernel_rfl) (by kernel_rfl) (cs := [Value.slice o10 v1.length k12]) (by kernel_rfl) (by decide) (by kernel_rfl) (fun b41 w42 a43 hS43 hF43 => ?_))
   cases h
def i_kem_split (v1 : List Int) : Option (List Int × List Int) :=
  some ((sub v1 0 32), (sub v1 32 64))
theorem i_kem_split_ok (v1 : List Int) {w : World} (hl_v1 : v1.length = 64) (c0 : List Int) (c1 : List Int) (h : i_kem_split v1 = some (c0, c1)) : Calls Try.prog 24 #[.agg (ic .u8 v1).toArray] w (Ret (fun v w' => v = .tuple #[.agg (ic .u8 c0).toArray, .agg (ic .u8 c1).toArray] ∧ St w w' [] ∧ c0.length = 32 ∧ c1.length = 32)) := by
  unfold i_kem_split at h
  refine calls_of_wp Try.func24 rfl ?_
  have hF := Fr.start (#[.agg (ic .u8 v1).toArray] : Array Value) 9 10 [(0, .agg (ic .u8 v1).toArray)] rfl (by kernel_rfl)
  have hS := St.nil w
  refine go_fr hF (fun a hF => (wp_seq (wp_region_lit ?_)))
  refine wpl_one hF (by kernel_rfl) (wp_box hF hS rfl (v := .agg (ic .u8 v1).toArray) (by kernel_rfl) (ic .u8 v1) rfl (by kernel_rfl) (fun b10 w11 a12 hS12 hF12 => ?_))
  refine wpl_one hF12 (by kernel_rfl) (wp_alloc hF12 hS12 rfl (z := .agg (ic .u8 (rz 32)).toArray) (by kernel_rfl) (ic .u8 (rz 32)) rfl (by kernel_rfl) (fun b13 w14 a15 hS15 hF15 => ?_))
  refine wpl_one hF15 (by kernel_rfl) (wp_alloc hF15 hS15 rfl (z := .agg (ic .u8 (rz 32)).toArray) (by kernel_rfl) (ic .u8 (rz 32)) rfl (by kernel_rfl) (fun b16 w17 a18 hS18 hF18 => (wpList_nil (then_n (wp_seq (wp_region_noPanic (region_al [6, 7] (fun w' => St w w' [.blk b16 (ic .u8 (rz 32)) 22, .blk b13 (ic .u8 (rz 32)) 22, .blk b10 (ic .u8 v1) 50]) 8 rfl (by kernel_rfl) ?_)))))))
  have hS19 := St.draw1 hS18
  refine al_run (fun _ _ _ _ _ h => h) 4 [0, 1, 3, 4] rfl [2, 3, 5, 8] [(2, pp b13 0), (3, pp b16 0), (5, pp b10 0), (8, pp b10 32)] hF18 (by kernel_rfl) (fun _ => hS19) (fun a20 hF20 => ?_)
  refine al_val (i := 2) rfl (by kernel_rfl) (fun _ _ _ _ h => h) hF20 (by kernel_rfl) (v := .agg (ic .u8 (sub v1 0 32)).toArray) (fun _ HS => run_loadR rfl (b := b10) (off := 0) hF20.e (by kernel_rfl) (k := 32) (by kernel_rfl) ((ic_len _ _).trans (len_is ((sub v1 0 32)) (n := 32) (sub_len (by decide) (by have h1 := hl_v1; omega)))) (range_part (HS.all 2 rfl) 0 32 rfl)) (by kernel_rfl) (hS19.sub (.cons_cons _ (.cons_cons _ (.cons_cons _ (.slnil))))) (fun a21 hF21 => ?_)
  refine al_cut 0 #[true, true, true, true, true, true, true, true] (fun a' w' => Fr 10 [] [(2, pp b13 0), (3, pp b16 0)] a' ∧ St w w' [.blk b16 (ic .u8 (sub v1 32 64)) 22, .blk b13 (ic .u8 (sub v1 0 32)) 22, .blk b10 (ic .u8 v1) 50]) ?_ (fun nd22 => ?_)
  ·
   rintro a23 w24 ⟨hF23, hS23⟩
   refine al_done (by kernel_rfl) ?_ _
   refine NoPanic.normal (then_n (wp_ret (ret_ok hF23 [.agg (ic .u8 (sub v1 0 32)).toArray, .agg (ic .u8 (sub v1 32 64)).toArray] (⟨⟨⟨b13, 0, none⟩, by kernel_rfl, loadVarR (by kernel_rfl) (k := 32) (by kernel_rfl) (((ic_len _ _).trans (len_is ((sub v1 0 32)) (n := 32) (sub_len (by decide) (by have h1 := hl_v1; omega)))) : (ic .u8 (sub v1 0 32)).length = 32) (hS23.all 1 rfl)⟩, ⟨⟨b16, 0, none⟩, by kernel_rfl, loadVarR (by kernel_rfl) (k := 32) (by kernel_rfl) (((ic_len _ _).trans (len_is ((sub v1 32 64)) (n := 32) (sub_len (by decide) (by have h1 := hl_v1; omega)))) : (ic .u8 (sub v1 32 64)).length = 32) (hS23.all 0 rfl)⟩, trivial⟩) ?_)))
   have hr0 := Option.some.inj h
   obtain ⟨hq0, hr1⟩ := Prod.mk.inj hr0
   subst hq0
   subst hr1
   exact ⟨rfl, hS23.sub (List.nil_sublist _), (len_is ((sub v1 0 32)) (n := 32) (sub_len (by decide) (by have h1 := hl_v1; omega))), (len_is ((sub v1 32 64)) (n := 32) (sub_len (by decide) (by have h1 := hl_v1; omega)))⟩
  refine al_cut 1 #[true, true, true, true, true, true, true, false] (fun a' w' => Fr 10 [] [(2, pp b13 0), (3, pp b16 0), (9, .agg (ic .u8 (sub v1 32 64)).toArray)] a' ∧ St w w' [.blk b16 (ic .u8 (rz 32)) 22, .blk b13 (ic .u8 (sub v1 0 32)) 22, .blk b10 (ic .u8 v1) 50]) ?_ (fun nd25 => ?_)
  ·
   rintro a26 w27 ⟨hF26, hS26⟩
   refine al_all [7] (by kernel_rfl) rfl (all_cons ?_ all_nil)
   ·
    refine al_op (i := 7) rfl hF26 (by kernel_rfl) (wp_store hF26 hS26 rfl 0 rfl (off := 0) (by kernel_rfl) (v := .agg (ic .u8 (sub v1 32 64)).toArray) (by kernel_rfl) (vs := ic .u8 (sub v1 32 64)) rfl (k := 32) (by kernel_rfl) (((ic_len _ _).trans (len_is ((sub v1 32 64)) (n := 32) (sub_len (by decide) (by have h1 := hl_v1; omega)))) : (ic .u8 (sub v1 32 64)).length = 32) (by have h2 := (((ic_len _ _).trans (len_is (rz 32) (n := 32) (List.length_replicate))) : (ic .u8 (rz 32)).length = 32); omega) (ic_one _ _) (cs' := ic .u8 (sub v1 32 64)) ((upd_ic _ _ _ _).trans (congrArg (ic .u8) (upd_all ((len_is ((sub v1 32 64)) (n := 32) (sub_len (by decide) (by have h1 := hl_v1; omega))).trans ((len_is (rz 32) (n := 32) (List.length_replicate))).symm)))) (by kernel_rfl) (L' := [.blk b16 (ic .u8 (sub v1 32 64)) 22, .blk b13 (ic .u8 (sub v1 0 32)) 22, .blk b10 (ic .u8 v1) 50]) rfl (fun w28 a29 hS29 hF29 => (And.intro (late_yes (by kernel_rfl)) ?_)))
    exact al_eq (l' := #[true, true, true, true, true, true, true, true]) (by kernel_rfl) (nd22 _ _ ⟨hF29.pick [2, 3] (by kernel_rfl), hS29⟩)
  refine al_cut 2 #[true, true, true, true, true, true, false, false] (fun a' w' => Fr 10 [] [(2, pp b13 0), (3, pp b16 0), (6, .agg (ic .u8 (sub v1 0 32)).toArray), (9, .agg (ic .u8 (sub v1 32 64)).toArray)] a' ∧ St w w' [.blk b16 (ic .u8 (rz 32)) 22, .blk b13 (ic .u8 (rz 32)) 22, .blk b10 (ic .u8 v1) 50]) ?_ (fun nd30 => ?_)
  ·
   rintro a31 w32 ⟨hF31, hS31⟩
   refine al_all [6] (by kernel_rfl) rfl (all_cons ?_ all_nil)
   ·
    refine al_op (i := 6) rfl hF31 (by kernel_rfl) (wp_store hF31 hS31 rfl 1 rfl (off := 0) (by kernel_rfl) (v := .agg (ic .u8 (sub v1 0 32)).toArray) (by kernel_rfl) (vs := ic .u8 (sub v1 0 32)) rfl (k := 32) (by kernel_rfl) (((ic_len _ _).trans (len_is ((sub v1 0 32)) (n := 32) (sub_len (by decide) (by have h1 := hl_v1; omega)))) : (ic .u8 (sub v1 0 32)).length = 32) (by have h2 := (((ic_len _ _).trans (len_is (rz 32) (n := 32) (List.length_replicate))) : (ic .u8 (rz 32)).length = 32); omega) (ic_one _ _) (cs' := ic .u8 (sub v1 0 32)) ((upd_ic _ _ _ _).trans (congrArg (ic .u8) (upd_all ((len_is ((sub v1 0 32)) (n := 32) (sub_len (by decide) (by have h1 := hl_v1; omega))).trans ((len_is (rz 32) (n := 32) (List.length_replicate))).symm)))) (by kernel_rfl) (L' := [.blk b16 (ic .u8 (rz 32)) 22, .blk b13 (ic .u8 (sub v1 0 32)) 22, .blk b10 (ic .u8 v1) 50]) rfl (fun w33 a34 hS34 hF34 => (And.intro (late_yes (by kernel_rfl)) ?_)))
    exact al_eq (l' := #[true, true, true, true, true, true, true, false]) (by kernel_rfl) (nd25 _ _ ⟨hF34.pick [2, 3, 9] (by kernel_rfl), hS34⟩)
  refine al_cut 2 #[true, true, true, true, true, false, true, false] (fun a' w' => Fr 10 [] [(2, pp b13 0), (3, pp b16 0), (8, pp b10 32)] a' ∧ St w w' [.blk b16 (ic .u8 (rz 32)) 22, .blk b13 (ic .u8 (sub v1 0 32)) 22, .blk b10 (ic .u8 v1) 50]) ?_ (fun nd35 => ?_)
  ·
   rintro a36 w37 ⟨hF36, hS36⟩
   refine al_all [5] (by kernel_rfl) rfl (all_cons ?_ all_nil)
   ·
    refine al_op (i := 5) rfl hF36 (by kernel_rfl) (wp_val (v := .agg (ic .u8 (sub v1 32 64)).toArray) (run_loadR rfl (b := b10) (off := 32) hF36.e (by kernel_rfl) (k := 32) (by kernel_rfl) ((ic_len _ _).trans (len_is ((sub v1 32 64)) (n := 32) (sub_len (by decide) (by have h1 := hl_v1; omega)))) (range_part (hS36.all 2 rfl) 32 64 rfl)) (And.intro (late_yes (by kernel_rfl)) ?_))
    refine go_fr (hF36.next (.agg (ic .u8 (sub v1 32 64)).toArray) [2, 3, 9] (M := [(2, pp b13 0), (3, pp b16 0), (9, .agg (ic .u8 (sub v1 32 64)).toArray)]) (by kernel_rfl)) (fun a38 hF38 => ?_)
    exact al_eq (l' := #[true, true, true, true, true, true, true, false]) (by kernel_rfl) (nd25 _ _ ⟨hF38.pick [2, 3, 9] (by kernel_rfl), hS36⟩)
  refine al_all [5, 6] (by kernel_rfl) rfl (all_cons ?_ (all_cons ?_ all_nil))
  ·
   refine al_op (i := 5) rfl hF21 (by kernel_rfl) (wp_val (v := .agg (ic .u8 (sub v1 32 64)).toArray) (run_loadR rfl (b := b10) (off := 32) hF21.e (by kernel_rfl) (k := 32) (by kernel_rfl) ((ic_len _ _).trans (len_is ((sub v1 32 64)) (n := 32) (sub_len (by decide) (by have h1 := hl_v1; omega)))) (range_part (hS19.all 2 rfl) 32 64 rfl)) (And.intro (fun _ => hS19) ?_))
   refine go_fr (hF21.next (.agg (ic .u8 (sub v1 32 64)).toArray) [2, 3, 6, 9] (M := [(2, pp b13 0), (3, pp b16 0), (6, .agg (ic .u8 (sub v1 0 32)).toArray), (9, .agg (ic .u8 (sub v1 32 64)).toArray)]) (by kernel_rfl)) (fun a39 hF39 => ?_)
   exact al_eq (l' := #[true, true, true, true, true, true, false, false]) (by kernel_rfl) (nd30 _ _ ⟨hF39.pick [2, 3, 6, 9] (by kernel_rfl), hS19⟩)
  ·
   refine al_op (i := 6) rfl hF21 (by kernel_rfl) (wp_store hF21 hS19 rfl 1 rfl (off := 0) (by kernel_rfl) (v := .agg (ic .u8 (sub v1 0 32)).toArray) (by kernel_rfl) (vs := ic .u8 (sub v1 0 32)) rfl (k := 32) (by kernel_rfl) (((ic_len _ _).trans (len_is ((sub v1 0 32)) (n := 32) (sub_len (by decide) (by have h1 := hl_v1; omega)))) : (ic .u8 (sub v1 0 32)).length = 32) (by have h2 := (((ic_len _ _).trans (len_is (rz 32) (n := 32) (List.length_replicate))) : (ic .u8 (rz 32)).length = 32); omega) (ic_one _ _) (cs' := ic .u8 (sub v1 0 32)) ((upd_ic _ _ _ _).trans (congrArg (ic .u8) (upd_all ((len_is ((sub v1 0 32)) (n := 32) (sub_len (by decide) (by have h1 := hl_v1; omega))).trans ((len_is (rz 32) (n := 32) (List.length_replicate))).symm)))) (by kernel_rfl) (L' := [.blk b16 (ic .u8 (rz 32)) 22, .blk b13 (ic .u8 (sub v1 0 32)) 22, .blk b10 (ic .u8 v1) 50]) rfl (fun w40 a41 hS41 hF41 => (And.intro (late_yes (by kernel_rfl)) ?_)))
   exact al_eq (l' := #[true, true, true, true, true, false, true, false]) (by kernel_rfl) (nd35 _ _ ⟨hF41.pick [2, 3, 8] (by kernel_rfl), hS41⟩)
end Go.Proofs.YtapilbdboeggdaaR.Gx
