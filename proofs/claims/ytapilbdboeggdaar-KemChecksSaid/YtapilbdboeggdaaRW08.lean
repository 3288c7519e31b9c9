/-
A part of the proof: printed walks of the functions that the law reaches, and plain laws over them.
-/
import Derived.Test.YtapilbdboeggdaaRProg
import Derived.Test.YtapilbdboeggdaaRW00
import Derived.Test.YtapilbdboeggdaaRW01
import Derived.Test.YtapilbdboeggdaaRW07
import Derived.Test.YtapilbdboeggdaaRW02
set_option maxRecDepth 1000000
set_option linter.unusedVariables false
set_option linter.unusedSimpArgs false
set_option maxHeartbeats 4000000
namespace Go.Proofs.YtapilbdboeggdaaR.Gx
open Go Go.RowKit
def i_octet_Join_4 (v3 : List Int) (v7 : List Int) (v11 : List Int) (v15 : List Int) : Option (List Int) :=
  (nm_ (IntKind.i64.wrap ((IntKind.i64.wrap (0 + (v3.length : Int))) + (v7.length : Int))) fun v130 => (nm_ (IntKind.i64.wrap ((IntKind.i64.wrap (v130 + (v11.length : Int))) + (v15.length : Int))) fun v144 => (if (decide (0 ≤ v144) && decide (v144 ≤ 1099511627776)) = true then (if decide (0 + v3.length ≤ 1099511627776) = true then (if decide (v3.length + v7.length ≤ 1099511627776) = true then (if decide ((v3 ++ v7).length + v11.length ≤ 1099511627776) = true then (if decide (((v3 ++ v7) ++ v11).length + v15.length ≤ 1099511627776) = true then some (((v3 ++ v7) ++ v11) ++ v15) else none) else none) else none) else none) else none)))
theorem i_octet_Join_4_ok (v3 : List Int) (v7 : List Int) (v11 : List Int) (v15 : List Int) {w : World} {o10 : Option Addr} {n11 k12 : Nat} {o13 : Option Addr} {n14 k15 : Nat} {o16 : Option Addr} {n17 k18 : Nat} {o19 : Option Addr} {n20 k21 : Nat} {o22 : Option Addr} {k23 : Nat} (hrd_o22 : Rd w o22 4 k23 [.slice o10 n11 k12, .slice o13 n14 k15, .slice o16 n17 k18, .slice o19 n20 k21]) (hn_n11 : v3.length = n11) (hrd_o10 : Rd w o10 n11 k12 (ic .u8 v3)) (hn_n14 : v7.length = n14) (hrd_o13 : Rd w o13 n14 k15 (ic .u8 v7)) (hn_n17 : v11.length = n17) (hrd_o16 : Rd w o16 n17 k18 (ic .u8 v11)) (hn_n20 : v15.length = n20) (hrd_o19 : Rd w o19 n20 k21 (ic .u8 v15)) (c0 : List Int) (h : i_octet_Join_4 v3 v7 v11 v15 = some c0) : Calls Try.prog 20 #[.slice o22 4 k23] w (Ret (fun v w' => ∃ (o24 : Option Addr) (n24 k24 : Nat), n24 = c0.length ∧ v = .slice o24 n24 k24 ∧ St w w' [.sl o24 n24 k24 1 (ic .u8 c0) 5])) := by
  unfold i_octet_Join_4 at h
  refine calls_of_wp Try.func20 rfl ?_
  have hF := Fr.start (#[.slice o22 4 k23] : Array Value) 32 33 [(0, .slice o22 4 k23)] rfl (by kernel_rfl)
  subst hn_n11
  subst hn_n14
  subst hn_n17
  subst hn_n20
  have hS : St w w [.ro o22 4 k23 ([Value.slice o10 v3.length k12, Value.slice o13 v7.length k15, Value.slice o16 v11.length k18, Value.slice o19 v15.length k21]), .ro o10 v3.length k12 (ic .u8 v3), .ro o13 v7.length k15 (ic .u8 v7), .ro o16 v11.length k18 (ic .u8 v11), .ro o19 v15.length k21 (ic .u8 v15)] := St.start' ⟨hrd_o22, hrd_o10, hrd_o13, hrd_o16, hrd_o19, trivial⟩ rfl
  refine go_fr hF (fun a hF => (wp_seq (wp_region_lit ?_)))
  refine wplp 1 [0] [(0, .slice o22 4 k23)] hF (fun a25 hF25 => (wpList_nil (then_n (wp_seq (wp_region_lit ?_)))))
  refine wplp 1 [0, 3] [(0, .slice o22 4 k23), (3, i6 0)] hF25 (fun a26 hF26 => (wpList_nil (then_n (wp_seq (wp_seq (wp_region_lit ?_))))))
  refine wplp 3 [0, 3, 9, 10, 11] [(0, .slice o22 4 k23), (3, i6 0), (9, .slice o22 4 k23), (10, i6 4), (11, i6 0)] hF26 (fun a27 hF27 => (wpList_nil (then_n (wp_block (wp_loop_rounds 5 (rounds_go (n := 4) (wp_seq (wp_region_lit ?_))))))))
  refine wplp 1 [0, 3, 9, 10, 11, 12] [(0, .slice o22 4 k23), (3, i6 0), (9, .slice o22 4 k23), (10, i6 4), (11, i6 0), (12, .bool true)] hF27 (fun a28 hF28 => (wpList_nil (then_n (wp_seq (wp_cond_true hF28.e (wp_skip (then_n (wp_seq (wp_block (wp_seq (wp_region_lit ?_)))))))))))
  refine wpl_val hF28 (by kernel_rfl) (v := pp (blkOf o22) (offOf o22 + 0)) (run_indexS rfl (ao := o22) (m := 4) (c := k23) hF28.e (rd_ne hS 0 rfl rfl (j := 0) (v := .slice o10 v3.length k12) rfl) (k := .i64) (i := 0) hF28.e (E := 24) (by kernel_rfl) (s := 1) (by kernel_rfl) (by decide) (r := offOf o22 + 0) rfl) (by kernel_rfl) (fun a29 hF29 => ?_)
  refine wpl_val hF29 (by kernel_rfl) (v := .slice o10 v3.length k12) (run_load1 rfl (b := blkOf o22) (off := offOf o22 + 0) hF29.e (by kernel_rfl) (hS.atA 0 rfl rfl (0) rfl)) (by kernel_rfl) (fun a30 hF30 => ?_)
  refine wplp 1 [0, 3, 5, 9, 10, 11] [(0, .slice o22 4 k23), (3, i6 0), (5, .slice o10 v3.length k12), (9, .slice o22 4 k23), (10, i6 4), (11, i6 0)] hF30 (fun a31 hF31 => (wpList_nil (then_n (wp_region_lit ?_))))
  refine wplp 5 [0, 3, 9, 10, 11] [(0, .slice o22 4 k23), (3, i6 (IntKind.i64.wrap (0 + (v3.length : Int)))), (9, .slice o22 4 k23), (10, i6 4), (11, i6 0)] hF31 (fun a32 hF32 => (wpList_nil (blk_n (then_n (wp_region_lit ?_)))))
  refine wplp 2 [0, 3, 9, 10, 11] [(0, .slice o22 4 k23), (3, i6 (IntKind.i64.wrap (0 + (v3.length : Int)))), (9, .slice o22 4 k23), (10, i6 4), (11, i6 1)] hF32 (fun a33 hF33 => (wpList_nil (then_n (rounds_go (n := 3) (wp_seq (wp_region_lit ?_))))))
  refine wplp 1 [0, 3, 9, 10, 11, 12] [(0, .slice o22 4 k23), (3, i6 (IntKind.i64.wrap (0 + (v3.length : Int)))), (9, .slice o22 4 k23), (10, i6 4), (11, i6 1), (12, .bool true)] hF33 (fun a34 hF34 => (wpList_nil (then_n (wp_seq (wp_cond_true hF34.e (wp_skip (then_n (wp_seq (wp_block (wp_seq (wp_region_lit ?_)))))))))))
  refine wpl_val hF34 (by kernel_rfl) (v := pp (blkOf o22) (offOf o22 + 1)) (run_indexS rfl (ao := o22) (m := 4) (c := k23) hF34.e (rd_ne hS 0 rfl rfl (j := 1) (v := .slice o13 v7.length k15) rfl) (k := .i64) (i := 1) hF34.e (E := 24) (by kernel_rfl) (s := 1) (by kernel_rfl) (by decide) (r := offOf o22 + 1) rfl) (by kernel_rfl) (fun a35 hF35 => ?_)
  refine wpl_val hF35 (by kernel_rfl) (v := .slice o13 v7.length k15) (run_load1 rfl (b := blkOf o22) (off := offOf o22 + 1) hF35.e (by kernel_rfl) (hS.atA 0 rfl rfl (1) rfl)) (by kernel_rfl) (fun a36 hF36 => ?_)
  refine wplp 1 [0, 3, 5, 9, 10, 11] [(0, .slice o22 4 k23), (3, i6 (IntKind.i64.wrap (0 + (v3.length : Int)))), (5, .slice o13 v7.length k15), (9, .slice o22 4 k23), (10, i6 4), (11, i6 1)] hF36 (fun a37 hF37 => (wpList_nil (then_n (wp_region_lit ?_))))
  refine wplp 5 [0, 3, 9, 10, 11] [(0, .slice o22 4 k23), (3, i6 (IntKind.i64.wrap ((IntKind.i64.wrap (0 + (v3.length : Int))) + (v7.length : Int)))), (9, .slice o22 4 k23), (10, i6 4), (11, i6 1)] hF37 (fun a38 hF38 => (wpList_nil (blk_n (then_n ?_))))
  obtain ⟨v130, hv_v130, h⟩ := nm_ok h
  have hF39 := Fr.eqv (L := [(0, .slice o22 4 k23), (3, i6 (IntKind.i64.wrap ((IntKind.i64.wrap (0 + (v3.length : Int))) + (v7.length : Int)))), (9, .slice o22 4 k23), (10, i6 4), (11, i6 1)]) (Fr.pick [0, 3, 9, 10, 11] (by kernel_rfl) hF38) (M := [(0, .slice o22 4 k23), (3, i6 v130), (9, .slice o22 4 k23), (10, i6 4), (11, i6 1)]) (by rw [hv_v130])
  refine wp_region_lit ?_
  refine wplp 2 [0, 3, 9, 10, 11] [(0, .slice o22 4 k23), (3, i6 v130), (9, .slice o22 4 k23), (10, i6 4), (11, i6 2)] hF39 (fun a40 hF40 => (wpList_nil (then_n (rounds_go (n := 2) (wp_seq (wp_region_lit ?_))))))
  refine wplp 1 [0, 3, 9, 10, 11, 12] [(0, .slice o22 4 k23), (3, i6 v130), (9, .slice o22 4 k23), (10, i6 4), (11, i6 2), (12, .bool true)] hF40 (fun a41 hF41 => (wpList_nil (then_n (wp_seq (wp_cond_true hF41.e (wp_skip (then_n (wp_seq (wp_block (wp_seq (wp_region_lit ?_)))))))))))
  refine wpl_val hF41 (by kernel_rfl) (v := pp (blkOf o22) (offOf o22 + 2)) (run_indexS rfl (ao := o22) (m := 4) (c := k23) hF41.e (rd_ne hS 0 rfl rfl (j := 2) (v := .slice o16 v11.length k18) rfl) (k := .i64) (i := 2) hF41.e (E := 24) (by kernel_rfl) (s := 1) (by kernel_rfl) (by decide) (r := offOf o22 + 2) rfl) (by kernel_rfl) (fun a42 hF42 => ?_)
  refine wpl_val hF42 (by kernel_rfl) (v := .slice o16 v11.length k18) (run_load1 rfl (b := blkOf o22) (off := offOf o22 + 2) hF42.e (by kernel_rfl) (hS.atA 0 rfl rfl (2) rfl)) (by kernel_rfl) (fun a43 hF43 => ?_)
  refine wplp 1 [0, 3, 5, 9, 10, 11] [(0, .slice o22 4 k23), (3, i6 v130), (5, .slice o16 v11.length k18), (9, .slice o22 4 k23), (10, i6 4), (11, i6 2)] hF43 (fun a44 hF44 => (wpList_nil (then_n (wp_region_lit ?_))))
  refine wplp 5 [0, 3, 9, 10, 11] [(0, .slice o22 4 k23), (3, i6 (IntKind.i64.wrap (v130 + (v11.length : Int)))), (9, .slice o22 4 k23), (10, i6 4), (11, i6 2)] hF44 (fun a45 hF45 => (wpList_nil (blk_n (then_n (wp_region_lit ?_)))))
  refine wplp 2 [0, 3, 9, 10, 11] [(0, .slice o22 4 k23), (3, i6 (IntKind.i64.wrap (v130 + (v11.length : Int)))), (9, .slice o22 4 k23), (10, i6 4), (11, i6 3)] hF45 (fun a46 hF46 => (wpList_nil (then_n (rounds_go (n := 1) (wp_seq (wp_region_lit ?_))))))
  refine wplp 1 [0, 3, 9, 10, 11, 12] [(0, .slice o22 4 k23), (3, i6 (IntKind.i64.wrap (v130 + (v11.length : Int)))), (9, .slice o22 4 k23), (10, i6 4), (11, i6 3), (12, .bool true)] hF46 (fun a47 hF47 => (wpList_nil (then_n (wp_seq (wp_cond_true hF47.e (wp_skip (then_n (wp_seq (wp_block (wp_seq (wp_region_lit ?_)))))))))))
  refine wpl_val hF47 (by kernel_rfl) (v := pp (blkOf o22) (offOf o22 + 3)) (run_indexS rfl (ao := o22) (m := 4) (c := k23) hF47.e (rd_ne hS 0 rfl rfl (j := 3) (v := .slice o19 v15.length k21) rfl) (k := .i64) (i := 3) hF47.e (E := 24) (by kernel_rfl) (s := 1) (by kernel_rfl) (by decide) (r := offOf o22 + 3) rfl) (by kernel_rfl) (fun a48 hF48 => ?_)
  refine wpl_val hF48 (by kernel_rfl) (v := .slice o19 v15.length k21) (run_load1 rfl (b := blkOf o22) (off := offOf o22 + 3) hF48.e (by kernel_rfl) (hS.atA 0 rfl rfl (3) rfl)) (by kernel_rfl) (fun a49 hF49 => ?_)
  refine wplp 1 [0, 3, 5, 9, 10, 11] [(0, .slice o22 4 k23), (3, i6 (IntKind.i64.wrap (v130 + (v11.length : Int)))), (5, .slice o19 v15.length k21), (9, .slice o22 4 k23), (10, i6 4), (11, i6 3)] hF49 (fun a50 hF50 => (wpList_nil (then_n (wp_region_lit ?_))))
  refine wplp 5 [0, 3, 9, 10, 11] [(0, .slice o22 4 k23), (3, i6 (IntKind.i64.wrap ((IntKind.i64.wrap (v130 + (v11.length : Int))) + (v15.length : Int)))), (9, .slice o22 4 k23), (10, i6 4), (11, i6 3)] hF50 (fun a51 hF51 => (wpList_nil (blk_n (then_n ?_))))
  obtain ⟨v144, hv_v144, h⟩ := nm_ok h
  have hF52 := Fr.eqv (L := [(0, .slice o22 4 k23), (3, i6 (IntKind.i64.wrap ((IntKind.i64.wrap (v130 + (v11.length : Int))) + (v15.length : Int)))), (9, .slice o22 4 k23), (10, i6 4), (11, i6 3)]) (Fr.pick [0, 3, 9, 10, 11] (by kernel_rfl) hF51) (M := [(0, .slice o22 4 k23), (3, i6 v144), (9, .slice o22 4 k23), (10, i6 4), (11, i6 3)]) (by rw [hv_v144])
  refine wp_region_lit ?_
  refine wplp 2 [0, 3, 9, 10, 11] [(0, .slice o22 4 k23), (3, i6 v144), (9, .slice o22 4 k23), (10, i6 4), (11, i6 4)] hF52 (fun a53 hF53 => (wpList_nil (then_n (rounds_go (n := 0) (wp_seq (wp_region_lit ?_))))))
  refine wplp 1 [0, 3, 9, 10, 11, 12] [(0, .slice o22 4 k23), (3, i6 v144), (9, .slice o22 4 k23), (10, i6 4), (11, i6 4), (12, .bool false)] hF53 (fun a54 hF54 => (wpList_nil (then_n (wp_seq (wp_cond_false hF54.e (wp_exit ?_))))))
  refine then_x (then_x (blk_x (then_n (wp_seq (wp_region_lit ?_)))))
  refine wplp 1 [0, 20] [(0, .slice o22 4 k23), (20, i6 v144)] hF54 (fun a55 hF55 => ?_)
  obtain ⟨hg56, h⟩ := gd_ok h
  refine wpl_one hF55 (by kernel_rfl) (wp_make0 hF55 hS rfl (E := 5) (by kernel_rfl) (by_ := 1) (z := .int .u8 0) (by kernel_rfl) (by kernel_rfl) (k1 := .i64) (k2 := .i64) (i := v144) (by kernel_rfl) (by kernel_rfl) hg56 (by decide) (by kernel_rfl) (fun o57 k58 w59 a60 hS60 hF60 => ?_))
  refine wplp 1 [0, 6] [(0, .slice o22 4 k23), (6, .slice o57 0 k58)] hF60 (fun a61 hF61 => (wpList_nil (then_n (wp_seq (wp_seq (wp_region_lit ?_))))))
  refine wplp 3 [6, 22, 23, 24] [(6, .slice o57 0 k58), (22, .slice o22 4 k23), (23, i6 4), (24, i6 0)] hF61 (fun a62 hF62 => (wpList_nil (then_n (wp_block (wp_loop_rounds 5 (rounds_go (n := 4) (wp_seq (wp_region_lit ?_))))))))
  refine wplp 1 [6, 22, 23, 24, 25] [(6, .slice o57 0 k58), (22, .slice o22 4 k23), (23, i6 4), (24, i6 0), (25, .bool true)] hF62 (fun a63 hF63 => (wpList_nil (then_n (wp_seq (wp_cond_true hF63.e (wp_skip (then_n (wp_seq (wp_block (wp_seq (wp_region_lit ?_)))))))))))
  refine wpl_val hF63 (by kernel_rfl) (v := pp (blkOf o22) (offOf o22 + 0)) (run_indexS rfl (ao := o22) (m := 4) (c := k23) hF63.e (rd_ne hS60 1 rfl rfl (j := 0) (v := .slice o10 v3.length k12) rfl) (k := .i64) (i := 0) hF63.e (E := 24) (by kernel_rfl) (s := 1) (by kernel_rfl) (by decide) (r := offOf o22 + 0) rfl) (by kernel_rfl) (fun a64 hF64 => ?_)
  refine wpl_val hF64 (by kernel_rfl) (v := .slice o10 v3.length k12) (run_load1 rfl (b := blkOf o22) (off := offOf o22 + 0) hF64.e (by kernel_rfl) (hS60.atA 1 rfl rfl (0) rfl)) (by kernel_rfl) (fun a65 hF65 => ?_)
  refine wplp 1 [6, 8, 22, 23, 24] [(6, .slice o57 0 k58), (8, .slice o10 v3.length k12), (22, .slice o22 4 k23), (23, i6 4), (24, i6 0)] hF65 (fun a66 hF66 => (wpList_nil (then_n (wp_region_lit ?_))))
  refine wplp 2 [22, 23, 24, 28, 29] [(22, .slice o22 4 k23), (23, i6 4), (24, i6 0), (28, .slice o57 0 k58), (29, .slice o10 v3.length k12)] hF66 (fun a67 hF67 => ?_)
  obtain ⟨hg68, h⟩ := gd_ok h
  refine wpl_one hF67 (by kernel_rfl) (wp_append hF67 hS60 rfl 0 rfl (by kernel_rfl) (ao2 := o10) (m2 := v3.length) (c2 := k12) (by kernel_rfl) (hS60.rdro 2 rfl) ((ic_len _ _).trans ((len_is (v3) (n := v3.length) rfl) : (v3).length = v3.length)) (ic_one _ _) (by kernel_rfl) (by_ := 1) (by kernel_rfl) (of_decide_eq_true hg68) (by decide) (m' := v3.length) (by have h1 := ((len_is ([] : List Int) (n := 0) rfl) : ([]).length = 0); have h2 := ((len_is (v3) (n := v3.length) rfl) : (v3).length = v3.length); (try simp only [List.length_append, List.length_cons, List.length_nil, List.nil_append] at h1 h2 ⊢) <;> omega) (cs' := ic .u8 v3) (by simp only [ic, List.map_nil, List.nil_append]) (by kernel_rfl) (L' := fun o69 k70 => [.sl o69 v3.length k70 1 (ic .u8 v3) 5, .ro o22 4 k23 ([Value.slice o10 v3.length k12, Value.slice o13 v7.length k15, Value.slice o16 v11.length k18, Value.slice o19 v15.length k21]), .ro o10 v3.length k12 (ic .u8 v3), .ro o13 v7.length k15 (ic .u8 v7), .ro o16 v11.length k18 (ic .u8 v11), .ro o19 v15.length k21 (ic .u8 v15)]) (fun _ _ => rfl) (fun o69 k70 w71 a72 hS72 hF72 => ?_))
  refine wplp 1 [6, 22, 23, 24] [(6, .slice o69 v3.length k70), (22, .slice o22 4 k23), (23, i6 4), (24, i6 0)] hF72 (fun a73 hF73 => (wpList_nil (blk_n (then_n (wp_region_lit ?_)))))
  refine wplp 2 [6, 22, 23, 24] [(6, .slice o69 v3.length k70), (22, .slice o22 4 k23), (23, i6 4), (24, i6 1)] hF73 (fun a74 hF74 => (wpList_nil (then_n (rounds_go (n := 3) (wp_seq (wp_region_lit ?_))))))
  refine wplp 1 [6, 22, 23, 24, 25] [(6, .slice o69 v3.length k70), (22, .slice o22 4 k23), (23, i6 4), (24, i6 1), (25, .bool true)] hF74 (fun a75 hF75 => (wpList_nil (then_n (wp_seq (wp_cond_true hF75.e (wp_skip (then_n (wp_seq (wp_block (wp_seq (wp_region_lit ?_)))))))))))
  refine wpl_val hF75 (by kernel_rfl) (v := pp (blkOf o22) (offOf o22 + 1)) (run_indexS rfl (ao := o22) (m := 4) (c := k23) hF75.e (rd_ne hS72 1 rfl rfl (j := 1) (v := .slice o13 v7.length k15) rfl) (k := .i64) (i := 1) hF75.e (E := 24) (by kernel_rfl) (s := 1) (by kernel_rfl) (by decide) (r := offOf o22 + 1) rfl) (by kernel_rfl) (fun a76 hF76 => ?_)
  refine wpl_val hF76 (by kernel_rfl) (v := .slice o13 v7.length k15) (run_load1 rfl (b := blkOf o22) (off := offOf o22 + 1) hF76.e (by kernel_rfl) (hS72.atA 1 rfl rfl (1) rfl)) (by kernel_rfl) (fun a77 hF77 => ?_)
  refine wplp 1 [6, 8, 22, 23, 24] [(6, .slice o69 v3.length k70), (8, .slice o13 v7.length k15), (22, .slice o22 4 k23), (23, i6 4), (24, i6 1)] hF77 (fun a78 hF78 => (wpList_nil (then_n (wp_region_lit ?_))))
  refine wplp 2 [22, 23, 24, 28, 29] [(22, .slice o22 4 k23), (23, i6 4), (24, i6 1), (28, .slice o69 v3.length k70), (29, .slice o13 v7.length k15)] hF78 (fun a79 hF79 => ?_)
  obtain ⟨hg80, h⟩ := gd_ok h
  refine wpl_one hF79 (by kernel_rfl) (wp_append hF79 hS72 rfl 0 rfl (by kernel_rfl) (ao2 := o13) (m2 := v7.length) (c2 := k15) (by kernel_rfl) (hS72.rdro 3 rfl) ((ic_len _ _).trans ((len_is (v7) (n := v7.length) rfl) : (v7).length = v7.length)) (ic_one _ _) (by kernel_rfl) (by_ := 1) (by kernel_rfl) (of_decide_eq_true hg80) (by decide) (m' := (v3 ++ v7).length) (by have h1 := ((len_is (v3) (n := v3.length) rfl) : (v3).length = v3.length); have h2 := ((len_is (v7) (n := v7.length) rfl) : (v7).length = v7.length); (try simp only [List.length_append, List.length_cons, List.length_nil] at h1 h2 ⊢) <;> omega) (cs' := ic .u8 (v3 ++ v7)) (ic_app _ _ _) (by kernel_rfl) (L' := fun o81 k82 => [.sl o81 ((v3 ++ v7).length) k82 1 (ic .u8 (v3 ++ v7)) 5, .ro o22 4 k23 ([Value.slice o10 v3.length k12, Value.slice o13 v7.length k15, Value.slice o16 v11.length k18, Value.slice o19 v15.length k21]), .ro o10 v3.length k12 (ic .u8 v3), .ro o13 v7.length k15 (ic .u8 v7), .ro o16 v11.length k18 (ic .u8 v11), .ro o19 v15.length k21 (ic .u8 v15)]) (fun _ _ => rfl) (fun o81 k82 w83 a84 hS84 hF84 => ?_))
  refine wplp 1 [6, 22, 23, 24] [(6, .slice o81 ((v3 ++ v7).length) k82), (22, .slice o22 4 k23), (23, i6 4), (24, i6 1)] hF84 (fun a85 hF85 => (wpList_nil (blk_n (then_n (wp_region_lit ?_)))))
  refine wplp 2 [6, 22, 23, 24] [(6, .slice o81 ((v3 ++ v7).length) k82), (22, .slice o22 4 k23), (23, i6 4), (24, i6 2)] hF85 (fun a86 hF86 => (wpList_nil (then_n (rounds_go (n := 2) (wp_seq (wp_region_lit ?_))))))
  refine wplp 1 [6, 22, 23, 24, 25] [(6, .slice o81 ((v3 ++ v7).length) k82), (22, .slice o22 4 k23), (23, i6 4), (24, i6 2), (25, .bool true)] hF86 (fun a87 hF87 => (wpList_nil (then_n (wp_seq (wp_cond_true hF87.e (wp_skip (then_n (wp_seq (wp_block (wp_seq (wp_region_lit ?_)))))))))))
  refine wpl_val hF87 (by kernel_rfl) (v := pp (blkOf o22) (offOf o22 + 2)) (run_indexS rfl (ao := o22) (m := 4) (c := k23) hF87.e (rd_ne hS84 1 rfl rfl (j := 2) (v := .slice o16 v11.length k18) rfl) (k := .i64) (i := 2) hF87.e (E := 24) (by kernel_rfl) (s := 1) (by kernel_rfl) (by decide) (r := offOf o22 + 2) rfl) (by kernel_rfl) (fun a88 hF88 => ?_)
  refine wpl_val hF88 (by kernel_rfl) (v := .slice o16 v11.length k18) (run_load1 rfl (b := blkOf o22) (off := offOf o22 + 2) hF88.e (by kernel_rfl) (hS84.atA 1 rfl rfl (2) rfl)) (by kernel_rfl) (fun a89 hF89 => ?_)
  refine wplp 1 [6, 8, 22, 23, 24] [(6, .slice o81 ((v3 ++ v7).length) k82), (8, .slice o16 v11.length k18), (22, .slice o22 4 k23), (23, i6 4), (24, i6 2)] hF89 (fun a90 hF90 => (wpList_nil (then_n (wp_region_lit ?_))))
  refine wplp 2 [22, 23, 24, 28, 29] [(22, .slice o22 4 k23), (23, i6 4), (24, i6 2), (28, .slice o81 ((v3 ++ v7).length) k82), (29, .slice o16 v11.length k18)] hF90 (fun a91 hF91 => ?_)
  obtain ⟨hg92, h⟩ := gd_ok h
  refine wpl_one hF91 (by kernel_rfl) (wp_append hF91 hS84 rfl 0 rfl (by kernel_rfl) (ao2 := o16) (m2 := v11.length) (c2 := k18) (by kernel_rfl) (hS84.rdro 4 rfl) ((ic_len _ _).trans ((len_is (v11) (n := v11.length) rfl) : (v11).length = v11.length)) (ic_one _ _) (by kernel_rfl) (by_ := 1) (by kernel_rfl) (of_decide_eq_true hg92) (by decide) (m' := ((v3 ++ v7) ++ v11).length) (by have h1 := ((len_is ((v3 ++ v7)) (n := (v3 ++ v7).length) rfl) : ((v3 ++ v7)).length = (v3 ++ v7).length); have h2 := ((len_is (v11) (n := v11.length) rfl) : (v11).length = v11.length); (try simp only [List.length_append, List.length_cons, List.length_nil] at h1 h2 ⊢) <;> omega) (cs' := ic .u8 ((v3 ++ v7) ++ v11)) (ic_app _ _ _) (by kernel_rfl) (L' := fun o93 k94 => [.sl o93 (((v3 ++ v7) ++ v11).length) k94 1 (ic .u8 ((v3 ++ v7) ++ v11)) 5, .ro o22 4 k23 ([Value.slice o10 v3.length k12, Value.slice o13 v7.length k15, Value.slice o16 v11.length k18, Value.slice o19 v15.length k21]), .ro o10 v3.length k12 (ic .u8 v3), .ro o13 v7.length k15 (ic .u8 v7), .ro o16 v11.length k18 (ic .u8 v11), .ro o19 v15.length k21 (ic .u8 v15)]) (fun _ _ => rfl) (fun o93 k94 w95 a96 hS96 hF96 => ?_))
  refine wplp 1 [6, 22, 23, 24] [(6, .slice o93 (((v3 ++ v7) ++ v11).length) k94), (22, .slice o22 4 k23), (23, i6 4), (24, i6 2)] hF96 (fun a97 hF97 => (wpList_nil (blk_n (then_n (wp_region_lit ?_)))))
  refine wplp 2 [6, 22, 23, 24] [(6, .slice o93 (((v3 ++ v7) ++ v11).length) k94), (22, .slice o22 4 k23), (23, i6 4), (24, i6 3)] hF97 (fun a98 hF98 => (wpList_nil (then_n (rounds_go (n := 1) (wp_seq (wp_region_lit ?_))))))
  refine wplp 1 [6, 22, 23, 24, 25] [(6, .slice o93 (((v3 ++ v7) ++ v11).length) k94), (22, .slice o22 4 k23), (23, i6 4), (24, i6 3), (25, .bool true)] hF98 (fun a99 hF99 => (wpList_nil (then_n (wp_seq (wp_cond_true hF99.e (wp_skip (then_n (wp_seq (wp_block (wp_seq (wp_region_lit ?_)))))))))))
  refine wpl_val hF99 (by kernel_rfl) (v := pp (blkOf o22) (offOf o22 + 3)) (run_indexS rfl (ao := o22) (m := 4) (c := k23) hF99.e (rd_ne hS96 1 rfl rfl (j := 3) (v := .slice o19 v15.length k21) rfl) (k := .i64) (i := 3) hF99.e (E := 24) (by kernel_rfl) (s := 1) (by kernel_rfl) (by decide) (r := offOf o22 + 3) rfl) (by kernel_rfl) (fun a100 hF100 => ?_)
  refine wpl_val hF100 (by kernel_rfl) (v := .slice o19 v15.length k21) (run_load1 rfl (b := blkOf o22) (off := offOf o22 + 3) hF100.e (by kernel_rfl) (hS96.atA 1 rfl rfl (3) rfl)) (by kernel_rfl) (fun a101 hF101 => ?_)
  refine wplp 1 [6, 8, 22, 23, 24] [(6, .slice o93 (((v3 ++ v7) ++ v11).length) k94), (8, .slice o19 v15.length k21), (22, .slice o22 4 k23), (23, i6 4), (24, i6 3)] hF101 (fun a102 hF102 => (wpList_nil (then_n (wp_region_lit ?_))))
  refine wplp 2 [22, 23, 24, 28, 29] [(22, .slice o22 4 k23), (23, i6 4), (24, i6 3), (28, .slice o93 (((v3 ++ v7) ++ v11).length) k94), (29, .slice o19 v15.length k21)] hF102 (fun a103 hF103 => ?_)
  obtain ⟨hg104, h⟩ := gd_ok h
  refine wpl_one hF103 (by kernel_rfl) (wp_append hF103 hS96 rfl 0 rfl (by kernel_rfl) (ao2 := o19) (m2 := v15.length) (c2 := k21) (by kernel_rfl) (hS96.rdro 5 rfl) ((ic_len _ _).trans ((len_is (v15) (n := v15.length) rfl) : (v15).length = v15.length)) (ic_one _ _) (by kernel_rfl) (by_ := 1) (by kernel_rfl) (of_decide_eq_true hg104) (by decide) (m' := (((v3 ++ v7) ++ v11) ++ v15).length) (by have h1 := ((len_is (((v3 ++ v7) ++ v11)) (n := ((v3 ++ v7) ++ v11).length) rfl) : (((v3 ++ v7) ++ v11)).length = ((v3 ++ v7) ++ v11).length); have h2 := ((len_is (v15) (n := v15.length) rfl) : (v15).length = v15.length); (try simp only [List.length_append, List.length_cons, List.length_nil] at h1 h2 ⊢) <;> omega) (cs' := ic .u8 (((v3 ++ v7) ++ v11) ++ v15)) (ic_app _ _ _) (by kernel_rfl) (L' := fun o105 k106 => [.sl o105 ((((v3 ++ v7) ++ v11) ++ v15).length) k106 1 (ic .u8 (((v3 ++ v7) ++ v11) ++ v15)) 5, .ro o22 4 k23 ([Value.slice o10 v3.length k12, Value.slice o13 v7.length k15, Value.slice o16 v11.length k18, Value.slice o19 v15.length k21]), .ro o10 v3.length k12 (ic .u8 v3), .ro o13 v7.length k15 (ic .u8 v7), .ro o16 v11.length k18 (ic .u8 v11), .ro o19 v15.length k21 (ic .u8 v15)]) (fun _ _ => rfl) (fun o105 k106 w107 a108 hS108 hF108 => ?_))
  refine wplp 1 [6, 22, 23, 24] [(6, .slice o105 ((((v3 ++ v7) ++ v11) ++ v15).length) k106), (22, .slice o22 4 k23), (23, i6 4), (24, i6 3)] hF108 (fun a109 hF109 => (wpList_nil (blk_n (then_n (wp_region_lit ?_)))))
  refine wplp 2 [6, 22, 23, 24] [(6, .slice o105 ((((v3 ++ v7) ++ v11) ++ v15).length) k106), (22, .slice o22 4 k23), (23, i6 4), (24, i6 4)] hF109 (fun a110 hF110 => (wpList_nil (then_n (rounds_go (n := 0) (wp_seq (wp_region_lit ?_))))))
  refine wplp 1 [6, 22, 23, 24, 25] [(6, .slice o105 ((((v3 ++ v7) ++ v11) ++ v15).length) k106), (22, .slice o22 4 k23), (23, i6 4), (24, i6 4), (25, .bool false)] hF110 (fun a111 hF111 => (wpList_nil (then_n (wp_seq (wp_cond_false hF111.e (wp_exit ?_))))))
  refine then_x (then_x (blk_x (then_n (wp_seq (wp_region_lit ?_)))))
  refine wplp 2 [2] [(2, .slice o105 ((((v3 ++ v7) ++ v11) ++ v15).length) k106)] hF111 (fun a112 hF112 => (wpList_nil (then_n (wp_ret (ret_ok hF112 [.slice o105 ((((v3 ++ v7) ++ v11) ++ v15).length) k106] (⟨by kernel_rfl, trivial⟩) ?_)))))
  have hr0 := Option.some.inj h
  subst hr0
  exact ⟨o105, ((((v3 ++ v7) ++ v11) ++ v15).length), k106, (Eq.symm ((len_is ((((v3 ++ v7) ++ v11) ++ v15)) (n := (((v3 ++ v7) ++ v11) ++ v15).length) rfl) : ((((v3 ++ v7) ++ v11) ++ v15)).length = (((v3 ++ v7) ++ v11) ++ v15).length)), rfl, hS108.sub (.cons_cons _ (.cons _ (.cons _ (.cons _ (.cons _ (.cons _ (.slnil)))))))⟩
def i_kem_KeyGen (v1 : List Int) (v2 : List Int) : Option (List Int × List Int × Int) :=
  ((i_kem_PkeKey v1).bind fun (v11, v12, v13) => (if (v13 != 0) = true then some ([], [], v13) else ((i_keccak_Sha3256_1 v11).bind fun v35 => ((i_octet_Join_4 v12 v11 v35 v2).bind fun v49 => some (v11, v49, 0)))))
theorem i_kem_KeyGen_ok (v1 : List Int) (v2 : List Int) {w : World} (hl_v1 : v1.length = 32) (hl_v2 : v2.length = 32) (c0 : List Int) (c1 : List Int) (c2 : Int) (h : i_kem_KeyGen v1 v2 = some (c0, c1, c2)) : Calls Try.prog 6 #[.agg (ic .u8 v1).toArray, .agg (ic .u8 v2).toArray] w (Ret (fun v w' => ∃ (o10 : Option Addr) (n10 k10 : Nat) (o11 : Option Addr) (n11 k11 : Nat), n10 = c0.length ∧ n11 = c1.length ∧ v = .tuple #[.slice o10 n10 k10, .slice o11 n11 k11, i6 c2] ∧ St w w' [.sl o10 n10 k10 1 (ic .u8 c0) 5, .sl o11 n11 k11 1 (ic .u8 c1) 5])) := by
  unfold i_kem_KeyGen at h
  refine calls_of_wp Try.func6 rfl ?_
  have hF := Fr.start (#[.agg (ic .u8 v1).toArray, .agg (ic .u8 v2).toArray] : Array Value) 28 30 [(0, .agg (ic .u8 v1).toArray), (1, .agg (ic .u8 v2).toArray)] rfl (by kernel_rfl)
  have hS := St.nil w
  refine go_fr hF (fun a hF => (wp_seq (wp_region_lit ?_)))
  refine wpl_one hF (by kernel_rfl) (wp_box hF hS rfl (v := .agg (ic .u8 v1).toArray) (by kernel_rfl) (ic .u8 v1) rfl (by kernel_rfl) (fun b12 w13 a14 hS14 hF14 => ?_))
  refine wpl_one hF14 (by kernel_rfl) (wp_box hF14 hS14 rfl (v := .agg (ic .u8 v2).toArray) (by kernel_rfl) (ic .u8 v2) rfl (by kernel_rfl) (fun b15 w16 a17 hS17 hF17 => ?_))
  refine wplp 3 [2, 3] [(2, pp b12 0), (3, pp b15 0)] hF17 (fun a18 hF18 => (wpList_nil (then_n (wp_seq (wp_region_lit ?_)))))
  refine wpl_val hF18 (by kernel_rfl) (v := .agg (ic .u8 v1).toArray) (run_loadR rfl (b := b12) (off := 0) hF18.e (by kernel_rfl) (k := 32) (by kernel_rfl) (((ic_len _ _).trans hl_v1) : (ic .u8 v1).length = 32) (hS17.all 1 rfl)) (by kernel_rfl) (fun a19 hF19 => ?_)
  obtain ⟨⟨v11, v12, v13⟩, hb20, h⟩ := bind_ok h
  refine wpl_one hF19 (by kernel_rfl) (wp_callR hF19 (by kernel_rfl) (g := 18) (args := #[.agg (ic .u8 v1).toArray]) (by kernel_rfl) (i_kem_PkeKey_ok v1 hl_v1 v11 v12 v13 hb20) (fun vr w21 hp => ?_))
  obtain ⟨o22, n23, k24, o25, n26, k27, hn_n23, hn_n26, rfl, hS28⟩ := hp
  subst hn_n23
  subst hn_n26
  replace hS28 := St.call hS17 hS28 rfl
  refine go_fr (hF19.next (.tuple #[.slice o22 v11.length k24, .slice o25 v12.length k27, i6 v13]) [3, 13] (M := [(3, pp b15 0), (13, .tuple #[.slice o22 v11.length k24, .slice o25 v12.length k27, i6 v13])]) (by kernel_rfl)) (fun a28 hF28 => ?_)
  refine wplp 7 [3, 7, 8, 9] [(3, pp b15 0), (7, .slice o22 v11.length k24), (8, .slice o25 v12.length k27), (9, i6 v13)] hF28 (fun a29 hF29 => (wpList_nil (then_n (wp_seq (wp_seq (wp_region_lit ?_))))))
  refine wplp 2 [3, 7, 8, 9, 18] [(3, pp b15 0), (7, .slice o22 v11.length k24), (8, .slice o25 v12.length k27), (9, i6 v13), (18, .bool (v13 != 0))] hF29 (fun a30 hF30 => (wpList_nil (then_n ?_)))
  refine wp_cond_split (t := (v13 != 0)) hF30.e (fun ht31 => ?_) (fun ht31 => ?_)
  ·
   have h := if_t ht31 h
   refine wp_seq (wp_region_lit ?_)
   refine wplp 4 [4, 5, 6] [(4, .slice none 0 0), (5, .slice none 0 0), (6, i6 v13)] hF30 (fun a32 hF32 => (wpList_nil (then_n (wp_ret ?_))))
   refine then_r (ret_ok hF32 [.slice none 0 0, .slice none 0 0, i6 v13] (⟨by kernel_rfl, by kernel_rfl, by kernel_rfl, trivial⟩) ?_)
   have hS33 := St.addnil hS28 1 5
   have hS34 := St.addnil hS33 1 5
   have hS35 := St.eqv (M := [.sl none 0 0 1 (ic .u8 ([])) 5, .sl o22 v11.length k24 1 (ic .u8 v11) 5, .sl o25 v12.length k27 1 (ic .u8 v12) 5, .blk b15 (ic .u8 v2) 22, .blk b12 (ic .u8 v1) 22, .sl none 0 0 1 (ic .u8 ([])) 5]) (St.move hS34 0 5 rfl rfl) rfl
   have hS36 := St.eqv (M := [.sl o22 v11.length k24 1 (ic .u8 v11) 5, .sl o25 v12.length k27 1 (ic .u8 v12) 5, .blk b15 (ic .u8 v2) 22, .blk b12 (ic .u8 v1) 22, .sl none 0 0 1 (ic .u8 ([])) 5, .sl none 0 0 1 (ic .u8 ([])) 5]) (St.move hS35 0 4 rfl rfl) rfl
   have hr0 := Option.some.inj h
   obtain ⟨hq0, hr1⟩ := Prod.mk.inj hr0
   obtain ⟨hq1, hr2⟩ := Prod.mk.inj hr1
   subst hq0
   subst hq1
   subst hr2
   exact ⟨none, 0, 0, none, 0, 0, rfl, rfl, rfl, hS36.sub (.cons _ (.cons _ (.cons _ (.cons _ (.cons_cons _ (.cons_cons _ (.slnil)))))))⟩
  ·
   have h := if_f ht31 h
   refine wp_skip (then_n (wp_seq (wp_region_lit ?_)))
   refine wplp 1 [3, 7, 8, 20] [(3, pp b15 0), (7, .slice o22 v11.length k24), (8, .slice o25 v12.length k27), (20, .slice o22 v11.length k24)] hF30 (fun a37 hF37 => ?_)
   refine wpl_one hF37 (by kernel_rfl) (wp_buildSlice hF37 hS28 rfl (E := 24) (by kernel_rfl) (by kernel_rfl) (z := .slice none 0 0) (by kernel_rfl) rfl (ps := [(0, .slice o22 v11.length k24)]) (by kernel_rfl) (by kernel_rfl) (cs := [Value.slice o22 v11.length k24]) (by kernel_rfl) (by decide) (by kernel_rfl) (fun b38 w39 a40 hS40 hF40 => ?_))
   obtain ⟨v35, hb41, h⟩ := bind_ok h
   refine wpl_one hF40 (by kernel_rfl) (wp_callR hF40 (by kernel_rfl) (g := 19) (args := #[.slice (some ⟨b38, 0, none⟩) 1 1]) (by kernel_rfl) (i_keccak_Sha3256_1_ok v11 (hS40.rdW 0 rfl (Nat.le_refl _)) (len_is (v11) (n := v11.length) rfl) (hS40.rdsl 1 rfl) v35 hb41) (fun vr w42 hp => ?_))
   obtain ⟨rfl, hS43, hl_v35⟩ := hp
   replace hS43 := St.call hS40 hS43 rfl
   refine go_fr (hF40.next (.agg (ic .u8 v35).toArray) [3, 7, 8, 22] (M := [(3, pp b15 0), (7, .slice o22 v11.length k24), (8, .slice o25 v12.length k27), (22, .agg (ic .u8 v35).toArray)]) (by kernel_rfl)) (fun a43 hF43 => ?_)
   refine wpl_one hF43 (by kernel_rfl) (wp_alloc hF43 hS43 rfl (z := .agg (ic .u8 (rz 32)).toArray) (by kernel_rfl) (ic .u8 (rz 32)) rfl (by kernel_rfl) (fun b44 w45 a46 hS46 hF46 => ?_))
   refine wpl_one hF46 (by kernel_rfl) (wp_store hF46 hS46 rfl 0 rfl (off := 0) (by kernel_rfl) (v := .agg (ic .u8 v35).toArray) (by kernel_rfl) (vs := ic .u8 v35) rfl (k := 32) (by kernel_rfl) (((ic_len _ _).trans hl_v35) : (ic .u8 v35).length = 32) (by have h2 := (((ic_len _ _).trans (len_is (rz 32) (n := 32) (List.length_replicate))) : (ic .u8 (rz 32)).length = 32); omega) (ic_one _ _) (cs' := ic .u8 v35) ((upd_ic _ _ _ _).trans (congrArg (ic .u8) (upd_all ((hl_v35).trans ((len_is (rz 32) (n := 32) (List.length_replicate))).symm)))) (by kernel_rfl) (L' := [.blk b44 (ic .u8 v35) 22, .blk b38 ([Value.slice o22 v11.length k24]) 24, .sl o22 v11.length k24 1 (ic .u8 v11) 5, .sl o25 v12.length k27 1 (ic .u8 v12) 5, .blk b15 (ic .u8 v2) 22, .blk b12 (ic .u8 v1) 22]) rfl (fun w47 a48 hS48 hF48 => (wpList_nil (then_n (wp_seq (wp_region_noPanic (region_al [] (fun w' => St w w' [.blk b44 (ic .u8 v35) 22, .blk b38 ([Value.slice o22 v11.length k24]) 24, .sl o22 v11.length k24 1 (ic .u8 v11) 5, .sl o25 v12.length k27 1 (ic .u8 v12) 5, .blk b15 (ic .u8 v2) 22, .blk b12 (ic .u8 v1) 22]) 10 rfl (by kernel_rfl) ?_)))))))
   have hS49 := St.draw1 hS48
   refine al_run (fun _ _ _ _ _ h => h) 5 [0, 1, 2, 3, 4] rfl [23, 24, 25, 26, 27] [(23, .slice o22 v11.length k24), (24, .slice o25 v12.length k27), (25, .slice o22 v11.length k24), (26, .slice (some ⟨b44, 0, none⟩) 32 32), (27, .slice (some ⟨b15, 0, none⟩) 32 32)] hF48 (by kernel_rfl) (fun _ => hS49) (fun a50 hF50 => ?_)
   refine al_one (i := 5) rfl (by kernel_rfl) hF50 (by kernel_rfl) (wp_buildSlice hF50 hS49 rfl (E := 24) (by kernel_rfl) (by kernel_rfl) (z := .slice none 0 0) (by kernel_rfl) rfl (ps := [(0, .slice o25 v12.length k27), (1, .slice o22 v11.length k24), (2, .slice (some ⟨b44, 0, none⟩) 32 32), (3, .slice (some ⟨b15, 0, none⟩) 32 32)]) (by kernel_rfl) (by kernel_rfl) (cs := [Value.slice o25 v12.length k27, Value.slice o22 v11.length k24, Value.slice (some ⟨b44, 0, none⟩) 32 32, Value.slice (some ⟨b15, 0, none⟩) 32 32]) (by kernel_rfl) (by decide) (by kernel_rfl) (fun b51 w52 a53 hS53 hF53 => (And.intro (fun _ => hS53.sub (.cons _ (.cons_cons _ (.cons_cons _ (.cons_cons _ (.cons_cons _ (.cons_cons _ (.cons_cons _ (.slnil))))))))) ?_)))
   obtain ⟨v49, hb54, h⟩ := bind_ok h
   refine al_one (i := 6) rfl (by kernel_rfl) hF53 (by kernel_rfl) (wp_callR hF53 (by kernel_rfl) (g := 20) (args := #[.slice (some ⟨b51, 0, none⟩) 4 4]) (by kernel_rfl) (i_octet_Join_4_ok v12 v11 v35 v2 (hS53.rdW 0 rfl (Nat.le_refl _)) (len_is (v12) (n := v12.length) rfl) (hS53.rdsl 4 rfl) (len_is (v11) (n := v11.length) rfl) (hS53.rdsl 3 rfl) hl_v35 (hS53.rdW 1 rfl (Nat.le_refl _)) hl_v2 (hS53.rdW 5 rfl (Nat.le_refl _)) v49 hb54) (fun vr w55 hp => ?_))
   obtain ⟨o56, n57, k58, hn_n57, rfl, hS59⟩ := hp
   subst hn_n57
   replace hS59 := St.call hS53 hS59 rfl
   refine And.intro (fun _ => hS59.sub (.cons _ (.cons _ (.cons_cons _ (.cons_cons _ (.cons_cons _ (.cons_cons _ (.cons_cons _ (.cons_cons _ (.slnil)))))))))) ?_
   refine go_fr (hF53.next (.slice o56 v49.length k58) [23, 29] (M := [(23, .slice o22 v11.length k24), (29, .slice o56 v49.length k58)]) (by kernel_rfl)) (fun a59 hF59 => ?_)
   refine al_run (fun _ _ _ _ _ h => h) 0 [7, 8, 9] rfl [4, 5, 6] [(4, .slice o22 v11.length k24), (5, .slice o56 v49.length k58), (6, i6 0)] hF59 (by kernel_rfl) (fun _ => hS59.sub (.cons _ (.cons _ (.cons_cons _ (.cons_cons _ (.cons_cons _ (.cons_cons _ (.cons_cons _ (.cons_cons _ (.slnil)))))))))) (fun a60 hF60 => ?_)
   refine al_done (by kernel_rfl) ?_ _
   refine NoPanic.normal (then_n (wp_ret (ret_ok hF60 [.slice o22 v11.length k24, .slice o56 v49.length k58, i6 0] (⟨by kernel_rfl, by kernel_rfl, by kernel_rfl, trivial⟩) ?_)))
   have hS61 := St.eqv (M := [.blk b51 ([Value.slice o25 v12.length k27, Value.slice o22 v11.length k24, Value.slice (some ⟨b44, 0, none⟩) 32 32, Value.slice (some ⟨b15, 0, none⟩) 32 32]) 24, .blk b44 (ic .u8 v35) 22, .blk b38 ([Value.slice o22 v11.length k24]) 24, .sl o22 v11.length k24 1 (ic .u8 v11) 5, .sl o25 v12.length k27 1 (ic .u8 v12) 5, .blk b15 (ic .u8 v2) 22, .blk b12 (ic .u8 v1) 22, .sl o56 v49.length k58 1 (ic .u8 v49) 5]) (St.move hS59 0 7 rfl rfl) rfl
   have hS62 := St.eqv (M := [.blk b51 ([Value.slice o25 v12.length k27, Value.slice o22 v11.length k24, Value.slice (some ⟨b44, 0, none⟩) 32 32, Value.slice (some ⟨b15, 0, none⟩) 32 32]) 24, .blk b44 (ic .u8 v35) 22, .blk b38 ([Value.slice o22 v11.length k24]) 24, .sl o25 v12.length k27 1 (ic .u8 v12) 5, .blk b15 (ic .u8 v2) 22, .blk b12 (ic .u8 v1) 22, .sl o22 v11.length k24 1 (ic .u8 v11) 5, .sl o56 v49.length k58 1 (ic .u8 v49) 5]) (St.move hS61 3 6 rfl rfl) rfl
   have hr0 := Option.some.inj h
   obtain ⟨hq0, hr1⟩ := Prod.mk.inj hr0
   obtain ⟨hq1, hr2⟩ := Prod.mk.inj hr1
   subst hq0
   subst hq1
   subst hr2
   exact ⟨o22, v11.length, k24, o56, v49.length, k58, (Eq.symm ((len_is (v11) (n := v11.length) rfl) : (v11).length = v11.length)), (Eq.symm ((len_is (v49) (n := v49.length) rfl) : (v49).length = v49.length)), rfl, hS62.sub (.cons _ (.cons _ (.cons _ (.cons _ (.cons _ (.cons _ (.cons_cons _ (.cons_cons _ (.slnil)))))))))⟩
end Go.Proofs.YtapilbdboeggdaaR.Gx
