/-
A part of the proof: printed walks of the functions that the law reaches, and plain laws over them.
-/
import Derived.Test.YtapilbdboeggdaaRW01
import Derived.Test.YtapilbdboeggdaaRW02
import Derived.Test.YtapilbdboeggdaaRW03
import Derived.Test.YtapilbdboeggdaaRW08
import Derived.Test.YtapilbdboeggdaaRW07
import Derived.Test.YtapilbdboeggdaaRW05
import Derived.Test.YtapilbdboeggdaaRW04
import Derived.Test.YtapilbdboeggdaaRW06
set_option maxRecDepth 1000000
set_option linter.unusedVariables false
set_option linter.unusedSimpArgs false
set_option maxHeartbeats 4000000
namespace Go.Proofs.YtapilbdboeggdaaR.Gx
open Go
theorem i_ring_Reduce_l1_tot   : ∀ (k : Nat) (v35 : List Int) (v36 : Int), v35.length = 256 → 0 ≤ v36 ∧ v36 ≤ 256 → (256 - v36).toNat < k → OK (i_ring_Reduce_l1 k v35 v36) (fun r0 => (r0.length = 256)) := by
  intro k
  induction k with
  | zero => intro v35 v36 hl_v35 hb_v36 hm; exact absurd hm (Nat.not_lt_zero _)
  | succ k ih =>
   intro v35 v36 hl_v35 hb_v36 hm
   rw [i_ring_Reduce_l1]
   refine OK.ite (fun hc1 => ?_) (fun hc1 => ?_)
   ·
    try simp (disch := omega) only [zD, zE, beq_iff_eq, zF, bne_iff_ne, zG, ne_eq, zH, zI, zW] at hc1
    refine OK.grd (by simp (disch := omega) only [inb, zN, true_and, and_true, decide_true, zW, Bool.and_eq_true, zD, List.length_append] <;> omega) ?_
    refine OK.nm (fun v53 hv_v53 => ?_)
    have hl_v53 : v53.length = 256 := (congrArg List.length hv_v53).trans (List.length_set.trans hl_v35)
    exact ih v53 (IntKind.i64.wrap (v36 + 1)) hl_v53 (by (try simp (disch := omega) only [inb, zN, true_and, and_true, decide_true, zW, Bool.and_eq_true, zD, List.length_append]) <;> omega) (by (try simp (disch := omega) only [zW]) <;> omega)
   ·
    try simp (disch := omega) only [zD, zE, beq_iff_eq, zF, bne_iff_ne, zG, ne_eq, zH, zI, zW] at hc1
    exact OK.some hl_v35
theorem i_ring_Reduce_tot (v1 : List Int) (hl_v1 : v1.length = 256) : OK (i_ring_Reduce v1) (fun r0 => (r0.length = 256)) := by
  unfold i_ring_Reduce
  refine OK.bind (i_ring_Reduce_l1_tot LIM v1 0 hl_v1 (by (try simp (disch := omega) only [inb, zN, true_and, and_true, decide_true, zW, Bool.and_eq_true, zD, List.length_append]) <;> omega) (by simp only [LIM]; omega)) (fun v37 hr1 => ?_)
  have hl_v37 := hr1
  exact OK.some hl_v37
theorem i_ring_Add_l1_tot (v19 : List Int) (hl_v19 : v19.length = 256) : ∀ (k : Nat) (v62 : List Int) (v63 : Int), v62.length = 256 → 0 ≤ v63 ∧ v63 ≤ 256 → (256 - v63).toNat < k → OK (i_ring_Add_l1 v19 k v62 v63) (fun r0 => (r0.length = 256)) := by
  intro k
  induction k with
  | zero => intro v62 v63 hl_v62 hb_v63 hm; exact absurd hm (Nat.not_lt_zero _)
  | succ k ih =>
   intro v62 v63 hl_v62 hb_v63 hm
   rw [i_ring_Add_l1]
   refine OK.ite (fun hc1 => ?_) (fun hc1 => ?_)
   ·
    try simp (disch := omega) only [zD, zE, beq_iff_eq, zF, bne_iff_ne, zG, ne_eq, zH, zI, zW] at hc1
    refine OK.grd (by simp (disch := omega) only [inb, zN, true_and, and_true, decide_true, zW, Bool.and_eq_true, zD, List.length_append] <;> omega) ?_
    refine OK.nm (fun v83 hv_v83 => ?_)
    have hl_v83 : v83.length = 256 := (congrArg List.length hv_v83).trans (List.length_set.trans hl_v62)
    exact ih v83 (IntKind.i64.wrap (v63 + 1)) hl_v83 (by (try simp (disch := omega) only [inb, zN, true_and, and_true, decide_true, zW, Bool.and_eq_true, zD, List.length_append]) <;> omega) (by (try simp (disch := omega) only [zW]) <;> omega)
   ·
    try simp (disch := omega) only [zD, zE, beq_iff_eq, zF, bne_iff_ne, zG, ne_eq, zH, zI, zW] at hc1
    exact OK.some hl_v62
theorem i_ring_Add_tot (v1 : List Int) (v2 : List Int) (hl_v1 : v1.length = 256) (hl_v2 : v2.length = 256) : OK (i_ring_Add v1 v2) (fun r0 => (r0.length = 256)) := by
  unfold i_ring_Add
  refine OK.bind (i_ring_Reduce_tot v1 hl_v1) (fun v15 hr1 => ?_)
  have hl_v15 := hr1
  refine OK.bind (i_ring_Reduce_tot v2 hl_v2) (fun v19 hr2 => ?_)
  have hl_v19 := hr2
  refine OK.bind (i_ring_Add_l1_tot v19 hl_v19 LIM v15 0 hl_v15 (by (try simp (disch := omega) only [inb, zN, true_and, and_true, decide_true, zW, Bool.and_eq_true, zD, List.length_append]) <;> omega) (by simp only [LIM]; omega)) (fun v64 hr3 => ?_)
  have hl_v64 := hr3
  exact OK.some hl_v64
theorem i_ring_powers_tot   : OK (i_ring_powers) (fun r0 => (r0.length = 128)) := by
  exact OK.len (by kernel_rfl)
theorem i_ring_times_tot (v1 : Int) (v2 : Int)  : OK (i_ring_times v1 v2) (fun r0 => True) := by
  unfold i_ring_times
  exact OK.some trivial
theorem i_ring_times_tot1 (v1 : Int)  : OK (i_ring_times v1 17) (fun r0 => True) := by
  unfold i_ring_times
  exact OK.some trivial
theorem i_ring_MulNtt_l1_tot (v27 : List Int) (v15 : List Int) (v19 : List Int) (hl_v27 : v27.length = 128) (hl_v15 : v15.length = 256) (hl_v19 : v19.length = 256) : ∀ (k : Nat) (v190 : List Int) (v191 : Int), v190.length = 256 → 0 ≤ v191 ∧ v191 ≤ 128 → (128 - v191).toNat < k → OK (i_ring_MulNtt_l1 v27 v15 v19 k v190 v191) (fun r0 => (r0.length = 256)) := by
  intro k
  induction k with
  | zero => intro v190 v191 hl_v190 hb_v191 hm; exact absurd hm (Nat.not_lt_zero _)
  | succ k ih =>
   intro v190 v191 hl_v190 hb_v191 hm
   rw [i_ring_MulNtt_l1]
   refine OK.ite (fun hc1 => ?_) (fun hc1 => ?_)
   ·
    try simp (disch := omega) only [zD, zE, beq_iff_eq, zF, bne_iff_ne, zG, ne_eq, zH, zI, zW] at hc1
    refine OK.grd (by simp (disch := omega) only [inb, zN, true_and, and_true, decide_true, zW, Bool.and_eq_true, zD, List.length_append] <;> omega) ?_
    refine OK.bind (i_ring_times_tot (rd v27 v191.toNat) (rd v27 v191.toNat)) (fun v207 hr2 => ?_)
    refine OK.bind (i_ring_times_tot1 v207) (fun v211 hr3 => ?_)
    refine OK.grd (by simp (disch := omega) only [inb, zN, true_and, and_true, decide_true, zW, Bool.and_eq_true, zD, List.length_append] <;> omega) ?_
    refine OK.grd (by simp (disch := omega) only [inb, zN, true_and, and_true, decide_true, zW, Bool.and_eq_true, zD, List.length_append] <;> omega) ?_
    refine OK.nm (fun v232 hv_v232 => ?_)
    try simp (disch := omega) only [zW] at hv_v232
    refine OK.nm (fun v234 hv_v234 => ?_)
    try simp (disch := omega) only [zW] at hv_v234
    refine OK.bind (i_ring_times_tot (rd v15 ((IntKind.i64.wrap (2 * v191)).toNat)) (rd v19 ((IntKind.i64.wrap (2 * v191)).toNat))) (fun v237 hr4 => ?_)
    refine OK.bind (i_ring_times_tot v232 v234) (fun v242 hr5 => ?_)
    refine OK.bind (i_ring_times_tot v242 v211) (fun v247 hr6 => ?_)
    refine OK.grd (by simp (disch := omega) only [inb, zN, true_and, and_true, decide_true, zW, Bool.and_eq_true, zD, List.length_append] <;> omega) ?_
    refine OK.nm (fun v256 hv_v256 => ?_)
    have hl_v256 : v256.length = 256 := (congrArg List.length hv_v256).trans (List.length_set.trans hl_v190)
    refine OK.bind (i_ring_times_tot (rd v15 ((IntKind.i64.wrap (2 * v191)).toNat)) v234) (fun v259 hr7 => ?_)
    refine OK.bind (i_ring_times_tot v232 (rd v19 ((IntKind.i64.wrap (2 * v191)).toNat))) (fun v264 hr8 => ?_)
    refine OK.grd (by simp (disch := omega) only [inb, zN, true_and, and_true, decide_true, zW, Bool.and_eq_true, zD, List.length_append] <;> omega) ?_
    refine OK.nm (fun v273 hv_v273 => ?_)
    have hl_v273 : v273.length = 256 := (congrArg List.length hv_v273).trans (List.length_set.trans hl_v256)
    exact ih v273 (IntKind.i64.wrap (v191 + 1)) hl_v273 (by (try simp (disch := omega) only [inb, zN, true_and, and_true, decide_true, zW, Bool.and_eq_true, zD, List.length_append]) <;> omega) (by (try simp (disch := omega) only [zW]) <;> omega)
   ·
    try simp (disch := omega) only [zD, zE, beq_iff_eq, zF, bne_iff_ne, zG, ne_eq, zH, zI, zW] at hc1
    exact OK.some hl_v190
theorem i_ring_MulNtt_tot (v1 : List Int) (v2 : List Int) (hl_v1 : v1.length = 256) (hl_v2 : v2.length = 256) : OK (i_ring_MulNtt v1 v2) (fun r0 => (r0.length = 256)) := by
  unfold i_ring_MulNtt
  refine OK.bind (i_ring_Reduce_tot v1 hl_v1) (fun v15 hr1 => ?_)
  have hl_v15 := hr1
  refine OK.bind (i_ring_Reduce_tot v2 hl_v2) (fun v19 hr2 => ?_)
  have hl_v19 := hr2
  refine OK.bind (i_ring_powers_tot) (fun v27 hr3 => ?_)
  have hl_v27 := hr3
  refine OK.bind (i_ring_MulNtt_l1_tot v27 v15 v19 hl_v27 hl_v15 hl_v19 LIM (List.replicate 256 (0 : Int)) 0 List.length_replicate (by (try simp (disch := omega) only [inb, zN, true_and, and_true, decide_true, zW, Bool.and_eq_true, zD, List.length_append]) <;> omega) (by simp only [LIM]; omega)) (fun v192 hr4 => ?_)
  have hl_v192 := hr4
  exact OK.some hl_v192
theorem i_keccak_offsets_tot   : OK (i_keccak_offsets) (fun r0 => (r0.length = 25)) := by
  exact OK.len (by kernel_rfl)
theorem i_keccak_constants_tot   : OK (i_keccak_constants) (fun r0 => (r0.length = 24)) := by
  exact OK.len (by kernel_rfl)
theorem i_keccak_Permute_l10_tot (v772 : List Int) (hl_v772 : v772.length = 25) : ∀ (k : Nat) (v856 : List Int) (v857 : Int), v856.length = 5 → 0 ≤ v857 ∧ v857 ≤ 5 → (5 - v857).toNat < k → OK (i_keccak_Permute_l10 v772 k v856 v857) (fun r0 => (r0.length = 5)) := by
  intro k
  induction k with
  | zero => intro v856 v857 hl_v856 hb_v857 hm; exact absurd hm (Nat.not_lt_zero _)
  | succ k ih =>
   intro v856 v857 hl_v856 hb_v857 hm
   rw [i_keccak_Permute_l10]
   refine OK.ite (fun hc1 => ?_) (fun hc1 => ?_)
   ·
    try simp (disch := omega) only [zD, zE, beq_iff_eq, zF, bne_iff_ne, zG, ne_eq, zH, zI, zW] at hc1
    refine OK.grd (by simp (disch := omega) only [inb, zN, true_and, and_true, decide_true, zW, Bool.and_eq_true, zD, List.length_append] <;> omega) ?_
    refine OK.grd (by simp (disch := omega) only [inb, zN, true_and, and_true, decide_true, zW, Bool.and_eq_true, zD, List.length_append] <;> omega) ?_
    refine OK.grd (by simp (disch := omega) only [inb, zN, true_and, and_true, decide_true, zW, Bool.and_eq_true, zD, List.length_append] <;> omega) ?_
    refine OK.grd (by simp (disch := omega) only [inb, zN, true_and, and_true, decide_true, zW, Bool.and_eq_true, zD, List.length_append] <;> omega) ?_
    refine OK.grd (by simp (disch := omega) only [inb, zN, true_and, and_true, decide_true, zW, Bool.and_eq_true, zD, List.length_append] <;> omega) ?_
    refine OK.grd (by simp (disch := omega) only [inb, zN, true_and, and_true, decide_true, zW, Bool.and_eq_true, zD, List.length_append] <;> omega) ?_
    refine OK.nm (fun v891 hv_v891 => ?_)
    have hl_v891 : v891.length = 5 := (congrArg List.length hv_v891).trans (List.length_set.trans hl_v856)
    exact ih v891 (IntKind.i64.wrap (v857 + 1)) hl_v891 (by (try simp (disch := omega) only [inb, zN, true_and, and_true, decide_true, zW, Bool.and_eq_true, zD, List.length_append]) <;> omega) (by (try simp (disch := omega) only [zW]) <;> omega)
   ·
    try simp (disch := omega) only [zD, zE, beq_iff_eq, zF, bne_iff_ne, zG, ne_eq, zH, zI, zW] at hc1
    exact OK.some hl_v856
theorem i_math_bits_RotateLeft64_tot (v1 : Int)  : OK (i_math_bits_RotateLeft64 v1 1) (fun r0 => True) := by
  unfold i_math_bits_RotateLeft64
  refine OK.grd (by simp (disch := omega) only [inb, zN, true_and, and_true, decide_true, zW, Bool.and_eq_true, zD, List.length_append] <;> omega) ?_
  refine OK.grd (by simp (disch := omega) only [inb, zN, true_and, and_true, decide_true, zW, Bool.and_eq_true, zD, List.length_append] <;> omega) ?_
  refine OK.nm (fun v11 hv_v11 => ?_)
  try simp (disch := omega) only [zW] at hv_v11
  exact OK.some trivial
theorem i_keccak_Permute_l11_tot (v858 : List Int) (hl_v858 : v858.length = 5) : ∀ (k : Nat) (v941 : List Int) (v942 : Int), v941.length = 5 → 0 ≤ v942 ∧ v942 ≤ 5 → (5 - v942).toNat < k → OK (i_keccak_Permute_l11 v858 k v941 v942) (fun r0 => (r0.length = 5)) := by
  intro k
  induction k with
  | zero => intro v941 v942 hl_v941 hb_v942 hm; exact absurd hm (Nat.not_lt_zero _)
  | succ k ih =>
   intro v941 v942 hl_v941 hb_v942 hm
   rw [i_keccak_Permute_l11]
   refine OK.ite (fun hc1 => ?_) (fun hc1 => ?_)
   ·
    try simp (disch := omega) only [zD, zE, beq_iff_eq, zF, bne_iff_ne, zG, ne_eq, zH, zI, zW] at hc1
    refine OK.grd (by simp (disch := omega) only [inb, zN, true_and, and_true, decide_true, zW, Bool.and_eq_true, zD, List.length_append] <;> omega) ?_
    refine OK.grd (by simp (disch := omega) only [inb, zN, true_and, and_true, decide_true, zW, Bool.and_eq_true, zD, List.length_append] <;> omega) ?_
    refine OK.bind (i_math_bits_RotateLeft64_tot (rd v858 (((IntKind.i64.wrap (v942 + 1)).tmod 5).toNat))) (fun v959 hr2 => ?_)
    refine OK.grd (by simp (disch := omega) only [inb, zN, true_and, and_true, decide_true, zW, Bool.and_eq_true, zD, List.length_append] <;> omega) ?_
    refine OK.nm (fun v968 hv_v968 => ?_)
    have hl_v968 : v968.length = 5 := (congrArg List.length hv_v968).trans (List.length_set.trans hl_v941)
    exact ih v968 (IntKind.i64.wrap (v942 + 1)) hl_v968 (by (try simp (disch := omega) only [inb, zN, true_and, and_true, decide_true, zW, Bool.and_eq_true, zD, List.length_append]) <;> omega) (by (try simp (disch := omega) only [zW]) <;> omega)
   ·
    try simp (disch := omega) only [zD, zE, beq_iff_eq, zF, bne_iff_ne, zG, ne_eq, zH, zI, zW] at hc1
    exact OK.some hl_v941
theorem i_math_bits_RotateLeft64_tot1 (v1 : Int) (v2 : Int)  : OK (i_math_bits_RotateLeft64 v1 v2) (fun r0 => True) := by
  unfold i_math_bits_RotateLeft64
  refine OK.grd (by simp (disch := omega) only [inb, zN, true_and, and_true, decide_true, zW, Bool.and_eq_true, zD, List.length_append] <;> omega) ?_
  refine OK.grd (by simp (disch := omega) only [inb, zN, true_and, and_true, decide_true, zW, Bool.and_eq_true, zD, List.length_append] <;> omega) ?_
  refine OK.nm (fun v11 hv_v11 => ?_)
  try simp (disch := omega) only [zW] at hv_v11
  exact OK.some trivial
theorem i_keccak_Permute_l12_tot (v772 : List Int) (v943 : List Int) (v8 : List Int) (hl_v772 : v772.length = 25) (hl_v943 : v943.length = 5) (hl_v8 : v8.length = 25) : ∀ (k : Nat) (v1027 : List Int) (v1028 : Int), v1027.length = 25 → 0 ≤ v1028 ∧ v1028 ≤ 25 → (25 - v1028).toNat < k → OK (i_keccak_Permute_l12 v772 v943 v8 k v1027 v1028) (fun r0 => (r0.length = 25)) := by
  intro k
  induction k with
  | zero => intro v1027 v1028 hl_v1027 hb_v1028 hm; exact absurd hm (Nat.not_lt_zero _)
  | succ k ih =>
   intro v1027 v1028 hl_v1027 hb_v1028 hm
   rw [i_keccak_Permute_l12]
   refine OK.ite (fun hc1 => ?_) (fun hc1 => ?_)
   ·
    try simp (disch := omega) only [zD, zE, beq_iff_eq, zF, bne_iff_ne, zG, ne_eq, zH, zI, zW] at hc1
    refine OK.grd (by simp (disch := omega) only [inb, zN, true_and, and_true, decide_true, zW, Bool.and_eq_true, zD, List.length_append] <;> omega) ?_
    refine OK.grd (by simp (disch := omega) only [inb, zN, true_and, and_true, decide_true, zW, Bool.and_eq_true, zD, List.length_append] <;> omega) ?_
    refine OK.bind (i_math_bits_RotateLeft64_tot1 (ixor .u64 (rd v772 v1028.toNat) (rd v943 ((v1028.tmod 5).toNat))) (rd v8 v1028.toNat)) (fun v1049 hr2 => ?_)
    refine OK.grd (by simp (disch := omega) only [inb, zN, true_and, and_true, decide_true, zW, Bool.and_eq_true, zD, List.length_append] <;> omega) ?_
    refine OK.nm (fun v1057 hv_v1057 => ?_)
    have hl_v1057 : v1057.length = 25 := (congrArg List.length hv_v1057).trans (List.length_set.trans hl_v1027)
    exact ih v1057 (IntKind.i64.wrap (v1028 + 1)) hl_v1057 (by (try simp (disch := omega) only [inb, zN, true_and, and_true, decide_true, zW, Bool.and_eq_true, zD, List.length_append]) <;> omega) (by (try simp (disch := omega) only [zW]) <;> omega)
   ·
    try simp (disch := omega) only [zD, zE, beq_iff_eq, zF, bne_iff_ne, zG, ne_eq, zH, zI, zW] at hc1
    exact OK.some hl_v1027
theorem i_keccak_Permute_l13_tot (v1029 : List Int) (hl_v1029 : v1029.length = 25) : ∀ (k : Nat) (v1107 : List Int) (v1108 : Int), v1107.length = 25 → 0 ≤ v1108 ∧ v1108 ≤ 25 → (25 - v1108).toNat < k → OK (i_keccak_Permute_l13 v1029 k v1107 v1108) (fun r0 => (r0.length = 25)) := by
  intro k
  induction k with
  | zero => intro v1107 v1108 hl_v1107 hb_v1108 hm; exact absurd hm (Nat.not_lt_zero _)
  | succ k ih =>
   intro v1107 v1108 hl_v1107 hb_v1108 hm
   rw [i_keccak_Permute_l13]
   refine OK.ite (fun hc1 => ?_) (fun hc1 => ?_)
   ·
    try simp (disch := omega) only [zD, zE, beq_iff_eq, zF, bne_iff_ne, zG, ne_eq, zH, zI, zW] at hc1
    refine OK.grd (by simp (disch := omega) only [inb, zN, true_and, and_true, decide_true, zW, Bool.and_eq_true, zD, List.length_append] <;> omega) ?_
    refine OK.grd (by simp (disch := omega) only [inb, zN, true_and, and_true, decide_true, zW, Bool.and_eq_true, zD, List.length_append] <;> omega) ?_
    refine OK.grd (by simp (disch := omega) only [inb, zN, true_and, and_true, decide_true, zW, Bool.and_eq_true, zD, List.length_append] <;> omega) ?_
    refine OK.nm (fun v1134 hv_v1134 => ?_)
    have hl_v1134 : v1134.length = 25 := (congrArg List.length hv_v1134).trans (List.length_set.trans hl_v1107)
    exact ih v1134 (IntKind.i64.wrap (v1108 + 1)) hl_v1134 (by (try simp (disch := omega) only [inb, zN, true_and, and_true, decide_true, zW, Bool.and_eq_true, zD, List.length_append]) <;> omega) (by (try simp (disch := omega) only [zW]) <;> omega)
   ·
    try simp (disch := omega) only [zD, zE, beq_iff_eq, zF, bne_iff_ne, zG, ne_eq, zH, zI, zW] at hc1
    exact OK.some hl_v1107
theorem i_keccak_Permute_l9_tot (v8 : List Int) (v17 : List Int) (hl_v8 : v8.length = 25) (hl_v17 : v17.length = 24) : ∀ (k : Nat) (v772 : List Int) (v773 : Int), v772.length = 25 → 0 ≤ v773 ∧ v773 ≤ 24 → (24 - v773).toNat < k → OK (i_keccak_Permute_l9 v8 v17 k v772 v773) (fun r0 => (r0.length = 25)) := by
  intro k
  induction k with
  | zero => intro v772 v773 hl_v772 hb_v773 hm; exact absurd hm (Nat.not_lt_zero _)
  | succ k ih =>
   intro v772 v773 hl_v772 hb_v773 hm
   rw [i_keccak_Permute_l9]
   refine OK.ite (fun hc1 => ?_) (fun hc1 => ?_)
   ·
    try simp (disch := omega) only [zD, zE, beq_iff_eq, zF, bne_iff_ne, zG, ne_eq, zH, zI, zW] at hc1
    refine OK.grd (by simp (disch := omega) only [inb, zN, true_and, and_true, decide_true, zW, Bool.and_eq_true, zD, List.length_append] <;> omega) ?_
    refine OK.bind (i_keccak_Permute_l10_tot v772 hl_v772 LIM (List.replicate 5 (0 : Int)) 0 List.length_replicate (by (try simp (disch := omega) only [inb, zN, true_and, and_true, decide_true, zW, Bool.and_eq_true, zD, List.length_append]) <;> omega) (by simp only [LIM]; omega)) (fun v858 hr2 => ?_)
    have hl_v858 := hr2
    refine OK.bind (i_keccak_Permute_l11_tot v858 hl_v858 LIM (List.replicate 5 (0 : Int)) 0 List.length_replicate (by (try simp (disch := omega) only [inb, zN, true_and, and_true, decide_true, zW, Bool.and_eq_true, zD, List.length_append]) <;> omega) (by simp only [LIM]; omega)) (fun v943 hr3 => ?_)
    have hl_v943 := hr3
    refine OK.bind (i_keccak_Permute_l12_tot v772 v943 v8 hl_v772 hl_v943 hl_v8 LIM (List.replicate 25 (0 : Int)) 0 List.length_replicate (by (try simp (disch := omega) only [inb, zN, true_and, and_true, decide_true, zW, Bool.and_eq_true, zD, List.length_append]) <;> omega) (by simp only [LIM]; omega)) (fun v1029 hr4 => ?_)
    have hl_v1029 := hr4
    refine OK.bind (i_keccak_Permute_l13_tot v1029 hl_v1029 LIM v772 0 hl_v772 (by (try simp (disch := omega) only [inb, zN, true_and, and_true, decide_true, zW, Bool.and_eq_true, zD, List.length_append]) <;> omega) (by simp only [LIM]; omega)) (fun v1109 hr5 => ?_)
    have hl_v1109 := hr5
    refine OK.nm (fun v1151 hv_v1151 => ?_)
    have hl_v1151 : v1151.length = 25 := (congrArg List.length hv_v1151).trans (List.length_set.trans hl_v1109)
    exact ih v1151 (IntKind.i64.wrap (v773 + 1)) hl_v1151 (by (try simp (disch := omega) only [inb, zN, true_and, and_true, decide_true, zW, Bool.and_eq_true, zD, List.length_append]) <;> omega) (by (try simp (disch := omega) only [zW]) <;> omega)
   ·
    try simp (disch := omega) only [zD, zE, beq_iff_eq, zF, bne_iff_ne, zG, ne_eq, zH, zI, zW] at hc1
    exact OK.some hl_v772
theorem i_keccak_Permute_tot (v1 : List Int) (hl_v1 : v1.length = 25) : OK (i_keccak_Permute v1) (fun r0 => (r0.length = 25)) := by
  unfold i_keccak_Permute
  refine OK.bind (i_keccak_offsets_tot) (fun v8 hr1 => ?_)
  have hl_v8 := hr1
  refine OK.bind (i_keccak_constants_tot) (fun v17 hr2 => ?_)
  have hl_v17 := hr2
  refine OK.bind (i_keccak_Permute_l9_tot v8 v17 hl_v8 hl_v17 LIM v1 0 hl_v1 (by (try simp (disch := omega) only [inb, zN, true_and, and_true, decide_true, zW, Bool.and_eq_true, zD, List.length_append]) <;> omega) (by simp only [LIM]; omega)) (fun v774 hr3 => ?_)
  have hl_v774 := hr3
  exact OK.some hl_v774
theorem i_keccak_Sha3256_1_l3_tot (v3 : List Int) (hl_v3 : v3.length = 1184) : ∀ (k : Nat) (v9433 : List Int) (v9434 : Int) (v9435 : Int), v9433.length = 25 → 0 ≤ v9434 ∧ v9434 ≤ 135 → 0 ≤ v9435 ∧ v9435 ≤ (v3.length : Int) → ((v3.length : Int) - v9435).toNat < k → OK (i_keccak_Sha3256_1_l3 v3 k v9433 v9434 v9435) (fun r => match r with | (r0, r1) => (r0.length = 25) ∧ (0 ≤ r1 ∧ r1 ≤ 135)) := by
  intro k
  induction k with
  | zero => intro v9433 v9434 v9435 hl_v9433 hb_v9434 hb_v9435 hm; exact absurd hm (Nat.not_lt_zero _)
  | succ k ih =>
   intro v9433 v9434 v9435 hl_v9433 hb_v9434 hb_v9435 hm
   rw [i_keccak_Sha3256_1_l3]
   refine OK.ite (fun hc1 => ?_) (fun hc1 => ?_)
   ·
    try simp (disch := omega) only [zD, zE, beq_iff_eq, zF, bne_iff_ne, zG, ne_eq, zH, zI, zW] at hc1
    refine OK.grd (by simp (disch := omega) only [inb, zN, true_and, and_true, decide_true, zW, Bool.and_eq_true, zD, List.length_append] <;> omega) ?_
    refine OK.grd (by simp (disch := omega) only [inb, zN, true_and, and_true, decide_true, zW, Bool.and_eq_true, zD, List.length_append] <;> omega) ?_
    refine OK.grd (by simp (disch := omega) only [inb, zN, true_and, and_true, decide_true, zW, Bool.and_eq_true, zD, List.length_append] <;> omega) ?_
    refine OK.nm (fun v9466 hv_v9466 => ?_)
    have hl_v9466 : v9466.length = 25 := (congrArg List.length hv_v9466).trans (List.length_set.trans hl_v9433)
    refine OK.ite (fun hc2 => ?_) (fun hc2 => ?_)
    ·
     try simp (disch := omega) only [zD, zE, beq_iff_eq, zF, bne_iff_ne, zG, ne_eq, zH, zI, zW] at hc2
     refine OK.bind (i_keccak_Permute_tot v9466 hl_v9466) (fun v9481 hr3 => ?_)
     have hl_v9481 := hr3
     exact ih v9481 0 (IntKind.i64.wrap (v9435 + 1)) hl_v9481 (by (try simp (disch := omega) only [inb, zN, true_and, and_true, decide_true, zW, Bool.and_eq_true, zD, List.length_append]) <;> omega) (by (try simp (disch := omega) only [inb, zN, true_and, and_true, decide_true, zW, Bool.and_eq_true, zD, List.length_append]) <;> omega) (by (try simp (disch := omega) only [zW]) <;> omega)
    ·
     try simp (disch := omega) only [zD, zE, beq_iff_eq, zF, bne_iff_ne, zG, ne_eq, zH, zI, zW] at hc2
     exact ih v9466 (IntKind.i64.wrap (v9434 + 1)) (IntKind.i64.wrap (v9435 + 1)) hl_v9466 (by (try simp (disch := omega) only [inb, zN, true_and, and_true, decide_true, zW, Bool.and_eq_true, zD, List.length_append]) <;> omega) (by (try simp (disch := omega) only [inb, zN, true_and, and_true, decide_true, zW, Bool.and_eq_true, zD, List.length_append]) <;> omega) (by (try simp (disch := omega) only [zW]) <;> omega)
   ·
    try simp (disch := omega) only [zD, zE, beq_iff_eq, zF, bne_iff_ne, zG, ne_eq, zH, zI, zW] at hc1
    exact OK.some ⟨hl_v9433, (by (try simp (disch := omega) only [inb, zN, true_and, and_true, decide_true, zW, Bool.and_eq_true, zD, List.length_append]) <;> omega)⟩
theorem i_keccak_Sha3256_1_l4_tot   : ∀ (k : Nat) (v9717 : List Int) (v9718 : List Int) (v9719 : Int) (v9720 : Int), v9717.length = 32 → v9718.length = 25 → 0 ≤ v9719 ∧ v9719 ≤ 136 → 0 ≤ v9720 ∧ v9720 ≤ 32 → (32 - v9720).toNat < k → OK (i_keccak_Sha3256_1_l4 k v9717 v9718 v9719 v9720) (fun r => match r with | (r0, r1, r2) => (r0.length = 32) ∧ (r1.length = 25) ∧ (0 ≤ r2 ∧ r2 ≤ 136)) := by
  intro k
  induction k with
  | zero => intro v9717 v9718 v9719 v9720 hl_v9717 hl_v9718 hb_v9719 hb_v9720 hm; exact absurd hm (Nat.not_lt_zero _)
  | succ k ih =>
   intro v9717 v9718 v9719 v9720 hl_v9717 hl_v9718 hb_v9719 hb_v9720 hm
   rw [i_keccak_Sha3256_1_l4]
   refine OK.ite (fun hc1 => ?_) (fun hc1 => ?_)
   ·
    try simp (disch := omega) only [zD, zE, beq_iff_eq, zF, bne_iff_ne, zG, ne_eq, zH, zI, zW] at hc1
    refine OK.ite (fun hc2 => ?_) (fun hc2 => ?_)
    ·
     try simp (disch := omega) only [zD, zE, beq_iff_eq, zF, bne_iff_ne, zG, ne_eq, zH, zI, zW] at hc2
     refine OK.bind (i_keccak_Permute_tot v9718 hl_v9718) (fun v9739 hr3 => ?_)
     have hl_v9739 := hr3
     refine OK.grd (by simp (disch := omega) only [inb, zN, true_and, and_true, decide_true, zW, Bool.and_eq_true, zD, List.length_append] <;> omega) ?_
     refine OK.nm (fun v9761 hv_v9761 => ?_)
     have hl_v9761 : v9761.length = 32 := (congrArg List.length hv_v9761).trans (List.length_set.trans hl_v9717)
     exact ih v9761 v9739 1 (IntKind.i64.wrap (v9720 + 1)) hl_v9761 hl_v9739 (by (try simp (disch := omega) only [inb, zN, true_and, and_true, decide_true, zW, Bool.and_eq_true, zD, List.length_append]) <;> omega) (by (try simp (disch := omega) only [inb, zN, true_and, and_true, decide_true, zW, Bool.and_eq_true, zD, List.length_append]) <;> omega) (by (try simp (disch := omega) only [zW]) <;> omega)
    ·
     try simp (disch := omega) only [zD, zE, beq_iff_eq, zF, bne_iff_ne, zG, ne_eq, zH, zI, zW] at hc2
     refine OK.grd (by simp (disch := omega) only [inb, zN, true_and, and_true, decide_true, zW, Bool.and_eq_true, zD, List.length_append] <;> omega) ?_
     refine OK.grd (by simp (disch := omega) only [inb, zN, true_and, and_true, decide_true, zW, Bool.and_eq_true, zD, List.length_append] <;> omega) ?_
     refine OK.grd (by simp (disch := omega) only [inb, zN, true_and, and_true, decide_true, zW, Bool.and_eq_true, zD, List.length_append] <;> omega) ?_
     refine OK.nm (fun v9785 hv_v9785 => ?_)
     have hl_v9785 : v9785.length = 32 := (congrArg List.length hv_v9785).trans (List.length_set.trans hl_v9717)
     exact ih v9785 v9718 (IntKind.i64.wrap (v9719 + 1)) (IntKind.i64.wrap (v9720 + 1)) hl_v9785 hl_v9718 (by (try simp (disch := omega) only [inb, zN, true_and, and_true, decide_true, zW, Bool.and_eq_true, zD, List.length_append]) <;> omega) (by (try simp (disch := omega) only [inb, zN, true_and, and_true, decide_true, zW, Bool.and_eq_true, zD, List.length_append]) <;> omega) (by (try simp (disch := omega) only [zW]) <;> omega)
   ·
    try simp (disch := omega) only [zD, zE, beq_iff_eq, zF, bne_iff_ne, zG, ne_eq, zH, zI, zW] at hc1
    exact OK.some ⟨hl_v9717, hl_v9718, (by (try simp (disch := omega) only [inb, zN, true_and, and_true, decide_true, zW, Bool.and_eq_true, zD, List.length_append]) <;> omega)⟩
theorem i_keccak_Sha3256_1_tot (v3 : List Int) (hl_v3 : v3.length = 1184) : OK (i_keccak_Sha3256_1 v3) (fun r0 => (r0.length = 32)) := by
  unfold i_keccak_Sha3256_1
  refine OK.bind (i_keccak_Sha3256_1_l3_tot v3 hl_v3 LIM (List.replicate 25 (0 : Int)) 0 0 List.length_replicate (by (try simp (disch := omega) only [inb, zN, true_and, and_true, decide_true, zW, Bool.and_eq_true, zD, List.length_append]) <;> omega) (by (try simp (disch := omega) only [inb, zN, true_and, and_true, decide_true, zW, Bool.and_eq_true, zD, List.length_append]) <;> omega) (by simp only [LIM]; omega)) (fun r2 hr1 => ?_)
  obtain ⟨v9436, v9437⟩ := r2
  obtain ⟨hl_v9436, hb_v9437⟩ := hr1
  refine OK.grd (by simp (disch := omega) only [inb, zN, true_and, and_true, decide_true, zW, Bool.and_eq_true, zD, List.length_append] <;> omega) ?_
  refine OK.grd (by simp (disch := omega) only [inb, zN, true_and, and_true, decide_true, zW, Bool.and_eq_true, zD, List.length_append] <;> omega) ?_
  refine OK.nm (fun v9515 hv_v9515 => ?_)
  have hl_v9515 : v9515.length = 25 := (congrArg List.length hv_v9515).trans (List.length_set.trans hl_v9436)
  refine OK.nm (fun v9536 hv_v9536 => ?_)
  have hl_v9536 : v9536.length = 25 := (congrArg List.length hv_v9536).trans (List.length_set.trans hl_v9515)
  refine OK.bind (i_keccak_Permute_tot v9536 hl_v9536) (fun v9540 hr3 => ?_)
  have hl_v9540 := hr3
  refine OK.bind (i_keccak_Sha3256_1_l4_tot LIM (List.replicate 32 (0 : Int)) v9540 0 0 List.length_replicate hl_v9540 (by (try simp (disch := omega) only [inb, zN, true_and, and_true, decide_true, zW, Bool.and_eq_true, zD, List.length_append]) <;> omega) (by (try simp (disch := omega) only [inb, zN, true_and, and_true, decide_true, zW, Bool.and_eq_true, zD, List.length_append]) <;> omega) (by simp only [LIM]; omega)) (fun r5 hr4 => ?_)
  obtain ⟨v9721, v9722, v9723⟩ := r5
  obtain ⟨hl_v9721, hl_v9722, hb_v9723⟩ := hr4
  exact OK.some hl_v9721
theorem i_keccak_Sha3512_2_l6_tot (v3 : List Int) (hl_v3 : v3.length = 32) : ∀ (k : Nat) (v19389 : List Int) (v19390 : Int) (v19391 : Int), v19389.length = 25 → 0 ≤ v19390 ∧ v19390 ≤ 71 → 0 ≤ v19391 ∧ v19391 ≤ (v3.length : Int) → ((v3.length : Int) - v19391).toNat < k → OK (i_keccak_Sha3512_2_l6 v3 k v19389 v19390 v19391) (fun r => match r with | (r0, r1) => (r0.length = 25) ∧ (0 ≤ r1 ∧ r1 ≤ 71)) := by
  intro k
  induction k with
  | zero => intro v19389 v19390 v19391 hl_v19389 hb_v19390 hb_v19391 hm; exact absurd hm (Nat.not_lt_zero _)
  | succ k ih =>
   intro v19389 v19390 v19391 hl_v19389 hb_v19390 hb_v19391 hm
   rw [i_keccak_Sha3512_2_l6]
   refine OK.ite (fun hc1 => ?_) (fun hc1 => ?_)
   ·
    try simp (disch := omega) only [zD, zE, beq_iff_eq, zF, bne_iff_ne, zG, ne_eq, zH, zI, zW] at hc1
    refine OK.grd (by simp (disch := omega) only [inb, zN, true_and, and_true, decide_true, zW, Bool.and_eq_true, zD, List.length_append] <;> omega) ?_
    refine OK.grd (by simp (disch := omega) only [inb, zN, true_and, and_true, decide_true, zW, Bool.and_eq_true, zD, List.length_append] <;> omega) ?_
    refine OK.grd (by simp (disch := omega) only [inb, zN, true_and, and_true, decide_true, zW, Bool.and_eq_true, zD, List.length_append] <;> omega) ?_
    refine OK.nm (fun v19422 hv_v19422 => ?_)
    have hl_v19422 : v19422.length = 25 := (congrArg List.length hv_v19422).trans (List.length_set.trans hl_v19389)
    refine OK.ite (fun hc2 => ?_) (fun hc2 => ?_)
    ·
     try simp (disch := omega) only [zD, zE, beq_iff_eq, zF, bne_iff_ne, zG, ne_eq, zH, zI, zW] at hc2
     refine OK.bind (i_keccak_Permute_tot v19422 hl_v19422) (fun v19437 hr3 => ?_)
     have hl_v19437 := hr3
     exact ih v19437 0 (IntKind.i64.wrap (v19391 + 1)) hl_v19437 (by (try simp (disch := omega) only [inb, zN, true_and, and_true, decide_true, zW, Bool.and_eq_true, zD, List.length_append]) <;> omega) (by (try simp (disch := omega) only [inb, zN, true_and, and_true, decide_true, zW, Bool.and_eq_true, zD, List.length_append]) <;> omega) (by (try simp (disch := omega) only [zW]) <;> omega)
    ·
     try simp (disch := omega) only [zD, zE, beq_iff_eq, zF, bne_iff_ne, zG, ne_eq, zH, zI, zW] at hc2
     exact ih v19422 (IntKind.i64.wrap (v19390 + 1)) (IntKind.i64.wrap (v19391 + 1)) hl_v19422 (by (try simp (disch := omega) only [inb, zN, true_and, and_true, decide_true, zW, Bool.and_eq_true, zD, List.length_append]) <;> omega) (by (try simp (disch := omega) only [inb, zN, true_and, and_true, decide_true, zW, Bool.and_eq_true, zD, List.length_append]) <;> omega) (by (try simp (disch := omega) only [zW]) <;> omega)
   ·
    try simp (disch := omega) only [zD, zE, beq_iff_eq, zF, bne_iff_ne, zG, ne_eq, zH, zI, zW] at hc1
    exact OK.some ⟨hl_v19389, (by (try simp (disch := omega) only [inb, zN, true_and, and_true, decide_true, zW, Bool.and_eq_true, zD, List.length_append]) <;> omega)⟩
theorem i_keccak_Sha3512_2_l7_tot (v7 : List Int) (hl_v7 : v7.length = 1) : ∀ (k : Nat) (v22786 : List Int) (v22787 : Int) (v22788 : Int), v22786.length = 25 → 0 ≤ v22787 ∧ v22787 ≤ 71 → 0 ≤ v22788 ∧ v22788 ≤ (v7.length : Int) → ((v7.length : Int) - v22788).toNat < k → OK (i_keccak_Sha3512_2_l7 v7 k v22786 v22787 v22788) (fun r => match r with | (r0, r1) => (r0.length = 25) ∧ (0 ≤ r1 ∧ r1 ≤ 71)) := by
  intro k
  induction k with
  | zero => intro v22786 v22787 v22788 hl_v22786 hb_v22787 hb_v22788 hm; exact absurd hm (Nat.not_lt_zero _)
  | succ k ih =>
   intro v22786 v22787 v22788 hl_v22786 hb_v22787 hb_v22788 hm
   rw [i_keccak_Sha3512_2_l7]
   refine OK.ite (fun hc1 => ?_) (fun hc1 => ?_)
   ·
    try simp (disch := omega) only [zD, zE, beq_iff_eq, zF, bne_iff_ne, zG, ne_eq, zH, zI, zW] at hc1
    refine OK.grd (by simp (disch := omega) only [inb, zN, true_and, and_true, decide_true, zW, Bool.and_eq_true, zD, List.length_append] <;> omega) ?_
    refine OK.grd (by simp (disch := omega) only [inb, zN, true_and, and_true, decide_true, zW, Bool.and_eq_true, zD, List.length_append] <;> omega) ?_
    refine OK.grd (by simp (disch := omega) only [inb, zN, true_and, and_true, decide_true, zW, Bool.and_eq_true, zD, List.length_append] <;> omega) ?_
    refine OK.nm (fun v22819 hv_v22819 => ?_)
    have hl_v22819 : v22819.length = 25 := (congrArg List.length hv_v22819).trans (List.length_set.trans hl_v22786)
    refine OK.ite (fun hc2 => ?_) (fun hc2 => ?_)
    ·
     try simp (disch := omega) only [zD, zE, beq_iff_eq, zF, bne_iff_ne, zG, ne_eq, zH, zI, zW] at hc2
     refine OK.bind (i_keccak_Permute_tot v22819 hl_v22819) (fun v22834 hr3 => ?_)
     have hl_v22834 := hr3
     exact ih v22834 0 (IntKind.i64.wrap (v22788 + 1)) hl_v22834 (by (try simp (disch := omega) only [inb, zN, true_and, and_true, decide_true, zW, Bool.and_eq_true, zD, List.length_append]) <;> omega) (by (try simp (disch := omega) only [inb, zN, true_and, and_true, decide_true, zW, Bool.and_eq_true, zD, List.length_append]) <;> omega) (by (try simp (disch := omega) only [zW]) <;> omega)
    ·
     try simp (disch := omega) only [zD, zE, beq_iff_eq, zF, bne_iff_ne, zG, ne_eq, zH, zI, zW] at hc2
     exact ih v22819 (IntKind.i64.wrap (v22787 + 1)) (IntKind.i64.wrap (v22788 + 1)) hl_v22819 (by (try simp (disch := omega) only [inb, zN, true_and, and_true, decide_true, zW, Bool.and_eq_true, zD, List.length_append]) <;> omega) (by (try simp (disch := omega) only [inb, zN, true_and, and_true, decide_true, zW, Bool.and_eq_true, zD, List.length_append]) <;> omega) (by (try simp (disch := omega) only [zW]) <;> omega)
   ·
    try simp (disch := omega) only [zD, zE, beq_iff_eq, zF, bne_iff_ne, zG, ne_eq, zH, zI, zW] at hc1
    exact OK.some ⟨hl_v22786, (by (try simp (disch := omega) only [inb, zN, true_and, and_true, decide_true, zW, Bool.and_eq_true, zD, List.length_append]) <;> omega)⟩
theorem i_keccak_Sha3512_2_l8_tot   : ∀ (k : Nat) (v23070 : List Int) (v23071 : List Int) (v23072 : Int) (v23073 : Int), v23070.length = 64 → v23071.length = 25 → 0 ≤ v23072 ∧ v23072 ≤ 72 → 0 ≤ v23073 ∧ v23073 ≤ 64 → (64 - v23073).toNat < k → OK (i_keccak_Sha3512_2_l8 k v23070 v23071 v23072 v23073) (fun r => match r with | (r0, r1, r2) => (r0.length = 64) ∧ (r1.length = 25) ∧ (0 ≤ r2 ∧ r2 ≤ 72)) := by
  intro k
  induction k with
  | zero => intro v23070 v23071 v23072 v23073 hl_v23070 hl_v23071 hb_v23072 hb_v23073 hm; exact absurd hm (Nat.not_lt_zero _)
  | succ k ih =>
   intro v23070 v23071 v23072 v23073 hl_v23070 hl_v23071 hb_v23072 hb_v23073 hm
   rw [i_keccak_Sha3512_2_l8]
   refine OK.ite (fun hc1 => ?_) (fun hc1 => ?_)
   ·
    try simp (disch := omega) only [zD, zE, beq_iff_eq, zF, bne_iff_ne, zG, ne_eq, zH, zI, zW] at hc1
    refine OK.ite (fun hc2 => ?_) (fun hc2 => ?_)
    ·
     try simp (disch := omega) only [zD, zE, beq_iff_eq, zF, bne_iff_ne, zG, ne_eq, zH, zI, zW] at hc2
     refine OK.bind (i_keccak_Permute_tot v23071 hl_v23071) (fun v23092 hr3 => ?_)
     have hl_v23092 := hr3
     refine OK.grd (by simp (disch := omega) only [inb, zN, true_and, and_true, decide_true, zW, Bool.and_eq_true, zD, List.length_append] <;> omega) ?_
     refine OK.nm (fun v23114 hv_v23114 => ?_)
     have hl_v23114 : v23114.length = 64 := (congrArg List.length hv_v23114).trans (List.length_set.trans hl_v23070)
     exact ih v23114 v23092 1 (IntKind.i64.wrap (v23073 + 1)) hl_v23114 hl_v23092 (by (try simp (disch := omega) only [inb, zN, true_and, and_true, decide_true, zW, Bool.and_eq_true, zD, List.length_append]) <;> omega) (by (try simp (disch := omega) only [inb, zN, true_and, and_true, decide_true, zW, Bool.and_eq_true, zD, List.length_append]) <;> omega) (by (try simp (disch := omega) only [zW]) <;> omega)
    ·
     try simp (disch := omega) only [zD, zE, beq_iff_eq, zF, bne_iff_ne, zG, ne_eq, zH, zI, zW] at hc2
     refine OK.grd (by simp (disch := omega) only [inb, zN, true_and, and_true, decide_true, zW, Bool.and_eq_true, zD, List.length_append] <;> omega) ?_
     refine OK.grd (by simp (disch := omega) only [inb, zN, true_and, and_true, decide_true, zW, Bool.and_eq_true, zD, List.length_append] <;> omega) ?_
     refine OK.grd (by simp (disch := omega) only [inb, zN, true_and, and_true, decide_true, zW, Bool.and_eq_true, zD, List.length_append] <;> omega) ?_
     refine OK.nm (fun v23138 hv_v23138 => ?_)
     have hl_v23138 : v23138.length = 64 := (congrArg List.length hv_v23138).trans (List.length_set.trans hl_v23070)
     exact ih v23138 v23071 (IntKind.i64.wrap (v23072 + 1)) (IntKind.i64.wrap (v23073 + 1)) hl_v23138 hl_v23071 (by (try simp (disch := omega) only [inb, zN, true_and, and_true, decide_true, zW, Bool.and_eq_true, zD, List.length_append]) <;> omega) (by (try simp (disch := omega) only [inb, zN, true_and, and_true, decide_true, zW, Bool.and_eq_true, zD, List.length_append]) <;> omega) (by (try simp (disch := omega) only [zW]) <;> omega)
   ·
    try simp (disch := omega) only [zD, zE, beq_iff_eq, zF, bne_iff_ne, zG, ne_eq, zH, zI, zW] at hc1
    exact OK.some ⟨hl_v23070, hl_v23071, (by (try simp (disch := omega) only [inb, zN, true_and, and_true, decide_true, zW, Bool.and_eq_true, zD, List.length_append]) <;> omega)⟩
theorem i_keccak_Sha3512_2_tot (v3 : List Int) (v7 : List Int) (hl_v3 : v3.length = 32) (hl_v7 : v7.length = 1) : OK (i_keccak_Sha3512_2 v3 v7) (fun r0 => (r0.length = 64)) := by
  unfold i_keccak_Sha3512_2
  refine OK.bind (i_keccak_Sha3512_2_l6_tot v3 hl_v3 LIM (List.replicate 25 (0 : Int)) 0 0 List.length_replicate (by (try simp (disch := omega) only [inb, zN, true_and, and_true, decide_true, zW, Bool.and_eq_true, zD, List.length_append]) <;> omega) (by (try simp (disch := omega) only [inb, zN, true_and, and_true, decide_true, zW, Bool.and_eq_true, zD, List.length_append]) <;> omega) (by simp only [LIM]; omega)) (fun r2 hr1 => ?_)
  obtain ⟨v19392, v19393⟩ := r2
  obtain ⟨hl_v19392, hb_v19393⟩ := hr1
  refine OK.bind (i_keccak_Sha3512_2_l7_tot v7 hl_v7 LIM v19392 v19393 0 hl_v19392 (by (try simp (disch := omega) only [inb, zN, true_and, and_true, decide_true, zW, Bool.and_eq_true, zD, List.length_append]) <;> omega) (by (try simp (disch := omega) only [inb, zN, true_and, and_true, decide_true, zW, Bool.and_eq_true, zD, List.length_append]) <;> omega) (by simp only [LIM]; omega)) (fun r4 hr3 => ?_)
  obtain ⟨v22789, v22790⟩ := r4
  obtain ⟨hl_v22789, hb_v22790⟩ := hr3
  refine OK.grd (by simp (disch := omega) only [inb, zN, true_and, and_true, decide_true, zW, Bool.and_eq_true, zD, List.length_append] <;> omega) ?_
  refine OK.grd (by simp (disch := omega) only [inb, zN, true_and, and_true, decide_true, zW, Bool.and_eq_true, zD, List.length_append] <;> omega) ?_
  refine OK.nm (fun v22868 hv_v22868 => ?_)
  have hl_v22868 : v22868.length = 25 := (congrArg List.length hv_v22868).trans (List.length_set.trans hl_v22789)
  refine OK.nm (fun v22889 hv_v22889 => ?_)
  have hl_v22889 : v22889.length = 25 := (congrArg List.length hv_v22889).trans (List.length_set.trans hl_v22868)
  refine OK.bind (i_keccak_Permute_tot v22889 hl_v22889) (fun v22893 hr5 => ?_)
  have hl_v22893 := hr5
  refine OK.bind (i_keccak_Sha3512_2_l8_tot LIM (List.replicate 64 (0 : Int)) v22893 0 0 List.length_replicate hl_v22893 (by (try simp (disch := omega) only [inb, zN, true_and, and_true, decide_true, zW, Bool.and_eq_true, zD, List.length_append]) <;> omega) (by (try simp (disch := omega) only [inb, zN, true_and, and_true, decide_true, zW, Bool.and_eq_true, zD, List.length_append]) <;> omega) (by simp only [LIM]; omega)) (fun r7 hr6 => ?_)
  obtain ⟨v23074, v23075, v23076⟩ := r7
  obtain ⟨hl_v23074, hl_v23075, hb_v23076⟩ := hr6
  exact OK.some hl_v23074
theorem i_keccak_Shake_c256_c128_2_l6_tot (v3 : List Int) (hl_v3 : v3.length = 32) : ∀ (k : Nat) (v19401 : List Int) (v19402 : Int) (v19403 : Int), v19401.length = 25 → 0 ≤ v19402 ∧ v19402 ≤ 135 → 0 ≤ v19403 ∧ v19403 ≤ (v3.length : Int) → ((v3.length : Int) - v19403).toNat < k → OK (i_keccak_Shake_c256_c128_2_l6 v3 k v19401 v19402 v19403) (fun r => match r with | (r0, r1) => (r0.length = 25) ∧ (0 ≤ r1 ∧ r1 ≤ 135)) := by
  intro k
  induction k with
  | zero => intro v19401 v19402 v19403 hl_v19401 hb_v19402 hb_v19403 hm; exact absurd hm (Nat.not_lt_zero _)
  | succ k ih =>
   intro v19401 v19402 v19403 hl_v19401 hb_v19402 hb_v19403 hm
   rw [i_keccak_Shake_c256_c128_2_l6]
   refine OK.ite (fun hc1 => ?_) (fun hc1 => ?_)
   ·
    try simp (disch := omega) only [zD, zE, beq_iff_eq, zF, bne_iff_ne, zG, ne_eq, zH, zI, zW] at hc1
    refine OK.grd (by simp (disch := omega) only [inb, zN, true_and, and_true, decide_true, zW, Bool.and_eq_true, zD, List.length_append] <;> omega) ?_
    refine OK.grd (by simp (disch := omega) only [inb, zN, true_and, and_true, decide_true, zW, Bool.and_eq_true, zD, List.length_append] <;> omega) ?_
    refine OK.grd (by simp (disch := omega) only [inb, zN, true_and, and_true, decide_true, zW, Bool.and_eq_true, zD, List.length_append] <;> omega) ?_
    refine OK.nm (fun v19434 hv_v19434 => ?_)
    have hl_v19434 : v19434.length = 25 := (congrArg List.length hv_v19434).trans (List.length_set.trans hl_v19401)
    refine OK.ite (fun hc2 => ?_) (fun hc2 => ?_)
    ·
     try simp (disch := omega) only [zD, zE, beq_iff_eq, zF, bne_iff_ne, zG, ne_eq, zH, zI, zW] at hc2
     refine OK.bind (i_keccak_Permute_tot v19434 hl_v19434) (fun v19449 hr3 => ?_)
     have hl_v19449 := hr3
     exact ih v19449 0 (IntKind.i64.wrap (v19403 + 1)) hl_v19449 (by (try simp (disch := omega) only [inb, zN, true_and, and_true, decide_true, zW, Bool.and_eq_true, zD, List.length_append]) <;> omega) (by (try simp (disch := omega) only [inb, zN, true_and, and_true, decide_true, zW, Bool.and_eq_true, zD, List.length_append]) <;> omega) (by (try simp (disch := omega) only [zW]) <;> omega)
    ·
     try simp (disch := omega) only [zD, zE, beq_iff_eq, zF, bne_iff_ne, zG, ne_eq, zH, zI, zW] at hc2
     exact ih v19434 (IntKind.i64.wrap (v19402 + 1)) (IntKind.i64.wrap (v19403 + 1)) hl_v19434 (by (try simp (disch := omega) only [inb, zN, true_and, and_true, decide_true, zW, Bool.and_eq_true, zD, List.length_append]) <;> omega) (by (try simp (disch := omega) only [inb, zN, true_and, and_true, decide_true, zW, Bool.and_eq_true, zD, List.length_append]) <;> omega) (by (try simp (disch := omega) only [zW]) <;> omega)
   ·
    try simp (disch := omega) only [zD, zE, beq_iff_eq, zF, bne_iff_ne, zG, ne_eq, zH, zI, zW] at hc1
    exact OK.some ⟨hl_v19401, (by (try simp (disch := omega) only [inb, zN, true_and, and_true, decide_true, zW, Bool.and_eq_true, zD, List.length_append]) <;> omega)⟩
theorem i_keccak_Shake_c256_c128_2_l7_tot (v7 : List Int) (hl_v7 : v7.length = 1) : ∀ (k : Nat) (v22798 : List Int) (v22799 : Int) (v22800 : Int), v22798.length = 25 → 0 ≤ v22799 ∧ v22799 ≤ 135 → 0 ≤ v22800 ∧ v22800 ≤ (v7.length : Int) → ((v7.length : Int) - v22800).toNat < k → OK (i_keccak_Shake_c256_c128_2_l7 v7 k v22798 v22799 v22800) (fun r => match r with | (r0, r1) => (r0.length = 25) ∧ (0 ≤ r1 ∧ r1 ≤ 135)) := by
  intro k
  induction k with
  | zero => intro v22798 v22799 v22800 hl_v22798 hb_v22799 hb_v22800 hm; exact absurd hm (Nat.not_lt_zero _)
  | succ k ih =>
   intro v22798 v22799 v22800 hl_v22798 hb_v22799 hb_v22800 hm
   rw [i_keccak_Shake_c256_c128_2_l7]
   refine OK.ite (fun hc1 => ?_) (fun hc1 => ?_)
   ·
    try simp (disch := omega) only [zD, zE, beq_iff_eq, zF, bne_iff_ne, zG, ne_eq, zH, zI, zW] at hc1
    refine OK.grd (by simp (disch := omega) only [inb, zN, true_and, and_true, decide_true, zW, Bool.and_eq_true, zD, List.length_append] <;> omega) ?_
    refine OK.grd (by simp (disch := omega) only [inb, zN, true_and, and_true, decide_true, zW, Bool.and_eq_true, zD, List.length_append] <;> omega) ?_
    refine OK.grd (by simp (disch := omega) only [inb, zN, true_and, and_true, decide_true, zW, Bool.and_eq_true, zD, List.length_append] <;> omega) ?_
    refine OK.nm (fun v22831 hv_v22831 => ?_)
    have hl_v22831 : v22831.length = 25 := (congrArg List.length hv_v22831).trans (List.length_set.trans hl_v22798)
    refine OK.ite (fun hc2 => ?_) (fun hc2 => ?_)
    ·
     try simp (disch := omega) only [zD, zE, beq_iff_eq, zF, bne_iff_ne, zG, ne_eq, zH, zI, zW] at hc2
     refine OK.bind (i_keccak_Permute_tot v22831 hl_v22831) (fun v22846 hr3 => ?_)
     have hl_v22846 := hr3
     exact ih v22846 0 (IntKind.i64.wrap (v22800 + 1)) hl_v22846 (by (try simp (disch := omega) only [inb, zN, true_and, and_true, decide_true, zW, Bool.and_eq_true, zD, List.length_append]) <;> omega) (by (try simp (disch := omega) only [inb, zN, true_and, and_true, decide_true, zW, Bool.and_eq_true, zD, List.length_append]) <;> omega) (by (try simp (disch := omega) only [zW]) <;> omega)
    ·
     try simp (disch := omega) only [zD, zE, beq_iff_eq, zF, bne_iff_ne, zG, ne_eq, zH, zI, zW] at hc2
     exact ih v22831 (IntKind.i64.wrap (v22799 + 1)) (IntKind.i64.wrap (v22800 + 1)) hl_v22831 (by (try simp (disch := omega) only [inb, zN, true_and, and_true, decide_true, zW, Bool.and_eq_true, zD, List.length_append]) <;> omega) (by (try simp (disch := omega) only [inb, zN, true_and, and_true, decide_true, zW, Bool.and_eq_true, zD, List.length_append]) <;> omega) (by (try simp (disch := omega) only [zW]) <;> omega)
   ·
    try simp (disch := omega) only [zD, zE, beq_iff_eq, zF, bne_iff_ne, zG, ne_eq, zH, zI, zW] at hc1
    exact OK.some ⟨hl_v22798, (by (try simp (disch := omega) only [inb, zN, true_and, and_true, decide_true, zW, Bool.and_eq_true, zD, List.length_append]) <;> omega)⟩
theorem i_keccak_Shake_c256_c128_2_l8_tot   : ∀ (k : Nat) (v23110 : List Int) (v23111 : Int) (v23112 : List Int) (v23113 : Int), v23110.length = 25 → 0 ≤ v23111 ∧ v23111 ≤ 136 → v23112.length = 128 → 0 ≤ v23113 ∧ v23113 ≤ 128 → (128 - v23113).toNat < k → OK (i_keccak_Shake_c256_c128_2_l8 k v23110 v23111 v23112 v23113) (fun r => match r with | (r0, r1, r2) => (r0.length = 25) ∧ (0 ≤ r1 ∧ r1 ≤ 136) ∧ (r2.length = 128)) := by
  intro k
  induction k with
  | zero => intro v23110 v23111 v23112 v23113 hl_v23110 hb_v23111 hl_v23112 hb_v23113 hm; exact absurd hm (Nat.not_lt_zero _)
  | succ k ih =>
   intro v23110 v23111 v23112 v23113 hl_v23110 hb_v23111 hl_v23112 hb_v23113 hm
   rw [i_keccak_Shake_c256_c128_2_l8]
   refine OK.ite (fun hc1 => ?_) (fun hc1 => ?_)
   ·
    try simp (disch := omega) only [zD, zE, beq_iff_eq, zF, bne_iff_ne, zG, ne_eq, zH, zI, zW] at hc1
    refine OK.ite (fun hc2 => ?_) (fun hc2 => ?_)
    ·
     try simp (disch := omega) only [zD, zE, beq_iff_eq, zF, bne_iff_ne, zG, ne_eq, zH, zI, zW] at hc2
     refine OK.bind (i_keccak_Permute_tot v23110 hl_v23110) (fun v23132 hr3 => ?_)
     have hl_v23132 := hr3
     refine OK.grd (by simp (disch := omega) only [inb, zN, true_and, and_true, decide_true, zW, Bool.and_eq_true, zD, List.length_append] <;> omega) ?_
     refine OK.nm (fun v23154 hv_v23154 => ?_)
     have hl_v23154 : v23154.length = 128 := (congrArg List.length hv_v23154).trans (List.length_set.trans hl_v23112)
     exact ih v23132 1 v23154 (IntKind.i64.wrap (v23113 + 1)) hl_v23132 (by (try simp (disch := omega) only [inb, zN, true_and, and_true, decide_true, zW, Bool.and_eq_true, zD, List.length_append]) <;> omega) hl_v23154 (by (try simp (disch := omega) only [inb, zN, true_and, and_true, decide_true, zW, Bool.and_eq_true, zD, List.length_append]) <;> omega) (by (try simp (disch := omega) only [zW]) <;> omega)
    ·
     try simp (disch := omega) only [zD, zE, beq_iff_eq, zF, bne_iff_ne, zG, ne_eq, zH, zI, zW] at hc2
     refine OK.grd (by simp (disch := omega) only [inb, zN, true_and, and_true, decide_true, zW, Bool.and_eq_true, zD, List.length_append] <;> omega) ?_
     refine OK.grd (by simp (disch := omega) only [inb, zN, true_and, and_true, decide_true, zW, Bool.and_eq_true, zD, List.length_append] <;> omega) ?_
     refine OK.grd (by simp (disch := omega) only [inb, zN, true_and, and_true, decide_true, zW, Bool.and_eq_true, zD, List.length_append] <;> omega) ?_
     refine OK.nm (fun v23178 hv_v23178 => ?_)
     have hl_v23178 : v23178.length = 128 := (congrArg List.length hv_v23178).trans (List.length_set.trans hl_v23112)
     exact ih v23110 (IntKind.i64.wrap (v23111 + 1)) v23178 (IntKind.i64.wrap (v23113 + 1)) hl_v23110 (by (try simp (disch := omega) only [inb, zN, true_and, and_true, decide_true, zW, Bool.and_eq_true, zD, List.length_append]) <;> omega) hl_v23178 (by (try simp (disch := omega) only [inb, zN, true_and, and_true, decide_true, zW, Bool.and_eq_true, zD, List.length_append]) <;> omega) (by (try simp (disch := omega) only [zW]) <;> omega)
   ·
    try simp (disch := omega) only [zD, zE, beq_iff_eq, zF, bne_iff_ne, zG, ne_eq, zH, zI, zW] at hc1
    exact OK.some ⟨hl_v23110, (by (try simp (disch := omega) only [inb, zN, true_and, and_true, decide_true, zW, Bool.and_eq_true, zD, List.length_append]) <;> omega), hl_v23112⟩
theorem i_keccak_Shake_c256_c128_2_tot (v3 : List Int) (v7 : List Int) (hl_v3 : v3.length = 32) (hl_v7 : v7.length = 1) : OK (i_keccak_Shake_c256_c128_2 v3 v7) (fun r => match r with | (r0, r1) => (r0.length = 128) ∧ (0 ≤ r1 ∧ r1 ≤ 0)) := by
  unfold i_keccak_Shake_c256_c128_2
  refine OK.bind (i_keccak_Shake_c256_c128_2_l6_tot v3 hl_v3 LIM (List.replicate 25 (0 : Int)) 0 0 List.length_replicate (by (try simp (disch := omega) only [inb, zN, true_and, and_true, decide_true, zW, Bool.and_eq_true, zD, List.length_append]) <;> omega) (by (try simp (disch := omega) only [inb, zN, true_and, and_true, decide_true, zW, Bool.and_eq_true, zD, List.length_append]) <;> omega) (by simp only [LIM]; omega)) (fun r2 hr1 => ?_)
  obtain ⟨v19404, v19405⟩ := r2
  obtain ⟨hl_v19404, hb_v19405⟩ := hr1
  refine OK.bind (i_keccak_Shake_c256_c128_2_l7_tot v7 hl_v7 LIM v19404 v19405 0 hl_v19404 (by (try simp (disch := omega) only [inb, zN, true_and, and_true, decide_true, zW, Bool.and_eq_true, zD, List.length_append]) <;> omega) (by (try simp (disch := omega) only [inb, zN, true_and, and_true, decide_true, zW, Bool.and_eq_true, zD, List.length_append]) <;> omega) (by simp only [LIM]; omega)) (fun r4 hr3 => ?_)
  obtain ⟨v22801, v22802⟩ := r4
  obtain ⟨hl_v22801, hb_v22802⟩ := hr3
  refine OK.grd (by simp (disch := omega) only [inb, zN, true_and, and_true, decide_true, zW, Bool.and_eq_true, zD, List.length_append] <;> omega) ?_
  refine OK.grd (by simp (disch := omega) only [inb, zN, true_and, and_true, decide_true, zW, Bool.and_eq_true, zD, List.length_append] <;> omega) ?_
  refine OK.nm (fun v22880 hv_v22880 => ?_)
  have hl_v22880 : v22880.length = 25 := (congrArg List.length hv_v22880).trans (List.length_set.trans hl_v22801)
  refine OK.nm (fun v22901 hv_v22901 => ?_)
  have hl_v22901 : v22901.length = 25 := (congrArg List.length hv_v22901).trans (List.length_set.trans hl_v22880)
  refine OK.bind (i_keccak_Permute_tot v22901 hl_v22901) (fun v22905 hr5 => ?_)
  have hl_v22905 := hr5
  refine OK.bind (i_keccak_Shake_c256_c128_2_l8_tot LIM v22905 0 (List.replicate 128 (0 : Int)) 0 hl_v22905 (by (try simp (disch := omega) only [inb, zN, true_and, and_true, decide_true, zW, Bool.and_eq_true, zD, List.length_append]) <;> omega) List.length_replicate (by (try simp (disch := omega) only [inb, zN, true_and, and_true, decide_true, zW, Bool.and_eq_true, zD, List.length_append]) <;> omega) (by simp only [LIM]; omega)) (fun r7 hr6 => ?_)
  obtain ⟨v23114, v23115, v23116⟩ := r7
  obtain ⟨hl_v23114, hb_v23115, hl_v23116⟩ := hr6
  exact OK.some ⟨hl_v23116, (by (try simp (disch := omega) only [inb, zN, true_and, and_true, decide_true, zW, Bool.and_eq_true, zD, List.length_append]) <;> omega)⟩
theorem i_ring_Cbd_l8_tot (v794 : Int) (v2 : List Int) (hb_v794 : 0 ≤ v794 ∧ v794 ≤ 255) (hl_v2 : v2.length = 128) : ∀ (k : Nat) (v889 : Int) (v890 : Int), 0 ≤ v889 ∧ v889 ≤ 2 → (2 - v889).toNat < k → OK (i_ring_Cbd_l8 2 v794 v2 k v889 v890) (fun r0 => True) := by
  intro k
  induction k with
  | zero => intro v889 v890 hb_v889 hm; exact absurd hm (Nat.not_lt_zero _)
  | succ k ih =>
   intro v889 v890 hb_v889 hm
   rw [i_ring_Cbd_l8]
   refine OK.ite (fun hc1 => ?_) (fun hc1 => ?_)
   ·
    try simp (disch := omega) only [zD, zE, beq_iff_eq, zF, bne_iff_ne, zG, ne_eq, zH, zI, zW] at hc1
    refine OK.nm (fun v901 hv_v901 => ?_)
    try simp (disch := omega) only [zW] at hv_v901
    refine OK.grd (by simp (disch := omega) only [inb, zN, true_and, and_true, decide_true, zW, Bool.and_eq_true, zD, List.length_append] <;> omega) ?_
    refine OK.grd (by simp (disch := omega) only [inb, zN, true_and, and_true, decide_true, zW, Bool.and_eq_true, zD, List.length_append] <;> omega) ?_
    refine OK.nm (fun v912 hv_v912 => ?_)
    try simp (disch := omega) only [zW] at hv_v912
    refine OK.nm (fun v918 hv_v918 => ?_)
    try simp (disch := omega) only [zW] at hv_v918
    refine OK.grd (by simp (disch := omega) only [inb, zN, true_and, and_true, decide_true, zW, Bool.and_eq_true, zD, List.length_append] <;> omega) ?_
    refine OK.grd (by simp (disch := omega) only [inb, zN, true_and, and_true, decide_true, zW, Bool.and_eq_true, zD, List.length_append] <;> omega) ?_
    refine OK.nm (fun v929 hv_v929 => ?_)
    try simp (disch := omega) only [zW] at hv_v929
    refine OK.nm (fun v934 hv_v934 => ?_)
    try simp (disch := omega) only [zW] at hv_v934
    exact ih (IntKind.i64.wrap (v889 + 1)) v934 (by (try simp (disch := omega) only [inb, zN, true_and, and_true, decide_true, zW, Bool.and_eq_true, zD, List.length_append]) <;> omega) (by (try simp (disch := omega) only [zW]) <;> omega)
   ·
    try simp (disch := omega) only [zD, zE, beq_iff_eq, zF, bne_iff_ne, zG, ne_eq, zH, zI, zW] at hc1
    exact OK.some trivial
theorem i_ring_Cbd_l7_tot (v2 : List Int) (hl_v2 : v2.length = 128) : ∀ (k : Nat) (v793 : List Int) (v794 : Int), v793.length = 256 → 0 ≤ v794 ∧ v794 ≤ 256 → (256 - v794).toNat < k → OK (i_ring_Cbd_l7 2 v2 k v793 v794) (fun r0 => (r0.length = 256)) := by
  intro k
  induction k with
  | zero => intro v793 v794 hl_v793 hb_v794 hm; exact absurd hm (Nat.not_lt_zero _)
  | succ k ih =>
   intro v793 v794 hl_v793 hb_v794 hm
   rw [i_ring_Cbd_l7]
   refine OK.ite (fun hc1 => ?_) (fun hc1 => ?_)
   ·
    try simp (disch := omega) only [zD, zE, beq_iff_eq, zF, bne_iff_ne, zG, ne_eq, zH, zI, zW] at hc1
    refine OK.bind (i_ring_Cbd_l8_tot v794 v2 (by (try simp (disch := omega) only [inb, zN, true_and, and_true, decide_true, zW, Bool.and_eq_true, zD, List.length_append]) <;> omega) hl_v2 LIM 0 3329 (by (try simp (disch := omega) only [inb, zN, true_and, and_true, decide_true, zW, Bool.and_eq_true, zD, List.length_append]) <;> omega) (by simp only [LIM]; omega)) (fun v891 hr2 => ?_)
    refine OK.grd (by simp (disch := omega) only [inb, zN, true_and, and_true, decide_true, zW, Bool.and_eq_true, zD, List.length_append] <;> omega) ?_
    exact ih (v793.set v794.toNat (v891.tmod 3329)) (IntKind.i64.wrap (v794 + 1)) (List.length_set.trans hl_v793) (by (try simp (disch := omega) only [inb, zN, true_and, and_true, decide_true, zW, Bool.and_eq_true, zD, List.length_append]) <;> omega) (by (try simp (disch := omega) only [zW]) <;> omega)
   ·
    try simp (disch := omega) only [zD, zE, beq_iff_eq, zF, bne_iff_ne, zG, ne_eq, zH, zI, zW] at hc1
    exact OK.some hl_v793
theorem i_ring_Cbd_tot (v2 : List Int) (hl_v2 : v2.length = 128) : OK (i_ring_Cbd 2 v2) (fun r => match r with | (r0, r1) => (r0.length = 256) ∧ (0 ≤ r1 ∧ r1 ≤ 0)) := by
  unfold i_ring_Cbd
  rw [if_neg (by decide)]
  refine OK.ite (fun hc1 => ?_) (fun hc1 => ?_)
  ·
   try simp (disch := omega) only [zD, zE, beq_iff_eq, zF, bne_iff_ne, zG, ne_eq, zH, zI, zW] at hc1
   exact OK.some ⟨List.length_replicate, (by (try simp (disch := omega) only [inb, zN, true_and, and_true, decide_true, zW, Bool.and_eq_true, zD, List.length_append]) <;> omega)⟩
  ·
   try simp (disch := omega) only [zD, zE, beq_iff_eq, zF, bne_iff_ne, zG, ne_eq, zH, zI, zW] at hc1
   refine OK.bind (i_ring_Cbd_l7_tot v2 hl_v2 LIM (List.replicate 256 (0 : Int)) 0 List.length_replicate (by (try simp (disch := omega) only [inb, zN, true_and, and_true, decide_true, zW, Bool.and_eq_true, zD, List.length_append]) <;> omega) (by simp only [LIM]; omega)) (fun v795 hr2 => ?_)
   have hl_v795 := hr2
   exact OK.some ⟨hl_v795, (by (try simp (disch := omega) only [inb, zN, true_and, and_true, decide_true, zW, Bool.and_eq_true, zD, List.length_append]) <;> omega)⟩
theorem i_ring_SampleNtt_l3_tot (v1 : List Int) (hl_v1 : v1.length = 34) : ∀ (k : Nat) (v9447 : List Int) (v9448 : Int) (v9449 : Int), v9447.length = 25 → 0 ≤ v9448 ∧ v9448 ≤ 167 → 0 ≤ v9449 ∧ v9449 ≤ (v1.length : Int) → ((v1.length : Int) - v9449).toNat < k → OK (i_ring_SampleNtt_l3 v1 k v9447 v9448 v9449) (fun r => match r with | (r0, r1) => (r0.length = 25) ∧ (0 ≤ r1 ∧ r1 ≤ 167)) := by
  intro k
  induction k with
  | zero => intro v9447 v9448 v9449 hl_v9447 hb_v9448 hb_v9449 hm; exact absurd hm (Nat.not_lt_zero _)
  | succ k ih =>
   intro v9447 v9448 v9449 hl_v9447 hb_v9448 hb_v9449 hm
   rw [i_ring_SampleNtt_l3]
   refine OK.ite (fun hc1 => ?_) (fun hc1 => ?_)
   ·
    try simp (disch := omega) only [zD, zE, beq_iff_eq, zF, bne_iff_ne, zG, ne_eq, zH, zI, zW] at hc1
    refine OK.grd (by simp (disch := omega) only [inb, zN, true_and, and_true, decide_true, zW, Bool.and_eq_true, zD, List.length_append] <;> omega) ?_
    refine OK.grd (by simp (disch := omega) only [inb, zN, true_and, and_true, decide_true, zW, Bool.and_eq_true, zD, List.length_append] <;> omega) ?_
    refine OK.grd (by simp (disch := omega) only [inb, zN, true_and, and_true, decide_true, zW, Bool.and_eq_true, zD, List.length_append] <;> omega) ?_
    refine OK.nm (fun v9480 hv_v9480 => ?_)
    have hl_v9480 : v9480.length = 25 := (congrArg List.length hv_v9480).trans (List.length_set.trans hl_v9447)
    refine OK.ite (fun hc2 => ?_) (fun hc2 => ?_)
    ·
     try simp (disch := omega) only [zD, zE, beq_iff_eq, zF, bne_iff_ne, zG, ne_eq, zH, zI, zW] at hc2
     refine OK.bind (i_keccak_Permute_tot v9480 hl_v9480) (fun v9495 hr3 => ?_)
     have hl_v9495 := hr3
     exact ih v9495 0 (IntKind.i64.wrap (v9449 + 1)) hl_v9495 (by (try simp (disch := omega) only [inb, zN, true_and, and_true, decide_true, zW, Bool.and_eq_true, zD, List.length_append]) <;> omega) (by (try simp (disch := omega) only [inb, zN, true_and, and_true, decide_true, zW, Bool.and_eq_true, zD, List.length_append]) <;> omega) (by (try simp (disch := omega) only [zW]) <;> omega)
    ·
     try simp (disch := omega) only [zD, zE, beq_iff_eq, zF, bne_iff_ne, zG, ne_eq, zH, zI, zW] at hc2
     exact ih v9480 (IntKind.i64.wrap (v9448 + 1)) (IntKind.i64.wrap (v9449 + 1)) hl_v9480 (by (try simp (disch := omega) only [inb, zN, true_and, and_true, decide_true, zW, Bool.and_eq_true, zD, List.length_append]) <;> omega) (by (try simp (disch := omega) only [inb, zN, true_and, and_true, decide_true, zW, Bool.and_eq_true, zD, List.length_append]) <;> omega) (by (try simp (disch := omega) only [zW]) <;> omega)
   ·
    try simp (disch := omega) only [zD, zE, beq_iff_eq, zF, bne_iff_ne, zG, ne_eq, zH, zI, zW] at hc1
    exact OK.some ⟨hl_v9447, (by (try simp (disch := omega) only [inb, zN, true_and, and_true, decide_true, zW, Bool.and_eq_true, zD, List.length_append]) <;> omega)⟩
theorem i_ring_SampleNtt_l13_tot   : ∀ (k : Nat) (v12772 : List Int) (v12773 : Int) (v12774 : List Int) (v12775 : Int), v12772.length = 25 → 0 ≤ v12773 ∧ v12773 ≤ 168 → v12774.length = 3 → 0 ≤ v12775 ∧ v12775 ≤ 3 → (3 - v12775).toNat < k → OK (i_ring_SampleNtt_l13 k v12772 v12773 v12774 v12775) (fun r => match r with | (r0, r1, r2) => (r0.length = 25) ∧ (0 ≤ r1 ∧ r1 ≤ 168) ∧ (r2.length = 3)) := by
  intro k
  induction k with
  | zero => intro v12772 v12773 v12774 v12775 hl_v12772 hb_v12773 hl_v12774 hb_v12775 hm; exact absurd hm (Nat.not_lt_zero _)
  | succ k ih =>
   intro v12772 v12773 v12774 v12775 hl_v12772 hb_v12773 hl_v12774 hb_v12775 hm
   rw [i_ring_SampleNtt_l13]
   refine OK.ite (fun hc1 => ?_) (fun hc1 => ?_)
   ·
    try simp (disch := omega) only [zD, zE, beq_iff_eq, zF, bne_iff_ne, zG, ne_eq, zH, zI, zW] at hc1
    refine OK.ite (fun hc2 => ?_) (fun hc2 => ?_)
    ·
     try simp (disch := omega) only [zD, zE, beq_iff_eq, zF, bne_iff_ne, zG, ne_eq, zH, zI, zW] at hc2
     refine OK.bind (i_keccak_Permute_tot v12772 hl_v12772) (fun v12794 hr3 => ?_)
     have hl_v12794 := hr3
     refine OK.grd (by simp (disch := omega) only [inb, zN, true_and, and_true, decide_true, zW, Bool.and_eq_true, zD, List.length_append] <;> omega) ?_
     refine OK.nm (fun v12816 hv_v12816 => ?_)
     have hl_v12816 : v12816.length = 3 := (congrArg List.length hv_v12816).trans (List.length_set.trans hl_v12774)
     exact ih v12794 1 v12816 (IntKind.i64.wrap (v12775 + 1)) hl_v12794 (by (try simp (disch := omega) only [inb, zN, true_and, and_true, decide_true, zW, Bool.and_eq_true, zD, List.length_append]) <;> omega) hl_v12816 (by (try simp (disch := omega) only [inb, zN, true_and, and_true, decide_true, zW, Bool.and_eq_true, zD, List.length_append]) <;> omega) (by (try simp (disch := omega) only [zW]) <;> omega)
    ·
     try simp (disch := omega) only [zD, zE, beq_iff_eq, zF, bne_iff_ne, zG, ne_eq, zH, zI, zW] at hc2
     refine OK.grd (by simp (disch := omega) only [inb, zN, true_and, and_true, decide_true, zW, Bool.and_eq_true, zD, List.length_append] <;> omega) ?_
     refine OK.grd (by simp (disch := omega) only [inb, zN, true_and, and_true, decide_true, zW, Bool.and_eq_true, zD, List.length_append] <;> omega) ?_
     refine OK.grd (by simp (disch := omega) only [inb, zN, true_and, and_true, decide_true, zW, Bool.and_eq_true, zD, List.length_append] <;> omega) ?_
     refine OK.nm (fun v12840 hv_v12840 => ?_)
     have hl_v12840 : v12840.length = 3 := (congrArg List.length hv_v12840).trans (List.length_set.trans hl_v12774)
     exact ih v12772 (IntKind.i64.wrap (v12773 + 1)) v12840 (IntKind.i64.wrap (v12775 + 1)) hl_v12772 (by (try simp (disch := omega) only [inb, zN, true_and, and_true, decide_true, zW, Bool.and_eq_true, zD, List.length_append]) <;> omega) hl_v12840 (by (try simp (disch := omega) only [inb, zN, true_and, and_true, decide_true, zW, Bool.and_eq_true, zD, List.length_append]) <;> omega) (by (try simp (disch := omega) only [zW]) <;> omega)
   ·
    try simp (disch := omega) only [zD, zE, beq_iff_eq, zF, bne_iff_ne, zG, ne_eq, zH, zI, zW] at hc1
    exact OK.some ⟨hl_v12772, (by (try simp (disch := omega) only [inb, zN, true_and, and_true, decide_true, zW, Bool.and_eq_true, zD, List.length_append]) <;> omega), hl_v12774⟩
theorem i_ring_SampleNtt_l12_tot   : ∀ (k : Nat) (v12597 : List Int) (v12598 : List Int) (v12599 : Int) (v12600 : Int) (v12601 : Int) (v12602 : Int), v12597.length = 256 → v12598.length = 25 → 0 ≤ v12599 ∧ v12599 ≤ 168 → 0 ≤ v12601 ∧ v12601 ≤ 1024 → 0 ≤ v12602 ∧ v12602 ≤ 255 → (1024 - v12601).toNat < k → OK (i_ring_SampleNtt_l12 k v12597 v12598 v12599 v12600 v12601 v12602) (fun r => match r with | .inl (r0, r1, r2, r3) => (r0.length = 256) ∧ (r1.length = 25) ∧ (0 ≤ r2 ∧ r2 ≤ 168) | .inr (q0, q1) => (q0.length = 256)) := by
  intro k
  induction k with
  | zero => intro v12597 v12598 v12599 v12600 v12601 v12602 hl_v12597 hl_v12598 hb_v12599 hb_v12601 hb_v12602 hm; exact absurd hm (Nat.not_lt_zero _)
  | succ k ih =>
   intro v12597 v12598 v12599 v12600 v12601 v12602 hl_v12597 hl_v12598 hb_v12599 hb_v12601 hb_v12602 hm
   rw [i_ring_SampleNtt_l12]
   refine OK.ite (fun hc1 => ?_) (fun hc1 => ?_)
   ·
    try simp (disch := omega) only [zD, zE, beq_iff_eq, zF, bne_iff_ne, zG, ne_eq, zH, zI, zW] at hc1
    refine OK.bind (i_ring_SampleNtt_l13_tot LIM v12598 v12599 (List.replicate 3 (0 : Int)) 0 hl_v12598 (by (try simp (disch := omega) only [inb, zN, true_and, and_true, decide_true, zW, Bool.and_eq_true, zD, List.length_append]) <;> omega) List.length_replicate (by (try simp (disch := omega) only [inb, zN, true_and, and_true, decide_true, zW, Bool.and_eq_true, zD, List.length_append]) <;> omega) (by simp only [LIM]; omega)) (fun r3 hr2 => ?_)
    obtain ⟨v12776, v12777, v12778⟩ := r3
    obtain ⟨hl_v12776, hb_v12777, hl_v12778⟩ := hr2
    refine OK.nm (fun v12961 hv_v12961 => ?_)
    have hl_v12961 : v12961.length = 2 := (congrArg List.length hv_v12961).trans rfl
    refine OK.ite (fun hc4 => ?_) (fun hc4 => ?_)
    ·
     try simp (disch := omega) only [zD, zE, beq_iff_eq, zF, bne_iff_ne, zG, ne_eq, zH, zI, zW] at hc4
     refine OK.ite (fun hc5 => ?_) (fun hc5 => ?_)
     ·
      try simp (disch := omega) only [zD, zE, beq_iff_eq, zF, bne_iff_ne, zG, ne_eq, zH, zI, zW] at hc5
      exact ih v12597 v12776 v12777 (IntKind.i64.wrap (v12600 + 3)) (IntKind.i64.wrap (v12601 + 1)) v12602 hl_v12597 hl_v12776 (by (try simp (disch := omega) only [inb, zN, true_and, and_true, decide_true, zW, Bool.and_eq_true, zD, List.length_append]) <;> omega) (by (try simp (disch := omega) only [inb, zN, true_and, and_true, decide_true, zW, Bool.and_eq_true, zD, List.length_append]) <;> omega) (by (try simp (disch := omega) only [inb, zN, true_and, and_true, decide_true, zW, Bool.and_eq_true, zD, List.length_append]) <;> omega) (by (try simp (disch := omega) only [zW]) <;> omega)
     ·
      try simp (disch := omega) only [zD, zE, beq_iff_eq, zF, bne_iff_ne, zG, ne_eq, zH, zI, zW] at hc5
      refine OK.grd (by simp (disch := omega) only [inb, zN, true_and, and_true, decide_true, zW, Bool.and_eq_true, zD, List.length_append] <;> omega) ?_
      refine OK.ite (fun hc6 => ?_) (fun hc6 => ?_)
      ·
       try simp (disch := omega) only [zD, zE, beq_iff_eq, zF, bne_iff_ne, zG, ne_eq, zH, zI, zW] at hc6
       exact OK.some (List.length_set.trans hl_v12597)
      ·
       try simp (disch := omega) only [zD, zE, beq_iff_eq, zF, bne_iff_ne, zG, ne_eq, zH, zI, zW] at hc6
       exact ih (v12597.set v12602.toNat (rd v12961 1)) v12776 v12777 (IntKind.i64.wrap (v12600 + 3)) (IntKind.i64.wrap (v12601 + 1)) (IntKind.i64.wrap (v12602 + 1)) (List.length_set.trans hl_v12597) hl_v12776 (by (try simp (disch := omega) only [inb, zN, true_and, and_true, decide_true, zW, Bool.and_eq_true, zD, List.length_append]) <;> omega) (by (try simp (disch := omega) only [inb, zN, true_and, and_true, decide_true, zW, Bool.and_eq_true, zD, List.length_append]) <;> omega) (by (try simp (disch := omega) only [inb, zN, true_and, and_true, decide_true, zW, Bool.and_eq_true, zD, List.length_append]) <;> omega) (by (try simp (disch := omega) only [zW]) <;> omega)
    ·
     try simp (disch := omega) only [zD, zE, beq_iff_eq, zF, bne_iff_ne, zG, ne_eq, zH, zI, zW] at hc4
     refine OK.grd (by simp (disch := omega) only [inb, zN, true_and, and_true, decide_true, zW, Bool.and_eq_true, zD, List.length_append] <;> omega) ?_
     refine OK.ite (fun hc7 => ?_) (fun hc7 => ?_)
     ·
      try simp (disch := omega) only [zD, zE, beq_iff_eq, zF, bne_iff_ne, zG, ne_eq, zH, zI, zW] at hc7
      exact OK.some (List.length_set.trans hl_v12597)
     ·
      try simp (disch := omega) only [zD, zE, beq_iff_eq, zF, bne_iff_ne, zG, ne_eq, zH, zI, zW] at hc7
      refine OK.ite (fun hc8 => ?_) (fun hc8 => ?_)
      ·
       try simp (disch := omega) only [zD, zE, beq_iff_eq, zF, bne_iff_ne, zG, ne_eq, zH, zI, zW] at hc8
       exact ih (v12597.set v12602.toNat (rd v12961 0)) v12776 v12777 (IntKind.i64.wrap (v12600 + 3)) (IntKind.i64.wrap (v12601 + 1)) (IntKind.i64.wrap (v12602 + 1)) (List.length_set.trans hl_v12597) hl_v12776 (by (try simp (disch := omega) only [inb, zN, true_and, and_true, decide_true, zW, Bool.and_eq_true, zD, List.length_append]) <;> omega) (by (try simp (disch := omega) only [inb, zN, true_and, and_true, decide_true, zW, Bool.and_eq_true, zD, List.length_append]) <;> omega) (by (try simp (disch := omega) only [inb, zN, true_and, and_true, decide_true, zW, Bool.and_eq_true, zD, List.length_append]) <;> omega) (by (try simp (disch := omega) only [zW]) <;> omega)
      ·
       try simp (disch := omega) only [zD, zE, beq_iff_eq, zF, bne_iff_ne, zG, ne_eq, zH, zI, zW] at hc8
       refine OK.grd (by simp (disch := omega) only [inb, zN, true_and, and_true, decide_true, zW, Bool.and_eq_true, zD, List.length_append] <;> omega) ?_
       refine OK.nm (fun v13018 hv_v13018 => ?_)
       have hl_v13018 : v13018.length = 256 := (congrArg List.length hv_v13018).trans (List.length_set.trans (List.length_set.trans hl_v12597))
       refine OK.ite (fun hc9 => ?_) (fun hc9 => ?_)
       ·
        try simp (disch := omega) only [zD, zE, beq_iff_eq, zF, bne_iff_ne, zG, ne_eq, zH, zI, zW] at hc9
        exact OK.some hl_v13018
       ·
        try simp (disch := omega) only [zD, zE, beq_iff_eq, zF, bne_iff_ne, zG, ne_eq, zH, zI, zW] at hc9
        exact ih v13018 v12776 v12777 (IntKind.i64.wrap (v12600 + 3)) (IntKind.i64.wrap (v12601 + 1)) (IntKind.i64.wrap ((IntKind.i64.wrap (v12602 + 1)) + 1)) hl_v13018 hl_v12776 (by (try simp (disch := omega) only [inb, zN, true_and, and_true, decide_true, zW, Bool.and_eq_true, zD, List.length_append]) <;> omega) (by (try simp (disch := omega) only [inb, zN, true_and, and_true, decide_true, zW, Bool.and_eq_true, zD, List.length_append]) <;> omega) (by (try simp (disch := omega) only [inb, zN, true_and, and_true, decide_true, zW, Bool.and_eq_true, zD, List.length_append]) <;> omega) (by (try simp (disch := omega) only [zW]) <;> omega)
   ·
    try simp (disch := omega) only [zD, zE, beq_iff_eq, zF, bne_iff_ne, zG, ne_eq, zH, zI, zW] at hc1
    exact OK.some ⟨hl_v12597, hl_v12598, (by (try simp (disch := omega) only [inb, zN, true_and, and_true, decide_true, zW, Bool.and_eq_true, zD, List.length_append]) <;> omega)⟩
theorem i_ring_SampleNtt_tot (v1 : List Int) (hl_v1 : v1.length = 34) : OK (i_ring_SampleNtt v1) (fun r => match r with | (r0, r1) => (r0.length = 256)) := by
  unfold i_ring_SampleNtt
  refine OK.ite (fun hc1 => ?_) (fun hc1 => ?_)
  ·
   try simp (disch := omega) only [zD, zE, beq_iff_eq, zF, bne_iff_ne, zG, ne_eq, zH, zI, zW] at hc1
   exact OK.some List.length_replicate
  ·
   try simp (disch := omega) only [zD, zE, beq_iff_eq, zF, bne_iff_ne, zG, ne_eq, zH, zI, zW] at hc1
   refine OK.bind (i_ring_SampleNtt_l3_tot v1 hl_v1 LIM (List.replicate 25 (0 : Int)) 0 0 List.length_replicate (by (try simp (disch := omega) only [inb, zN, true_and, and_true, decide_true, zW, Bool.and_eq_true, zD, List.length_append]) <;> omega) (by (try simp (disch := omega) only [inb, zN, true_and, and_true, decide_true, zW, Bool.and_eq_true, zD, List.length_append]) <;> omega) (by simp only [LIM]; omega)) (fun r3 hr2 => ?_)
   obtain ⟨v9450, v9451⟩ := r3
   obtain ⟨hl_v9450, hb_v9451⟩ := hr2
   refine OK.grd (by simp (disch := omega) only [inb, zN, true_and, and_true, decide_true, zW, Bool.and_eq_true, zD, List.length_append] <;> omega) ?_
   refine OK.grd (by simp (disch := omega) only [inb, zN, true_and, and_true, decide_true, zW, Bool.and_eq_true, zD, List.length_append] <;> omega) ?_
   refine OK.nm (fun v9529 hv_v9529 => ?_)
   have hl_v9529 : v9529.length = 25 := (congrArg List.length hv_v9529).trans (List.length_set.trans hl_v9450)
   refine OK.nm (fun v9550 hv_v9550 => ?_)
   have hl_v9550 : v9550.length = 25 := (congrArg List.length hv_v9550).trans (List.length_set.trans hl_v9529)
   refine OK.bind (i_keccak_Permute_tot v9550 hl_v9550) (fun v9554 hr4 => ?_)
   have hl_v9554 := hr4
   refine OK.bind (i_ring_SampleNtt_l12_tot LIM (List.replicate 256 (0 : Int)) v9554 0 0 0 0 List.length_replicate hl_v9554 (by (try simp (disch := omega) only [inb, zN, true_and, and_true, decide_true, zW, Bool.and_eq_true, zD, List.length_append]) <;> omega) (by (try simp (disch := omega) only [inb, zN, true_and, and_true, decide_true, zW, Bool.and_eq_true, zD, List.length_append]) <;> omega) (by (try simp (disch := omega) only [inb, zN, true_and, and_true, decide_true, zW, Bool.and_eq_true, zD, List.length_append]) <;> omega) (by simp only [LIM]; omega)) (fun r5 hr6 => ?_)
   rcases r5 with ⟨v12603, v12604, v12605, v12606⟩ | rv
   ·
    obtain ⟨hl_v12603, hl_v12604, hb_v12605⟩ := hr6
    exact OK.some List.length_replicate
   ·
    obtain ⟨q0, q1⟩ := rv
    exact OK.some hr6
theorem i_ring_Encode_l4_tot (v212 : Int) (v21 : List Int) (hb_v212 : 0 ≤ v212 ∧ v212 ≤ 255) (hl_v21 : v21.length = 256) : ∀ (k : Nat) (v266 : List Int) (v267 : Int), v266.length = 384 → 0 ≤ v267 ∧ v267 ≤ 12 → (12 - v267).toNat < k → OK (i_ring_Encode_l4 12 v212 v21 k v266 v267) (fun r0 => (r0.length = 384)) := by
  intro k
  induction k with
  | zero => intro v266 v267 hl_v266 hb_v267 hm; exact absurd hm (Nat.not_lt_zero _)
  | succ k ih =>
   intro v266 v267 hl_v266 hb_v267 hm
   rw [i_ring_Encode_l4]
   refine OK.ite (fun hc1 => ?_) (fun hc1 => ?_)
   ·
    try simp (disch := omega) only [zD, zE, beq_iff_eq, zF, bne_iff_ne, zG, ne_eq, zH, zI, zW] at hc1
    refine OK.grd (by simp (disch := omega) only [inb, zN, true_and, and_true, decide_true, zW, Bool.and_eq_true, zD, List.length_append] <;> omega) ?_
    refine OK.grd (by simp (disch := omega) only [inb, zN, true_and, and_true, decide_true, zW, Bool.and_eq_true, zD, List.length_append] <;> omega) ?_
    refine OK.grd (by simp (disch := omega) only [inb, zN, true_and, and_true, decide_true, zW, Bool.and_eq_true, zD, List.length_append] <;> omega) ?_
    refine OK.nm (fun v291 hv_v291 => ?_)
    have hl_v291 : v291.length = 384 := (congrArg List.length hv_v291).trans (List.length_set.trans hl_v266)
    exact ih v291 (IntKind.i64.wrap (v267 + 1)) hl_v291 (by (try simp (disch := omega) only [inb, zN, true_and, and_true, decide_true, zW, Bool.and_eq_true, zD, List.length_append]) <;> omega) (by (try simp (disch := omega) only [zW]) <;> omega)
   ·
    try simp (disch := omega) only [zD, zE, beq_iff_eq, zF, bne_iff_ne, zG, ne_eq, zH, zI, zW] at hc1
    exact OK.some hl_v266
theorem i_ring_Encode_l3_tot (v21 : List Int) (hl_v21 : v21.length = 256) : ∀ (k : Nat) (v211 : List Int) (v212 : Int), v211.length = 384 → 0 ≤ v212 ∧ v212 ≤ 256 → (256 - v212).toNat < k → OK (i_ring_Encode_l3 12 v21 k v211 v212) (fun r0 => (r0.length = 384)) := by
  intro k
  induction k with
  | zero => intro v211 v212 hl_v211 hb_v212 hm; exact absurd hm (Nat.not_lt_zero _)
  | succ k ih =>
   intro v211 v212 hl_v211 hb_v212 hm
   rw [i_ring_Encode_l3]
   refine OK.ite (fun hc1 => ?_) (fun hc1 => ?_)
   ·
    try simp (disch := omega) only [zD, zE, beq_iff_eq, zF, bne_iff_ne, zG, ne_eq, zH, zI, zW] at hc1
    refine OK.grd (by simp (disch := omega) only [inb, zN, true_and, and_true, decide_true, zW, Bool.and_eq_true, zD, List.length_append] <;> omega) ?_
    refine OK.bind (i_ring_Encode_l4_tot v212 v21 (by (try simp (disch := omega) only [inb, zN, true_and, and_true, decide_true, zW, Bool.and_eq_true, zD, List.length_append]) <;> omega) hl_v21 LIM v211 0 hl_v211 (by (try simp (disch := omega) only [inb, zN, true_and, and_true, decide_true, zW, Bool.and_eq_true, zD, List.length_append]) <;> omega) (by simp only [LIM]; omega)) (fun v268 hr2 => ?_)
    have hl_v268 := hr2
    exact ih v268 (IntKind.i64.wrap (v212 + 1)) hl_v268 (by (try simp (disch := omega) only [inb, zN, true_and, and_true, decide_true, zW, Bool.and_eq_true, zD, List.length_append]) <;> omega) (by (try simp (disch := omega) only [zW]) <;> omega)
   ·
    try simp (disch := omega) only [zD, zE, beq_iff_eq, zF, bne_iff_ne, zG, ne_eq, zH, zI, zW] at hc1
    exact OK.some hl_v211
theorem i_ring_Encode_tot (v2 : List Int) (hl_v2 : v2.length = 256) : OK (i_ring_Encode 12 v2) (fun r => match r with | (r0, r1) => (r0.length = 384) ∧ (0 ≤ r1 ∧ r1 ≤ 0)) := by
  unfold i_ring_Encode
  rw [if_neg (by decide)]
  rw [if_neg (by decide)]
  rw [if_pos (by decide)]
  refine OK.bind (i_ring_Reduce_tot v2 hl_v2) (fun v21 hr1 => ?_)
  have hl_v21 := hr1
  refine OK.grd (by simp (disch := omega) only [inb, zN, true_and, and_true, decide_true, zW, Bool.and_eq_true, zD, List.length_append] <;> omega) ?_
  refine OK.bind (i_ring_Encode_l3_tot v21 hl_v21 LIM (List.replicate ((IntKind.i64.wrap (32 * 12)).toNat) (0 : Int)) 0 (List.length_replicate.trans (by kernel_rfl)) (by (try simp (disch := omega) only [inb, zN, true_and, and_true, decide_true, zW, Bool.and_eq_true, zD, List.length_append]) <;> omega) (by simp only [LIM]; omega)) (fun v213 hr2 => ?_)
  have hl_v213 := hr2
  exact OK.some ⟨hl_v213, (by (try simp (disch := omega) only [inb, zN, true_and, and_true, decide_true, zW, Bool.and_eq_true, zD, List.length_append]) <;> omega)⟩
theorem i_octet_Join_2_tot (v3 : List Int) (v7 : List Int) (hl_v3 : v3.length = 32) (hl_v7 : v7.length = 2) : OK (i_octet_Join_2 v3 v7) (fun r0 => (r0.length = 34)) := by
  unfold i_octet_Join_2
  refine OK.nm (fun v60 hv_v60 => ?_)
  try simp (disch := omega) only [zW] at hv_v60
  refine OK.grd (by simp (disch := omega) only [inb, zN, true_and, and_true, decide_true, zW, Bool.and_eq_true, zD, List.length_append] <;> omega) ?_
  refine OK.grd (by simp (disch := omega) only [inb, zN, true_and, and_true, decide_true, zW, Bool.and_eq_true, zD, List.length_append] <;> omega) ?_
  refine OK.grd (by simp (disch := omega) only [inb, zN, true_and, and_true, decide_true, zW, Bool.and_eq_true, zD, List.length_append] <;> omega) ?_
  exact OK.some (app_len_i hl_v3 hl_v7)
theorem i_octet_Join_4_tot (v3 : List Int) (v7 : List Int) (v11 : List Int) (v15 : List Int) (hl_v3 : v3.length = 1152) (hl_v7 : v7.length = 1184) (hl_v11 : v11.length = 32) (hl_v15 : v15.length = 32) : OK (i_octet_Join_4 v3 v7 v11 v15) (fun r0 => (r0.length = 2400)) := by
  unfold i_octet_Join_4
  refine OK.nm (fun v130 hv_v130 => ?_)
  try simp (disch := omega) only [zW] at hv_v130
  refine OK.nm (fun v144 hv_v144 => ?_)
  try simp (disch := omega) only [zW] at hv_v144
  refine OK.grd (by simp (disch := omega) only [inb, zN, true_and, and_true, decide_true, zW, Bool.and_eq_true, zD, List.length_append] <;> omega) ?_
  refine OK.grd (by simp (disch := omega) only [inb, zN, true_and, and_true, decide_true, zW, Bool.and_eq_true, zD, List.length_append] <;> omega) ?_
  refine OK.grd (by simp (disch := omega) only [inb, zN, true_and, and_true, decide_true, zW, Bool.and_eq_true, zD, List.length_append] <;> omega) ?_
  refine OK.grd (by simp (disch := omega) only [inb, zN, true_and, and_true, decide_true, zW, Bool.and_eq_true, zD, List.length_append] <;> omega) ?_
  refine OK.grd (by simp (disch := omega) only [inb, zN, true_and, and_true, decide_true, zW, Bool.and_eq_true, zD, List.length_append] <;> omega) ?_
  exact OK.some (app_len_i (app_len_i (app_len_i hl_v3 hl_v7) hl_v11) hl_v15)
theorem i_ring_Ntt_l13_tot (v1012 : Int) (v1011 : Int) (v15 : List Int) (hb_v1012 : 0 ≤ v1012 ∧ v1012 ≤ 0) (hb_v1011 : 0 ≤ v1011 ∧ v1011 ≤ 127) (hl_v15 : v15.length = 128) : ∀ (k : Nat) (v1092 : List Int) (v1093 : Int), v1092.length = 256 → v1012 ≤ v1093 ∧ v1093 ≤ v1012 + 128 → (v1012 + 128 - v1093).toNat < k → OK (i_ring_Ntt_l13 v1012 128 v1011 v15 k v1092 v1093) (fun r0 => (r0.length = 256)) := by
  intro k
  induction k with
  | zero => intro v1092 v1093 hl_v1092 hb_v1093 hm; exact absurd hm (Nat.not_lt_zero _)
  | succ k ih =>
   intro v1092 v1093 hl_v1092 hb_v1093 hm
   rw [i_ring_Ntt_l13]
   refine OK.ite (fun hc1 => ?_) (fun hc1 => ?_)
   ·
    try simp (disch := omega) only [zD, zE, beq_iff_eq, zF, bne_iff_ne, zG, ne_eq, zH, zI, zW] at hc1
    refine OK.grd (by simp (disch := omega) only [inb, zN, true_and, and_true, decide_true, zW, Bool.and_eq_true, zD, List.length_append] <;> omega) ?_
    refine OK.grd (by simp (disch := omega) only [inb, zN, true_and, and_true, decide_true, zW, Bool.and_eq_true, zD, List.length_append] <;> omega) ?_
    refine OK.bind (i_ring_times_tot (rd v15 v1011.toNat) (rd v1092 ((IntKind.i64.wrap (v1093 + 128)).toNat))) (fun v1109 hr2 => ?_)
    refine OK.grd (by simp (disch := omega) only [inb, zN, true_and, and_true, decide_true, zW, Bool.and_eq_true, zD, List.length_append] <;> omega) ?_
    refine OK.grd (by simp (disch := omega) only [inb, zN, true_and, and_true, decide_true, zW, Bool.and_eq_true, zD, List.length_append] <;> omega) ?_
    refine OK.nm (fun v1130 hv_v1130 => ?_)
    have hl_v1130 : v1130.length = 256 := (congrArg List.length hv_v1130).trans (List.length_set.trans (List.length_set.trans hl_v1092))
    exact ih v1130 (IntKind.i64.wrap (v1093 + 1)) hl_v1130 (by (try simp (disch := omega) only [inb, zN, true_and, and_true, decide_true, zW, Bool.and_eq_true, zD, List.length_append]) <;> omega) (by (try simp (disch := omega) only [zW]) <;> omega)
   ·
    try simp (disch := omega) only [zD, zE, beq_iff_eq, zF, bne_iff_ne, zG, ne_eq, zH, zI, zW] at hc1
    exact OK.some hl_v1092
theorem i_ring_Ntt_l12_tot (v15 : List Int) (hl_v15 : v15.length = 128) : ∀ (k : Nat) (v1010 : List Int) (v1011 : Int) (v1012 : Int), v1010.length = 256 → 0 ≤ v1012 ∧ v1012 ≤ 256 → v1011 * 256 = 256 + v1012 → (256 - v1012).toNat < k → OK (i_ring_Ntt_l12 128 v15 k v1010 v1011 v1012) (fun r => match r with | (r0, r1) => (r0.length = 256) ∧ (r1 * 256 = 512)) := by
  intro k
  induction k with
  | zero => intro v1010 v1011 v1012 hl_v1010 hb_v1012 hinv hm; exact absurd hm (Nat.not_lt_zero _)
  | succ k ih =>
   intro v1010 v1011 v1012 hl_v1010 hb_v1012 hinv hm
   rw [i_ring_Ntt_l12]
   refine OK.ite (fun hc1 => ?_) (fun hc1 => ?_)
   ·
    try simp (disch := omega) only [zD, zE, beq_iff_eq, zF, bne_iff_ne, zG, ne_eq, zH, zI, zW] at hc1
    refine OK.bind (i_ring_Ntt_l13_tot v1012 v1011 v15 (by (try simp (disch := omega) only [inb, zN, true_and, and_true, decide_true, zW, Bool.and_eq_true, zD, List.length_append]) <;> omega) (by (try simp (disch := omega) only [inb, zN, true_and, and_true, decide_true, zW, Bool.and_eq_true, zD, List.length_append]) <;> omega) hl_v15 LIM v1010 v1012 hl_v1010 (by (try simp (disch := omega) only [inb, zN, true_and, and_true, decide_true, zW, Bool.and_eq_true, zD, List.length_append]) <;> omega) (by simp only [LIM]; omega)) (fun v1094 hr2 => ?_)
    have hl_v1094 := hr2
    exact ih v1094 (IntKind.i64.wrap (v1011 + 1)) (IntKind.i64.wrap (v1012 + (IntKind.i64.wrap (2 * 128)))) hl_v1094 (by (try simp (disch := omega) only [inb, zN, true_and, and_true, decide_true, zW, Bool.and_eq_true, zD, List.length_append]) <;> omega) (by (try simp (disch := omega) only [inb, zN, true_and, and_true, decide_true, zW, Bool.and_eq_true, zD, List.length_append]) <;> omega) (by (try simp (disch := omega) only [zW]) <;> omega)
   ·
    try simp (disch := omega) only [zD, zE, beq_iff_eq, zF, bne_iff_ne, zG, ne_eq, zH, zI, zW] at hc1
    exact OK.some ⟨hl_v1010, (by (try simp (disch := omega) only [inb, zN, true_and, and_true, decide_true, zW, Bool.and_eq_true, zD, List.length_append]) <;> omega)⟩
theorem i_ring_Ntt_l13_tot1 (v1012 : Int) (v1011 : Int) (v15 : List Int) (hb_v1012 : 0 ≤ v1012 ∧ v1012 ≤ 128) (hb_v1011 : 0 ≤ v1011 ∧ v1011 ≤ 127) (hl_v15 : v15.length = 128) : ∀ (k : Nat) (v1092 : List Int) (v1093 : Int), v1092.length = 256 → v1012 ≤ v1093 ∧ v1093 ≤ v1012 + 64 → (v1012 + 64 - v1093).toNat < k → OK (i_ring_Ntt_l13 v1012 64 v1011 v15 k v1092 v1093) (fun r0 => (r0.length = 256)) := by
  intro k
  induction k with
  | zero => intro v1092 v1093 hl_v1092 hb_v1093 hm; exact absurd hm (Nat.not_lt_zero _)
  | succ k ih =>
   intro v1092 v1093 hl_v1092 hb_v1093 hm
   rw [i_ring_Ntt_l13]
   refine OK.ite (fun hc1 => ?_) (fun hc1 => ?_)
   ·
    try simp (disch := omega) only [zD, zE, beq_iff_eq, zF, bne_iff_ne, zG, ne_eq, zH, zI, zW] at hc1
    refine OK.grd (by simp (disch := omega) only [inb, zN, true_and, and_true, decide_true, zW, Bool.and_eq_true, zD, List.length_append] <;> omega) ?_
    refine OK.grd (by simp (disch := omega) only [inb, zN, true_and, and_true, decide_true, zW, Bool.and_eq_true, zD, List.length_append] <;> omega) ?_
    refine OK.bind (i_ring_times_tot (rd v15 v1011.toNat) (rd v1092 ((IntKind.i64.wrap (v1093 + 64)).toNat))) (fun v1109 hr2 => ?_)
    refine OK.grd (by simp (disch := omega) only [inb, zN, true_and, and_true, decide_true, zW, Bool.and_eq_true, zD, List.length_append] <;> omega) ?_
    refine OK.grd (by simp (disch := omega) only [inb, zN, true_and, and_true, decide_true, zW, Bool.and_eq_true, zD, List.length_append] <;> omega) ?_
    refine OK.nm (fun v1130 hv_v1130 => ?_)
    have hl_v1130 : v1130.length = 256 := (congrArg List.length hv_v1130).trans (List.length_set.trans (List.length_set.trans hl_v1092))
    exact ih v1130 (IntKind.i64.wrap (v1093 + 1)) hl_v1130 (by (try simp (disch := omega) only [inb, zN, true_and, and_true, decide_true, zW, Bool.and_eq_true, zD, List.length_append]) <;> omega) (by (try simp (disch := omega) only [zW]) <;> omega)
   ·
    try simp (disch := omega) only [zD, zE, beq_iff_eq, zF, bne_iff_ne, zG, ne_eq, zH, zI, zW] at hc1
    exact OK.some hl_v1092
theorem i_ring_Ntt_l12_tot1 (v15 : List Int) (hl_v15 : v15.length = 128) : ∀ (k : Nat) (v1010 : List Int) (v1011 : Int) (v1012 : Int), v1010.length = 256 → 0 ≤ v1012 ∧ v1012 ≤ 256 → v1011 * 128 = 256 + v1012 → (256 - v1012).toNat < k → OK (i_ring_Ntt_l12 64 v15 k v1010 v1011 v1012) (fun r => match r with | (r0, r1) => (r0.length = 256) ∧ (r1 * 128 = 512)) := by
  intro k
  induction k with
  | zero => intro v1010 v1011 v1012 hl_v1010 hb_v1012 hinv hm; exact absurd hm (Nat.not_lt_zero _)
  | succ k ih =>
   intro v1010 v1011 v1012 hl_v1010 hb_v1012 hinv hm
   rw [i_ring_Ntt_l12]
   refine OK.ite (fun hc1 => ?_) (fun hc1 => ?_)
   ·
    try simp (disch := omega) only [zD, zE, beq_iff_eq, zF, bne_iff_ne, zG, ne_eq, zH, zI, zW] at hc1
    refine OK.bind (i_ring_Ntt_l13_tot1 v1012 v1011 v15 (by (try simp (disch := omega) only [inb, zN, true_and, and_true, decide_true, zW, Bool.and_eq_true, zD, List.length_append]) <;> omega) (by (try simp (disch := omega) only [inb, zN, true_and, and_true, decide_true, zW, Bool.and_eq_true, zD, List.length_append]) <;> omega) hl_v15 LIM v1010 v1012 hl_v1010 (by (try simp (disch := omega) only [inb, zN, true_and, and_true, decide_true, zW, Bool.and_eq_true, zD, List.length_append]) <;> omega) (by simp only [LIM]; omega)) (fun v1094 hr2 => ?_)
    have hl_v1094 := hr2
    exact ih v1094 (IntKind.i64.wrap (v1011 + 1)) (IntKind.i64.wrap (v1012 + (IntKind.i64.wrap (2 * 64)))) hl_v1094 (by (try simp (disch := omega) only [inb, zN, true_and, and_true, decide_true, zW, Bool.and_eq_true, zD, List.length_append]) <;> omega) (by (try simp (disch := omega) only [inb, zN, true_and, and_true, decide_true, zW, Bool.and_eq_true, zD, List.length_append]) <;> omega) (by (try simp (disch := omega) only [zW]) <;> omega)
   ·
    try simp (disch := omega) only [zD, zE, beq_iff_eq, zF, bne_iff_ne, zG, ne_eq, zH, zI, zW] at hc1
    exact OK.some ⟨hl_v1010, (by (try simp (disch := omega) only [inb, zN, true_and, and_true, decide_true, zW, Bool.and_eq_true, zD, List.length_append]) <;> omega)⟩
theorem i_ring_Ntt_l13_tot2 (v1012 : Int) (v1011 : Int) (v15 : List Int) (hb_v1012 : 0 ≤ v1012 ∧ v1012 ≤ 192) (hb_v1011 : 0 ≤ v1011 ∧ v1011 ≤ 127) (hl_v15 : v15.length = 128) : ∀ (k : Nat) (v1092 : List Int) (v1093 : Int), v1092.length = 256 → v1012 ≤ v1093 ∧ v1093 ≤ v1012 + 32 → (v1012 + 32 - v1093).toNat < k → OK (i_ring_Ntt_l13 v1012 32 v1011 v15 k v1092 v1093) (fun r0 => (r0.length = 256)) := by
  intro k
  induction k with
  | zero => intro v1092 v1093 hl_v1092 hb_v1093 hm; exact absurd hm (Nat.not_lt_zero _)
  | succ k ih =>
   intro v1092 v1093 hl_v1092 hb_v1093 hm
   rw [i_ring_Ntt_l13]
   refine OK.ite (fun hc1 => ?_) (fun hc1 => ?_)
   ·
    try simp (disch := omega) only [zD, zE, beq_iff_eq, zF, bne_iff_ne, zG, ne_eq, zH, zI, zW] at hc1
    refine OK.grd (by simp (disch := omega) only [inb, zN, true_and, and_true, decide_true, zW, Bool.and_eq_true, zD, List.length_append] <;> omega) ?_
    refine OK.grd (by simp (disch := omega) only [inb, zN, true_and, and_true, decide_true, zW, Bool.and_eq_true, zD, List.length_append] <;> omega) ?_
    refine OK.bind (i_ring_times_tot (rd v15 v1011.toNat) (rd v1092 ((IntKind.i64.wrap (v1093 + 32)).toNat))) (fun v1109 hr2 => ?_)
    refine OK.grd (by simp (disch := omega) only [inb, zN, true_and, and_true, decide_true, zW, Bool.and_eq_true, zD, List.length_append] <;> omega) ?_
    refine OK.grd (by simp (disch := omega) only [inb, zN, true_and, and_true, decide_true, zW, Bool.and_eq_true, zD, List.length_append] <;> omega) ?_
    refine OK.nm (fun v1130 hv_v1130 => ?_)
    have hl_v1130 : v1130.length = 256 := (congrArg List.length hv_v1130).trans (List.length_set.trans (List.length_set.trans hl_v1092))
    exact ih v1130 (IntKind.i64.wrap (v1093 + 1)) hl_v1130 (by (try simp (disch := omega) only [inb, zN, true_and, and_true, decide_true, zW, Bool.and_eq_true, zD, List.length_append]) <;> omega) (by (try simp (disch := omega) only [zW]) <;> omega)
   ·
    try simp (disch := omega) only [zD, zE, beq_iff_eq, zF, bne_iff_ne, zG, ne_eq, zH, zI, zW] at hc1
    exact OK.some hl_v1092
theorem i_ring_Ntt_l12_tot2 (v15 : List Int) (hl_v15 : v15.length = 128) : ∀ (k : Nat) (v1010 : List Int) (v1011 : Int) (v1012 : Int), v1010.length = 256 → 0 ≤ v1012 ∧ v1012 ≤ 256 → v1011 * 64 = 256 + v1012 → (256 - v1012).toNat < k → OK (i_ring_Ntt_l12 32 v15 k v1010 v1011 v1012) (fun r => match r with | (r0, r1) => (r0.length = 256) ∧ (r1 * 64 = 512)) := by
  intro k
  induction k with
  | zero => intro v1010 v1011 v1012 hl_v1010 hb_v1012 hinv hm; exact absurd hm (Nat.not_lt_zero _)
  | succ k ih =>
   intro v1010 v1011 v1012 hl_v1010 hb_v1012 hinv hm
   rw [i_ring_Ntt_l12]
   refine OK.ite (fun hc1 => ?_) (fun hc1 => ?_)
   ·
    try simp (disch := omega) only [zD, zE, beq_iff_eq, zF, bne_iff_ne, zG, ne_eq, zH, zI, zW] at hc1
    refine OK.bind (i_ring_Ntt_l13_tot2 v1012 v1011 v15 (by (try simp (disch := omega) only [inb, zN, true_and, and_true, decide_true, zW, Bool.and_eq_true, zD, List.length_append]) <;> omega) (by (try simp (disch := omega) only [inb, zN, true_and, and_true, decide_true, zW, Bool.and_eq_true, zD, List.length_append]) <;> omega) hl_v15 LIM v1010 v1012 hl_v1010 (by (try simp (disch := omega) only [inb, zN, true_and, and_true, decide_true, zW, Bool.and_eq_true, zD, List.length_append]) <;> omega) (by simp only [LIM]; omega)) (fun v1094 hr2 => ?_)
    have hl_v1094 := hr2
    exact ih v1094 (IntKind.i64.wrap (v1011 + 1)) (IntKind.i64.wrap (v1012 + (IntKind.i64.wrap (2 * 32)))) hl_v1094 (by (try simp (disch := omega) only [inb, zN, true_and, and_true, decide_true, zW, Bool.and_eq_true, zD, List.length_append]) <;> omega) (by (try simp (disch := omega) only [inb, zN, true_and, and_true, decide_true, zW, Bool.and_eq_true, zD, List.length_append]) <;> omega) (by (try simp (disch := omega) only [zW]) <;> omega)
   ·
    try simp (disch := omega) only [zD, zE, beq_iff_eq, zF, bne_iff_ne, zG, ne_eq, zH, zI, zW] at hc1
    exact OK.some ⟨hl_v1010, (by (try simp (disch := omega) only [inb, zN, true_and, and_true, decide_true, zW, Bool.and_eq_true, zD, List.length_append]) <;> omega)⟩
theorem i_ring_Ntt_l13_tot3 (v1012 : Int) (v1011 : Int) (v15 : List Int) (hb_v1012 : 0 ≤ v1012 ∧ v1012 ≤ 224) (hb_v1011 : 0 ≤ v1011 ∧ v1011 ≤ 127) (hl_v15 : v15.length = 128) : ∀ (k : Nat) (v1092 : List Int) (v1093 : Int), v1092.length = 256 → v1012 ≤ v1093 ∧ v1093 ≤ v1012 + 16 → (v1012 + 16 - v1093).toNat < k → OK (i_ring_Ntt_l13 v1012 16 v1011 v15 k v1092 v1093) (fun r0 => (r0.length = 256)) := by
  intro k
  induction k with
  | zero => intro v1092 v1093 hl_v1092 hb_v1093 hm; exact absurd hm (Nat.not_lt_zero _)
  | succ k ih =>
   intro v1092 v1093 hl_v1092 hb_v1093 hm
   rw [i_ring_Ntt_l13]
   refine OK.ite (fun hc1 => ?_) (fun hc1 => ?_)
   ·
    try simp (disch := omega) only [zD, zE, beq_iff_eq, zF, bne_iff_ne, zG, ne_eq, zH, zI, zW] at hc1
    refine OK.grd (by simp (disch := omega) only [inb, zN, true_and, and_true, decide_true, zW, Bool.and_eq_true, zD, List.length_append] <;> omega) ?_
    refine OK.grd (by simp (disch := omega) only [inb, zN, true_and, and_true, decide_true, zW, Bool.and_eq_true, zD, List.length_append] <;> omega) ?_
    refine OK.bind (i_ring_times_tot (rd v15 v1011.toNat) (rd v1092 ((IntKind.i64.wrap (v1093 + 16)).toNat))) (fun v1109 hr2 => ?_)
    refine OK.grd (by simp (disch := omega) only [inb, zN, true_and, and_true, decide_true, zW, Bool.and_eq_true, zD, List.length_append] <;> omega) ?_
    refine OK.grd (by simp (disch := omega) only [inb, zN, true_and, and_true, decide_true, zW, Bool.and_eq_true, zD, List.length_append] <;> omega) ?_
    refine OK.nm (fun v1130 hv_v1130 => ?_)
    have hl_v1130 : v1130.length = 256 := (congrArg List.length hv_v1130).trans (List.length_set.trans (List.length_set.trans hl_v1092))
    exact ih v1130 (IntKind.i64.wrap (v1093 + 1)) hl_v1130 (by (try simp (disch := omega) only [inb, zN, true_and, and_true, decide_true, zW, Bool.and_eq_true, zD, List.length_append]) <;> omega) (by (try simp (disch := omega) only [zW]) <;> omega)
   ·
    try simp (disch := omega) only [zD, zE, beq_iff_eq, zF, bne_iff_ne, zG, ne_eq, zH, zI, zW] at hc1
    exact OK.some hl_v1092
theorem i_ring_Ntt_l12_tot3 (v15 : List Int) (hl_v15 : v15.length = 128) : ∀ (k : Nat) (v1010 : List Int) (v1011 : Int) (v1012 : Int), v1010.length = 256 → 0 ≤ v1012 ∧ v1012 ≤ 256 → v1011 * 32 = 256 + v1012 → (256 - v1012).toNat < k → OK (i_ring_Ntt_l12 16 v15 k v1010 v1011 v1012) (fun r => match r with | (r0, r1) => (r0.length = 256) ∧ (r1 * 32 = 512)) := by
  intro k
  induction k with
  | zero => intro v1010 v1011 v1012 hl_v1010 hb_v1012 hinv hm; exact absurd hm (Nat.not_lt_zero _)
  | succ k ih =>
   intro v1010 v1011 v1012 hl_v1010 hb_v1012 hinv hm
   rw [i_ring_Ntt_l12]
   refine OK.ite (fun hc1 => ?_) (fun hc1 => ?_)
   ·
    try simp (disch := omega) only [zD, zE, beq_iff_eq, zF, bne_iff_ne, zG, ne_eq, zH, zI, zW] at hc1
    refine OK.bind (i_ring_Ntt_l13_tot3 v1012 v1011 v15 (by (try simp (disch := omega) only [inb, zN, true_and, and_true, decide_true, zW, Bool.and_eq_true, zD, List.length_append]) <;> omega) (by (try simp (disch := omega) only [inb, zN, true_and, and_true, decide_true, zW, Bool.and_eq_true, zD, List.length_append]) <;> omega) hl_v15 LIM v1010 v1012 hl_v1010 (by (try simp (disch := omega) only [inb, zN, true_and, and_true, decide_true, zW, Bool.and_eq_true, zD, List.length_append]) <;> omega) (by simp only [LIM]; omega)) (fun v1094 hr2 => ?_)
    have hl_v1094 := hr2
    exact ih v1094 (IntKind.i64.wrap (v1011 + 1)) (IntKind.i64.wrap (v1012 + (IntKind.i64.wrap (2 * 16)))) hl_v1094 (by (try simp (disch := omega) only [inb, zN, true_and, and_true, decide_true, zW, Bool.and_eq_true, zD, List.length_append]) <;> omega) (by (try simp (disch := omega) only [inb, zN, true_and, and_true, decide_true, zW, Bool.and_eq_true, zD, List.length_append]) <;> omega) (by (try simp (disch := omega) only [zW]) <;> omega)
   ·
    try simp (disch := omega) only [zD, zE, beq_iff_eq, zF, bne_iff_ne, zG, ne_eq, zH, zI, zW] at hc1
    exact OK.some ⟨hl_v1010, (by (try simp (disch := omega) only [inb, zN, true_and, and_true, decide_true, zW, Bool.and_eq_true, zD, List.length_append]) <;> omega)⟩
theorem i_ring_Ntt_l13_tot4 (v1012 : Int) (v1011 : Int) (v15 : List Int) (hb_v1012 : 0 ≤ v1012 ∧ v1012 ≤ 240) (hb_v1011 : 0 ≤ v1011 ∧ v1011 ≤ 127) (hl_v15 : v15.length = 128) : ∀ (k : Nat) (v1092 : List Int) (v1093 : Int), v1092.length = 256 → v1012 ≤ v1093 ∧ v1093 ≤ v1012 + 8 → (v1012 + 8 - v1093).toNat < k → OK (i_ring_Ntt_l13 v1012 8 v1011 v15 k v1092 v1093) (fun r0 => (r0.length = 256)) := by
  intro k
  induction k with
  | zero => intro v1092 v1093 hl_v1092 hb_v1093 hm; exact absurd hm (Nat.not_lt_zero _)
  | succ k ih =>
   intro v1092 v1093 hl_v1092 hb_v1093 hm
   rw [i_ring_Ntt_l13]
   refine OK.ite (fun hc1 => ?_) (fun hc1 => ?_)
   ·
    try simp (disch := omega) only [zD, zE, beq_iff_eq, zF, bne_iff_ne, zG, ne_eq, zH, zI, zW] at hc1
    refine OK.grd (by simp (disch := omega) only [inb, zN, true_and, and_true, decide_true, zW, Bool.and_eq_true, zD, List.length_append] <;> omega) ?_
    refine OK.grd (by simp (disch := omega) only [inb, zN, true_and, and_true, decide_true, zW, Bool.and_eq_true, zD, List.length_append] <;> omega) ?_
    refine OK.bind (i_ring_times_tot (rd v15 v1011.toNat) (rd v1092 ((IntKind.i64.wrap (v1093 + 8)).toNat))) (fun v1109 hr2 => ?_)
    refine OK.grd (by simp (disch := omega) only [inb, zN, true_and, and_true, decide_true, zW, Bool.and_eq_true, zD, List.length_append] <;> omega) ?_
    refine OK.grd (by simp (disch := omega) only [inb, zN, true_and, and_true, decide_true, zW, Bool.and_eq_true, zD, List.length_append] <;> omega) ?_
    refine OK.nm (fun v1130 hv_v1130 => ?_)
    have hl_v1130 : v1130.length = 256 := (congrArg List.length hv_v1130).trans (List.length_set.trans (List.length_set.trans hl_v1092))
    exact ih v1130 (IntKind.i64.wrap (v1093 + 1)) hl_v1130 (by (try simp (disch := omega) only [inb, zN, true_and, and_true, decide_true, zW, Bool.and_eq_true, zD, List.length_append]) <;> omega) (by (try simp (disch := omega) only [zW]) <;> omega)
   ·
    try simp (disch := omega) only [zD, zE, beq_iff_eq, zF, bne_iff_ne, zG, ne_eq, zH, zI, zW] at hc1
    exact OK.some hl_v1092
theorem i_ring_Ntt_l12_tot4 (v15 : List Int) (hl_v15 : v15.length = 128) : ∀ (k : Nat) (v1010 : List Int) (v1011 : Int) (v1012 : Int), v1010.length = 256 → 0 ≤ v1012 ∧ v1012 ≤ 256 → v1011 * 16 = 256 + v1012 → (256 - v1012).toNat < k → OK (i_ring_Ntt_l12 8 v15 k v1010 v1011 v1012) (fun r => match r with | (r0, r1) => (r0.length = 256) ∧ (r1 * 16 = 512)) := by
  intro k
  induction k with
  | zero => intro v1010 v1011 v1012 hl_v1010 hb_v1012 hinv hm; exact absurd hm (Nat.not_lt_zero _)
  | succ k ih =>
   intro v1010 v1011 v1012 hl_v1010 hb_v1012 hinv hm
   rw [i_ring_Ntt_l12]
   refine OK.ite (fun hc1 => ?_) (fun hc1 => ?_)
   ·
    try simp (disch := omega) only [zD, zE, beq_iff_eq, zF, bne_iff_ne, zG, ne_eq, zH, zI, zW] at hc1
    refine OK.bind (i_ring_Ntt_l13_tot4 v1012 v1011 v15 (by (try simp (disch := omega) only [inb, zN, true_and, and_true, decide_true, zW, Bool.and_eq_true, zD, List.length_append]) <;> omega) (by (try simp (disch := omega) only [inb, zN, true_and, and_true, decide_true, zW, Bool.and_eq_true, zD, List.length_append]) <;> omega) hl_v15 LIM v1010 v1012 hl_v1010 (by (try simp (disch := omega) only [inb, zN, true_and, and_true, decide_true, zW, Bool.and_eq_true, zD, List.length_append]) <;> omega) (by simp only [LIM]; omega)) (fun v1094 hr2 => ?_)
    have hl_v1094 := hr2
    exact ih v1094 (IntKind.i64.wrap (v1011 + 1)) (IntKind.i64.wrap (v1012 + (IntKind.i64.wrap (2 * 8)))) hl_v1094 (by (try simp (disch := omega) only [inb, zN, true_and, and_true, decide_true, zW, Bool.and_eq_true, zD, List.length_append]) <;> omega) (by (try simp (disch := omega) only [inb, zN, true_and, and_true, decide_true, zW, Bool.and_eq_true, zD, List.length_append]) <;> omega) (by (try simp (disch := omega) only [zW]) <;> omega)
   ·
    try simp (disch := omega) only [zD, zE, beq_iff_eq, zF, bne_iff_ne, zG, ne_eq, zH, zI, zW] at hc1
    exact OK.some ⟨hl_v1010, (by (try simp (disch := omega) only [inb, zN, true_and, and_true, decide_true, zW, Bool.and_eq_true, zD, List.length_append]) <;> omega)⟩
theorem i_ring_Ntt_l13_tot5 (v1012 : Int) (v1011 : Int) (v15 : List Int) (hb_v1012 : 0 ≤ v1012 ∧ v1012 ≤ 248) (hb_v1011 : 0 ≤ v1011 ∧ v1011 ≤ 127) (hl_v15 : v15.length = 128) : ∀ (k : Nat) (v1092 : List Int) (v1093 : Int), v1092.length = 256 → v1012 ≤ v1093 ∧ v1093 ≤ v1012 + 4 → (v1012 + 4 - v1093).toNat < k → OK (i_ring_Ntt_l13 v1012 4 v1011 v15 k v1092 v1093) (fun r0 => (r0.length = 256)) := by
  intro k
  induction k with
  | zero => intro v1092 v1093 hl_v1092 hb_v1093 hm; exact absurd hm (Nat.not_lt_zero _)
  | succ k ih =>
   intro v1092 v1093 hl_v1092 hb_v1093 hm
   rw [i_ring_Ntt_l13]
   refine OK.ite (fun hc1 => ?_) (fun hc1 => ?_)
   ·
    try simp (disch := omega) only [zD, zE, beq_iff_eq, zF, bne_iff_ne, zG, ne_eq, zH, zI, zW] at hc1
    refine OK.grd (by simp (disch := omega) only [inb, zN, true_and, and_true, decide_true, zW, Bool.and_eq_true, zD, List.length_append] <;> omega) ?_
    refine OK.grd (by simp (disch := omega) only [inb, zN, true_and, and_true, decide_true, zW, Bool.and_eq_true, zD, List.length_append] <;> omega) ?_
    refine OK.bind (i_ring_times_tot (rd v15 v1011.toNat) (rd v1092 ((IntKind.i64.wrap (v1093 + 4)).toNat))) (fun v1109 hr2 => ?_)
    refine OK.grd (by simp (disch := omega) only [inb, zN, true_and, and_true, decide_true, zW, Bool.and_eq_true, zD, List.length_append] <;> omega) ?_
    refine OK.grd (by simp (disch := omega) only [inb, zN, true_and, and_true, decide_true, zW, Bool.and_eq_true, zD, List.length_append] <;> omega) ?_
    refine OK.nm (fun v1130 hv_v1130 => ?_)
    have hl_v1130 : v1130.length = 256 := (congrArg List.length hv_v1130).trans (List.length_set.trans (List.length_set.trans hl_v1092))
    exact ih v1130 (IntKind.i64.wrap (v1093 + 1)) hl_v1130 (by (try simp (disch := omega) only [inb, zN, true_and, and_true, decide_true, zW, Bool.and_eq_true, zD, List.length_append]) <;> omega) (by (try simp (disch := omega) only [zW]) <;> omega)
   ·
    try simp (disch := omega) only [zD, zE, beq_iff_eq, zF, bne_iff_ne, zG, ne_eq, zH, zI, zW] at hc1
    exact OK.some hl_v1092
theorem i_ring_Ntt_l12_tot5 (v15 : List Int) (hl_v15 : v15.length = 128) : ∀ (k : Nat) (v1010 : List Int) (v1011 : Int) (v1012 : Int), v1010.length = 256 → 0 ≤ v1012 ∧ v1012 ≤ 256 → v1011 * 8 = 256 + v1012 → (256 - v1012).toNat < k → OK (i_ring_Ntt_l12 4 v15 k v1010 v1011 v1012) (fun r => match r with | (r0, r1) => (r0.length = 256) ∧ (r1 * 8 = 512)) := by
  intro k
  induction k with
  | zero => intro v1010 v1011 v1012 hl_v1010 hb_v1012 hinv hm; exact absurd hm (Nat.not_lt_zero _)
  | succ k ih =>
   intro v1010 v1011 v1012 hl_v1010 hb_v1012 hinv hm
   rw [i_ring_Ntt_l12]
   refine OK.ite (fun hc1 => ?_) (fun hc1 => ?_)
   ·
    try simp (disch := omega) only [zD, zE, beq_iff_eq, zF, bne_iff_ne, zG, ne_eq, zH, zI, zW] at hc1
    refine OK.bind (i_ring_Ntt_l13_tot5 v1012 v1011 v15 (by (try simp (disch := omega) only [inb, zN, true_and, and_true, decide_true, zW, Bool.and_eq_true, zD, List.length_append]) <;> omega) (by (try simp (disch := omega) only [inb, zN, true_and, and_true, decide_true, zW, Bool.and_eq_true, zD, List.length_append]) <;> omega) hl_v15 LIM v1010 v1012 hl_v1010 (by (try simp (disch := omega) only [inb, zN, true_and, and_true, decide_true, zW, Bool.and_eq_true, zD, List.length_append]) <;> omega) (by simp only [LIM]; omega)) (fun v1094 hr2 => ?_)
    have hl_v1094 := hr2
    exact ih v1094 (IntKind.i64.wrap (v1011 + 1)) (IntKind.i64.wrap (v1012 + (IntKind.i64.wrap (2 * 4)))) hl_v1094 (by (try simp (disch := omega) only [inb, zN, true_and, and_true, decide_true, zW, Bool.and_eq_true, zD, List.length_append]) <;> omega) (by (try simp (disch := omega) only [inb, zN, true_and, and_true, decide_true, zW, Bool.and_eq_true, zD, List.length_append]) <;> omega) (by (try simp (disch := omega) only [zW]) <;> omega)
   ·
    try simp (disch := omega) only [zD, zE, beq_iff_eq, zF, bne_iff_ne, zG, ne_eq, zH, zI, zW] at hc1
    exact OK.some ⟨hl_v1010, (by (try simp (disch := omega) only [inb, zN, true_and, and_true, decide_true, zW, Bool.and_eq_true, zD, List.length_append]) <;> omega)⟩
theorem i_ring_Ntt_l13_tot6 (v1012 : Int) (v1011 : Int) (v15 : List Int) (hb_v1012 : 0 ≤ v1012 ∧ v1012 ≤ 252) (hb_v1011 : 0 ≤ v1011 ∧ v1011 ≤ 127) (hl_v15 : v15.length = 128) : ∀ (k : Nat) (v1092 : List Int) (v1093 : Int), v1092.length = 256 → v1012 ≤ v1093 ∧ v1093 ≤ v1012 + 2 → (v1012 + 2 - v1093).toNat < k → OK (i_ring_Ntt_l13 v1012 2 v1011 v15 k v1092 v1093) (fun r0 => (r0.length = 256)) := by
  intro k
  induction k with
  | zero => intro v1092 v1093 hl_v1092 hb_v1093 hm; exact absurd hm (Nat.not_lt_zero _)
  | succ k ih =>
   intro v1092 v1093 hl_v1092 hb_v1093 hm
   rw [i_ring_Ntt_l13]
   refine OK.ite (fun hc1 => ?_) (fun hc1 => ?_)
   ·
    try simp (disch := omega) only [zD, zE, beq_iff_eq, zF, bne_iff_ne, zG, ne_eq, zH, zI, zW] at hc1
    refine OK.grd (by simp (disch := omega) only [inb, zN, true_and, and_true, decide_true, zW, Bool.and_eq_true, zD, List.length_append] <;> omega) ?_
    refine OK.grd (by simp (disch := omega) only [inb, zN, true_and, and_true, decide_true, zW, Bool.and_eq_true, zD, List.length_append] <;> omega) ?_
    refine OK.bind (i_ring_times_tot (rd v15 v1011.toNat) (rd v1092 ((IntKind.i64.wrap (v1093 + 2)).toNat))) (fun v1109 hr2 => ?_)
    refine OK.grd (by simp (disch := omega) only [inb, zN, true_and, and_true, decide_true, zW, Bool.and_eq_true, zD, List.length_append] <;> omega) ?_
    refine OK.grd (by simp (disch := omega) only [inb, zN, true_and, and_true, decide_true, zW, Bool.and_eq_true, zD, List.length_append] <;> omega) ?_
    refine OK.nm (fun v1130 hv_v1130 => ?_)
    have hl_v1130 : v1130.length = 256 := (congrArg List.length hv_v1130).trans (List.length_set.trans (List.length_set.trans hl_v1092))
    exact ih v1130 (IntKind.i64.wrap (v1093 + 1)) hl_v1130 (by (try simp (disch := omega) only [inb, zN, true_and, and_true, decide_true, zW, Bool.and_eq_true, zD, List.length_append]) <;> omega) (by (try simp (disch := omega) only [zW]) <;> omega)
   ·
    try simp (disch := omega) only [zD, zE, beq_iff_eq, zF, bne_iff_ne, zG, ne_eq, zH, zI, zW] at hc1
    exact OK.some hl_v1092
theorem i_ring_Ntt_l12_tot6 (v15 : List Int) (hl_v15 : v15.length = 128) : ∀ (k : Nat) (v1010 : List Int) (v1011 : Int) (v1012 : Int), v1010.length = 256 → 0 ≤ v1012 ∧ v1012 ≤ 256 → v1011 * 4 = 256 + v1012 → (256 - v1012).toNat < k → OK (i_ring_Ntt_l12 2 v15 k v1010 v1011 v1012) (fun r => match r with | (r0, r1) => (r0.length = 256) ∧ (r1 * 4 = 512)) := by
  intro k
  induction k with
  | zero => intro v1010 v1011 v1012 hl_v1010 hb_v1012 hinv hm; exact absurd hm (Nat.not_lt_zero _)
  | succ k ih =>
   intro v1010 v1011 v1012 hl_v1010 hb_v1012 hinv hm
   rw [i_ring_Ntt_l12]
   refine OK.ite (fun hc1 => ?_) (fun hc1 => ?_)
   ·
    try simp (disch := omega) only [zD, zE, beq_iff_eq, zF, bne_iff_ne, zG, ne_eq, zH, zI, zW] at hc1
    refine OK.bind (i_ring_Ntt_l13_tot6 v1012 v1011 v15 (by (try simp (disch := omega) only [inb, zN, true_and, and_true, decide_true, zW, Bool.and_eq_true, zD, List.length_append]) <;> omega) (by (try simp (disch := omega) only [inb, zN, true_and, and_true, decide_true, zW, Bool.and_eq_true, zD, List.length_append]) <;> omega) hl_v15 LIM v1010 v1012 hl_v1010 (by (try simp (disch := omega) only [inb, zN, true_and, and_true, decide_true, zW, Bool.and_eq_true, zD, List.length_append]) <;> omega) (by simp only [LIM]; omega)) (fun v1094 hr2 => ?_)
    have hl_v1094 := hr2
    exact ih v1094 (IntKind.i64.wrap (v1011 + 1)) (IntKind.i64.wrap (v1012 + (IntKind.i64.wrap (2 * 2)))) hl_v1094 (by (try simp (disch := omega) only [inb, zN, true_and, and_true, decide_true, zW, Bool.and_eq_true, zD, List.length_append]) <;> omega) (by (try simp (disch := omega) only [inb, zN, true_and, and_true, decide_true, zW, Bool.and_eq_true, zD, List.length_append]) <;> omega) (by (try simp (disch := omega) only [zW]) <;> omega)
   ·
    try simp (disch := omega) only [zD, zE, beq_iff_eq, zF, bne_iff_ne, zG, ne_eq, zH, zI, zW] at hc1
    exact OK.some ⟨hl_v1010, (by (try simp (disch := omega) only [inb, zN, true_and, and_true, decide_true, zW, Bool.and_eq_true, zD, List.length_append]) <;> omega)⟩
theorem i_ring_Ntt_l9_tot (v15 : List Int) (hl_v15 : v15.length = 128) (x0 : List Int) (hx0 : x0.length = 256) : OK (i_ring_Ntt_l9 v15 LIM x0 1 128) (fun r => r.length = 256) := by
  have hk0 : (1 : Int) * 256 = 256 := rfl
  generalize hq : (1 : Int) = k0 at hk0 ⊢
  clear hq
  show OK (i_ring_Ntt_l9 v15 (18446744073709551615 + 1) x0 k0 128) _
  rw [i_ring_Ntt_l9]
  rw [if_pos (by decide)]
  refine OK.bind (i_ring_Ntt_l12_tot v15 hl_v15 LIM x0 k0 0 hx0 (by omega) (by omega) (by simp only [LIM]; omega)) (fun r hr => ?_)
  obtain ⟨x1, k1⟩ := r
  obtain ⟨hx1, hk1⟩ := hr
  rw [show IntKind.i64.wrap (Int.tdiv 128 2) = 64 from by kernel_rfl]
  show OK (i_ring_Ntt_l9 v15 (18446744073709551614 + 1) x1 k1 64) _
  rw [i_ring_Ntt_l9]
  rw [if_pos (by decide)]
  refine OK.bind (i_ring_Ntt_l12_tot1 v15 hl_v15 LIM x1 k1 0 hx1 (by omega) (by omega) (by simp only [LIM]; omega)) (fun r hr => ?_)
  obtain ⟨x2, k2⟩ := r
  obtain ⟨hx2, hk2⟩ := hr
  rw [show IntKind.i64.wrap (Int.tdiv 64 2) = 32 from by kernel_rfl]
  show OK (i_ring_Ntt_l9 v15 (18446744073709551613 + 1) x2 k2 32) _
  rw [i_ring_Ntt_l9]
  rw [if_pos (by decide)]
  refine OK.bind (i_ring_Ntt_l12_tot2 v15 hl_v15 LIM x2 k2 0 hx2 (by omega) (by omega) (by simp only [LIM]; omega)) (fun r hr => ?_)
  obtain ⟨x3, k3⟩ := r
  obtain ⟨hx3, hk3⟩ := hr
  rw [show IntKind.i64.wrap (Int.tdiv 32 2) = 16 from by kernel_rfl]
  show OK (i_ring_Ntt_l9 v15 (18446744073709551612 + 1) x3 k3 16) _
  rw [i_ring_Ntt_l9]
  rw [if_pos (by decide)]
  refine OK.bind (i_ring_Ntt_l12_tot3 v15 hl_v15 LIM x3 k3 0 hx3 (by omega) (by omega) (by simp only [LIM]; omega)) (fun r hr => ?_)
  obtain ⟨x4, k4⟩ := r
  obtain ⟨hx4, hk4⟩ := hr
  rw [show IntKind.i64.wrap (Int.tdiv 16 2) = 8 from by kernel_rfl]
  show OK (i_ring_Ntt_l9 v15 (18446744073709551611 + 1) x4 k4 8) _
  rw [i_ring_Ntt_l9]
  rw [if_pos (by decide)]
  refine OK.bind (i_ring_Ntt_l12_tot4 v15 hl_v15 LIM x4 k4 0 hx4 (by omega) (by omega) (by simp only [LIM]; omega)) (fun r hr => ?_)
  obtain ⟨x5, k5⟩ := r
  obtain ⟨hx5, hk5⟩ := hr
  rw [show IntKind.i64.wrap (Int.tdiv 8 2) = 4 from by kernel_rfl]
  show OK (i_ring_Ntt_l9 v15 (18446744073709551610 + 1) x5 k5 4) _
  rw [i_ring_Ntt_l9]
  rw [if_pos (by decide)]
  refine OK.bind (i_ring_Ntt_l12_tot5 v15 hl_v15 LIM x5 k5 0 hx5 (by omega) (by omega) (by simp only [LIM]; omega)) (fun r hr => ?_)
  obtain ⟨x6, k6⟩ := r
  obtain ⟨hx6, hk6⟩ := hr
  rw [show IntKind.i64.wrap (Int.tdiv 4 2) = 2 from by kernel_rfl]
  show OK (i_ring_Ntt_l9 v15 (18446744073709551609 + 1) x6 k6 2) _
  rw [i_ring_Ntt_l9]
  rw [if_pos (by decide)]
  refine OK.bind (i_ring_Ntt_l12_tot6 v15 hl_v15 LIM x6 k6 0 hx6 (by omega) (by omega) (by simp only [LIM]; omega)) (fun r hr => ?_)
  obtain ⟨x7, k7⟩ := r
  obtain ⟨hx7, hk7⟩ := hr
  rw [show IntKind.i64.wrap (Int.tdiv 2 2) = 1 from by kernel_rfl]
  show OK (i_ring_Ntt_l9 v15 (18446744073709551608 + 1) x7 k7 1) _
  rw [i_ring_Ntt_l9]
  rw [if_neg (by decide)]
  exact OK.some hx7
theorem i_kem_noise_tot (v1 : List Int) (hl_v1 : v1.length = 32) : OK (i_kem_noise v1 0) (fun r0 => (r0.length = 256)) := by
  unfold i_kem_noise
  refine OK.bind (i_keccak_Shake_c256_c128_2_tot v1 ([(IntKind.u8.wrap 0)]) hl_v1 rfl) (fun r2 hr1 => ?_)
  obtain ⟨v16, v17⟩ := r2
  obtain ⟨hl_v16, hb_v17⟩ := hr1
  refine OK.ite (fun hc3 => ?_) (fun hc3 => ?_)
  ·
   try simp (disch := omega) only [zD, zE, beq_iff_eq, zF, bne_iff_ne, zG, ne_eq, zH, zI, zW] at hc3
   exfalso; omega
  ·
   try simp (disch := omega) only [zD, zE, beq_iff_eq, zF, bne_iff_ne, zG, ne_eq, zH, zI, zW] at hc3
   refine OK.bind (i_ring_Cbd_tot v16 hl_v16) (fun r5 hr4 => ?_)
   obtain ⟨v37, v38⟩ := r5
   obtain ⟨hl_v37, hb_v38⟩ := hr4
   refine OK.ite (fun hc6 => ?_) (fun hc6 => ?_)
   ·
    try simp (disch := omega) only [zD, zE, beq_iff_eq, zF, bne_iff_ne, zG, ne_eq, zH, zI, zW] at hc6
    exfalso; omega
   ·
    try simp (disch := omega) only [zD, zE, beq_iff_eq, zF, bne_iff_ne, zG, ne_eq, zH, zI, zW] at hc6
    exact OK.some hl_v37
theorem i_kem_noise_tot1 (v1 : List Int) (hl_v1 : v1.length = 32) : OK (i_kem_noise v1 1) (fun r0 => (r0.length = 256)) := by
  unfold i_kem_noise
  refine OK.bind (i_keccak_Shake_c256_c128_2_tot v1 ([(IntKind.u8.wrap 1)]) hl_v1 rfl) (fun r2 hr1 => ?_)
  obtain ⟨v16, v17⟩ := r2
  obtain ⟨hl_v16, hb_v17⟩ := hr1
  refine OK.ite (fun hc3 => ?_) (fun hc3 => ?_)
  ·
   try simp (disch := omega) only [zD, zE, beq_iff_eq, zF, bne_iff_ne, zG, ne_eq, zH, zI, zW] at hc3
   exfalso; omega
  ·
   try simp (disch := omega) only [zD, zE, beq_iff_eq, zF, bne_iff_ne, zG, ne_eq, zH, zI, zW] at hc3
   refine OK.bind (i_ring_Cbd_tot v16 hl_v16) (fun r5 hr4 => ?_)
   obtain ⟨v37, v38⟩ := r5
   obtain ⟨hl_v37, hb_v38⟩ := hr4
   refine OK.ite (fun hc6 => ?_) (fun hc6 => ?_)
   ·
    try simp (disch := omega) only [zD, zE, beq_iff_eq, zF, bne_iff_ne, zG, ne_eq, zH, zI, zW] at hc6
    exfalso; omega
   ·
    try simp (disch := omega) only [zD, zE, beq_iff_eq, zF, bne_iff_ne, zG, ne_eq, zH, zI, zW] at hc6
    exact OK.some hl_v37
theorem i_kem_noise_tot2 (v1 : List Int) (hl_v1 : v1.length = 32) : OK (i_kem_noise v1 2) (fun r0 => (r0.length = 256)) := by
  unfold i_kem_noise
  refine OK.bind (i_keccak_Shake_c256_c128_2_tot v1 ([(IntKind.u8.wrap 2)]) hl_v1 rfl) (fun r2 hr1 => ?_)
  obtain ⟨v16, v17⟩ := r2
  obtain ⟨hl_v16, hb_v17⟩ := hr1
  refine OK.ite (fun hc3 => ?_) (fun hc3 => ?_)
  ·
   try simp (disch := omega) only [zD, zE, beq_iff_eq, zF, bne_iff_ne, zG, ne_eq, zH, zI, zW] at hc3
   exfalso; omega
  ·
   try simp (disch := omega) only [zD, zE, beq_iff_eq, zF, bne_iff_ne, zG, ne_eq, zH, zI, zW] at hc3
   refine OK.bind (i_ring_Cbd_tot v16 hl_v16) (fun r5 hr4 => ?_)
   obtain ⟨v37, v38⟩ := r5
   obtain ⟨hl_v37, hb_v38⟩ := hr4
   refine OK.ite (fun hc6 => ?_) (fun hc6 => ?_)
   ·
    try simp (disch := omega) only [zD, zE, beq_iff_eq, zF, bne_iff_ne, zG, ne_eq, zH, zI, zW] at hc6
    exfalso; omega
   ·
    try simp (disch := omega) only [zD, zE, beq_iff_eq, zF, bne_iff_ne, zG, ne_eq, zH, zI, zW] at hc6
    exact OK.some hl_v37
theorem i_kem_noises_tot (v1 : List Int) (hl_v1 : v1.length = 32) : OK (i_kem_noises v1 0) (fun r => match r with | (r0, r1, r2) => (r0.length = 256) ∧ (r1.length = 256) ∧ (r2.length = 256)) := by
  unfold i_kem_noises
  refine OK.bind (i_kem_noise_tot v1 hl_v1) (fun v116 hr1 => ?_)
  have hl_v116 := hr1
  refine OK.bind (i_kem_noise_tot1 v1 hl_v1) (fun v127 hr2 => ?_)
  have hl_v127 := hr2
  refine OK.bind (i_kem_noise_tot2 v1 hl_v1) (fun v138 hr3 => ?_)
  have hl_v138 := hr3
  exact OK.some ⟨hl_v116, hl_v127, hl_v138⟩
theorem i_kem_noise_tot3 (v1 : List Int) (hl_v1 : v1.length = 32) : OK (i_kem_noise v1 3) (fun r0 => (r0.length = 256)) := by
  unfold i_kem_noise
  refine OK.bind (i_keccak_Shake_c256_c128_2_tot v1 ([(IntKind.u8.wrap 3)]) hl_v1 rfl) (fun r2 hr1 => ?_)
  obtain ⟨v16, v17⟩ := r2
  obtain ⟨hl_v16, hb_v17⟩ := hr1
  refine OK.ite (fun hc3 => ?_) (fun hc3 => ?_)
  ·
   try simp (disch := omega) only [zD, zE, beq_iff_eq, zF, bne_iff_ne, zG, ne_eq, zH, zI, zW] at hc3
   exfalso; omega
  ·
   try simp (disch := omega) only [zD, zE, beq_iff_eq, zF, bne_iff_ne, zG, ne_eq, zH, zI, zW] at hc3
   refine OK.bind (i_ring_Cbd_tot v16 hl_v16) (fun r5 hr4 => ?_)
   obtain ⟨v37, v38⟩ := r5
   obtain ⟨hl_v37, hb_v38⟩ := hr4
   refine OK.ite (fun hc6 => ?_) (fun hc6 => ?_)
   ·
    try simp (disch := omega) only [zD, zE, beq_iff_eq, zF, bne_iff_ne, zG, ne_eq, zH, zI, zW] at hc6
    exfalso; omega
   ·
    try simp (disch := omega) only [zD, zE, beq_iff_eq, zF, bne_iff_ne, zG, ne_eq, zH, zI, zW] at hc6
    exact OK.some hl_v37
theorem i_kem_noise_tot4 (v1 : List Int) (hl_v1 : v1.length = 32) : OK (i_kem_noise v1 4) (fun r0 => (r0.length = 256)) := by
  unfold i_kem_noise
  refine OK.bind (i_keccak_Shake_c256_c128_2_tot v1 ([(IntKind.u8.wrap 4)]) hl_v1 rfl) (fun r2 hr1 => ?_)
  obtain ⟨v16, v17⟩ := r2
  obtain ⟨hl_v16, hb_v17⟩ := hr1
  refine OK.ite (fun hc3 => ?_) (fun hc3 => ?_)
  ·
   try simp (disch := omega) only [zD, zE, beq_iff_eq, zF, bne_iff_ne, zG, ne_eq, zH, zI, zW] at hc3
   exfalso; omega
  ·
   try simp (disch := omega) only [zD, zE, beq_iff_eq, zF, bne_iff_ne, zG, ne_eq, zH, zI, zW] at hc3
   refine OK.bind (i_ring_Cbd_tot v16 hl_v16) (fun r5 hr4 => ?_)
   obtain ⟨v37, v38⟩ := r5
   obtain ⟨hl_v37, hb_v38⟩ := hr4
   refine OK.ite (fun hc6 => ?_) (fun hc6 => ?_)
   ·
    try simp (disch := omega) only [zD, zE, beq_iff_eq, zF, bne_iff_ne, zG, ne_eq, zH, zI, zW] at hc6
    exfalso; omega
   ·
    try simp (disch := omega) only [zD, zE, beq_iff_eq, zF, bne_iff_ne, zG, ne_eq, zH, zI, zW] at hc6
    exact OK.some hl_v37
theorem i_kem_noise_tot5 (v1 : List Int) (hl_v1 : v1.length = 32) : OK (i_kem_noise v1 5) (fun r0 => (r0.length = 256)) := by
  unfold i_kem_noise
  refine OK.bind (i_keccak_Shake_c256_c128_2_tot v1 ([(IntKind.u8.wrap 5)]) hl_v1 rfl) (fun r2 hr1 => ?_)
  obtain ⟨v16, v17⟩ := r2
  obtain ⟨hl_v16, hb_v17⟩ := hr1
  refine OK.ite (fun hc3 => ?_) (fun hc3 => ?_)
  ·
   try simp (disch := omega) only [zD, zE, beq_iff_eq, zF, bne_iff_ne, zG, ne_eq, zH, zI, zW] at hc3
   exfalso; omega
  ·
   try simp (disch := omega) only [zD, zE, beq_iff_eq, zF, bne_iff_ne, zG, ne_eq, zH, zI, zW] at hc3
   refine OK.bind (i_ring_Cbd_tot v16 hl_v16) (fun r5 hr4 => ?_)
   obtain ⟨v37, v38⟩ := r5
   obtain ⟨hl_v37, hb_v38⟩ := hr4
   refine OK.ite (fun hc6 => ?_) (fun hc6 => ?_)
   ·
    try simp (disch := omega) only [zD, zE, beq_iff_eq, zF, bne_iff_ne, zG, ne_eq, zH, zI, zW] at hc6
    exfalso; omega
   ·
    try simp (disch := omega) only [zD, zE, beq_iff_eq, zF, bne_iff_ne, zG, ne_eq, zH, zI, zW] at hc6
    exact OK.some hl_v37
theorem i_kem_noises_tot1 (v1 : List Int) (hl_v1 : v1.length = 32) : OK (i_kem_noises v1 3) (fun r => match r with | (r0, r1, r2) => (r0.length = 256) ∧ (r1.length = 256) ∧ (r2.length = 256)) := by
  unfold i_kem_noises
  refine OK.bind (i_kem_noise_tot3 v1 hl_v1) (fun v116 hr1 => ?_)
  have hl_v116 := hr1
  refine OK.bind (i_kem_noise_tot4 v1 hl_v1) (fun v127 hr2 => ?_)
  have hl_v127 := hr2
  refine OK.bind (i_kem_noise_tot5 v1 hl_v1) (fun v138 hr3 => ?_)
  have hl_v138 := hr3
  exact OK.some ⟨hl_v116, hl_v127, hl_v138⟩
theorem i_ring_Ntt_tot (v1 : List Int) (hl_v1 : v1.length = 256) : OK (i_ring_Ntt v1) (fun r0 => (r0.length = 256)) := by
  unfold i_ring_Ntt
  refine OK.bind (i_ring_Reduce_tot v1 hl_v1) (fun v9 hr1 => ?_)
  have hl_v9 := hr1
  refine OK.bind (i_ring_powers_tot) (fun v15 hr2 => ?_)
  have hl_v15 := hr2
  refine OK.bind (i_ring_Ntt_l9_tot v15 hl_v15 v9 hl_v9) (fun v765 hr3 => ?_)
  have hl_v765 := hr3
  exact OK.some hl_v765
theorem i_kem_row_turned_tot (v1 : List Int) (v2 : List Int) (v3 : List Int) (hl_v1 : v1.length = 256) (hl_v2 : v2.length = 256) (hl_v3 : v3.length = 256) : OK (i_kem_row_turned v1 v2 v3) (fun r => match r with | (r0, r1, r2) => (r0.length = 256) ∧ (r1.length = 256) ∧ (r2.length = 256)) := by
  unfold i_kem_row_turned
  refine OK.bind (i_ring_Ntt_tot v1 hl_v1) (fun v134 hr1 => ?_)
  have hl_v134 := hr1
  refine OK.bind (i_ring_Ntt_tot v2 hl_v2) (fun v147 hr2 => ?_)
  have hl_v147 := hr2
  refine OK.bind (i_ring_Ntt_tot v3 hl_v3) (fun v160 hr3 => ?_)
  have hl_v160 := hr3
  exact OK.some ⟨hl_v134, hl_v147, hl_v160⟩
theorem i_ring_Reduce_tot1 (v1 : List Int) (hl_v1 : v1.length = 256) (hr_v1 : Lo 256 v1) : OK (i_ring_Reduce v1) (fun r0 => (r0.length = 256)) := by
  unfold i_ring_Reduce
  refine OK.bind (i_ring_Reduce_l1_tot LIM v1 0 hl_v1 (by (try simp (disch := omega) only [inb, zN, true_and, and_true, decide_true, zW, Bool.and_eq_true, zD, List.length_append]) <;> omega) (by simp only [LIM]; omega)) (fun v37 hr1 => ?_)
  have hl_v37 := hr1
  exact OK.some hl_v37
theorem i_ring_Add_tot1 (v1 : List Int) (v2 : List Int) (hl_v1 : v1.length = 256) (hr_v1 : Lo 256 v1) (hl_v2 : v2.length = 256) : OK (i_ring_Add v1 v2) (fun r0 => (r0.length = 256)) := by
  unfold i_ring_Add
  refine OK.bind (i_ring_Reduce_tot1 v1 hl_v1 hr_v1) (fun v15 hr1 => ?_)
  have hl_v15 := hr1
  refine OK.bind (i_ring_Reduce_tot v2 hl_v2) (fun v19 hr2 => ?_)
  have hl_v19 := hr2
  refine OK.bind (i_ring_Add_l1_tot v19 hl_v19 LIM v15 0 hl_v15 (by (try simp (disch := omega) only [inb, zN, true_and, and_true, decide_true, zW, Bool.and_eq_true, zD, List.length_append]) <;> omega) (by simp only [LIM]; omega)) (fun v64 hr3 => ?_)
  have hl_v64 := hr3
  exact OK.some hl_v64
theorem i_kem_row_times_tot (v1 : List Int) (v2 : List Int) (v3 : List Int) (v4 : List Int) (v5 : List Int) (v6 : List Int) (hl_v1 : v1.length = 256) (hl_v2 : v2.length = 256) (hl_v3 : v3.length = 256) (hl_v4 : v4.length = 256) (hl_v5 : v5.length = 256) (hl_v6 : v6.length = 256) : OK (i_kem_row_times v1 v2 v3 v4 v5 v6) (fun r0 => (r0.length = 256)) := by
  unfold i_kem_row_times
  refine OK.bind (i_ring_MulNtt_tot v1 v4 hl_v1 hl_v4) (fun v210 hr1 => ?_)
  have hl_v210 := hr1
  refine OK.bind (i_ring_Add_tot1 (List.replicate 256 (0 : Int)) v210 List.length_replicate (Lo.rep _ (by decide)) hl_v210) (fun v214 hr2 => ?_)
  have hl_v214 := hr2
  refine OK.bind (i_ring_MulNtt_tot v2 v5 hl_v2 hl_v5) (fun v230 hr3 => ?_)
  have hl_v230 := hr3
  refine OK.bind (i_ring_Add_tot v214 v230 hl_v214 hl_v230) (fun v234 hr4 => ?_)
  have hl_v234 := hr4
  refine OK.bind (i_ring_MulNtt_tot v3 v6 hl_v3 hl_v6) (fun v250 hr5 => ?_)
  have hl_v250 := hr5
  refine OK.bind (i_ring_Add_tot v234 v250 hl_v234 hl_v250) (fun v254 hr6 => ?_)
  have hl_v254 := hr6
  exact OK.some hl_v254
theorem i_kem_row_encoded_tot (v1 : List Int) (v2 : List Int) (v3 : List Int) (hl_v1 : v1.length = 256) (hl_v2 : v2.length = 256) (hl_v3 : v3.length = 256) : OK (i_kem_row_encoded v1 v2 v3) (fun r0 => (r0.length = 1152)) := by
  unfold i_kem_row_encoded
  refine OK.bind (i_ring_Encode_tot v1 hl_v1) (fun r2 hr1 => ?_)
  obtain ⟨v299, v300⟩ := r2
  obtain ⟨hl_v299, hb_v300⟩ := hr1
  refine OK.ite (fun hc3 => ?_) (fun hc3 => ?_)
  ·
   try simp (disch := omega) only [zD, zE, beq_iff_eq, zF, bne_iff_ne, zG, ne_eq, zH, zI, zW] at hc3
   exfalso; omega
  ·
   try simp (disch := omega) only [zD, zE, beq_iff_eq, zF, bne_iff_ne, zG, ne_eq, zH, zI, zW] at hc3
   refine OK.grd (by simp (disch := omega) only [inb, zN, true_and, and_true, decide_true, zW, Bool.and_eq_true, zD, List.length_append] <;> omega) ?_
   refine OK.bind (i_ring_Encode_tot v2 hl_v2) (fun r5 hr4 => ?_)
   obtain ⟨v331, v332⟩ := r5
   obtain ⟨hl_v331, hb_v332⟩ := hr4
   refine OK.ite (fun hc6 => ?_) (fun hc6 => ?_)
   ·
    try simp (disch := omega) only [zD, zE, beq_iff_eq, zF, bne_iff_ne, zG, ne_eq, zH, zI, zW] at hc6
    exfalso; omega
   ·
    try simp (disch := omega) only [zD, zE, beq_iff_eq, zF, bne_iff_ne, zG, ne_eq, zH, zI, zW] at hc6
    refine OK.grd (by simp (disch := omega) only [inb, zN, true_and, and_true, decide_true, zW, Bool.and_eq_true, zD, List.length_append] <;> omega) ?_
    refine OK.bind (i_ring_Encode_tot v3 hl_v3) (fun r8 hr7 => ?_)
    obtain ⟨v362, v363⟩ := r8
    obtain ⟨hl_v362, hb_v363⟩ := hr7
    refine OK.ite (fun hc9 => ?_) (fun hc9 => ?_)
    ·
     try simp (disch := omega) only [zD, zE, beq_iff_eq, zF, bne_iff_ne, zG, ne_eq, zH, zI, zW] at hc9
     exfalso; omega
    ·
     try simp (disch := omega) only [zD, zE, beq_iff_eq, zF, bne_iff_ne, zG, ne_eq, zH, zI, zW] at hc9
     refine OK.grd (by simp (disch := omega) only [inb, zN, true_and, and_true, decide_true, zW, Bool.and_eq_true, zD, List.length_append] <;> omega) ?_
     exact OK.some (app_len_i (app_len_i hl_v299 hl_v331) hl_v362)
theorem i_kem_split_tot (v1 : List Int) (hl_v1 : v1.length = 64) : OK (i_kem_split v1) (fun r => match r with | (r0, r1) => (r0.length = 32) ∧ (r1.length = 32)) := by
  unfold i_kem_split
  exact OK.some ⟨(sub_len (by decide) (by have h := hl_v1; omega)), (sub_len (by decide) (by have h := hl_v1; omega))⟩
theorem i_kem_entry_tot (v1 : List Int) (hl_v1 : v1.length = 32) : OK (i_kem_entry v1 0 0) (fun r => match r with | .ok r0 => (r0.length = 256) | .error _ => True) := by
  unfold i_kem_entry
  refine OK.nm (fun v14 hv_v14 => ?_)
  have hl_v14 : v14.length = 2 := (congrArg List.length hv_v14).trans rfl
  refine OK.bind (i_octet_Join_2_tot v1 v14 hl_v1 hl_v14) (fun v19 hr1 => ?_)
  have hl_v19 := hr1
  refine OK.bind (i_ring_SampleNtt_tot v19 hl_v19) (fun r3 hr2 => ?_)
  obtain ⟨v26, v27⟩ := r3
  have hl_v26 := hr2
  refine OK.ite (fun hc4 => ?_) (fun hc4 => ?_)
  ·
   try simp (disch := omega) only [zD, zE, beq_iff_eq, zF, bne_iff_ne, zG, ne_eq, zH, zI, zW] at hc4
   exact OK.some trivial
  ·
   try simp (disch := omega) only [zD, zE, beq_iff_eq, zF, bne_iff_ne, zG, ne_eq, zH, zI, zW] at hc4
   exact OK.some hl_v26
theorem i_kem_entry_tot1 (v1 : List Int) (hl_v1 : v1.length = 32) : OK (i_kem_entry v1 0 1) (fun r => match r with | .ok r0 => (r0.length = 256) | .error _ => True) := by
  unfold i_kem_entry
  refine OK.nm (fun v14 hv_v14 => ?_)
  have hl_v14 : v14.length = 2 := (congrArg List.length hv_v14).trans rfl
  refine OK.bind (i_octet_Join_2_tot v1 v14 hl_v1 hl_v14) (fun v19 hr1 => ?_)
  have hl_v19 := hr1
  refine OK.bind (i_ring_SampleNtt_tot v19 hl_v19) (fun r3 hr2 => ?_)
  obtain ⟨v26, v27⟩ := r3
  have hl_v26 := hr2
  refine OK.ite (fun hc4 => ?_) (fun hc4 => ?_)
  ·
   try simp (disch := omega) only [zD, zE, beq_iff_eq, zF, bne_iff_ne, zG, ne_eq, zH, zI, zW] at hc4
   exact OK.some trivial
  ·
   try simp (disch := omega) only [zD, zE, beq_iff_eq, zF, bne_iff_ne, zG, ne_eq, zH, zI, zW] at hc4
   exact OK.some hl_v26
theorem i_kem_entry_tot2 (v1 : List Int) (hl_v1 : v1.length = 32) : OK (i_kem_entry v1 0 2) (fun r => match r with | .ok r0 => (r0.length = 256) | .error _ => True) := by
  unfold i_kem_entry
  refine OK.nm (fun v14 hv_v14 => ?_)
  have hl_v14 : v14.length = 2 := (congrArg List.length hv_v14).trans rfl
  refine OK.bind (i_octet_Join_2_tot v1 v14 hl_v1 hl_v14) (fun v19 hr1 => ?_)
  have hl_v19 := hr1
  refine OK.bind (i_ring_SampleNtt_tot v19 hl_v19) (fun r3 hr2 => ?_)
  obtain ⟨v26, v27⟩ := r3
  have hl_v26 := hr2
  refine OK.ite (fun hc4 => ?_) (fun hc4 => ?_)
  ·
   try simp (disch := omega) only [zD, zE, beq_iff_eq, zF, bne_iff_ne, zG, ne_eq, zH, zI, zW] at hc4
   exact OK.some trivial
  ·
   try simp (disch := omega) only [zD, zE, beq_iff_eq, zF, bne_iff_ne, zG, ne_eq, zH, zI, zW] at hc4
   exact OK.some hl_v26
theorem i_kem_entry_tot3 (v1 : List Int) (hl_v1 : v1.length = 32) : OK (i_kem_entry v1 1 0) (fun r => match r with | .ok r0 => (r0.length = 256) | .error _ => True) := by
  unfold i_kem_entry
  refine OK.nm (fun v14 hv_v14 => ?_)
  have hl_v14 : v14.length = 2 := (congrArg List.length hv_v14).trans rfl
  refine OK.bind (i_octet_Join_2_tot v1 v14 hl_v1 hl_v14) (fun v19 hr1 => ?_)
  have hl_v19 := hr1
  refine OK.bind (i_ring_SampleNtt_tot v19 hl_v19) (fun r3 hr2 => ?_)
  obtain ⟨v26, v27⟩ := r3
  have hl_v26 := hr2
  refine OK.ite (fun hc4 => ?_) (fun hc4 => ?_)
  ·
   try simp (disch := omega) only [zD, zE, beq_iff_eq, zF, bne_iff_ne, zG, ne_eq, zH, zI, zW] at hc4
   exact OK.some trivial
  ·
   try simp (disch := omega) only [zD, zE, beq_iff_eq, zF, bne_iff_ne, zG, ne_eq, zH, zI, zW] at hc4
   exact OK.some hl_v26
theorem i_kem_entry_tot4 (v1 : List Int) (hl_v1 : v1.length = 32) : OK (i_kem_entry v1 1 1) (fun r => match r with | .ok r0 => (r0.length = 256) | .error _ => True) := by
  unfold i_kem_entry
  refine OK.nm (fun v14 hv_v14 => ?_)
  have hl_v14 : v14.length = 2 := (congrArg List.length hv_v14).trans rfl
  refine OK.bind (i_octet_Join_2_tot v1 v14 hl_v1 hl_v14) (fun v19 hr1 => ?_)
  have hl_v19 := hr1
  refine OK.bind (i_ring_SampleNtt_tot v19 hl_v19) (fun r3 hr2 => ?_)
  obtain ⟨v26, v27⟩ := r3
  have hl_v26 := hr2
  refine OK.ite (fun hc4 => ?_) (fun hc4 => ?_)
  ·
   try simp (disch := omega) only [zD, zE, beq_iff_eq, zF, bne_iff_ne, zG, ne_eq, zH, zI, zW] at hc4
   exact OK.some trivial
  ·
   try simp (disch := omega) only [zD, zE, beq_iff_eq, zF, bne_iff_ne, zG, ne_eq, zH, zI, zW] at hc4
   exact OK.some hl_v26
theorem i_kem_entry_tot5 (v1 : List Int) (hl_v1 : v1.length = 32) : OK (i_kem_entry v1 1 2) (fun r => match r with | .ok r0 => (r0.length = 256) | .error _ => True) := by
  unfold i_kem_entry
  refine OK.nm (fun v14 hv_v14 => ?_)
  have hl_v14 : v14.length = 2 := (congrArg List.length hv_v14).trans rfl
  refine OK.bind (i_octet_Join_2_tot v1 v14 hl_v1 hl_v14) (fun v19 hr1 => ?_)
  have hl_v19 := hr1
  refine OK.bind (i_ring_SampleNtt_tot v19 hl_v19) (fun r3 hr2 => ?_)
  obtain ⟨v26, v27⟩ := r3
  have hl_v26 := hr2
  refine OK.ite (fun hc4 => ?_) (fun hc4 => ?_)
  ·
   try simp (disch := omega) only [zD, zE, beq_iff_eq, zF, bne_iff_ne, zG, ne_eq, zH, zI, zW] at hc4
   exact OK.some trivial
  ·
   try simp (disch := omega) only [zD, zE, beq_iff_eq, zF, bne_iff_ne, zG, ne_eq, zH, zI, zW] at hc4
   exact OK.some hl_v26
theorem i_kem_entry_tot6 (v1 : List Int) (hl_v1 : v1.length = 32) : OK (i_kem_entry v1 2 0) (fun r => match r with | .ok r0 => (r0.length = 256) | .error _ => True) := by
  unfold i_kem_entry
  refine OK.nm (fun v14 hv_v14 => ?_)
  have hl_v14 : v14.length = 2 := (congrArg List.length hv_v14).trans rfl
  refine OK.bind (i_octet_Join_2_tot v1 v14 hl_v1 hl_v14) (fun v19 hr1 => ?_)
  have hl_v19 := hr1
  refine OK.bind (i_ring_SampleNtt_tot v19 hl_v19) (fun r3 hr2 => ?_)
  obtain ⟨v26, v27⟩ := r3
  have hl_v26 := hr2
  refine OK.ite (fun hc4 => ?_) (fun hc4 => ?_)
  ·
   try simp (disch := omega) only [zD, zE, beq_iff_eq, zF, bne_iff_ne, zG, ne_eq, zH, zI, zW] at hc4
   exact OK.some trivial
  ·
   try simp (disch := omega) only [zD, zE, beq_iff_eq, zF, bne_iff_ne, zG, ne_eq, zH, zI, zW] at hc4
   exact OK.some hl_v26
theorem i_kem_entry_tot7 (v1 : List Int) (hl_v1 : v1.length = 32) : OK (i_kem_entry v1 2 1) (fun r => match r with | .ok r0 => (r0.length = 256) | .error _ => True) := by
  unfold i_kem_entry
  refine OK.nm (fun v14 hv_v14 => ?_)
  have hl_v14 : v14.length = 2 := (congrArg List.length hv_v14).trans rfl
  refine OK.bind (i_octet_Join_2_tot v1 v14 hl_v1 hl_v14) (fun v19 hr1 => ?_)
  have hl_v19 := hr1
  refine OK.bind (i_ring_SampleNtt_tot v19 hl_v19) (fun r3 hr2 => ?_)
  obtain ⟨v26, v27⟩ := r3
  have hl_v26 := hr2
  refine OK.ite (fun hc4 => ?_) (fun hc4 => ?_)
  ·
   try simp (disch := omega) only [zD, zE, beq_iff_eq, zF, bne_iff_ne, zG, ne_eq, zH, zI, zW] at hc4
   exact OK.some trivial
  ·
   try simp (disch := omega) only [zD, zE, beq_iff_eq, zF, bne_iff_ne, zG, ne_eq, zH, zI, zW] at hc4
   exact OK.some hl_v26
theorem i_kem_entry_tot8 (v1 : List Int) (hl_v1 : v1.length = 32) : OK (i_kem_entry v1 2 2) (fun r => match r with | .ok r0 => (r0.length = 256) | .error _ => True) := by
  unfold i_kem_entry
  refine OK.nm (fun v14 hv_v14 => ?_)
  have hl_v14 : v14.length = 2 := (congrArg List.length hv_v14).trans rfl
  refine OK.bind (i_octet_Join_2_tot v1 v14 hl_v1 hl_v14) (fun v19 hr1 => ?_)
  have hl_v19 := hr1
  refine OK.bind (i_ring_SampleNtt_tot v19 hl_v19) (fun r3 hr2 => ?_)
  obtain ⟨v26, v27⟩ := r3
  have hl_v26 := hr2
  refine OK.ite (fun hc4 => ?_) (fun hc4 => ?_)
  ·
   try simp (disch := omega) only [zD, zE, beq_iff_eq, zF, bne_iff_ne, zG, ne_eq, zH, zI, zW] at hc4
   exact OK.some trivial
  ·
   try simp (disch := omega) only [zD, zE, beq_iff_eq, zF, bne_iff_ne, zG, ne_eq, zH, zI, zW] at hc4
   exact OK.some hl_v26
theorem i_octet_Join_2_tot1 (v3 : List Int) (v7 : List Int) (hl_v3 : v3.length = 1152) (hl_v7 : v7.length = 32) : OK (i_octet_Join_2 v3 v7) (fun r0 => (r0.length = 1184)) := by
  unfold i_octet_Join_2
  refine OK.nm (fun v60 hv_v60 => ?_)
  try simp (disch := omega) only [zW] at hv_v60
  refine OK.grd (by simp (disch := omega) only [inb, zN, true_and, and_true, decide_true, zW, Bool.and_eq_true, zD, List.length_append] <;> omega) ?_
  refine OK.grd (by simp (disch := omega) only [inb, zN, true_and, and_true, decide_true, zW, Bool.and_eq_true, zD, List.length_append] <;> omega) ?_
  refine OK.grd (by simp (disch := omega) only [inb, zN, true_and, and_true, decide_true, zW, Bool.and_eq_true, zD, List.length_append] <;> omega) ?_
  exact OK.some (app_len_i hl_v3 hl_v7)
end Go.Proofs.YtapilbdboeggdaaR.Gx
