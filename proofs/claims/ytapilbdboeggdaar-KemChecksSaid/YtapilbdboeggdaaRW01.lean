/-
A part of the proof: printed walks of the functions that the law reaches, and plain laws over them.
-/
import Derived.Test.YtapilbdboeggdaaRW00
import Derived.Test.YtapilbdboeggdaaRProg
set_option maxRecDepth 1000000
set_option linter.unusedVariables false
set_option linter.unusedSimpArgs false
set_option maxHeartbeats 4000000
namespace Go.Proofs.YtapilbdboeggdaaR.Gx
open Go
def OK {α : Type} (x : Option α) (Q : α → Prop) : Prop := ∃ r, x = some r ∧ Q r
section
variable {α β : Type} {Q : β → Prop} {P : α → Prop}
theorem OK.some {r : β} (h : Q r) : OK (some r) Q := ⟨r, rfl, h⟩
theorem OK.grd {c : Bool} {x : Option β} (hc : c = true) (h : OK x Q) : OK (if c = true then x else none) Q := by rw [if_pos hc]; exact h
theorem OK.ite {c : Bool} {x y : Option β} (h1 : c = true → OK x Q) (h2 : c = false → OK y Q) : OK (if c = true then x else y) Q := by
  cases c with
  | true => rw [if_pos rfl]; exact h1 rfl
  | false => rw [if_neg (by decide)]; exact h2 rfl
theorem OK.nm {x : α} {f : α → Option β} (h : ∀ v, v = x → OK (f v) Q) : OK (nm_ x f) Q := h x rfl
theorem OK.bind {x : Option α} {f : α → Option β} (hx : OK x P) (h : ∀ r, P r → OK (f r) Q) : OK (x.bind f) Q := by
  obtain ⟨r, rfl, hr⟩ := hx
  exact h r hr
theorem OK.bindE {x : Option α} {f : α → Option β} (hx : OK x P) (h : ∀ r, x = .some r → P r → OK (f r) Q) : OK (x.bind f) Q := by
  obtain ⟨r, rfl, hr⟩ := hx
  exact h r rfl hr
theorem OK.mono {x : Option α} {R : α → Prop} (hx : OK x P) (h : ∀ r, P r → R r) : OK x R := by
  obtain ⟨r, e, hr⟩ := hx
  exact ⟨r, e, h r hr⟩
theorem OK.eq {x : Option α} (hx : OK x P) {r : α} (h : x = .some r) : P r := by
  obtain ⟨r', e, hr⟩ := hx
  rw [h] at e; injection e with e; subst e; exact hr
end
theorem OK.len {x : Option (List Int)} {n : Nat} (h : x.map List.length = .some n) : OK x (fun r => r.length = n) := by
  cases x with
  | none => cases h
  | some r => exact ⟨r, rfl, Option.some.inj h⟩
theorem wi64 {x : Int} (h1 : -9223372036854775808 ≤ x) (h2 : x < 9223372036854775808) : IntKind.i64.wrap x = x := by
  simp only [IntKind.wrap, IntKind.bits, IntKind.signed, Bool.true_and, Bool.false_and, Bool.false_eq_true, if_false, decide_eq_true_eq, ge_iff_le]
  try split
  all_goals omega
theorem wu8 {x : Int} (h1 : 0 ≤ x) (h2 : x < 256) : IntKind.u8.wrap x = x := by
  simp only [IntKind.wrap, IntKind.bits, IntKind.signed, Bool.true_and, Bool.false_and, Bool.false_eq_true, if_false, decide_eq_true_eq, ge_iff_le]
  try split
  all_goals omega
theorem wu16 {x : Int} (h1 : 0 ≤ x) (h2 : x < 65536) : IntKind.u16.wrap x = x := by
  simp only [IntKind.wrap, IntKind.bits, IntKind.signed, Bool.true_and, Bool.false_and, Bool.false_eq_true, if_false, decide_eq_true_eq, ge_iff_le]
  try split
  all_goals omega
theorem td {a b : Int} (h : 0 ≤ a) : a.tdiv b = a / b := Int.tdiv_eq_ediv_of_nonneg h
theorem tm {a b : Int} (h : 0 ≤ a) : a.tmod b = a % b := Int.tmod_eq_emod_of_nonneg h
def Lo (m : Int) (xs : List Int) : Prop := ∀ x ∈ xs, 0 ≤ x ∧ x < m
theorem Lo.set {m : Int} {xs : List Int} (h : Lo m xs) (i : Nat) {v : Int} (h0 : 0 ≤ v) (h1 : v < m) : Lo m (xs.set i v) := by
  intro x hx
  rcases List.mem_or_eq_of_mem_set hx with hx | rfl
  · exact h x hx
  · exact ⟨h0, h1⟩
theorem Lo.rep {m : Int} (n : Nat) (hm : 0 < m) : Lo m (List.replicate n (0 : Int)) := by
  intro x hx
  rw [List.eq_of_mem_replicate hx]; exact ⟨Int.le_refl _, hm⟩
theorem Lo.rd {m : Int} {xs : List Int} (h : Lo m xs) (hm : 0 < m) (i : Nat) : 0 ≤ rd xs i ∧ rd xs i < m := by
  unfold Gx.rd
  rw [List.getD_eq_getElem?_getD]
  cases hi : xs[i]? with
  | none => exact ⟨Int.le_refl _, hm⟩
  | some v => exact h v (List.mem_of_getElem? hi)
theorem Lo.app {m : Int} {xs ys : List Int} (h1 : Lo m xs) (h2 : Lo m ys) : Lo m (xs ++ ys) := by
  intro x hx
  rcases List.mem_append.1 hx with hx | hx
  · exact h1 x hx
  · exact h2 x hx
theorem Lo.sub {m : Int} {xs : List Int} (h : Lo m xs) (a b : Nat) : Lo m (Gx.sub xs a b) := fun x hx => h x (List.mem_of_mem_drop (List.mem_of_mem_take hx))
theorem Lo.nil {m : Int} : Lo m [] := fun _ h => (List.not_mem_nil h).elim
theorem Lo.le {m k : Int} {xs : List Int} (h : Lo m xs) (hk : m ≤ k) : Lo k xs := fun x hx => ⟨(h x hx).1, by have := (h x hx).2; omega⟩
theorem tmod_b {x m : Int} (h : 0 ≤ x) (hm : 0 < m) : 0 ≤ x.tmod m ∧ x.tmod m < m := by
  rw [Int.tmod_eq_emod_of_nonneg h]; exact ⟨Int.emod_nonneg _ (by omega), Int.emod_lt_of_pos _ hm⟩
theorem u8_b (x : Int) : 0 ≤ IntKind.u8.wrap x ∧ IntKind.u8.wrap x < 256 := by
  simp only [IntKind.wrap, IntKind.bits, IntKind.signed, Bool.false_and, Bool.false_eq_true, if_false]; omega
theorem u16_b (x : Int) : 0 ≤ IntKind.u16.wrap x ∧ IntKind.u16.wrap x < 65536 := by
  simp only [IntKind.wrap, IntKind.bits, IntKind.signed, Bool.false_and, Bool.false_eq_true, if_false]; omega
theorem u64_b (x : Int) : 0 ≤ IntKind.u64.wrap x ∧ IntKind.u64.wrap x < 18446744073709551616 := by
  simp only [IntKind.wrap, IntKind.bits, IntKind.signed, Bool.false_and, Bool.false_eq_true, if_false]; omega
theorem nnw_u8 (x : Int) : (0 ≤ IntKind.u8.wrap x) = True := eq_true (u8_b x).1
theorem nn_iand_u8 (x y : Int) : (0 ≤ iand .u8 x y) = True := eq_true (u8_b _).1
theorem nnw_u16 (x : Int) : (0 ≤ IntKind.u16.wrap x) = True := eq_true (u16_b x).1
theorem nn_iand_u16 (x y : Int) : (0 ≤ iand .u16 x y) = True := eq_true (u16_b _).1
theorem nnw_u64 (x : Int) : (0 ≤ IntKind.u64.wrap x) = True := eq_true (u64_b x).1
theorem nn_iand_u64 (x y : Int) : (0 ≤ iand .u64 x y) = True := eq_true (u64_b _).1
theorem zN : (∀ x : Int, (0 ≤ IntKind.u8.wrap x) = True) ∧ (∀ x : Int, (0 ≤ IntKind.u16.wrap x) = True) ∧ (∀ x : Int, (0 ≤ IntKind.u64.wrap x) = True) ∧ (∀ x y : Int, (0 ≤ iand .u64 x y) = True) ∧ (∀ x y : Int, (0 ≤ iand .u8 x y) = True) ∧ (∀ x y : Int, (0 ≤ iand .u16 x y) = True) :=
  ⟨nnw_u8, nnw_u16, nnw_u64, nn_iand_u64, nn_iand_u8, nn_iand_u16⟩
theorem zW : (∀ x : Int, -9223372036854775808 ≤ x → x < 9223372036854775808 → IntKind.i64.wrap x = x) ∧ (∀ a b : Int, 0 ≤ a → a.tdiv b = a / b) ∧ (∀ a b : Int, 0 ≤ a → a.tmod b = a % b) :=
  ⟨fun _ => wi64, fun _ _ => td, fun _ _ => tm⟩
theorem zD {p : Prop} [Decidable p] : (decide p = true) = p := decide_eq_true_eq
theorem zE {p : Prop} [Decidable p] : (decide p = false) ↔ ¬ p := decide_eq_false_iff_not
theorem zF {a b : Int} : ((a == b) = false) ↔ a ≠ b := beq_eq_false_iff_ne
theorem zG {a b : Int} : ((a != b) = false) ↔ a = b := bne_eq_false_iff_eq
theorem zH {b : Bool} : ((!b) = true) = (b = false) := Bool.not_eq_true' b
theorem zI {b : Bool} : ((!b) = false) = (b = true) := Bool.not_eq_false' b
theorem ior_u8 {X Y : Nat} (hX : X < 256) (hY : Y < 256) : ior .u8 (X : Int) (Y : Int) = ((X ||| Y : Nat) : Int) := by
  have h : X ||| Y < 2 ^ 8 := Nat.or_lt_two_pow hX hY
  show IntKind.u8.wrap ((BitVec.ofInt 8 (X : Int) ||| BitVec.ofInt 8 (Y : Int)).toNat : Int) = _
  rw [BitVec.ofInt_natCast, BitVec.ofInt_natCast, BitVec.toNat_or, BitVec.toNat_ofNat, BitVec.toNat_ofNat, Nat.mod_eq_of_lt (show X < 2 ^ 8 from hX), Nat.mod_eq_of_lt (show Y < 2 ^ 8 from hY)]
  exact wu8 (Int.natCast_nonneg _) (Int.ofNat_lt.2 h)
theorem ior_u16 {X Y : Nat} (hX : X < 65536) (hY : Y < 65536) : ior .u16 (X : Int) (Y : Int) = ((X ||| Y : Nat) : Int) := by
  have h : X ||| Y < 2 ^ 16 := Nat.or_lt_two_pow hX hY
  show IntKind.u16.wrap ((BitVec.ofInt 16 (X : Int) ||| BitVec.ofInt 16 (Y : Int)).toNat : Int) = _
  rw [BitVec.ofInt_natCast, BitVec.ofInt_natCast, BitVec.toNat_or, BitVec.toNat_ofNat, BitVec.toNat_ofNat, Nat.mod_eq_of_lt (show X < 2 ^ 16 from hX), Nat.mod_eq_of_lt (show Y < 2 ^ 16 from hY)]
  exact wu16 (Int.natCast_nonneg _) (Int.ofNat_lt.2 h)
theorem iand_u8 {X Y : Nat} (hX : X < 256) (hY : Y < 256) : iand .u8 (X : Int) (Y : Int) = ((X &&& Y : Nat) : Int) := by
  have h : X &&& Y < 2 ^ 8 := Nat.and_lt_two_pow X hY
  show IntKind.u8.wrap ((BitVec.ofInt 8 (X : Int) &&& BitVec.ofInt 8 (Y : Int)).toNat : Int) = _
  rw [BitVec.ofInt_natCast, BitVec.ofInt_natCast, BitVec.toNat_and, BitVec.toNat_ofNat, BitVec.toNat_ofNat, Nat.mod_eq_of_lt (show X < 2 ^ 8 from hX), Nat.mod_eq_of_lt (show Y < 2 ^ 8 from hY)]
  exact wu8 (Int.natCast_nonneg _) (Int.ofNat_lt.2 h)
theorem iand_u16 {X Y : Nat} (hX : X < 65536) (hY : Y < 65536) : iand .u16 (X : Int) (Y : Int) = ((X &&& Y : Nat) : Int) := by
  have h : X &&& Y < 2 ^ 16 := Nat.and_lt_two_pow X hY
  show IntKind.u16.wrap ((BitVec.ofInt 16 (X : Int) &&& BitVec.ofInt 16 (Y : Int)).toNat : Int) = _
  rw [BitVec.ofInt_natCast, BitVec.ofInt_natCast, BitVec.toNat_and, BitVec.toNat_ofNat, BitVec.toNat_ofNat, Nat.mod_eq_of_lt (show X < 2 ^ 16 from hX), Nat.mod_eq_of_lt (show Y < 2 ^ 16 from hY)]
  exact wu16 (Int.natCast_nonneg _) (Int.ofNat_lt.2 h)
theorem ishr_nat {k : IntKind} {X s : Nat} (hs : s ≤ k.bits) : ishr k (X : Int) (s : Int) = ((X >>> s : Nat) : Int) := by
  unfold ishr
  rw [Int.toNat_natCast, Nat.min_eq_left hs, Nat.shiftRight_eq_div_pow]
  rw [Int.fdiv_eq_ediv_of_nonneg _ (by exact_mod_cast Nat.zero_le _)]
  push_cast; rfl
theorem ishl_nat {k : IntKind} {X s : Nat} (hs : s ≤ k.bits) : ishl k (X : Int) (s : Int) = k.wrap ((X <<< s : Nat) : Int) := by
  unfold ishl
  rw [Int.toNat_natCast, Nat.min_eq_left hs, Nat.shiftLeft_eq]
  push_cast; rfl
theorem bit1 (X s : Nat) : (X >>> s) &&& 1 = (X.testBit s).toNat := by
  rw [Nat.testBit, Nat.and_comm]
  rcases Nat.mod_two_eq_zero_or_one (X >>> s) with h | h <;> simp [Nat.and_one_is_mod, h, Nat.and_comm 1]
theorem tb_or (O s : Nat) (b : Bool) (j : Nat) : (O ||| b.toNat <<< s).testBit j = (O.testBit j || (decide (j = s) && b)) := by
  rw [Nat.testBit_or, Nat.testBit_shiftLeft]
  congr 1
  by_cases hj : j = s
  · subst hj; cases b <;> simp
  · by_cases hl : s ≤ j
    · have : j - s ≠ 0 := by omega
      cases b
      · simp [hj]
      · simp only [Bool.toNat_true, hj, decide_false, Bool.false_and, ge_iff_le, hl, decide_true, Bool.true_and]
        obtain ⟨m, hm⟩ := Nat.exists_eq_succ_of_ne_zero this
        rw [hm]; simp [Nat.testBit_succ]
    · simp [hj, hl]
theorem enc_step {O X kk s : Nat} (hO : O < 256) (hX : X < 65536) (hk : kk ≤ 15) (hs : s < 8) : ∃ O' : Nat, ior .u8 (O : Int) (ishl .u8 (IntKind.u8.wrap (iand .u16 (ishr .u16 (X : Int) (kk : Int)) 1)) (s : Int)) = (O' : Int) ∧ O' < 256 ∧ ∀ j, O'.testBit j = (O.testBit j || (decide (j = s) && X.testBit kk)) := by
  have hb : (X.testBit kk).toNat ≤ 1 := by cases X.testBit kk <;> simp
  have hsh : (X.testBit kk).toNat <<< s < 256 := by
    have h2 : (X.testBit kk).toNat * 2 ^ s ≤ 1 * 2 ^ s := Nat.mul_le_mul_right _ hb
    have h3 : 2 ^ s ≤ 2 ^ 7 := Nat.pow_le_pow_right (by decide) (by omega)
    rw [Nat.shiftLeft_eq]; omega
  have hxs : X >>> kk < 65536 := by rw [Nat.shiftRight_eq_div_pow]; exact Nat.lt_of_le_of_lt (Nat.div_le_self _ _) hX
  refine ⟨O ||| (X.testBit kk).toNat <<< s, ?_, Nat.or_lt_two_pow (n := 8) hO hsh, tb_or O s _⟩
  rw [ishr_nat (show kk ≤ IntKind.u16.bits from by simp only [IntKind.bits]; omega), show (1 : Int) = ((1 : Nat) : Int) from rfl, iand_u16 hxs (by decide), bit1, wu8 (x := (((X.testBit kk).toNat : Nat) : Int)) (by omega) (by omega), ishl_nat (show s ≤ IntKind.u8.bits from by simp only [IntKind.bits]; omega), wu8 (x := (((X.testBit kk).toNat <<< s : Nat) : Int)) (Int.natCast_nonneg _) (Int.ofNat_lt.2 hsh), ior_u8 hO hsh]
theorem raw_step {A B kk s : Nat} (hA : A < 4096) (hB : B < 256) (hk : kk < 12) (hs : s < 8) : ∃ A' : Nat, ior .u16 (A : Int) (ishl .u16 (IntKind.u16.wrap (iand .u8 (ishr .u8 (B : Int) (s : Int)) 1)) (kk : Int)) = (A' : Int) ∧ A' < 4096 ∧ ∀ j, A'.testBit j = (A.testBit j || (decide (j = kk) && B.testBit s)) := by
  have hb : (B.testBit s).toNat ≤ 1 := by cases B.testBit s <;> simp
  have hsh : (B.testBit s).toNat <<< kk < 4096 := by
    have h2 : (B.testBit s).toNat * 2 ^ kk ≤ 1 * 2 ^ kk := Nat.mul_le_mul_right _ hb
    have h3 : 2 ^ kk ≤ 2 ^ 11 := Nat.pow_le_pow_right (by decide) (by omega)
    rw [Nat.shiftLeft_eq]; omega
  have hxs : B >>> s < 256 := by rw [Nat.shiftRight_eq_div_pow]; exact Nat.lt_of_le_of_lt (Nat.div_le_self _ _) hB
  refine ⟨A ||| (B.testBit s).toNat <<< kk, ?_, Nat.or_lt_two_pow (n := 12) hA hsh, tb_or A kk _⟩
  rw [ishr_nat (show s ≤ IntKind.u8.bits from by simp only [IntKind.bits]; omega), show (1 : Int) = ((1 : Nat) : Int) from rfl, iand_u8 hxs (by decide), bit1, wu16 (x := (((B.testBit s).toNat : Nat) : Int)) (by omega) (by omega), ishl_nat (show kk ≤ IntKind.u16.bits from by simp only [IntKind.bits]; omega), wu16 (x := (((B.testBit s).toNat <<< kk : Nat) : Int)) (Int.natCast_nonneg _) (Int.lt_trans (Int.ofNat_lt.2 hsh) (by decide)), ior_u16 (by omega) (Nat.lt_trans hsh (by decide))]
end Go.Proofs.YtapilbdboeggdaaR.Gx
namespace Go.Proofs.YtapilbdboeggdaaR.Gx
open Go Go.RowKit
def told (err : Int) : Value := .iface 25 (.int .i64 err)
def pe (err : Int) : PanicEntry := { v := told err, recovered := false }
theorem caught_ret {p : Value} {w : World} : CallsD Try.prog 23 #[p] .returning w (fun e u' w' => (∃ v, e = .returned v) ∧ u' = .returning ∧ w' = w) := by
  refine callsD_of_wpS Try.func23 rfl (fun c₀ cs hu => ?_)
  refine wpS_seq (wpS_region ?_)
  have hF := Fr.start (#[p] : Array Value) (20 - 1) 20 [(0, p)] rfl (by kernel_rfl)
  refine opsS_none rfl hF (by kernel_rfl) (by kernel_rfl) (by kernel_rfl) (recoverD_ret hu) (by kernel_rfl) (fun a hF => ?_)
  refine opsS_pure rfl hF (by kernel_rfl) (v := .nilIface) (by kernel_rfl) (by kernel_rfl) (fun a hF => ?_)
  refine wpS_of_wp ?_
  refine wp_seq ?_
  refine wp_seq ?_
  refine wp_region_lit ?_
  refine wpl_pick 2 [7] [(7, .bool true)] hF (by kernel_rfl) (fun a hF => ?_)
  refine wpList_nil ?_
  refine then_n ?_
  refine wp_cond_true (hF.sv (by kernel_rfl)) ?_
  refine wp_ret ?_
  exact ⟨hF.defers, .returning, by rw [← hu], .tuple #[], results_ok hF _ [] trivial, ⟨_, rfl⟩, rfl, rfl⟩
theorem caught_pan {W w : World} {L : List Ent} (hS : St W w L) (i : Nat) {b : Nat} {x err : Int} {E : TypeId} (hi : L[i]? = some (.blk b [.int .i64 x] E)) :
    CallsD Try.prog 23 #[.pointer (some ⟨b, 0, none⟩)] (.panicking [pe err]) w (fun e u' w' => (∃ v, e = .returned v) ∧ settle u' = .returning ∧ St W w' (L.set i (.blk b [.int .i64 err] E))) := by
  refine callsD_of_wpS Try.func23 rfl (fun c₀ cs hu => ?_)
  refine wpS_seq (wpS_region ?_)
  have hF := Fr.start (#[.pointer (some ⟨b, 0, none⟩)] : Array Value) (20 - 1) 20 [(0, .pointer (some ⟨b, 0, none⟩))] rfl (by kernel_rfl)
  refine opsS_some rfl hF (by kernel_rfl) (by kernel_rfl) (by kernel_rfl) (recoverD_pan hu) (by kernel_rfl) (fun a hF => ?_)
  refine opsS_pure rfl hF (by kernel_rfl) (v := .iface 25 (.int .i64 err)) (by kernel_rfl) (by kernel_rfl) (fun a hF => ?_)
  refine wpS_of_wp ?_
  refine wp_seq ?_
  refine wp_seq ?_
  refine wp_region_lit ?_
  refine wpl_pick 2 [0, 2, 7] [(0, .pointer (some ⟨b, 0, none⟩)), (2, .iface 25 (.int .i64 err)), (7, .bool false)] hF (by kernel_rfl) (fun a hF => ?_)
  refine wpList_nil ?_
  refine then_n ?_
  refine wp_cond_false (hF.sv (by kernel_rfl)) ?_
  refine wp_skip ?_
  refine then_n ?_
  refine wp_seq ?_
  refine wp_region_lit ?_
  refine wpl_pick 7 [0, 3, 4] [(0, .pointer (some ⟨b, 0, none⟩)), (3, .iface 25 (.int .i64 err)), (4, .bool true)] hF (by kernel_rfl) (fun a hF => ?_)
  refine wpList_nil ?_
  refine then_n ?_
  refine wp_seq ?_
  refine wp_seq ?_
  refine wp_region_lit ?_
  refine wpl_pick 2 [0, 3, 14] [(0, .pointer (some ⟨b, 0, none⟩)), (3, .iface 25 (.int .i64 err)), (14, .bool false)] hF (by kernel_rfl) (fun a hF => ?_)
  refine wpList_nil ?_
  refine then_n ?_
  refine wp_cond_false (hF.sv (by kernel_rfl)) ?_
  refine wp_skip ?_
  refine then_n ?_
  refine wp_region_lit ?_
  refine wpl_pick 4 [18, 19] [(18, .int .i64 err), (19, .pointer (some ⟨b, 0, none⟩))] hF (by kernel_rfl) (fun a hF => ?_)
  refine wpl_one hF (by kernel_rfl) (wp_store1 hF hS rfl i hi (off := 0) (v := .int .i64 err) (by kernel_rfl) rfl rfl (.lit (Nat.le_of_ble_eq_true rfl) rfl) rfl (fun w' a hS hF => ?_))
  refine wpList_nil ?_
  exact ⟨hF.defers, .panicking [{ v := told err, recovered := true }], rfl, .tuple #[], results_ok hF _ [] trivial, ⟨_, rfl⟩, rfl, hS⟩
def dc (b : Nat) : Deferred := { target := .fn (.func 23) #[], args := #[.pointer (some ⟨b, 0, none⟩)] }
theorem leave_ret {n b : Nat} {F : List (Nat × Value)} {a : Act} {w : World} {fn : Func} {R : Ending → World → Prop} (hF : Fr n [dc b] F a) (vs : List Value) (h : ResL Try.prog F w fn.results.toList vs) (hR : R (.returned (retV vs)) w) : Leaves Try.prog fn a.tmps R a.defers .returning w := by
  rw [hF.defers]
  refine leaves_cons (by intro h; cases h) (f := 23) (args := #[.pointer (some ⟨b, 0, none⟩)]) (pureVal_run (P := Try.prog) _ _ (by kernel_rfl) w) ?_
  refine caught_ret.mono fun e u' w' hr => ?_
  obtain ⟨⟨v, rfl⟩, rfl, rfl⟩ := hr
  exact ⟨_, results_ok hF fn vs h, hR⟩
theorem retD_ok {n b : Nat} {F : List (Nat × Value)} {a : Act} {w : World} {fn : Func} {R : Ending → World → Prop} (hF : Fr n [dc b] F a) (vs : List Value) (h : ResL Try.prog F w fn.results.toList vs) (hR : R (.returned (retV vs)) w) : bodyPostD Try.prog fn R .ret a w := leave_ret hF vs h hR
theorem panD_ok {n b : Nat} {F : List (Nat × Value)} {a : Act} {W w : World} {L L' : List Ent} {fn : Func} {R : Ending → World → Prop} (hF : Fr n [dc b] F a) (hS : St W w L) (i : Nat) {x err : Int} {E : TypeId} (hi : L[i]? = some (.blk b [.int .i64 x] E)) (hL : L.set i (.blk b [.int .i64 err] E) = L') (vs : List Value)
    (h : ∀ w', St W w' L' → ResL Try.prog F w' fn.results.toList vs ∧ R (.returned (retV vs)) w') : bodyPostD Try.prog fn R (.panic [pe err]) a w := by
  subst hL
  show Leaves Try.prog fn a.tmps R a.defers _ w
  rw [hF.defers]
  refine leaves_cons (by intro h; cases h) (f := 23) (args := #[.pointer (some ⟨b, 0, none⟩)]) (pureVal_run (P := Try.prog) _ _ (by kernel_rfl) w) ?_
  refine (caught_pan hS i hi).mono fun e u' w' hr => ?_
  obtain ⟨⟨v, rfl⟩, hu, hS'⟩ := hr
  obtain ⟨h1, h2⟩ := h w' hS'
  show Leaves Try.prog fn a.tmps R [] (settle u') w'
  rw [hu]
  exact ⟨_, results_ok hF fn vs h1, h2⟩
def i_ring_Reduce_l1 : Nat → List Int → Int → Option (List Int)
  | 0, _, _ => none
  | k + 1, v35, v36 =>
    (if (decide (v36 < 256)) = true then (if inb v36 256 = true then (nm_ (v35.set v36.toNat ((rd v35 v36.toNat).tmod 3329)) fun v53 => i_ring_Reduce_l1 k v53 (IntKind.i64.wrap (v36 + 1))) else none) else some (v35))
def i_ring_Reduce (v1 : List Int) : Option (List Int) :=
  ((i_ring_Reduce_l1 LIM v1 0).bind fun v37 => some v37)
theorem i_ring_Reduce_ok (v1 : List Int) {w : World} (hl_v1 : v1.length = 256) (c0 : List Int) (h : i_ring_Reduce v1 = some c0) : Calls Try.prog 41 #[.agg (ic .u16 v1).toArray] w (Ret (fun v w' => v = .agg (ic .u16 c0).toArray ∧ St w w' [] ∧ c0.length = 256)) := by
  unfold i_ring_Reduce at h
  refine calls_of_wp Try.func41 rfl ?_
  have hF := Fr.start (#[.agg (ic .u16 v1).toArray] : Array Value) 13 14 [(0, .agg (ic .u16 v1).toArray)] rfl (by kernel_rfl)
  have hS := St.nil w
  refine go_fr hF (fun a hF => (wp_seq (wp_region_lit ?_)))
  refine wpl_one hF (by kernel_rfl) (wp_box hF hS rfl (v := .agg (ic .u16 v1).toArray) (by kernel_rfl) (ic .u16 v1) rfl (by kernel_rfl) (fun b10 w11 a12 hS12 hF12 => ?_))
  refine wpl_one hF12 (by kernel_rfl) (wp_alloc hF12 hS12 rfl (z := .agg (ic .u16 (rz 256)).toArray) (by kernel_rfl) (ic .u16 (rz 256)) rfl (by kernel_rfl) (fun b13 w14 a15 hS15 hF15 => (wpList_nil (then_n (wp_seq (wp_seq (wp_region_lit ?_)))))))
  refine wplp 1 [1, 2, 4] [(1, pp b10 0), (2, pp b13 0), (4, i6 0)] hF15 (fun a16 hF16 => (wpList_nil (then_n ?_)))
  obtain ⟨ev17, hl18, h⟩ := bind_ok h
  refine block_cut (fun a' w' => ∃ (v37 : List Int), v37 = ev17 ∧ Fr 14 [] [(1, pp b10 0), (2, pp b13 0)] a' ∧ St w w' [.blk b13 (ic .u16 (rz 256)) 61, .blk b10 (ic .u16 v37) 61] ∧ v37.length = 256) ?_ ?_
  ·
   refine wp_loop_ghost (fun k a' w' => ∃ (v35 : List Int) (v36 : Int), i_ring_Reduce_l1 k v35 v36 = some ev17 ∧ Fr 14 [] [(1, pp b10 0), (2, pp b13 0), (4, i6 v36)] a' ∧ St w w' [.blk b13 (ic .u16 (rz 256)) 61, .blk b10 (ic .u16 v35) 61] ∧ v35.length = 256) LIM ⟨v1, 0, hl18, Fr.pick [1, 2, 4] (by kernel_rfl) hF16, hS15, hl_v1⟩ ?_
   rintro k19 a19 w20 ⟨v35, v36, hr19, hF19, hS19, hl_v35⟩
   cases k19 with
   | zero => rw [i_ring_Reduce_l1] at hr19; cases hr19
   | succ k19 =>
    rw [i_ring_Reduce_l1] at hr19
    refine wp_seq (wp_region_lit ?_)
    refine wplp 1 [1, 2, 4, 5] [(1, pp b10 0), (2, pp b13 0), (4, i6 v36), (5, .bool (decide (v36 < 256)))] hF19 (fun a21 hF21 => (wpList_nil (then_n (wp_seq ?_))))
    refine wp_cond_split (t := (decide (v36 < 256))) hF21.e (fun ht22 => ?_) (fun ht22 => ?_)
    ·
     have h := if_t ht22 hr19
     refine wp_skip (then_n (wp_seq (wp_block (wp_seq (wp_region_lit ?_)))))
     refine wplp 2 [1, 2, 3, 4] [(1, pp b10 0), (2, pp b13 0), (3, i6 v36), (4, i6 v36)] hF21 (fun a23 hF23 => (wpList_nil (then_n (wp_region_lit ?_))))
     refine wplp 1 [1, 2, 4, 7] [(1, pp b10 0), (2, pp b13 0), (4, i6 v36), (7, i6 v36)] hF23 (fun a24 hF24 => ?_)
     obtain ⟨hg25, h⟩ := gd_ok h
     refine wpl_val hF24 (by kernel_rfl) (v := pp b10 v36.toNat) (run_indexA rfl (b := b10) (off := 0) hF24.e (k := .i64) (i := v36) hF24.e (len := 256) (E := 23) (by kernel_rfl) (s := 1) (by kernel_rfl) (inb_ok hg25) (r := v36.toNat) (by simp only [Nat.zero_add, Nat.mul_one])) (by kernel_rfl) (fun a26 hF26 => ?_)
     refine wpl_val hF26 (by kernel_rfl) (v := .int .u16 (rd v35 v36.toNat)) (run_load1 rfl (b := b10) (off := v36.toNat) hF26.e (by kernel_rfl) (hS19.at 1 rfl (v36.toNat) (ic_get (lt_len (inb_nat hg25) hl_v35)))) (by kernel_rfl) (fun a27 hF27 => ?_)
     refine wplp 1 [1, 2, 4, 7, 10] [(1, pp b10 0), (2, pp b13 0), (4, i6 v36), (7, i6 v36), (10, .int .u16 ((rd v35 v36.toNat).tmod 3329))] hF27 (fun a28 hF28 => ?_)
     refine wpl_val hF28 (by kernel_rfl) (v := pp b10 v36.toNat) (run_indexA rfl (b := b10) (off := 0) hF28.e (k := .i64) (i := v36) hF28.e (len := 256) (E := 23) (by kernel_rfl) (s := 1) (by kernel_rfl) (inb_ok hg25) (r := v36.toNat) (by simp only [Nat.zero_add, Nat.mul_one])) (by kernel_rfl) (fun a29 hF29 => ?_)
     refine wpl_one hF29 (by kernel_rfl) (wp_store1 hF29 hS19 rfl 1 rfl (off := v36.toNat) (v := .int .u16 ((rd v35 v36.toNat).tmod 3329)) (by kernel_rfl) rfl rfl (.ic (lt_len (inb_nat hg25) hl_v35)) (L' := [.blk b13 (ic .u16 (rz 256)) 61, .blk b10 (ic .u16 (v35.set v36.toNat ((rd v35 v36.toNat).tmod 3329))) 61]) rfl (fun w30 a31 hS31 hF31 => ?_))
     obtain ⟨v53, hv_v53, h⟩ := nm_ok h
     have hl_v53 : v53.length = 256 := (congrArg List.length hv_v53).trans (len_is ((v35.set v36.toNat ((rd v35 v36.toNat).tmod 3329))) (n := 256) (List.length_set.trans hl_v35))
     have hS32 := St.eqv (M := [.blk b13 (ic .u16 (rz 256)) 61, .blk b10 (ic .u16 v53) 61]) hS31 (by rw [hv_v53])
     refine wpList_nil (blk_n (then_n (wp_region_lit ?_)))
     refine wplp 2 [1, 2, 4] [(1, pp b10 0), (2, pp b13 0), (4, i6 (IntKind.i64.wrap (v36 + 1)))] hF31 (fun a33 hF33 => (wpList_nil ?_))
     exact ⟨k19, Nat.lt_succ_self _, v53, (IntKind.i64.wrap (v36 + 1)), h, Fr.pick [1, 2, 4] (by kernel_rfl) hF33, hS32.sub (.cons_cons _ (.cons_cons _ (.slnil))), hl_v53⟩
    ·
     have h := if_f ht22 hr19
     refine wp_exit ?_
     refine then_x (then_x (cut_x ?_))
     have hr := Option.some.inj h
     subst hr
     exact ⟨_, rfl, Fr.pick [1, 2] (by kernel_rfl) hF21, hS19.sub (.cons_cons _ (.cons_cons _ (.slnil))), hl_v35⟩
  ·
   rintro a34 w35 ⟨v37, hev, hF34, hS34, hl_v37⟩
   subst hev
   refine then_n (wp_seq (wp_region_lit ?_))
   refine wpl_val hF34 (by kernel_rfl) (v := .agg (ic .u16 v37).toArray) (run_loadR rfl (b := b10) (off := 0) hF34.e (by kernel_rfl) (k := 256) (by kernel_rfl) (((ic_len _ _).trans hl_v37) : (ic .u16 v37).length = 256) (hS34.all 1 rfl)) (by kernel_rfl) (fun a36 hF36 => ?_)
   refine wpl_one hF36 (by kernel_rfl) (wp_store hF36 hS34 rfl 0 rfl (off := 0) (by kernel_rfl) (v := .agg (ic .u16 v37).toArray) (by kernel_rfl) (vs := ic .u16 v37) rfl (k := 256) (by kernel_rfl) (((ic_len _ _).trans hl_v37) : (ic .u16 v37).length = 256) (by have h2 := (((ic_len _ _).trans (len_is (rz 256) (n := 256) (List.length_replicate))) : (ic .u16 (rz 256)).length = 256); omega) (ic_one _ _) (cs' := ic .u16 v37) ((upd_ic _ _ _ _).trans (congrArg (ic .u16) (upd_all ((hl_v37).trans ((len_is (rz 256) (n := 256) (List.length_replicate))).symm)))) (by kernel_rfl) (L' := [.blk b13 (ic .u16 v37) 61, .blk b10 (ic .u16 v37) 61]) rfl (fun w37 a38 hS38 hF38 => (wpList_nil (then_n (wp_ret (ret_ok hF38 [.agg (ic .u16 v37).toArray] (⟨⟨⟨b13, 0, none⟩, by kernel_rfl, loadVarR (by kernel_rfl) (k := 256) (by kernel_rfl) (((ic_len _ _).trans hl_v37) : (ic .u16 v37).length = 256) (hS38.all 0 rfl)⟩, trivial⟩) ?_))))))
   have hr0 := Option.some.inj h
   subst hr0
   exact ⟨rfl, hS38.sub (List.nil_sublist _), hl_v37⟩
def i_ring_Encode_l4 (v1 : Int) (v212 : Int) (v21 : List Int) : Nat → List Int → Int → Option (List Int)
  | 0, _, _ => none
  | k + 1, v266, v267 =>
    (if (decide (v267 < v1)) = true then (if inb (IntKind.i64.wrap ((IntKind.i64.wrap ((IntKind.i64.wrap (v212 * v1)) + v267)).tdiv 8)) ((IntKind.i64.wrap (32 * v1)).toNat) = true then (if decide (0 ≤ v267) = true then (if decide (0 ≤ ((IntKind.i64.wrap ((IntKind.i64.wrap (v212 * v1)) + v267)).tmod 8)) = true then (nm_ (v266.set ((IntKind.i64.wrap ((IntKind.i64.wrap ((IntKind.i64.wrap (v212 * v1)) + v267)).tdiv 8)).toNat) (ior .u8 (rd v266 ((IntKind.i64.wrap ((IntKind.i64.wrap ((IntKind.i64.wrap (v212 * v1)) + v267)).tdiv 8)).toNat)) (ishl .u8 (IntKind.u8.wrap (iand .u16 (ishr .u16 (rd v21 v212.toNat) v267) 1)) ((IntKind.i64.wrap ((IntKind.i64.wrap (v212 * v1)) + v267)).tmod 8)))) fun v291 => i_ring_Encode_l4 v1 v212 v21 k v291 (IntKind.i64.wrap (v267 + 1))) else none) else none) else none) else some (v266))
def i_ring_Encode_l3 (v1 : Int) (v21 : List Int) : Nat → List Int → Int → Option (List Int)
  | 0, _, _ => none
  | k + 1, v211, v212 =>
    (if (decide (v212 < 256)) = true then (if inb v212 256 = true then ((i_ring_Encode_l4 v1 v212 v21 LIM v211 0).bind fun v268 => i_ring_Encode_l3 v1 v21 k v268 (IntKind.i64.wrap (v212 + 1))) else none) else some (v211))
def i_ring_Encode_l8 (v1 : Int) (v486 : Int) (v2 : List Int) : Nat → List Int → Int → Option (List Int)
  | 0, _, _ => none
  | k + 1, v540, v541 =>
    (if (decide (v541 < v1)) = true then (if inb (IntKind.i64.wrap ((IntKind.i64.wrap ((IntKind.i64.wrap (v486 * v1)) + v541)).tdiv 8)) ((IntKind.i64.wrap (32 * v1)).toNat) = true then (if decide (0 ≤ v541) = true then (if decide (0 ≤ ((IntKind.i64.wrap ((IntKind.i64.wrap (v486 * v1)) + v541)).tmod 8)) = true then (nm_ (v540.set ((IntKind.i64.wrap ((IntKind.i64.wrap ((IntKind.i64.wrap (v486 * v1)) + v541)).tdiv 8)).toNat) (ior .u8 (rd v540 ((IntKind.i64.wrap ((IntKind.i64.wrap ((IntKind.i64.wrap (v486 * v1)) + v541)).tdiv 8)).toNat)) (ishl .u8 (IntKind.u8.wrap (iand .u16 (ishr .u16 (rd v2 v486.toNat) v541) 1)) ((IntKind.i64.wrap ((IntKind.i64.wrap (v486 * v1)) + v541)).tmod 8)))) fun v565 => i_ring_Encode_l8 v1 v486 v2 k v565 (IntKind.i64.wrap (v541 + 1))) else none) else none) else none) else some (v540))
def i_ring_Encode_l7 (v1 : Int) (v2 : List Int) : Nat → List Int → Int → Option (List Int)
  | 0, _, _ => none
  | k + 1, v485, v486 =>
    (if (decide (v486 < 256)) = true then (if inb v486 256 = true then ((i_ring_Encode_l8 v1 v486 v2 LIM v485 0).bind fun v542 => i_ring_Encode_l7 v1 v2 k v542 (IntKind.i64.wrap (v486 + 1))) else none) else some (v485))
def i_ring_Encode (v1 : Int) (v2 : List Int) : Option (List Int × Int) :=
  (if (decide (v1 < 1)) = true then some ([], 1) else (if (decide (v1 > 12)) = true then some ([], 1) else (if (v1 == 12) = true then ((i_ring_Reduce v2).bind fun v21 => (if (decide (0 ≤ (IntKind.i64.wrap (32 * v1))) && decide ((IntKind.i64.wrap (32 * v1)) ≤ 1099511627776)) = true then ((i_ring_Encode_l3 v1 v21 LIM (List.replicate ((IntKind.i64.wrap (32 * v1)).toNat) (0 : Int)) 0).bind fun v213 => some (v213, 0)) else none)) else (if (decide (0 ≤ (IntKind.i64.wrap (32 * v1))) && decide ((IntKind.i64.wrap (32 * v1)) ≤ 1099511627776)) = true then ((i_ring_Encode_l7 v1 v2 LIM (List.replicate ((IntKind.i64.wrap (32 * v1)).toNat) (0 : Int)) 0).bind fun v487 => some (v487, 0)) else none))))
theorem i_ring_Encode_ok (v1 : Int) (v2 : List Int) {w : World} (hl_v2 : v2.length = 256) (c0 : List Int) (c1 : Int) (h : i_ring_Encode v1 v2 = some (c0, c1)) : Calls Try.prog 59 #[i6 v1, .agg (ic .u16 v2).toArray] w (Ret (fun v w' => ∃ (o10 : Option Addr) (n10 k10 : Nat), n10 = c0.length ∧ v = .tuple #[.slice o10 n10 k10, i6 c1] ∧ St w w' [.sl o10 n10 k10 1 (ic .u8 c0) 5])) := by
  unfold i_ring_Encode at h
  refine calls_of_wp Try.func59 rfl ?_
  have hF := Fr.start (#[i6 v1, .agg (ic .u16 v2).toArray] : Array Value) 54 56 [(0, i6 v1), (1, .agg (ic .u16 v2).toArray)] rfl (by kernel_rfl)
  have hS := St.nil w
  refine go_fr hF (fun a hF => (wp_seq (wp_region_lit ?_)))
  refine wpl_one hF (by kernel_rfl) (wp_box hF hS rfl (v := .agg (ic .u16 v2).toArray) (by kernel_rfl) (ic .u16 v2) rfl (by kernel_rfl) (fun b11 w12 a13 hS13 hF13 => ?_))
  refine wplp 2 [0, 3] [(0, i6 v1), (3, pp b11 0)] hF13 (fun a14 hF14 => (wpList_nil (then_n (wp_seq (wp_seq (wp_region_lit ?_))))))
  refine wplp 3 [0, 3, 13] [(0, i6 v1), (3, pp b11 0), (13, .bool (decide (v1 < 1)))] hF14 (fun a15 hF15 => ?_)
  rcases Bool.eq_false_or_eq_true (decide (v1 < 1)) with ht16 | ht16
  ·
   have hF17 := Fr.eqv (L := [(0, i6 v1), (3, pp b11 0), (13, .bool (decide (v1 < 1)))]) (Fr.pick [0, 3, 13] (by kernel_rfl) hF15) (M := [(0, i6 v1), (3, pp b11 0), (13, .bool true)]) (by rw [ht16])
   have h := if_t ht16 h
   refine wplp 3 [0, 3, 16] [(0, i6 v1), (3, pp b11 0), (16, .bool true)] hF17 (fun a18 hF18 => (wpList_nil (then_n (wp_cond_true hF18.e (wp_seq (wp_region_lit ?_))))))
   refine wplp 2 [4, 5] [(4, .slice none 0 0), (5, i6 1)] hF18 (fun a19 hF19 => (wpList_nil (then_n (wp_ret ?_))))
   refine then_r (ret_ok hF19 [.slice none 0 0, i6 1] (⟨by kernel_rfl, by kernel_rfl, trivial⟩) ?_)
   have hS20 := St.addnil hS13 1 5
   have hr0 := Option.some.inj h
   obtain ⟨hq0, hr1⟩ := Prod.mk.inj hr0
   subst hq0
   subst hr1
   exact ⟨none, 0, 0, rfl, rfl, hS20.sub (.cons_cons _ (.cons _ (.slnil)))⟩
  ·
   have hF21 := Fr.eqv (L := [(0, i6 v1), (3, pp b11 0), (13, .bool (decide (v1 < 1)))]) (Fr.pick [0, 3, 13] (by kernel_rfl) hF15) (M := [(0, i6 v1), (3, pp b11 0), (13, .bool false)]) (by rw [ht16])
   have h := if_f ht16 h
   refine wplp 3 [0, 3, 16] [(0, i6 v1), (3, pp b11 0), (16, .bool (decide (v1 > 12)))] hF21 (fun a22 hF22 => (wpList_nil (then_n ?_)))
   refine wp_cond_split (t := (decide (v1 > 12))) hF22.e (fun ht23 => ?_) (fun ht23 => ?_)
   ·
    have h := if_t ht23 h
    refine wp_seq (wp_region_lit ?_)
    refine wplp 2 [4, 5] [(4, .slice none 0 0), (5, i6 1)] hF22 (fun a24 hF24 => (wpList_nil (then_n (wp_ret ?_))))
    refine then_r (ret_ok hF24 [.slice none 0 0, i6 1] (⟨by kernel_rfl, by kernel_rfl, trivial⟩) ?_)
    have hS25 := St.addnil hS13 1 5
    have hr0 := Option.some.inj h
    obtain ⟨hq0, hr1⟩ := Prod.mk.inj hr0
    subst hq0
    subst hr1
    exact ⟨none, 0, 0, rfl, rfl, hS25.sub (.cons_cons _ (.cons _ (.slnil)))⟩
   ·
    have h := if_f ht23 h
    refine wp_skip (then_n (wp_seq (wp_seq (wp_region_lit ?_))))
    refine wplp 2 [0, 3, 18] [(0, i6 v1), (3, pp b11 0), (18, .bool (v1 == 12))] hF22 (fun a26 hF26 => (wpList_nil (then_n ?_)))
    refine wp_cond_split (t := (v1 == 12)) hF26.e (fun ht27 => ?_) (fun ht27 => ?_)
    ·
     have h := if_t ht27 h
     refine wp_region_lit ?_
     refine wpl_val hF26 (by kernel_rfl) (v := .agg (ic .u16 v2).toArray) (run_loadR rfl (b := b11) (off := 0) hF26.e (by kernel_rfl) (k := 256) (by kernel_rfl) (((ic_len _ _).trans hl_v2) : (ic .u16 v2).length = 256) (hS13.all 0 rfl)) (by kernel_rfl) (fun a28 hF28 => ?_)
     obtain ⟨v21, hb29, h⟩ := bind_ok h
     refine wpl_one hF28 (by kernel_rfl) (wp_callR hF28 (by kernel_rfl) (g := 41) (args := #[.agg (ic .u16 v2).toArray]) (by kernel_rfl) (i_ring_Reduce_ok v2 hl_v2 v21 hb29) (fun vr w30 hp => ?_))
     obtain ⟨rfl, hS31, hl_v21⟩ := hp
     replace hS31 := St.call hS13 hS31 rfl
     refine go_fr (hF28.next (.agg (ic .u16 v21).toArray) [0, 3, 20] (M := [(0, i6 v1), (3, pp b11 0), (20, .agg (ic .u16 v21).toArray)]) (by kernel_rfl)) (fun a31 hF31 => ?_)
     refine wpl_one hF31 (by kernel_rfl) (wp_store hF31 hS31 rfl 0 rfl (off := 0) (by kernel_rfl) (v := .agg (ic .u16 v21).toArray) (by kernel_rfl) (vs := ic .u16 v21) rfl (k := 256) (by kernel_rfl) (((ic_len _ _).trans hl_v21) : (ic .u16 v21).length = 256) (by have h2 := (((ic_len _ _).trans hl_v2) : (ic .u16 v2).length = 256); omega) (ic_one _ _) (cs' := ic .u16 v21) ((upd_ic _ _ _ _).trans (congrArg (ic .u16) (upd_all ((hl_v21).trans (hl_v2).symm)))) (by kernel_rfl) (L' := [.blk b11 (ic .u16 v21) 61]) rfl (fun w32 a33 hS33 hF33 => (wpList_nil (then_n (wp_seq (wp_region_lit ?_))))))
     refine wplp 2 [0, 3, 22] [(0, i6 v1), (3, pp b11 0), (22, i6 (IntKind.i64.wrap (32 * v1)))] hF33 (fun a34 hF34 => ?_)
     obtain ⟨hg35, h⟩ := gd_ok h
     refine wpl_one hF34 (by kernel_rfl) (wp_make hF34 hS33 rfl (E := 5) (by kernel_rfl) (by_ := 1) (z := .int .u8 0) (by kernel_rfl) (by kernel_rfl) rfl (k1 := .i64) (k2 := .i64) (i := (IntKind.i64.wrap (32 * v1))) (by kernel_rfl) (by kernel_rfl) hg35 (by decide) (m := (IntKind.i64.wrap (32 * v1)).toNat) rfl (cs := ic .u8 (List.replicate ((IntKind.i64.wrap (32 * v1)).toNat) (0 : Int))) (ic_rep _ _ _) (by kernel_rfl) (fun b36 w37 a38 hS38 hF38 => ?_))
     refine wplp 1 [0, 3, 6] [(0, i6 v1), (3, pp b11 0), (6, .slice (some ⟨b36, 0, none⟩) (IntKind.i64.wrap (32 * v1)).toNat (IntKind.i64.wrap (32 * v1)).toNat)] hF38 (fun a39 hF39 => (wpList_nil (then_n (wp_seq (wp_seq (wp_region_lit ?_))))))
     refine wpl_val hF39 (by kernel_rfl) (v := .agg (ic .u16 v21).toArray) (run_loadR rfl (b := b11) (off := 0) hF39.e (by kernel_rfl) (k := 256) (by kernel_rfl) (((ic_len _ _).trans hl_v21) : (ic .u16 v21).length = 256) (hS38.all 1 rfl)) (by kernel_rfl) (fun a40 hF40 => ?_)
     refine wplp 1 [0, 6, 24, 25] [(0, i6 v1), (6, .slice (some ⟨b36, 0, none⟩) (IntKind.i64.wrap (32 * v1)).toNat (IntKind.i64.wrap (32 * v1)).toNat), (24, .agg (ic .u16 v21).toArray), (25, i6 0)] hF40 (fun a41 hF41 => (wpList_nil (then_n ?_)))
     obtain ⟨ev42, hl43, h⟩ := bind_ok h
     refine block_cut (fun a' w' => ∃ (v213 : List Int), v213 = ev42 ∧ Fr 56 [] [(6, .slice (some ⟨b36, 0, none⟩) (IntKind.i64.wrap (32 * v1)).toNat (IntKind.i64.wrap (32 * v1)).toNat)] a' ∧ St w w' [.blk b36 (ic .u8 v213) 5, .blk b11 (ic .u16 v21) 61] ∧ v213.length = (IntKind.i64.wrap (32 * v1)).toNat) ?_ ?_
     ·
      refine wp_loop_ghost (fun k a' w' => ∃ (v211 : List Int) (v212 : Int), i_ring_Encode_l3 v1 v21 k v211 v212 = some ev42 ∧ Fr 56 [] [(0, i6 v1), (6, .slice (some ⟨b36, 0, none⟩) (IntKind.i64.wrap (32 * v1)).toNat (IntKind.i64.wrap (32 * v1)).toNat), (24, .agg (ic .u16 v21).toArray), (25, i6 v212)] a' ∧ St w w' [.blk b36 (ic .u8 v211) 5, .blk b11 (ic .u16 v21) 61] ∧ v211.length = (IntKind.i64.wrap (32 * v1)).toNat) LIM ⟨(List.replicate ((IntKind.i64.wrap (32 * v1)).toNat) (0 : Int)), 0, hl43, Fr.pick [0, 6, 24, 25] (by kernel_rfl) hF41, hS38, (len_is (List.replicate ((IntKind.i64.wrap (32 * v1)).toNat) (0 : Int)) (n := ((IntKind.i64.wrap (32 * v1)).toNat)) (List.length_replicate))⟩ ?_
      rintro k44 a44 w45 ⟨v211, v212, hr44, hF44, hS44, hl_v211⟩
      cases k44 with
      | zero => rw [i_ring_Encode_l3] at hr44; cases hr44
      | succ k44 =>
       rw [i_ring_Encode_l3] at hr44
       refine wp_seq (wp_region_lit ?_)
       refine wplp 1 [0, 6, 24, 25, 26] [(0, i6 v1), (6, .slice (some ⟨b36, 0, none⟩) (IntKind.i64.wrap (32 * v1)).toNat (IntKind.i64.wrap (32 * v1)).toNat), (24, .agg (ic .u16 v21).toArray), (25, i6 v212), (26, .bool (decide (v212 < 256)))] hF44 (fun a46 hF46 => (wpList_nil (then_n (wp_seq ?_))))
       refine wp_cond_split (t := (decide (v212 < 256))) hF46.e (fun ht47 => ?_) (fun ht47 => ?_)
       ·
        have h := if_t ht47 hr44
        refine wp_skip (then_n (wp_seq (wp_block (wp_seq (wp_region_lit ?_)))))
        refine wplp 1 [0, 6, 24, 25, 27] [(0, i6 v1), (6, .slice (some ⟨b36, 0, none⟩) (IntKind.i64.wrap (32 * v1)).toNat (IntKind.i64.wrap (32 * v1)).toNat), (24, .agg (ic .u16 v21).toArray), (25, i6 v212), (27, i6 v212)] hF46 (fun a48 hF48 => ?_)
        obtain ⟨hg49, h⟩ := gd_ok h
        refine wpl_val hF48 (by kernel_rfl) (v := .int .u16 (rd v21 v212.toNat)) (run_indexV rfl (cs := ic .u16 v21) hF48.e (k := .i64) (i := v212) hF48.e (len := 256) (E := 23) (by kernel_rfl) (by kernel_rfl) (by kernel_rfl) (inb_ok hg49) (j := v212.toNat) rfl (ic_get (lt_len (inb_nat hg49) hl_v21))) (by kernel_rfl) (fun a50 hF50 => ?_)
        refine wplp 2 [0, 6, 7, 8, 24, 25] [(0, i6 v1), (6, .slice (some ⟨b36, 0, none⟩) (IntKind.i64.wrap (32 * v1)).toNat (IntKind.i64.wrap (32 * v1)).toNat), (7, i6 v212), (8, .int .u16 (rd v21 v212.toNat)), (24, .agg (ic .u16 v21).toArray), (25, i6 v212)] hF50 (fun a51 hF51 => (wpList_nil (then_n (wp_seq (wp_region_lit ?_)))))
        refine wplp 2 [0, 6, 7, 8, 24, 25, 29, 30] [(0, i6 v1), (6, .slice (some ⟨b36, 0, none⟩) (IntKind.i64.wrap (32 * v1)).toNat (IntKind.i64.wrap (32 * v1)).toNat), (7, i6 v212), (8, .int .u16 (rd v21 v212.toNat)), (24, .agg (ic .u16 v21).toArray), (25, i6 v212), (29, i6 v1), (30, i6 0)] hF51 (fun a52 hF52 => (wpList_nil (then_n ?_)))
        obtain ⟨ev53, hl54, h⟩ := bind_ok h
        refine block_cut (fun a' w' => ∃ (v268 : List Int), v268 = ev53 ∧ Fr 56 [] [(0, i6 v1), (6, .slice (some ⟨b36, 0, none⟩) (IntKind.i64.wrap (32 * v1)).toNat (IntKind.i64.wrap (32 * v1)).toNat), (24, .agg (ic .u16 v21).toArray), (25, i6 v212)] a' ∧ St w w' [.blk b36 (ic .u8 v268) 5, .blk b11 (ic .u16 v21) 61] ∧ v268.length = (IntKind.i64.wrap (32 * v1)).toNat) ?_ ?_
        ·
         refine wp_loop_ghost (fun k a' w' => ∃ (v266 : List Int) (v267 : Int), i_ring_Encode_l4 v1 v212 v21 k v266 v267 = some ev53 ∧ Fr 56 [] [(0, i6 v1), (6, .slice (some ⟨b36, 0, none⟩) (IntKind.i64.wrap (32 * v1)).toNat (IntKind.i64.wrap (32 * v1)).toNat), (7, i6 v212), (8, .int .u16 (rd v21 v212.toNat)), (24, .agg (ic .u16 v21).toArray), (25, i6 v212), (29, i6 v1), (30, i6 v267)] a' ∧ St w w' [.blk b36 (ic .u8 v266) 5, .blk b11 (ic .u16 v21) 61] ∧ v266.length = (IntKind.i64.wrap (32 * v1)).toNat) LIM ⟨v211, 0, hl54, Fr.pick [0, 6, 7, 8, 24, 25, 29, 30] (by kernel_rfl) hF52, hS44, hl_v211⟩ ?_
         rintro k55 a55 w56 ⟨v266, v267, hr55, hF55, hS55, hl_v266⟩
         cases k55 with
         | zero => rw [i_ring_Encode_l4] at hr55; cases hr55
         | succ k55 =>
          rw [i_ring_Encode_l4] at hr55
          refine wp_seq (wp_region_lit ?_)
          refine wplp 1 [0, 6, 7, 8, 24, 25, 29, 30, 31] [(0, i6 v1), (6, .slice (some ⟨b36, 0, none⟩) (IntKind.i64.wrap (32 * v1)).toNat (IntKind.i64.wrap (32 * v1)).toNat), (7, i6 v212), (8, .int .u16 (rd v21 v212.toNat)), (24, .agg (ic .u16 v21).toArray), (25, i6 v212), (29, i6 v1), (30, i6 v267), (31, .bool (decide (v267 < v1)))] hF55 (fun a57 hF57 => (wpList_nil (then_n (wp_seq ?_))))
          refine wp_cond_split (t := (decide (v267 < v1))) hF57.e (fun ht58 => ?_) (fun ht58 => ?_)
          ·
           have h := if_t ht58 hr55
           refine wp_skip (then_n (wp_seq (wp_block (wp_seq (wp_region_lit ?_)))))
           refine wplp 2 [0, 6, 7, 8, 9, 24, 25, 29, 30] [(0, i6 v1), (6, .slice (some ⟨b36, 0, none⟩) (IntKind.i64.wrap (32 * v1)).toNat (IntKind.i64.wrap (32 * v1)).toNat), (7, i6 v212), (8, .int .u16 (rd v21 v212.toNat)), (9, i6 v267), (24, .agg (ic .u16 v21).toArray), (25, i6 v212), (29, i6 v1), (30, i6 v267)] hF57 (fun a59 hF59 => (wpList_nil (then_n (wp_seq (wp_region_lit ?_)))))
           refine wplp 6 [0, 6, 7, 8, 9, 10, 24, 25, 29, 30] [(0, i6 v1), (6, .slice (some ⟨b36, 0, none⟩) (IntKind.i64.wrap (32 * v1)).toNat (IntKind.i64.wrap (32 * v1)).toNat), (7, i6 v212), (8, .int .u16 (rd v21 v212.toNat)), (9, i6 v267), (10, i6 (IntKind.i64.wrap ((IntKind.i64.wrap (v212 * v1)) + v267))), (24, .agg (ic .u16 v21).toArray), (25, i6 v212), (29, i6 v1), (30, i6 v267)] hF59 (fun a60 hF60 => (wpList_nil (then_n (wp_region_noPanic (region_al [15] (fun w' => St w w' [.blk b36 (ic .u8 v266) 5, .blk b11 (ic .u16 v21) 61]) 16 rfl (by kernel_rfl) ?_)))))
           have hS61 := St.draw1 hS55
           refine al_run (fun _ _ _ _ _ h => h) 9 [0, 1, 2, 5, 6, 10, 11] rfl [0, 6, 7, 8, 24, 25, 29, 30, 38, 40, 43, 44, 49] [(0, i6 v1), (6, .slice (some ⟨b36, 0, none⟩) (IntKind.i64.wrap (32 * v1)).toNat (IntKind.i64.wrap (32 * v1)).toNat), (7, i6 v212), (8, .int .u16 (rd v21 v212.toNat)), (24, .agg (ic .u16 v21).toArray), (25, i6 v212), (29, i6 v1), (30, i6 v267), (38, .slice (some ⟨b36, 0, none⟩) (IntKind.i64.wrap (32 * v1)).toNat (IntKind.i64.wrap (32 * v1)).toNat), (40, i6 (IntKind.i64.wrap ((IntKind.i64.wrap ((IntKind.i64.wrap (v212 * v1)) + v267)).tdiv 8))), (43, .int .u16 (rd v21 v212.toNat)), (44, i6 v267), (49, i6 ((IntKind.i64.wrap ((IntKind.i64.wrap (v212 * v1)) + v267)).tmod 8))] hF60 (by kernel_rfl) (fun _ => hS61) (fun a62 hF62 => ?_)
           obtain ⟨hg63, h⟩ := gd_ok h
           refine al_any (i := 3) rfl (by kernel_rfl) (fun _ _ _ _ h => h) hF62 (by kernel_rfl) (v := pp b36 ((IntKind.i64.wrap ((IntKind.i64.wrap ((IntKind.i64.wrap (v212 * v1)) + v267)).tdiv 8)).toNat)) (fun _ => run_indexS rfl (ao := some ⟨b36, 0, none⟩) (m := (IntKind.i64.wrap (32 * v1)).toNat) (c := (IntKind.i64.wrap (32 * v1)).toNat) hF62.e rfl (k := .i64) (i := (IntKind.i64.wrap ((IntKind.i64.wrap ((IntKind.i64.wrap (v212 * v1)) + v267)).tdiv 8))) hF62.e (E := 5) (by kernel_rfl) (s := 1) (by kernel_rfl) (inb_ok hg63) (r := (IntKind.i64.wrap ((IntKind.i64.wrap ((IntKind.i64.wrap (v212 * v1)) + v267)).tdiv 8)).toNat) (by simp only [offOf, Option.map_some, Option.getD_some, Nat.zero_add, Nat.mul_one])) (by kernel_rfl) (fun _ => hS61) (fun a64 hF64 => ?_)
           refine al_val (i := 4) rfl (by kernel_rfl) (fun _ _ _ _ h => h) hF64 (by kernel_rfl) (v := .int .u8 (rd v266 ((IntKind.i64.wrap ((IntKind.i64.wrap ((IntKind.i64.wrap (v212 * v1)) + v267)).tdiv 8)).toNat))) (fun _ HS => run_load1 rfl (b := b36) (off := (IntKind.i64.wrap ((IntKind.i64.wrap ((IntKind.i64.wrap (v212 * v1)) + v267)).tdiv 8)).toNat) hF64.e (by kernel_rfl) (HS.at 0 rfl ((IntKind.i64.wrap ((IntKind.i64.wrap ((IntKind.i64.wrap (v212 * v1)) + v267)).tdiv 8)).toNat) (ic_get (lt_len (inb_nat hg63) hl_v266)))) (by kernel_rfl) (hS61.sub (.cons_cons _ (.cons_cons _ (.slnil)))) (fun a65 hF65 => ?_)
           obtain ⟨hg66, h⟩ := gd_ok h
           refine al_any (i := 7) rfl (by kernel_rfl) (fun _ _ _ _ h => h) hF65 (by kernel_rfl) (v := .int .u16 (ishr .u16 (rd v21 v212.toNat) v267)) (fun _ => run_shift rfl (.inr rfl) (k := .u16) (yk := .i64) (p := (rd v21 v212.toNat)) (q := v267) hF65.e hF65.e (of_decide_eq_true hg66)) (by kernel_rfl) (fun _ => hS61) (fun a67 hF67 => ?_)
           refine al_run (fun _ _ _ _ _ h => h) 4 [8, 9] rfl [0, 6, 7, 8, 24, 25, 29, 30, 38, 40, 42, 47, 49] [(0, i6 v1), (6, .slice (some ⟨b36, 0, none⟩) (IntKind.i64.wrap (32 * v1)).toNat (IntKind.i64.wrap (32 * v1)).toNat), (7, i6 v212), (8, .int .u16 (rd v21 v212.toNat)), (24, .agg (ic .u16 v21).toArray), (25, i6 v212), (29, i6 v1), (30, i6 v267), (38, .slice (some ⟨b36, 0, none⟩) (IntKind.i64.wrap (32 * v1)).toNat (IntKind.i64.wrap (32 * v1)).toNat), (40, i6 (IntKind.i64.wrap ((IntKind.i64.wrap ((IntKind.i64.wrap (v212 * v1)) + v267)).tdiv 8))), (42, .int .u8 (rd v266 ((IntKind.i64.wrap ((IntKind.i64.wrap ((IntKind.i64.wrap (v212 * v1)) + v267)).tdiv 8)).toNat))), (47, .int .u8 (IntKind.u8.wrap (iand .u16 (ishr .u16 (rd v21 v212.toNat) v267) 1))), (49, i6 ((IntKind.i64.wrap ((IntKind.i64.wrap (v212 * v1)) + v267)).tmod 8))] hF67 (by kernel_rfl) (fun _ => hS61) (fun a68 hF68 => ?_)
           obtain ⟨hg69, h⟩ := gd_ok h
           refine al_any (i := 12) rfl (by kernel_rfl) (fun _ _ _ _ h => h) hF68 (by kernel_rfl) (v := .int .u8 (ishl .u8 (IntKind.u8.wrap (iand .u16 (ishr .u16 (rd v21 v212.toNat) v267) 1)) ((IntKind.i64.wrap ((IntKind.i64.wrap (v212 * v1)) + v267)).tmod 8))) (fun _ => run_shift rfl (.inl rfl) (k := .u8) (yk := .i64) (p := (IntKind.u8.wrap (iand .u16 (ishr .u16 (rd v21 v212.toNat) v267) 1))) (q := ((IntKind.i64.wrap ((IntKind.i64.wrap (v212 * v1)) + v267)).tmod 8)) hF68.e hF68.e (of_decide_eq_true hg69)) (by kernel_rfl) (fun _ => hS61) (fun a70 hF70 => ?_)
           refine al_run (fun _ _ _ _ _ h => h) 2 [13] rfl [0, 6, 7, 8, 24, 25, 29, 30, 38, 40, 51] [(0, i6 v1), (6, .slice (some ⟨b36, 0, none⟩) (IntKind.i64.wrap (32 * v1)).toNat (IntKind.i64.wrap (32 * v1)).toNat), (7, i6 v212), (8, .int .u16 (rd v21 v212.toNat)), (24, .agg (ic .u16 v21).toArray), (25, i6 v212), (29, i6 v1), (30, i6 v267), (38, .slice (some ⟨b36, 0, none⟩) (IntKind.i64.wrap (32 * v1)).toNat (IntKind.i64.wrap (32 * v1)).toNat), (40, i6 (IntKind.i64.wrap ((IntKind.i64.wrap ((IntKind.i64.wrap (v212 * v1)) + v267)).tdiv 8))), (51, .int .u8 (ior .u8 (rd v266 ((IntKind.i64.wrap ((IntKind.i64.wrap ((IntKind.i64.wrap (v212 * v1)) + v267)).tdiv 8)).toNat)) (ishl .u8 (IntKind.u8.wrap (iand .u16 (ishr .u16 (rd v21 v212.toNat) v267) 1)) ((IntKind.i64.wrap ((IntKind.i64.wrap (v212 * v1)) + v267)).tmod 8))))] hF70 (by kernel_rfl) (fun _ => hS61) (fun a71 hF71 => ?_)
           refine al_any (i := 14) rfl (by kernel_rfl) (fun _ _ _ _ h => h) hF71 (by kernel_rfl) (v := pp b36 ((IntKind.i64.wrap ((IntKind.i64.wrap ((IntKind.i64.wrap (v212 * v1)) + v267)).tdiv 8)).toNat)) (fun _ => run_indexS rfl (ao := some ⟨b36, 0, none⟩) (m := (IntKind.i64.wrap (32 * v1)).toNat) (c := (IntKind.i64.wrap (32 * v1)).toNat) hF71.e rfl (k := .i64) (i := (IntKind.i64.wrap ((IntKind.i64.wrap ((IntKind.i64.wrap (v212 * v1)) + v267)).tdiv 8))) hF71.e (E := 5) (by kernel_rfl) (s := 1) (by kernel_rfl) (inb_ok hg63) (r := (IntKind.i64.wrap ((IntKind.i64.wrap ((IntKind.i64.wrap (v212 * v1)) + v267)).tdiv 8)).toNat) (by simp only [offOf, Option.map_some, Option.getD_some, Nat.zero_add, Nat.mul_one])) (by kernel_rfl) (fun _ => hS61) (fun a72 hF72 => ?_)
           refine al_one (i := 15) rfl (by kernel_rfl) hF72 (by kernel_rfl) (wp_store1 hF72 hS61 rfl 0 rfl (off := (IntKind.i64.wrap ((IntKind.i64.wrap ((IntKind.i64.wrap (v212 * v1)) + v267)).tdiv 8)).toNat) (v := .int .u8 (ior .u8 (rd v266 ((IntKind.i64.wrap ((IntKind.i64.wrap ((IntKind.i64.wrap (v212 * v1)) + v267)).tdiv 8)).toNat)) (ishl .u8 (IntKind.u8.wrap (iand .u16 (ishr .u16 (rd v21 v212.toNat) v267) 1)) ((IntKind.i64.wrap ((IntKind.i64.wrap (v212 * v1)) + v267)).tmod 8)))) (by kernel_rfl) rfl rfl (.ic (lt_len (inb_nat hg63) hl_v266)) (L' := [.blk b36 (ic .u8 (v266.set ((IntKind.i64.wrap ((IntKind.i64.wrap ((IntKind.i64.wrap (v212 * v1)) + v267)).tdiv 8)).toNat) (ior .u8 (rd v266 ((IntKind.i64.wrap ((IntKind.i64.wrap ((IntKind.i64.wrap (v212 * v1)) + v267)).tdiv 8)).toNat)) (ishl .u8 (IntKind.u8.wrap (iand .u16 (ishr .u16 (rd v21 v212.toNat) v267) 1)) ((IntKind.i64.wrap ((IntKind.i64.wrap (v212 * v1)) + v267)).tmod 8))))) 5, .blk b11 (ic .u16 v21) 61]) rfl (fun w73 a74 hS74 hF74 => (And.intro (late_yes (by kernel_rfl)) ?_)))
           refine al_done (by kernel_rfl) ?_ _
           refine NoPanic.normal (blk_n (then_n ?_))
           obtain ⟨v291, hv_v291, h⟩ := nm_ok h
           have hl_v291 : v291.length = (IntKind.i64.wrap (32 * v1)).toNat := (congrArg List.length hv_v291).trans (len_is ((v266.set ((IntKind.i64.wrap ((IntKind.i64.wrap ((IntKind.i64.wrap (v212 * v1)) + v267)).tdiv 8)).toNat) (ior .u8 (rd v266 ((IntKind.i64.wrap ((IntKind.i64.wrap ((IntKind.i64.wrap (v212 * v1)) + v267)).tdiv 8)).toNat)) (ishl .u8 (IntKind.u8.wrap (iand .u16 (ishr .u16 (rd v21 v212.toNat) v267) 1)) ((IntKind.i64.wrap ((IntKind.i64.wrap (v212 * v1)) + v267)).tmod 8))))) (n := (IntKind.i64.wrap (32 * v1)).toNat) (List.length_set.trans hl_v266))
           have hS75 := St.eqv (M := [.blk b36 (ic .u8 v291) 5, .blk b11 (ic .u16 v21) 61]) hS74 (by rw [hv_v291])
           refine wp_region_lit ?_
           refine wplp 2 [0, 6, 7, 8, 24, 25, 29, 30] [(0, i6 v1), (6, .slice (some ⟨b36, 0, none⟩) (IntKind.i64.wrap (32 * v1)).toNat (IntKind.i64.wrap (32 * v1)).toNat), (7, i6 v212), (8, .int .u16 (rd v21 v212.toNat)), (24, .agg (ic .u16 v21).toArray), (25, i6 v212), (29, i6 v1), (30, i6 (IntKind.i64.wrap (v267 + 1)))] hF74 (fun a76 hF76 => (wpList_nil ?_))
           exact ⟨k55, Nat.lt_succ_self _, v291, (IntKind.i64.wrap (v267 + 1)), h, Fr.pick [0, 6, 7, 8, 24, 25, 29, 30] (by kernel_rfl) hF76, hS75.sub (.cons_cons _ (.cons_cons _ (.slnil))), hl_v291⟩
          ·
           have h := if_f ht58 hr55
           refine wp_exit ?_
           refine then_x (then_x (cut_x ?_))
           have hr := Option.some.inj h
           subst hr
           exact ⟨_, rfl, Fr.pick [0, 6, 24, 25] (by kernel_rfl) hF57, hS55.sub (.cons_cons _ (.cons_cons _ (.slnil))), hl_v266⟩
        ·
         rintro a77 w78 ⟨v268, hev, hF77, hS77, hl_v268⟩
         subst hev
         refine blk_n (then_n (wp_region_lit ?_))
         refine wplp 2 [0, 6, 24, 25] [(0, i6 v1), (6, .slice (some ⟨b36, 0, none⟩) (IntKind.i64.wrap (32 * v1)).toNat (IntKind.i64.wrap (32 * v1)).toNat), (24, .agg (ic .u16 v21).toArray), (25, i6 (IntKind.i64.wrap (v212 + 1)))] hF77 (fun a79 hF79 => (wpList_nil ?_))
         exact ⟨k44, Nat.lt_succ_self _, v268, (IntKind.i64.wrap (v212 + 1)), h, Fr.pick [0, 6, 24, 25] (by kernel_rfl) hF79, hS77.sub (.cons_cons _ (.cons_cons _ (.slnil))), hl_v268⟩
       ·
        have h := if_f ht47 hr44
        refine wp_exit ?_
        refine then_x (then_x (cut_x ?_))
        have hr := Option.some.inj h
        subst hr
        exact ⟨_, rfl, Fr.pick [6] (by kernel_rfl) hF46, hS44.sub (.cons_cons _ (.cons_cons _ (.slnil))), hl_v211⟩
     ·
      rintro a80 w81 ⟨v213, hev, hF80, hS80, hl_v213⟩
      subst hev
      refine then_n (wp_seq (wp_region_lit ?_))
      refine wplp 3 [4, 5] [(4, .slice (some ⟨b36, 0, none⟩) (IntKind.i64.wrap (32 * v1)).toNat (IntKind.i64.wrap (32 * v1)).toNat), (5, i6 0)] hF80 (fun a82 hF82 => (wpList_nil (then_n (wp_ret (ret_ok hF82 [.slice (some ⟨b36, 0, none⟩) (IntKind.i64.wrap (32 * v1)).toNat (IntKind.i64.wrap (32 * v1)).toNat, i6 0] (⟨by kernel_rfl, by kernel_rfl, trivial⟩) ?_)))))
      have hS83 := St.eqv (M := [.sl (some ⟨b36, 0, none⟩) ((IntKind.i64.wrap (32 * v1)).toNat) ((IntKind.i64.wrap (32 * v1)).toNat) 1 (ic .u8 v213) 5, .blk b11 (ic .u16 v21) 61]) (St.toSl hS80 0 rfl (m := (IntKind.i64.wrap (32 * v1)).toNat) ((ic_len _ _).trans hl_v213) (by have h1 := (Bool.and_eq_true _ _ ▸ hg35); have h2 := of_decide_eq_true h1.2; omega)) rfl
      have hr0 := Option.some.inj h
      obtain ⟨hq0, hr1⟩ := Prod.mk.inj hr0
      subst hq0
      subst hr1
      exact ⟨(some ⟨b36, 0, none⟩), ((IntKind.i64.wrap (32 * v1)).toNat), ((IntKind.i64.wrap (32 * v1)).toNat), (Eq.symm (hl_v213 : (v213).length = (IntKind.i64.wrap (32 * v1)).toNat)), rfl, hS83.sub (.cons_cons _ (.cons _ (.slnil)))⟩
    ·
     have h := if_f ht27 h
     refine wp_skip (then_n (wp_seq (wp_region_lit ?_)))
     refine wplp 2 [0, 3, 22] [(0, i6 v1), (3, pp b11 0), (22, i6 (IntKind.i64.wrap (32 * v1)))] hF26 (fun a84 hF84 => ?_)
     obtain ⟨hg85, h⟩ := gd_ok h
     refine wpl_one hF84 (by kernel_rfl) (wp_make hF84 hS13 rfl (E := 5) (by kernel_rfl) (by_ := 1) (z := .int .u8 0) (by kernel_rfl) (by kernel_rfl) rfl (k1 := .i64) (k2 := .i64) (i := (IntKind.i64.wrap (32 * v1))) (by kernel_rfl) (by kernel_rfl) hg85 (by decide) (m := (IntKind.i64.wrap (32 * v1)).toNat) rfl (cs := ic .u8 (List.replicate ((IntKind.i64.wrap (32 * v1)).toNat) (0 : Int))) (ic_rep _ _ _) (by kernel_rfl) (fun b86 w87 a88 hS88 hF88 => ?_))
     refine wplp 1 [0, 3, 6] [(0, i6 v1), (3, pp b11 0), (6, .slice (some ⟨b86, 0, none⟩) (IntKind.i64.wrap (32 * v1)).toNat (IntKind.i64.wrap (32 * v1)).toNat)] hF88 (fun a89 hF89 => (wpList_nil (then_n (wp_seq (wp_seq (wp_region_lit ?_))))))
     refine wpl_val hF89 (by kernel_rfl) (v := .agg (ic .u16 v2).toArray) (run_loadR rfl (b := b11) (off := 0) hF89.e (by kernel_rfl) (k := 256) (by kernel_rfl) (((ic_len _ _).trans hl_v2) : (ic .u16 v2).length = 256) (hS88.all 1 rfl)) (by kernel_rfl) (fun a90 hF90 => ?_)
     refine wplp 1 [0, 6, 24, 25] [(0, i6 v1), (6, .slice (some ⟨b86, 0, none⟩) (IntKind.i64.wrap (32 * v1)).toNat (IntKind.i64.wrap (32 * v1)).toNat), (24, .agg (ic .u16 v2).toArray), (25, i6 0)] hF90 (fun a91 hF91 => (wpList_nil (then_n ?_)))
     obtain ⟨ev92, hl93, h⟩ := bind_ok h
     refine block_cut (fun a' w' => ∃ (v487 : List Int), v487 = ev92 ∧ Fr 56 [] [(6, .slice (some ⟨b86, 0, none⟩) (IntKind.i64.wrap (32 * v1)).toNat (IntKind.i64.wrap (32 * v1)).toNat)] a' ∧ St w w' [.blk b86 (ic .u8 v487) 5, .blk b11 (ic .u16 v2) 61] ∧ v487.length = (IntKind.i64.wrap (32 * v1)).toNat) ?_ ?_
     ·
      refine wp_loop_ghost (fun k a' w' => ∃ (v485 : List Int) (v486 : Int), i_ring_Encode_l7 v1 v2 k v485 v486 = some ev92 ∧ Fr 56 [] [(0, i6 v1), (6, .slice (some ⟨b86, 0, none⟩) (IntKind.i64.wrap (32 * v1)).toNat (IntKind.i64.wrap (32 * v1)).toNat), (24, .agg (ic .u16 v2).toArray), (25, i6 v486)] a' ∧ St w w' [.blk b86 (ic .u8 v485) 5, .blk b11 (ic .u16 v2) 61] ∧ v485.length = (IntKind.i64.wrap (32 * v1)).toNat) LIM ⟨(List.replicate ((IntKind.i64.wrap (32 * v1)).toNat) (0 : Int)), 0, hl93, Fr.pick [0, 6, 24, 25] (by kernel_rfl) hF91, hS88, (len_is (List.replicate ((IntKind.i64.wrap (32 * v1)).toNat) (0 : Int)) (n := ((IntKind.i64.wrap (32 * v1)).toNat)) (List.length_replicate))⟩ ?_
      rintro k94 a94 w95 ⟨v485, v486, hr94, hF94, hS94, hl_v485⟩
      cases k94 with
      | zero => rw [i_ring_Encode_l7] at hr94; cases hr94
      | succ k94 =>
       rw [i_ring_Encode_l7] at hr94
       refine wp_seq (wp_region_lit ?_)
       refine wplp 1 [0, 6, 24, 25, 26] [(0, i6 v1), (6, .slice (some ⟨b86, 0, none⟩) (IntKind.i64.wrap (32 * v1)).toNat (IntKind.i64.wrap (32 * v1)).toNat), (24, .agg (ic .u16 v2).toArray), (25, i6 v486), (26, .bool (decide (v486 < 256)))] hF94 (fun a96 hF96 => (wpList_nil (then_n (wp_seq ?_))))
       refine wp_cond_split (t := (decide (v486 < 256))) hF96.e (fun ht97 => ?_) (fun ht97 => ?_)
       ·
        have h := if_t ht97 hr94
        refine wp_skip (then_n (wp_seq (wp_block (wp_seq (wp_region_lit ?_)))))
        refine wplp 1 [0, 6, 24, 25, 27] [(0, i6 v1), (6, .slice (some ⟨b86, 0, none⟩) (IntKind.i64.wrap (32 * v1)).toNat (IntKind.i64.wrap (32 * v1)).toNat), (24, .agg (ic .u16 v2).toArray), (25, i6 v486), (27, i6 v486)] hF96 (fun a98 hF98 => ?_)
        obtain ⟨hg99, h⟩ := gd_ok h
        refine wpl_val hF98 (by kernel_rfl) (v := .int .u16 (rd v2 v486.toNat)) (run_indexV rfl (cs := ic .u16 v2) hF98.e (k := .i64) (i := v486) hF98.e (len := 256) (E := 23) (by kernel_rfl) (by kernel_rfl) (by kernel_rfl) (inb_ok hg99) (j := v486.toNat) rfl (ic_get (lt_len (inb_nat hg99) hl_v2))) (by kernel_rfl) (fun a100 hF100 => ?_)
        refine wplp 2 [0, 6, 7, 8, 24, 25] [(0, i6 v1), (6, .slice (some ⟨b86, 0, none⟩) (IntKind.i64.wrap (32 * v1)).toNat (IntKind.i64.wrap (32 * v1)).toNat), (7, i6 v486), (8, .int .u16 (rd v2 v486.toNat)), (24, .agg (ic .u16 v2).toArray), (25, i6 v486)] hF100 (fun a101 hF101 => (wpList_nil (then_n (wp_seq (wp_region_lit ?_)))))
        refine wplp 2 [0, 6, 7, 8, 24, 25, 29, 30] [(0, i6 v1), (6, .slice (some ⟨b86, 0, none⟩) (IntKind.i64.wrap (32 * v1)).toNat (IntKind.i64.wrap (32 * v1)).toNat), (7, i6 v486), (8, .int .u16 (rd v2 v486.toNat)), (24, .agg (ic .u16 v2).toArray), (25, i6 v486), (29, i6 v1), (30, i6 0)] hF101 (fun a102 hF102 => (wpList_nil (then_n ?_)))
        obtain ⟨ev103, hl104, h⟩ := bind_ok h
        refine block_cut (fun a' w' => ∃ (v542 : List Int), v542 = ev103 ∧ Fr 56 [] [(0, i6 v1), (6, .slice (some ⟨b86, 0, none⟩) (IntKind.i64.wrap (32 * v1)).toNat (IntKind.i64.wrap (32 * v1)).toNat), (24, .agg (ic .u16 v2).toArray), (25, i6 v486)] a' ∧ St w w' [.blk b86 (ic .u8 v542) 5, .blk b11 (ic .u16 v2) 61] ∧ v542.length = (IntKind.i64.wrap (32 * v1)).toNat) ?_ ?_
        ·
         refine wp_loop_ghost (fun k a' w' => ∃ (v540 : List Int) (v541 : Int), i_ring_Encode_l8 v1 v486 v2 k v540 v541 = some ev103 ∧ Fr 56 [] [(0, i6 v1), (6, .slice (some ⟨b86, 0, none⟩) (IntKind.i64.wrap (32 * v1)).toNat (IntKind.i64.wrap (32 * v1)).toNat), (7, i6 v486), (8, .int .u16 (rd v2 v486.toNat)), (24, .agg (ic .u16 v2).toArray), (25, i6 v486), (29, i6 v1), (30, i6 v541)] a' ∧ St w w' [.blk b86 (ic .u8 v540) 5, .blk b11 (ic .u16 v2) 61] ∧ v540.length = (IntKind.i64.wrap (32 * v1)).toNat) LIM ⟨v485, 0, hl104, Fr.pick [0, 6, 7, 8, 24, 25, 29, 30] (by kernel_rfl) hF102, hS94, hl_v485⟩ ?_
         rintro k105 a105 w106 ⟨v540, v541, hr105, hF105, hS105, hl_v540⟩
         cases k105 with
         | zero => rw [i_ring_Encode_l8] at hr105; cases hr105
         | succ k105 =>
          rw [i_ring_Encode_l8] at hr105
          refine wp_seq (wp_region_lit ?_)
          refine wplp 1 [0, 6, 7, 8, 24, 25, 29, 30, 31] [(0, i6 v1), (6, .slice (some ⟨b86, 0, none⟩) (IntKind.i64.wrap (32 * v1)).toNat (IntKind.i64.wrap (32 * v1)).toNat), (7, i6 v486), (8, .int .u16 (rd v2 v486.toNat)), (24, .agg (ic .u16 v2).toArray), (25, i6 v486), (29, i6 v1), (30, i6 v541), (31, .bool (decide (v541 < v1)))] hF105 (fun a107 hF107 => (wpList_nil (then_n (wp_seq ?_))))
          refine wp_cond_split (t := (decide (v541 < v1))) hF107.e (fun ht108 => ?_) (fun ht108 => ?_)
          ·
           have h := if_t ht108 hr105
           refine wp_skip (then_n (wp_seq (wp_block (wp_seq (wp_region_lit ?_)))))
           refine wplp 2 [0, 6, 7, 8, 9, 24, 25, 29, 30] [(0, i6 v1), (6, .slice (some ⟨b86, 0, none⟩) (IntKind.i64.wrap (32 * v1)).toNat (IntKind.i64.wrap (32 * v1)).toNat), (7, i6 v486), (8, .int .u16 (rd v2 v486.toNat)), (9, i6 v541), (24, .agg (ic .u16 v2).toArray), (25, i6 v486), (29, i6 v1), (30, i6 v541)] hF107 (fun a109 hF109 => (wpList_nil (then_n (wp_seq (wp_region_lit ?_)))))
           refine wplp 6 [0, 6, 7, 8, 9, 10, 24, 25, 29, 30] [(0, i6 v1), (6, .slice (some ⟨b86, 0, none⟩) (IntKind.i64.wrap (32 * v1)).toNat (IntKind.i64.wrap (32 * v1)).toNat), (7, i6 v486), (8, .int .u16 (rd v2 v486.toNat)), (9, i6 v541), (10, i6 (IntKind.i64.wrap ((IntKind.i64.wrap (v486 * v1)) + v541))), (24, .agg (ic .u16 v2).toArray), (25, i6 v486), (29, i6 v1), (30, i6 v541)] hF109 (fun a110 hF110 => (wpList_nil (then_n (wp_region_noPanic (region_al [15] (fun w' => St w w' [.blk b86 (ic .u8 v540) 5, .blk b11 (ic .u16 v2) 61]) 16 rfl (by kernel_rfl) ?_)))))
           have hS111 := St.draw1 hS105
           refine al_run (fun _ _ _ _ _ h => h) 9 [0, 1, 2, 5, 6, 10, 11] rfl [0, 6, 7, 8, 24, 25, 29, 30, 38, 40, 43, 44, 49] [(0, i6 v1), (6, .slice (some ⟨b86, 0, none⟩) (IntKind.i64.wrap (32 * v1)).toNat (IntKind.i64.wrap (32 * v1)).toNat), (7, i6 v486), (8, .int .u16 (rd v2 v486.toNat)), (24, .agg (ic .u16 v2).toArray), (25, i6 v486), (29, i6 v1), (30, i6 v541), (38, .slice (some ⟨b86, 0, none⟩) (IntKind.i64.wrap (32 * v1)).toNat (IntKind.i64.wrap (32 * v1)).toNat), (40, i6 (IntKind.i64.wrap ((IntKind.i64.wrap ((IntKind.i64.wrap (v486 * v1)) + v541)).tdiv 8))), (43, .int .u16 (rd v2 v486.toNat)), (44, i6 v541), (49, i6 ((IntKind.i64.wrap ((IntKind.i64.wrap (v486 * v1)) + v541)).tmod 8))] hF110 (by kernel_rfl) (fun _ => hS111) (fun a112 hF112 => ?_)
           obtain ⟨hg113, h⟩ := gd_ok h
           refine al_any (i := 3) rfl (by kernel_rfl) (fun _ _ _ _ h => h) hF112 (by kernel_rfl) (v := pp b86 ((IntKind.i64.wrap ((IntKind.i64.wrap ((IntKind.i64.wrap (v486 * v1)) + v541)).tdiv 8)).toNat)) (fun _ => run_indexS rfl (ao := some ⟨b86, 0, none⟩) (m := (IntKind.i64.wrap (32 * v1)).toNat) (c := (IntKind.i64.wrap (32 * v1)).toNat) hF112.e rfl (k := .i64) (i := (IntKind.i64.wrap ((IntKind.i64.wrap ((IntKind.i64.wrap (v486 * v1)) + v541)).tdiv 8))) hF112.e (E := 5) (by kernel_rfl) (s := 1) (by kernel_rfl) (inb_ok hg113) (r := (IntKind.i64.wrap ((IntKind.i64.wrap ((IntKind.i64.wrap (v486 * v1)) + v541)).tdiv 8)).toNat) (by simp only [offOf, Option.map_some, Option.getD_some, Nat.zero_add, Nat.mul_one])) (by kernel_rfl) (fun _ => hS111) (fun a114 hF114 => ?_)
           refine al_val (i := 4) rfl (by kernel_rfl) (fun _ _ _ _ h => h) hF114 (by kernel_rfl) (v := .int .u8 (rd v540 ((IntKind.i64.wrap ((IntKind.i64.wrap ((IntKind.i64.wrap (v486 * v1)) + v541)).tdiv 8)).toNat))) (fun _ HS => run_load1 rfl (b := b86) (off := (IntKind.i64.wrap ((IntKind.i64.wrap ((IntKind.i64.wrap (v486 * v1)) + v541)).tdiv 8)).toNat) hF114.e (by kernel_rfl) (HS.at 0 rfl ((IntKind.i64.wrap ((IntKind.i64.wrap ((IntKind.i64.wrap (v486 * v1)) + v541)).tdiv 8)).toNat) (ic_get (lt_len (inb_nat hg113) hl_v540)))) (by kernel_rfl) (hS111.sub (.cons_cons _ (.cons_cons _ (.slnil)))) (fun a115 hF115 => ?_)
           obtain ⟨hg116, h⟩ := gd_ok h
           refine al_any (i := 7) rfl (by kernel_rfl) (fun _ _ _ _ h => h) hF115 (by kernel_rfl) (v := .int .u16 (ishr .u16 (rd v2 v486.toNat) v541)) (fun _ => run_shift rfl (.inr rfl) (k := .u16) (yk := .i64) (p := (rd v2 v486.toNat)) (q := v541) hF115.e hF115.e (of_decide_eq_true hg116)) (by kernel_rfl) (fun _ => hS111) (fun a117 hF117 => ?_)
           refine al_run (fun _ _ _ _ _ h => h) 4 [8, 9] rfl [0, 6, 7, 8, 24, 25, 29, 30, 38, 40, 42, 47, 49] [(0, i6 v1), (6, .slice (some ⟨b86, 0, none⟩) (IntKind.i64.wrap (32 * v1)).toNat (IntKind.i64.wrap (32 * v1)).toNat), (7, i6 v486), (8, .int .u16 (rd v2 v486.toNat)), (24, .agg (ic .u16 v2).toArray), (25, i6 v486), (29, i6 v1), (30, i6 v541), (38, .slice (some ⟨b86, 0, none⟩) (IntKind.i64.wrap (32 * v1)).toNat (IntKind.i64.wrap (32 * v1)).toNat), (40, i6 (IntKind.i64.wrap ((IntKind.i64.wrap ((IntKind.i64.wrap (v486 * v1)) + v541)).tdiv 8))), (42, .int .u8 (rd v540 ((IntKind.i64.wrap ((IntKind.i64.wrap ((IntKind.i64.wrap (v486 * v1)) + v541)).tdiv 8)).toNat))), (47, .int .u8 (IntKind.u8.wrap (iand .u16 (ishr .u16 (rd v2 v486.toNat) v541) 1))), (49, i6 ((IntKind.i64.wrap ((IntKind.i64.wrap (v486 * v1)) + v541)).tmod 8))] hF117 (by kernel_rfl) (fun _ => hS111) (fun a118 hF118 => ?_)
           obtain ⟨hg119, h⟩ := gd_ok h
           refine al_any (i := 12) rfl (by kernel_rfl) (fun _ _ _ _ h => h) hF118 (by kernel_rfl) (v := .int .u8 (ishl .u8 (IntKind.u8.wrap (iand .u16 (ishr .u16 (rd v2 v486.toNat) v541) 1)) ((IntKind.i64.wrap ((IntKind.i64.wrap (v486 * v1)) + v541)).tmod 8))) (fun _ => run_shift rfl (.inl rfl) (k := .u8) (yk := .i64) (p := (IntKind.u8.wrap (iand .u16 (ishr .u16 (rd v2 v486.toNat) v541) 1))) (q := ((IntKind.i64.wrap ((IntKind.i64.wrap (v486 * v1)) + v541)).tmod 8)) hF118.e hF118.e (of_decide_eq_true hg119)) (by kernel_rfl) (fun _ => hS111) (fun a120 hF120 => ?_)
           refine al_run (fun _ _ _ _ _ h => h) 2 [13] rfl [0, 6, 7, 8, 24, 25, 29, 30, 38, 40, 51] [(0, i6 v1), (6, .slice (some ⟨b86, 0, none⟩) (IntKind.i64.wrap (32 * v1)).toNat (IntKind.i64.wrap (32 * v1)).toNat), (7, i6 v486), (8, .int .u16 (rd v2 v486.toNat)), (24, .agg (ic .u16 v2).toArray), (25, i6 v486), (29, i6 v1), (30, i6 v541), (38, .slice (some ⟨b86, 0, none⟩) (IntKind.i64.wrap (32 * v1)).toNat (IntKind.i64.wrap (32 * v1)).toNat), (40, i6 (IntKind.i64.wrap ((IntKind.i64.wrap ((IntKind.i64.wrap (v486 * v1)) + v541)).tdiv 8))), (51, .int .u8 (ior .u8 (rd v540 ((IntKind.i64.wrap ((IntKind.i64.wrap ((IntKind.i64.wrap (v486 * v1)) + v541)).tdiv 8)).toNat)) (ishl .u8 (IntKind.u8.wrap (iand .u16 (ishr .u16 (rd v2 v486.toNat) v541) 1)) ((IntKind.i64.wrap ((IntKind.i64.wrap (v486 * v1)) + v541)).tmod 8))))] hF120 (by kernel_rfl) (fun _ => hS111) (fun a121 hF121 => ?_)
           refine al_any (i := 14) rfl (by kernel_rfl) (fun _ _ _ _ h => h) hF121 (by kernel_rfl) (v := pp b86 ((IntKind.i64.wrap ((IntKind.i64.wrap ((IntKind.i64.wrap (v486 * v1)) + v541)).tdiv 8)).toNat)) (fun _ => run_indexS rfl (ao := some ⟨b86, 0, none⟩) (m := (IntKind.i64.wrap (32 * v1)).toNat) (c := (IntKind.i64.wrap (32 * v1)).toNat) hF121.e rfl (k := .i64) (i := (IntKind.i64.wrap ((IntKind.i64.wrap ((IntKind.i64.wrap (v486 * v1)) + v541)).tdiv 8))) hF121.e (E := 5) (by kernel_rfl) (s := 1) (by kernel_rfl) (inb_ok hg113) (r := (IntKind.i64.wrap ((IntKind.i64.wrap ((IntKind.i64.wrap (v486 * v1)) + v541)).tdiv 8)).toNat) (by simp only [offOf, Option.map_some, Option.getD_some, Nat.zero_add, Nat.mul_one])) (by kernel_rfl) (fun _ => hS111) (fun a122 hF122 => ?_)
           refine al_one (i := 15) rfl (by kernel_rfl) hF122 (by kernel_rfl) (wp_store1 hF122 hS111 rfl 0 rfl (off := (IntKind.i64.wrap ((IntKind.i64.wrap ((IntKind.i64.wrap (v486 * v1)) + v541)).tdiv 8)).toNat) (v := .int .u8 (ior .u8 (rd v540 ((IntKind.i64.wrap ((IntKind.i64.wrap ((IntKind.i64.wrap (v486 * v1)) + v541)).tdiv 8)).toNat)) (ishl .u8 (IntKind.u8.wrap (iand .u16 (ishr .u16 (rd v2 v486.toNat) v541) 1)) ((IntKind.i64.wrap ((IntKind.i64.wrap (v486 * v1)) + v541)).tmod 8)))) (by kernel_rfl) rfl rfl (.ic (lt_len (inb_nat hg113) hl_v540)) (L' := [.blk b86 (ic .u8 (v540.set ((IntKind.i64.wrap ((IntKind.i64.wrap ((IntKind.i64.wrap (v486 * v1)) + v541)).tdiv 8)).toNat) (ior .u8 (rd v540 ((IntKind.i64.wrap ((IntKind.i64.wrap ((IntKind.i64.wrap (v486 * v1)) + v541)).tdiv 8)).toNat)) (ishl .u8 (IntKind.u8.wrap (iand .u16 (ishr .u16 (rd v2 v486.toNat) v541) 1)) ((IntKind.i64.wrap ((IntKind.i64.wrap (v486 * v1)) + v541)).tmod 8))))) 5, .blk b11 (ic .u16 v2) 61]) rfl (fun w123 a124 hS124 hF124 => (And.intro (late_yes (by kernel_rfl)) ?_)))
           refine al_done (by kernel_rfl) ?_ _
           refine NoPanic.normal (blk_n (then_n ?_))
           obtain ⟨v565, hv_v565, h⟩ := nm_ok h
           have hl_v565 : v565.length = (IntKind.i64.wrap (32 * v1)).toNat := (congrArg List.length hv_v565).trans (len_is ((v540.set ((IntKind.i64.wrap ((IntKind.i64.wrap ((IntKind.i64.wrap (v486 * v1)) + v541)).tdiv 8)).toNat) (ior .u8 (rd v540 ((IntKind.i64.wrap ((IntKind.i64.wrap ((IntKind.i64.wrap (v486 * v1)) + v541)).tdiv 8)).toNat)) (ishl .u8 (IntKind.u8.wrap (iand .u16 (ishr .u16 (rd v2 v486.toNat) v541) 1)) ((IntKind.i64.wrap ((IntKind.i64.wrap (v486 * v1)) + v541)).tmod 8))))) (n := (IntKind.i64.wrap (32 * v1)).toNat) (List.length_set.trans hl_v540))
           have hS125 := St.eqv (M := [.blk b86 (ic .u8 v565) 5, .blk b11 (ic .u16 v2) 61]) hS124 (by rw [hv_v565])
           refine wp_region_lit ?_
           refine wplp 2 [0, 6, 7, 8, 24, 25, 29, 30] [(0, i6 v1), (6, .slice (some ⟨b86, 0, none⟩) (IntKind.i64.wrap (32 * v1)).toNat (IntKind.i64.wrap (32 * v1)).toNat), (7, i6 v486), (8, .int .u16 (rd v2 v486.toNat)), (24, .agg (ic .u16 v2).toArray), (25, i6 v486), (29, i6 v1), (30, i6 (IntKind.i64.wrap (v541 + 1)))] hF124 (fun a126 hF126 => (wpList_nil ?_))
           exact ⟨k105, Nat.lt_succ_self _, v565, (IntKind.i64.wrap (v541 + 1)), h, Fr.pick [0, 6, 7, 8, 24, 25, 29, 30] (by kernel_rfl) hF126, hS125.sub (.cons_cons _ (.cons_cons _ (.slnil))), hl_v565⟩
          ·
           have h := if_f ht108 hr105
           refine wp_exit ?_
           refine then_x (then_x (cut_x ?_))
           have hr := Option.some.inj h
           subst hr
           exact ⟨_, rfl, Fr.pick [0, 6, 24, 25] (by kernel_rfl) hF107, hS105.sub (.cons_cons _ (.cons_cons _ (.slnil))), hl_v540⟩
        ·
         rintro a127 w128 ⟨v542, hev, hF127, hS127, hl_v542⟩
         subst hev
         refine blk_n (then_n (wp_region_lit ?_))
         refine wplp 2 [0, 6, 24, 25] [(0, i6 v1), (6, .slice (some ⟨b86, 0, none⟩) (IntKind.i64.wrap (32 * v1)).toNat (IntKind.i64.wrap (32 * v1)).toNat), (24, .agg (ic .u16 v2).toArray), (25, i6 (IntKind.i64.wrap (v486 + 1)))] hF127 (fun a129 hF129 => (wpList_nil ?_))
         exact ⟨k94, Nat.lt_succ_self _, v542, (IntKind.i64.wrap (v486 + 1)), h, Fr.pick [0, 6, 24, 25] (by kernel_rfl) hF129, hS127.sub (.cons_cons _ (.cons_cons _ (.slnil))), hl_v542⟩
       ·
        have h := if_f ht97 hr94
        refine wp_exit ?_
        refine then_x (then_x (cut_x ?_))
        have hr := Option.some.inj h
        subst hr
        exact ⟨_, rfl, Fr.pick [6] (by kernel_rfl) hF96, hS94.sub (.cons_cons _ (.cons_cons _ (.slnil))), hl_v485⟩
     ·
      rintro a130 w131 ⟨v487, hev, hF130, hS130, hl_v487⟩
      subst hev
      refine then_n (wp_seq (wp_region_lit ?_))
      refine wplp 3 [4, 5] [(4, .slice (some ⟨b86, 0, none⟩) (IntKind.i64.wrap (32 * v1)).toNat (IntKind.i64.wrap (32 * v1)).toNat), (5, i6 0)] hF130 (fun a132 hF132 => (wpList_nil (then_n (wp_ret (ret_ok hF132 [.slice (some ⟨b86, 0, none⟩) (IntKind.i64.wrap (32 * v1)).toNat (IntKind.i64.wrap (32 * v1)).toNat, i6 0] (⟨by kernel_rfl, by kernel_rfl, trivial⟩) ?_)))))
      have hS133 := St.eqv (M := [.sl (some ⟨b86, 0, none⟩) ((IntKind.i64.wrap (32 * v1)).toNat) ((IntKind.i64.wrap (32 * v1)).toNat) 1 (ic .u8 v487) 5, .blk b11 (ic .u16 v2) 61]) (St.toSl hS130 0 rfl (m := (IntKind.i64.wrap (32 * v1)).toNat) ((ic_len _ _).trans hl_v487) (by have h1 := (Bool.and_eq_true _ _ ▸ hg85); have h2 := of_decide_eq_true h1.2; omega)) rfl
      have hr0 := Option.some.inj h
      obtain ⟨hq0, hr1⟩ := Prod.mk.inj hr0
      subst hq0
      subst hr1
      exact ⟨(some ⟨b86, 0, none⟩), ((IntKind.i64.wrap (32 * v1)).toNat), ((IntKind.i64.wrap (32 * v1)).toNat), (Eq.symm (hl_v487 : (v487).length = (IntKind.i64.wrap (32 * v1)).toNat)), rfl, hS133.sub (.cons_cons _ (.cons _ (.slnil)))⟩
def i_ring_raw_l4 (v1 : Int) (v182 : Int) (v2 : List Int) : Nat → List Int → Int → Option (List Int)
  | 0, _, _ => none
  | k + 1, v239, v240 =>
    (if (decide (v240 < v1)) = true then (if inb v182 256 = true then (if inb (IntKind.i64.wrap ((IntKind.i64.wrap ((IntKind.i64.wrap (v182 * v1)) + v240)).tdiv 8)) v2.length = true then (if decide (0 ≤ ((IntKind.i64.wrap ((IntKind.i64.wrap (v182 * v1)) + v240)).tmod 8)) = true then (if decide (0 ≤ v240) = true then (nm_ (v239.set v182.toNat (ior .u16 (rd v239 v182.toNat) (ishl .u16 (IntKind.u16.wrap (iand .u8 (ishr .u8 (rd v2 ((IntKind.i64.wrap ((IntKind.i64.wrap ((IntKind.i64.wrap (v182 * v1)) + v240)).tdiv 8)).toNat)) ((IntKind.i64.wrap ((IntKind.i64.wrap (v182 * v1)) + v240)).tmod 8)) 1)) v240))) fun v267 => i_ring_raw_l4 v1 v182 v2 k v267 (IntKind.i64.wrap (v240 + 1))) else none) else none) else none) else none) else some (v239))
def i_ring_raw_l3 (v1 : Int) (v2 : List Int) : Nat → List Int → Int → Option (List Int)
  | 0, _, _ => none
  | k + 1, v181, v182 =>
    (if (decide (v182 < 256)) = true then ((i_ring_raw_l4 v1 v182 v2 LIM v181 0).bind fun v241 => i_ring_raw_l3 v1 v2 k v241 (IntKind.i64.wrap (v182 + 1))) else some (v181))
def i_ring_raw (v1 : Int) (v2 : List Int) : Option (List Int) :=
  ((i_ring_raw_l3 v1 v2 LIM (List.replicate 256 (0 : Int)) 0).bind fun v183 => some v183)
theorem i_ring_raw_ok (v1 : Int) (v2 : List Int) {w : World} {o10 : Option Addr} {n11 k12 : Nat} (hn_n11 : v2.length = n11) (hrd_o10 : Rd w o10 n11 k12 (ic .u8 v2)) (c0 : List Int) (h : i_ring_raw v1 v2 = some c0) : Calls Try.prog 40 #[i6 v1, .slice o10 n11 k12] w (Ret (fun v w' => v = .agg (ic .u16 c0).toArray ∧ St w w' [] ∧ c0.length = 256)) := by
  unfold i_ring_raw at h
  refine calls_of_wp Try.func40 rfl ?_
  have hF := Fr.start (#[i6 v1, .slice o10 v2.length k12] : Array Value) 39 41 [(0, i6 v1), (1, .slice o10 v2.length k12)] rfl (by kernel_rfl)
  subst hn_n11
  have hS : St w w [.ro o10 v2.length k12 (ic .u8 v2)] := St.start' ⟨hrd_o10, trivial⟩ rfl
  refine go_fr hF (fun a hF => (wp_seq (wp_region_lit ?_)))
  refine wpl_one hF (by kernel_rfl) (wp_alloc hF hS rfl (z := .agg (ic .u16 (rz 256)).toArray) (by kernel_rfl) (ic .u16 (rz 256)) rfl (by kernel_rfl) (fun b13 w14 a15 hS15 hF15 => (wpList_nil (then_n (wp_seq (wp_region_lit ?_))))))
  refine wpl_one hF15 (by kernel_rfl) (wp_alloc hF15 hS15 rfl (z := .agg (ic .u16 (rz 256)).toArray) (by kernel_rfl) (ic .u16 (rz 256)) rfl (by kernel_rfl) (fun b16 w17 a18 hS18 hF18 => (wpList_nil (then_n (wp_seq (wp_seq (wp_region_lit ?_)))))))
  refine wplp 1 [0, 1, 4, 5, 9] [(0, i6 v1), (1, .slice o10 v2.length k12), (4, pp b13 0), (5, pp b16 0), (9, i6 0)] hF18 (fun a19 hF19 => (wpList_nil (then_n ?_)))
  obtain ⟨ev20, hl21, h⟩ := bind_ok h
  refine block_cut (fun a' w' => ∃ (v183 : List Int), v183 = ev20 ∧ Fr 41 [] [(4, pp b13 0), (5, pp b16 0)] a' ∧ St w w' [.blk b16 (ic .u16 v183) 61, .blk b13 (ic .u16 (rz 256)) 61, .ro o10 v2.length k12 (ic .u8 v2)] ∧ v183.length = 256) ?_ ?_
  ·
   refine wp_loop_ghost (fun k a' w' => ∃ (v181 : List Int) (v182 : Int), i_ring_raw_l3 v1 v2 k v181 v182 = some ev20 ∧ Fr 41 [] [(0, i6 v1), (1, .slice o10 v2.length k12), (4, pp b13 0), (5, pp b16 0), (9, i6 v182)] a' ∧ St w w' [.blk b16 (ic .u16 v181) 61, .blk b13 (ic .u16 (rz 256)) 61, .ro o10 v2.length k12 (ic .u8 v2)] ∧ v181.length = 256) LIM ⟨(rz 256), 0, hl21, Fr.pick [0, 1, 4, 5, 9] (by kernel_rfl) hF19, hS18, (len_is (rz 256) (n := 256) (List.length_replicate))⟩ ?_
   rintro k22 a22 w23 ⟨v181, v182, hr22, hF22, hS22, hl_v181⟩
   cases k22 with
   | zero => rw [i_ring_raw_l3] at hr22; cases hr22
   | succ k22 =>
    rw [i_ring_raw_l3] at hr22
    refine wp_seq (wp_region_lit ?_)
    refine wplp 1 [0, 1, 4, 5, 9, 10] [(0, i6 v1), (1, .slice o10 v2.length k12), (4, pp b13 0), (5, pp b16 0), (9, i6 v182), (10, .bool (decide (v182 < 256)))] hF22 (fun a24 hF24 => (wpList_nil (then_n (wp_seq ?_))))
    refine wp_cond_split (t := (decide (v182 < 256))) hF24.e (fun ht25 => ?_) (fun ht25 => ?_)
    ·
     have h := if_t ht25 hr22
     refine wp_skip (then_n (wp_seq (wp_block (wp_seq (wp_region_lit ?_)))))
     refine wplp 2 [0, 1, 4, 5, 6, 9] [(0, i6 v1), (1, .slice o10 v2.length k12), (4, pp b13 0), (5, pp b16 0), (6, i6 v182), (9, i6 v182)] hF24 (fun a26 hF26 => (wpList_nil (then_n (wp_seq (wp_region_lit ?_)))))
     refine wplp 2 [0, 1, 4, 5, 6, 9, 12, 13] [(0, i6 v1), (1, .slice o10 v2.length k12), (4, pp b13 0), (5, pp b16 0), (6, i6 v182), (9, i6 v182), (12, i6 v1), (13, i6 0)] hF26 (fun a27 hF27 => (wpList_nil (then_n ?_)))
     obtain ⟨ev28, hl29, h⟩ := bind_ok h
     refine block_cut (fun a' w' => ∃ (v241 : List Int), v241 = ev28 ∧ Fr 41 [] [(0, i6 v1), (1, .slice o10 v2.length k12), (4, pp b13 0), (5, pp b16 0), (9, i6 v182)] a' ∧ St w w' [.blk b16 (ic .u16 v241) 61, .blk b13 (ic .u16 (rz 256)) 61, .ro o10 v2.length k12 (ic .u8 v2)] ∧ v241.length = 256) ?_ ?_
     ·
      refine wp_loop_ghost (fun k a' w' => ∃ (v239 : List Int) (v240 : Int), i_ring_raw_l4 v1 v182 v2 k v239 v240 = some ev28 ∧ Fr 41 [] [(0, i6 v1), (1, .slice o10 v2.length k12), (4, pp b13 0), (5, pp b16 0), (6, i6 v182), (9, i6 v182), (12, i6 v1), (13, i6 v240)] a' ∧ St w w' [.blk b16 (ic .u16 v239) 61, .blk b13 (ic .u16 (rz 256)) 61, .ro o10 v2.length k12 (ic .u8 v2)] ∧ v239.length = 256) LIM ⟨v181, 0, hl29, Fr.pick [0, 1, 4, 5, 6, 9, 12, 13] (by kernel_rfl) hF27, hS22, hl_v181⟩ ?_
      rintro k30 a30 w31 ⟨v239, v240, hr30, hF30, hS30, hl_v239⟩
      cases k30 with
      | zero => rw [i_ring_raw_l4] at hr30; cases hr30
      | succ k30 =>
       rw [i_ring_raw_l4] at hr30
       refine wp_seq (wp_region_lit ?_)
       refine wplp 1 [0, 1, 4, 5, 6, 9, 12, 13, 14] [(0, i6 v1), (1, .slice o10 v2.length k12), (4, pp b13 0), (5, pp b16 0), (6, i6 v182), (9, i6 v182), (12, i6 v1), (13, i6 v240), (14, .bool (decide (v240 < v1)))] hF30 (fun a32 hF32 => (wpList_nil (then_n (wp_seq ?_))))
       refine wp_cond_split (t := (decide (v240 < v1))) hF32.e (fun ht33 => ?_) (fun ht33 => ?_)
       ·
        have h := if_t ht33 hr30
        refine wp_skip (then_n (wp_seq (wp_block (wp_seq (wp_region_lit ?_)))))
        refine wplp 2 [0, 1, 4, 5, 6, 7, 9, 12, 13] [(0, i6 v1), (1, .slice o10 v2.length k12), (4, pp b13 0), (5, pp b16 0), (6, i6 v182), (7, i6 v240), (9, i6 v182), (12, i6 v1), (13, i6 v240)] hF32 (fun a34 hF34 => (wpList_nil (then_n (wp_seq (wp_region_lit ?_)))))
        refine wplp 6 [0, 1, 4, 5, 6, 7, 8, 9, 12, 13] [(0, i6 v1), (1, .slice o10 v2.length k12), (4, pp b13 0), (5, pp b16 0), (6, i6 v182), (7, i6 v240), (8, i6 (IntKind.i64.wrap ((IntKind.i64.wrap (v182 * v1)) + v240))), (9, i6 v182), (12, i6 v1), (13, i6 v240)] hF34 (fun a35 hF35 => (wpList_nil (then_n (wp_region_noPanic (region_al [17] (fun w' => St w w' [.blk b16 (ic .u16 v239) 61, .blk b13 (ic .u16 (rz 256)) 61, .ro o10 v2.length k12 (ic .u8 v2)]) 18 rfl (by kernel_rfl) ?_)))))
        have hS36 := St.draw1 hS30
        refine al_run (fun _ _ _ _ _ h => h) 11 [0, 3, 4, 5, 8, 9, 13] rfl [0, 1, 4, 5, 6, 9, 12, 13, 21, 24, 26, 30, 34] [(0, i6 v1), (1, .slice o10 v2.length k12), (4, pp b13 0), (5, pp b16 0), (6, i6 v182), (9, i6 v182), (12, i6 v1), (13, i6 v240), (21, i6 v182), (24, .slice o10 v2.length k12), (26, i6 (IntKind.i64.wrap ((IntKind.i64.wrap ((IntKind.i64.wrap (v182 * v1)) + v240)).tdiv 8))), (30, i6 ((IntKind.i64.wrap ((IntKind.i64.wrap (v182 * v1)) + v240)).tmod 8)), (34, i6 v240)] hF35 (by kernel_rfl) (fun _ => hS36) (fun a37 hF37 => ?_)
        obtain ⟨hg38, h⟩ := gd_ok h
        refine al_any (i := 1) rfl (by kernel_rfl) (fun _ _ _ _ h => h) hF37 (by kernel_rfl) (v := pp b16 v182.toNat) (fun _ => run_indexA rfl (b := b16) (off := 0) hF37.e (k := .i64) (i := v182) hF37.e (len := 256) (E := 23) (by kernel_rfl) (s := 1) (by kernel_rfl) (inb_ok hg38) (r := v182.toNat) (by simp only [Nat.zero_add, Nat.mul_one])) (by kernel_rfl) (fun _ => hS36) (fun a39 hF39 => ?_)
        refine al_val (i := 2) rfl (by kernel_rfl) (fun _ _ _ _ h => h) hF39 (by kernel_rfl) (v := .int .u16 (rd v239 v182.toNat)) (fun _ HS => run_load1 rfl (b := b16) (off := v182.toNat) hF39.e (by kernel_rfl) (HS.at 0 rfl (v182.toNat) (ic_get (lt_len (inb_nat hg38) hl_v239)))) (by kernel_rfl) (hS36.sub (.cons_cons _ (.cons_cons _ (.cons_cons _ (.slnil))))) (fun a40 hF40 => ?_)
        obtain ⟨hg41, h⟩ := gd_ok h
        refine al_any (i := 6) rfl (by kernel_rfl) (fun _ _ _ _ h => h) hF40 (by kernel_rfl) (v := pp (blkOf o10) (offOf o10 + (IntKind.i64.wrap ((IntKind.i64.wrap ((IntKind.i64.wrap (v182 * v1)) + v240)).tdiv 8)).toNat)) (fun _ => run_indexS rfl (ao := o10) (m := v2.length) (c := k12) hF40.e (rd_ne hS36 2 rfl rfl (j := (IntKind.i64.wrap ((IntKind.i64.wrap ((IntKind.i64.wrap (v182 * v1)) + v240)).tdiv 8)).toNat) (v := .int .u8 (rd v2 (IntKind.i64.wrap ((IntKind.i64.wrap ((IntKind.i64.wrap (v182 * v1)) + v240)).tdiv 8)).toNat)) (ic_get (lt_len (inb_nat hg41) (len_is (v2) (n := v2.length) rfl)))) (k := .i64) (i := (IntKind.i64.wrap ((IntKind.i64.wrap ((IntKind.i64.wrap (v182 * v1)) + v240)).tdiv 8))) hF40.e (E := 5) (by kernel_rfl) (s := 1) (by kernel_rfl) (inb_ok hg41) (r := offOf o10 + (IntKind.i64.wrap ((IntKind.i64.wrap ((IntKind.i64.wrap (v182 * v1)) + v240)).tdiv 8)).toNat) (by simp only [Nat.mul_one])) (by kernel_rfl) (fun _ => hS36) (fun a42 hF42 => ?_)
        refine al_val (i := 7) rfl (by kernel_rfl) (fun _ _ _ _ h => h) hF42 (by kernel_rfl) (v := .int .u8 (rd v2 ((IntKind.i64.wrap ((IntKind.i64.wrap ((IntKind.i64.wrap (v182 * v1)) + v240)).tdiv 8)).toNat))) (fun _ HS => run_load1 rfl (b := blkOf o10) (off := offOf o10 + (IntKind.i64.wrap ((IntKind.i64.wrap ((IntKind.i64.wrap (v182 * v1)) + v240)).tdiv 8)).toNat) hF42.e (by kernel_rfl) (HS.atA 2 rfl rfl ((IntKind.i64.wrap ((IntKind.i64.wrap ((IntKind.i64.wrap (v182 * v1)) + v240)).tdiv 8)).toNat) (ic_get (lt_len (inb_nat hg41) (len_is (v2) (n := v2.length) rfl))))) (by kernel_rfl) (hS36.sub (.cons_cons _ (.cons_cons _ (.cons_cons _ (.slnil))))) (fun a43 hF43 => ?_)
        obtain ⟨hg44, h⟩ := gd_ok h
        refine al_any (i := 10) rfl (by kernel_rfl) (fun _ _ _ _ h => h) hF43 (by kernel_rfl) (v := .int .u8 (ishr .u8 (rd v2 ((IntKind.i64.wrap ((IntKind.i64.wrap ((IntKind.i64.wrap (v182 * v1)) + v240)).tdiv 8)).toNat)) ((IntKind.i64.wrap ((IntKind.i64.wrap (v182 * v1)) + v240)).tmod 8))) (fun _ => run_shift rfl (.inr rfl) (k := .u8) (yk := .i64) (p := (rd v2 ((IntKind.i64.wrap ((IntKind.i64.wrap ((IntKind.i64.wrap (v182 * v1)) + v240)).tdiv 8)).toNat))) (q := ((IntKind.i64.wrap ((IntKind.i64.wrap (v182 * v1)) + v240)).tmod 8)) hF43.e hF43.e (of_decide_eq_true hg44)) (by kernel_rfl) (fun _ => hS36) (fun a45 hF45 => ?_)
        refine al_run (fun _ _ _ _ _ h => h) 4 [11, 12] rfl [0, 1, 4, 5, 6, 9, 12, 13, 21, 23, 33, 34] [(0, i6 v1), (1, .slice o10 v2.length k12), (4, pp b13 0), (5, pp b16 0), (6, i6 v182), (9, i6 v182), (12, i6 v1), (13, i6 v240), (21, i6 v182), (23, .int .u16 (rd v239 v182.toNat)), (33, .int .u16 (IntKind.u16.wrap (iand .u8 (ishr .u8 (rd v2 ((IntKind.i64.wrap ((IntKind.i64.wrap ((IntKind.i64.wrap (v182 * v1)) + v240)).tdiv 8)).toNat)) ((IntKind.i64.wrap ((IntKind.i64.wrap (v182 * v1)) + v240)).tmod 8)) 1))), (34, i6 v240)] hF45 (by kernel_rfl) (fun _ => hS36) (fun a46 hF46 => ?_)
        obtain ⟨hg47, h⟩ := gd_ok h
        refine al_any (i := 14) rfl (by kernel_rfl) (fun _ _ _ _ h => h) hF46 (by kernel_rfl) (v := .int .u16 (ishl .u16 (IntKind.u16.wrap (iand .u8 (ishr .u8 (rd v2 ((IntKind.i64.wrap ((IntKind.i64.wrap ((IntKind.i64.wrap (v182 * v1)) + v240)).tdiv 8)).toNat)) ((IntKind.i64.wrap ((IntKind.i64.wrap (v182 * v1)) + v240)).tmod 8)) 1)) v240)) (fun _ => run_shift rfl (.inl rfl) (k := .u16) (yk := .i64) (p := (IntKind.u16.wrap (iand .u8 (ishr .u8 (rd v2 ((IntKind.i64.wrap ((IntKind.i64.wrap ((IntKind.i64.wrap (v182 * v1)) + v240)).tdiv 8)).toNat)) ((IntKind.i64.wrap ((IntKind.i64.wrap (v182 * v1)) + v240)).tmod 8)) 1))) (q := v240) hF46.e hF46.e (of_decide_eq_true hg47)) (by kernel_rfl) (fun _ => hS36) (fun a48 hF48 => ?_)
        refine al_run (fun _ _ _ _ _ h => h) 2 [15] rfl [0, 1, 4, 5, 6, 9, 12, 13, 21, 36] [(0, i6 v1), (1, .slice o10 v2.length k12), (4, pp b13 0), (5, pp b16 0), (6, i6 v182), (9, i6 v182), (12, i6 v1), (13, i6 v240), (21, i6 v182), (36, .int .u16 (ior .u16 (rd v239 v182.toNat) (ishl .u16 (IntKind.u16.wrap (iand .u8 (ishr .u8 (rd v2 ((IntKind.i64.wrap ((IntKind.i64.wrap ((IntKind.i64.wrap (v182 * v1)) + v240)).tdiv 8)).toNat)) ((IntKind.i64.wrap ((IntKind.i64.wrap (v182 * v1)) + v240)).tmod 8)) 1)) v240)))] hF48 (by kernel_rfl) (fun _ => hS36) (fun a49 hF49 => ?_)
        refine al_any (i := 16) rfl (by kernel_rfl) (fun _ _ _ _ h => h) hF49 (by kernel_rfl) (v := pp b16 v182.toNat) (fun _ => run_indexA rfl (b := b16) (off := 0) hF49.e (k := .i64) (i := v182) hF49.e (len := 256) (E := 23) (by kernel_rfl) (s := 1) (by kernel_rfl) (inb_ok hg38) (r := v182.toNat) (by simp only [Nat.zero_add, Nat.mul_one])) (by kernel_rfl) (fun _ => hS36) (fun a50 hF50 => ?_)
        refine al_one (i := 17) rfl (by kernel_rfl) hF50 (by kernel_rfl) (wp_store1 hF50 hS36 rfl 0 rfl (off := v182.toNat) (v := .int .u16 (ior .u16 (rd v239 v182.toNat) (ishl .u16 (IntKind.u16.wrap (iand .u8 (ishr .u8 (rd v2 ((IntKind.i64.wrap ((IntKind.i64.wrap ((IntKind.i64.wrap (v182 * v1)) + v240)).tdiv 8)).toNat)) ((IntKind.i64.wrap ((IntKind.i64.wrap (v182 * v1)) + v240)).tmod 8)) 1)) v240))) (by kernel_rfl) rfl rfl (.ic (lt_len (inb_nat hg38) hl_v239)) (L' := [.blk b16 (ic .u16 (v239.set v182.toNat (ior .u16 (rd v239 v182.toNat) (ishl .u16 (IntKind.u16.wrap (iand .u8 (ishr .u8 (rd v2 ((IntKind.i64.wrap ((IntKind.i64.wrap ((IntKind.i64.wrap (v182 * v1)) + v240)).tdiv 8)).toNat)) ((IntKind.i64.wrap ((IntKind.i64.wrap (v182 * v1)) + v240)).tmod 8)) 1)) v240)))) 61, .blk b13 (ic .u16 (rz 256)) 61, .ro o10 v2.length k12 (ic .u8 v2)]) rfl (fun w51 a52 hS52 hF52 => (And.intro (late_yes (by kernel_rfl)) ?_)))
        refine al_done (by kernel_rfl) ?_ _
        refine NoPanic.normal (blk_n (then_n ?_))
        obtain ⟨v267, hv_v267, h⟩ := nm_ok h
        have hl_v267 : v267.length = 256 := (congrArg List.length hv_v267).trans (len_is ((v239.set v182.toNat (ior .u16 (rd v239 v182.toNat) (ishl .u16 (IntKind.u16.wrap (iand .u8 (ishr .u8 (rd v2 ((IntKind.i64.wrap ((IntKind.i64.wrap ((IntKind.i64.wrap (v182 * v1)) + v240)).tdiv 8)).toNat)) ((IntKind.i64.wrap ((IntKind.i64.wrap (v182 * v1)) + v240)).tmod 8)) 1)) v240)))) (n := 256) (List.length_set.trans hl_v239))
        have hS53 := St.eqv (M := [.blk b16 (ic .u16 v267) 61, .blk b13 (ic .u16 (rz 256)) 61, .ro o10 v2.length k12 (ic .u8 v2)]) hS52 (by rw [hv_v267])
        refine wp_region_lit ?_
        refine wplp 2 [0, 1, 4, 5, 6, 9, 12, 13] [(0, i6 v1), (1, .slice o10 v2.length k12), (4, pp b13 0), (5, pp b16 0), (6, i6 v182), (9, i6 v182), (12, i6 v1), (13, i6 (IntKind.i64.wrap (v240 + 1)))] hF52 (fun a54 hF54 => (wpList_nil ?_))
        exact ⟨k30, Nat.lt_succ_self _, v267, (IntKind.i64.wrap (v240 + 1)), h, Fr.pick [0, 1, 4, 5, 6, 9, 12, 13] (by kernel_rfl) hF54, hS53.sub (.cons_cons _ (.cons_cons _ (.cons_cons _ (.slnil)))), hl_v267⟩
       ·
        have h := if_f ht33 hr30
        refine wp_exit ?_
        refine then_x (then_x (cut_x ?_))
        have hr := Option.some.inj h
        subst hr
        exact ⟨_, rfl, Fr.pick [0, 1, 4, 5, 9] (by kernel_rfl) hF32, hS30.sub (.cons_cons _ (.cons_cons _ (.cons_cons _ (.slnil)))), hl_v239⟩
     ·
      rintro a55 w56 ⟨v241, hev, hF55, hS55, hl_v241⟩
      subst hev
      refine blk_n (then_n (wp_region_lit ?_))
      refine wplp 2 [0, 1, 4, 5, 9] [(0, i6 v1), (1, .slice o10 v2.length k12), (4, pp b13 0), (5, pp b16 0), (9, i6 (IntKind.i64.wrap (v182 + 1)))] hF55 (fun a57 hF57 => (wpList_nil ?_))
      exact ⟨k22, Nat.lt_succ_self _, v241, (IntKind.i64.wrap (v182 + 1)), h, Fr.pick [0, 1, 4, 5, 9] (by kernel_rfl) hF57, hS55.sub (.cons_cons _ (.cons_cons _ (.cons_cons _ (.slnil)))), hl_v241⟩
    ·
     have h := if_f ht25 hr22
     refine wp_exit ?_
     refine then_x (then_x (cut_x ?_))
     have hr := Option.some.inj h
     subst hr
     exact ⟨_, rfl, Fr.pick [4, 5] (by kernel_rfl) hF24, hS22.sub (.cons_cons _ (.cons_cons _ (.cons_cons _ (.slnil)))), hl_v181⟩
  ·
   rintro a58 w59 ⟨v183, hev, hF58, hS58, hl_v183⟩
   subst hev
   refine then_n (wp_seq (wp_region_lit ?_))
   refine wpl_val hF58 (by kernel_rfl) (v := .agg (ic .u16 v183).toArray) (run_loadR rfl (b := b16) (off := 0) hF58.e (by kernel_rfl) (k := 256) (by kernel_rfl) (((ic_len _ _).trans hl_v183) : (ic .u16 v183).length = 256) (hS58.all 0 rfl)) (by kernel_rfl) (fun a60 hF60 => ?_)
   refine wpl_one hF60 (by kernel_rfl) (wp_store hF60 hS58 rfl 1 rfl (off := 0) (by kernel_rfl) (v := .agg (ic .u16 v183).toArray) (by kernel_rfl) (vs := ic .u16 v183) rfl (k := 256) (by kernel_rfl) (((ic_len _ _).trans hl_v183) : (ic .u16 v183).length = 256) (by have h2 := (((ic_len _ _).trans (len_is (rz 256) (n := 256) (List.length_replicate))) : (ic .u16 (rz 256)).length = 256); omega) (ic_one _ _) (cs' := ic .u16 v183) ((upd_ic _ _ _ _).trans (congrArg (ic .u16) (upd_all ((hl_v183).trans ((len_is (rz 256) (n := 256) (List.length_replicate))).symm)))) (by kernel_rfl) (L' := [.blk b16 (ic .u16 v183) 61, .blk b13 (ic .u16 v183) 61, .ro o10 v2.length k12 (ic .u8 v2)]) rfl (fun w61 a62 hS62 hF62 => (wpList_nil (then_n (wp_ret (ret_ok hF62 [.agg (ic .u16 v183).toArray] (⟨⟨⟨b13, 0, none⟩, by kernel_rfl, loadVarR (by kernel_rfl) (k := 256) (by kernel_rfl) (((ic_len _ _).trans hl_v183) : (ic .u16 v183).length = 256) (hS62.all 1 rfl)⟩, trivial⟩) ?_))))))
   have hr0 := Option.some.inj h
   subst hr0
   exact ⟨rfl, hS62.sub (List.nil_sublist _), hl_v183⟩
end Go.Proofs.YtapilbdboeggdaaR.Gx
namespace Go.Proofs.YtapilbdboeggdaaR.Gx
open Go
def gb (b : List Int) (t : Nat) : Bool := (rd b (t / 8)).toNat.testBit (t % 8)
def pb (a : List Int) (t : Nat) : Bool := (rd a (t / 12)).toNat.testBit (t % 12)
theorem rd_set_eq {xs : List Int} {i : Nat} {v : Int} (h : i < xs.length) : rd (xs.set i v) i = v := by
  simp [rd, List.getD_eq_getElem?_getD, h]
theorem rd_set_ne {xs : List Int} {i j : Nat} {v : Int} (h : i ≠ j) : rd (xs.set i v) j = rd xs j := by
  simp [rd, List.getD_eq_getElem?_getD, List.getElem?_set_ne h]
theorem Lo.nat {m : Int} {xs : List Int} (h : Lo m xs) (hm : 0 < m) (i : Nat) : ∃ n : Nat, Gx.rd xs i = (n : Int) ∧ (n : Int) < m := by
  have := h.rd hm i
  exact ⟨(Gx.rd xs i).toNat, by omega, by omega⟩
structure EncInv (a out : List Int) (n : Nat) : Prop where
  len : out.length = 384
  lo : Lo 256 out
  bits : ∀ t, t < 3072 → gb out t = (decide (t < n) && pb a t)
theorem EncInv.step {a out : List Int} {i j : Nat} (ha : Lo 3329 a) (hi : i < 256) (hj : j < 12) (h : EncInv a out (12 * i + j)) :
    EncInv a (out.set ((12 * i + j) / 8) (ior .u8 (rd out ((12 * i + j) / 8)) (ishl .u8 (IntKind.u8.wrap (iand .u16 (ishr .u16 (rd a i) (j : Int)) 1)) (((12 * i + j) % 8 : Nat) : Int)))) (12 * i + j + 1) := by
  obtain ⟨O, hO, hO2⟩ := h.lo.nat (by decide) ((12 * i + j) / 8)
  obtain ⟨X, hX, hX2⟩ := ha.nat (by decide) i
  obtain ⟨O', e, hlt, hb⟩ := enc_step (O := O) (X := X) (kk := j) (s := (12 * i + j) % 8) (by omega) (by omega) (by omega) (Nat.mod_lt _ (by decide))
  rw [hO, hX, e]
  have hin : (12 * i + j) / 8 < out.length := by rw [h.len]; omega
  refine ⟨by rw [List.length_set]; exact h.len, h.lo.set _ (by omega) (by omega), fun t ht => ?_⟩
  unfold gb
  by_cases hq : t / 8 = (12 * i + j) / 8
  · rw [hq, rd_set_eq hin, Int.toNat_natCast, hb]
    have h1 := h.bits t ht
    unfold gb at h1
    rw [hq, hO, Int.toNat_natCast] at h1
    rw [h1]
    by_cases he : t = 12 * i + j
    · subst he
      have h2 : (12 * i + j) / 12 = i := by omega
      have h3 : (12 * i + j) % 12 = j := by omega
      simp [pb, h2, h3, hX]
    · have h4 : ¬ t % 8 = (12 * i + j) % 8 := by omega
      have h5 : (decide (t < 12 * i + j + 1)) = decide (t < 12 * i + j) := by
        by_cases hl : t < 12 * i + j
        · simp [hl]; omega
        · have : ¬ t < 12 * i + j + 1 := by omega
          simp [hl, this]
      simp [h4, h5]
  · rw [rd_set_ne (fun e => hq e.symm)]
    have h1 := h.bits t ht
    unfold gb at h1
    rw [h1]
    have h5 : (decide (t < 12 * i + j + 1)) = decide (t < 12 * i + j) := by
      by_cases hl : t < 12 * i + j
      · simp [hl]; omega
      · have : ¬ t < 12 * i + j + 1 := by intro h6; exact hq (by rw [show t = 12 * i + j from by omega])
        simp [hl, this]
    rw [h5]
theorem at8 {i j : Nat} (hi : i < 256) (hj : j < 12) : IntKind.i64.wrap ((IntKind.i64.wrap ((IntKind.i64.wrap ((i : Int) * 12)) + (j : Int))).tdiv 8) = (((12 * i + j) / 8 : Nat) : Int) := by
  rw [wi64 (x := (i : Int) * 12) (by omega) (by omega), wi64 (x := (i : Int) * 12 + j) (by omega) (by omega), td (by omega), wi64 (by omega) (by omega)]
  omega
theorem at8m {i j : Nat} (hi : i < 256) (hj : j < 12) : (IntKind.i64.wrap ((IntKind.i64.wrap ((i : Int) * 12)) + (j : Int))).tmod 8 = (((12 * i + j) % 8 : Nat) : Int) := by
  rw [wi64 (x := (i : Int) * 12) (by omega) (by omega), wi64 (x := (i : Int) * 12 + j) (by omega) (by omega), tm (by omega)]
  omega
theorem inb_n {i n : Nat} (h : i < n) : inb (i : Int) n = true := by simp [inb, h]
theorem enc_l4 {a : List Int} (ha : Lo 3329 a) {i : Nat} (hi : i < 256) : ∀ (k : Nat) (out : List Int) (j : Nat), j ≤ 12 → EncInv a out (12 * i + j) → 12 - j < k → OK (i_ring_Encode_l4 12 (i : Int) a k out (j : Int)) (fun r => EncInv a r (12 * (i + 1))) := by
  intro k
  induction k with
  | zero => intro out j _ _ hm; exact absurd hm (Nat.not_lt_zero _)
  | succ k ih =>
    intro out j hj h hm
    rw [i_ring_Encode_l4]
    refine OK.ite (fun hc => ?_) (fun hc => ?_)
    · have hc := of_decide_eq_true hc
      have hj : j < 12 := by omega
      rw [at8 hi hj, at8m hi hj]
      refine OK.grd (by rw [show (IntKind.i64.wrap (32 * 12)).toNat = 384 from by kernel_rfl]; exact inb_n (by omega)) ?_
      refine OK.grd (by simp) ?_
      refine OK.grd (by rw [decide_eq_true_eq]; exact Int.natCast_nonneg _) ?_
      refine OK.nm (fun v hv => ?_)
      rw [Int.toNat_natCast] at hv
      rw [Int.toNat_natCast] at hv
      have h2 := h.step ha hi hj
      rw [← hv] at h2
      rw [wi64 (by omega) (by omega), show (j : Int) + 1 = ((j + 1 : Nat) : Int) from rfl]
      exact ih v (j + 1) (by omega) h2 (by omega)
    · have hc := of_decide_eq_false hc
      have hj : j = 12 := by omega
      subst hj
      exact OK.some (by rw [show 12 * (i + 1) = 12 * i + 12 from by omega]; exact h)
theorem enc_l3 {a : List Int} (ha : Lo 3329 a) : ∀ (k : Nat) (out : List Int) (i : Nat), i ≤ 256 → EncInv a out (12 * i) → 256 - i < k → OK (i_ring_Encode_l3 12 a k out (i : Int)) (fun r => EncInv a r 3072) := by
  intro k
  induction k with
  | zero => intro out j _ _ hm; exact absurd hm (Nat.not_lt_zero _)
  | succ k ih =>
    intro out i hi h hm
    rw [i_ring_Encode_l3]
    refine OK.ite (fun hc => ?_) (fun hc => ?_)
    · have hc := of_decide_eq_true hc
      have hi : i < 256 := by omega
      refine OK.grd (inb_n hi) ?_
      refine OK.bind (enc_l4 ha hi LIM out 0 (by omega) h (by simp only [LIM]; omega)) (fun r hr => ?_)
      rw [wi64 (by omega) (by omega), show (i : Int) + 1 = ((i + 1 : Nat) : Int) from rfl]
      exact ih r (i + 1) (by omega) hr (by omega)
    · have hc := of_decide_eq_false hc
      have hi : i = 256 := by omega
      subst hi
      exact OK.some h
theorem gb_zero (n t : Nat) : gb (List.replicate n (0 : Int)) t = false := by
  unfold gb rd
  rw [List.getD_eq_getElem?_getD, List.getElem?_replicate]
  split <;> simp
theorem enc_new (a : List Int) : EncInv a (List.replicate 384 (0 : Int)) 0 :=
  ⟨List.length_replicate, Lo.rep _ (by decide), fun t _ => by rw [gb_zero]; simp⟩
structure RawInv (b out : List Int) (n : Nat) : Prop where
  len : out.length = 256
  lo : Lo 4096 out
  bits : ∀ t, t < 3072 → pb out t = (decide (t < n) && gb b t)
theorem RawInv.step {b out : List Int} {i j : Nat} (hb : Lo 256 b) (hi : i < 256) (hj : j < 12) (h : RawInv b out (12 * i + j)) :
    RawInv b (out.set i (ior .u16 (rd out i) (ishl .u16 (IntKind.u16.wrap (iand .u8 (ishr .u8 (rd b ((12 * i + j) / 8)) (((12 * i + j) % 8 : Nat) : Int)) 1)) (j : Int)))) (12 * i + j + 1) := by
  obtain ⟨A, hA, hA2⟩ := h.lo.nat (by decide) i
  obtain ⟨B, hB, hB2⟩ := hb.nat (by decide) ((12 * i + j) / 8)
  obtain ⟨A', e, hlt, hbt⟩ := raw_step (A := A) (B := B) (kk := j) (s := (12 * i + j) % 8) (by omega) (by omega) hj (Nat.mod_lt _ (by decide))
  rw [hA, hB, e]
  have hin : i < out.length := by rw [h.len]; exact hi
  refine ⟨by rw [List.length_set]; exact h.len, h.lo.set _ (by omega) (by omega), fun t ht => ?_⟩
  unfold pb
  by_cases hq : t / 12 = i
  · rw [hq, rd_set_eq hin, Int.toNat_natCast, hbt]
    have h1 := h.bits t ht
    unfold pb at h1
    rw [hq, hA, Int.toNat_natCast] at h1
    rw [h1]
    by_cases he : t = 12 * i + j
    · subst he
      have h3 : (12 * i + j) % 12 = j := by omega
      simp [gb, h3, hB]
    · have h4 : ¬ t % 12 = j := by omega
      have h5 : (decide (t < 12 * i + j + 1)) = decide (t < 12 * i + j) := by
        by_cases hl : t < 12 * i + j
        · simp [hl]; omega
        · have : ¬ t < 12 * i + j + 1 := by omega
          simp [hl, this]
      simp [h4, h5]
  · rw [rd_set_ne (fun e => hq e.symm)]
    have h1 := h.bits t ht
    unfold pb at h1
    rw [h1]
    have h5 : (decide (t < 12 * i + j + 1)) = decide (t < 12 * i + j) := by
      by_cases hl : t < 12 * i + j
      · simp [hl]; omega
      · have : ¬ t < 12 * i + j + 1 := by intro h6; exact hq (by omega)
        simp [hl, this]
    rw [h5]
theorem raw_l4 {b : List Int} (hbl : b.length = 384) (hb : Lo 256 b) {i : Nat} (hi : i < 256) : ∀ (k : Nat) (out : List Int) (j : Nat), j ≤ 12 → RawInv b out (12 * i + j) → 12 - j < k → OK (i_ring_raw_l4 12 (i : Int) b k out (j : Int)) (fun r => RawInv b r (12 * (i + 1))) := by
  intro k
  induction k with
  | zero => intro out j _ _ hm; exact absurd hm (Nat.not_lt_zero _)
  | succ k ih =>
    intro out j hj h hm
    rw [i_ring_raw_l4]
    refine OK.ite (fun hc => ?_) (fun hc => ?_)
    · have hc := of_decide_eq_true hc
      have hj : j < 12 := by omega
      rw [at8 hi hj, at8m hi hj]
      refine OK.grd (inb_n hi) ?_
      refine OK.grd (inb_n (by omega)) ?_
      refine OK.grd (by rw [decide_eq_true_eq]; exact Int.natCast_nonneg _) ?_
      refine OK.grd (by simp) ?_
      refine OK.nm (fun v hv => ?_)
      rw [Int.toNat_natCast, Int.toNat_natCast] at hv
      have h2 := h.step hb hi hj
      rw [← hv] at h2
      rw [wi64 (by omega) (by omega), show (j : Int) + 1 = ((j + 1 : Nat) : Int) from rfl]
      exact ih v (j + 1) (by omega) h2 (by omega)
    · have hc := of_decide_eq_false hc
      have hj : j = 12 := by omega
      subst hj
      exact OK.some (by rw [show 12 * (i + 1) = 12 * i + 12 from by omega]; exact h)
theorem raw_l3 {b : List Int} (hbl : b.length = 384) (hb : Lo 256 b) : ∀ (k : Nat) (out : List Int) (i : Nat), i ≤ 256 → RawInv b out (12 * i) → 256 - i < k → OK (i_ring_raw_l3 12 b k out (i : Int)) (fun r => RawInv b r 3072) := by
  intro k
  induction k with
  | zero => intro out j _ _ hm; exact absurd hm (Nat.not_lt_zero _)
  | succ k ih =>
    intro out i hi h hm
    rw [i_ring_raw_l3]
    refine OK.ite (fun hc => ?_) (fun hc => ?_)
    · have hc := of_decide_eq_true hc
      have hi : i < 256 := by omega
      refine OK.bind (raw_l4 hbl hb hi LIM out 0 (by omega) h (by simp only [LIM]; omega)) (fun r hr => ?_)
      rw [wi64 (by omega) (by omega), show (i : Int) + 1 = ((i + 1 : Nat) : Int) from rfl]
      exact ih r (i + 1) (by omega) hr (by omega)
    · have hc := of_decide_eq_false hc
      have hi : i = 256 := by omega
      subst hi
      exact OK.some h
theorem pb_zero (n t : Nat) : pb (List.replicate n (0 : Int)) t = false := by
  unfold pb rd
  rw [List.getD_eq_getElem?_getD, List.getElem?_replicate]
  split <;> simp
theorem raw_ok {b : List Int} (hbl : b.length = 384) (hb : Lo 256 b) : OK (i_ring_raw 12 b) (fun r => r.length = 256 ∧ Lo 4096 r ∧ ∀ t, t < 3072 → pb r t = gb b t) := by
  unfold i_ring_raw
  refine OK.bind (raw_l3 hbl hb LIM _ 0 (by omega) ⟨List.length_replicate, Lo.rep _ (by decide), fun t _ => by rw [pb_zero]; simp⟩ (by simp only [LIM]; omega)) (fun r hr => ?_)
  exact OK.some ⟨hr.len, hr.lo, fun t ht => by rw [hr.bits t ht]; simp [ht]⟩
theorem pb_ext {a r : List Int} (ha : a.length = 256) (hr : r.length = 256) (hal : Lo 4096 a) (hrl : Lo 4096 r) (h : ∀ t, t < 3072 → pb a t = pb r t) : a = r := by
  apply List.ext_getElem (by omega)
  intro i h1 h2
  obtain ⟨x, hx, hx2⟩ := hal.nat (by decide) i
  obtain ⟨y, hy, hy2⟩ := hrl.nat (by decide) i
  have hxa : a[i] = (x : Int) := by rw [← hx]; simp [rd, List.getD_eq_getElem?_getD, h1]
  have hyr : r[i] = (y : Int) := by rw [← hy]; simp [rd, List.getD_eq_getElem?_getD, h2]
  rw [hxa, hyr]
  congr 1
  apply Nat.eq_of_testBit_eq
  intro j
  by_cases hj : j < 12
  · have h3 := h (12 * i + j) (by omega)
    unfold pb at h3
    rwa [show (12 * i + j) / 12 = i from by omega, show (12 * i + j) % 12 = j from by omega, hx, hy, Int.toNat_natCast, Int.toNat_natCast] at h3
  · rw [Nat.testBit_lt_two_pow (Nat.lt_of_lt_of_le (show x < 2 ^ 12 from by omega) (Nat.pow_le_pow_right (by decide) (by omega))), Nat.testBit_lt_two_pow (Nat.lt_of_lt_of_le (show y < 2 ^ 12 from by omega) (Nat.pow_le_pow_right (by decide) (by omega)))]
end Go.Proofs.YtapilbdboeggdaaR.Gx
namespace Go.Proofs.YtapilbdboeggdaaR.Gx
open Go Go.RowKit
def i_keccak_offsets  : Option (List Int) :=
  (nm_ ([0, 1, 62, 28, 27, 36, 44, 6, 55, 20, 3, 10, 43, 25, 39, 41, 45, 15, 21, 8, 18, 2, 61, 56, 14]) fun v7 => some v7)
theorem i_keccak_offsets_ok  {w : World}  (c0 : List Int) (h : i_keccak_offsets  = some c0) : Calls Try.prog 72 #[] w (Ret (fun v w' => v = .agg (ic .i64 c0).toArray ∧ St w w' [] ∧ c0.length = 25)) := by
  unfold i_keccak_offsets at h
  refine calls_of_wp Try.func72 rfl ?_
  have hF := Fr.start (#[] : Array Value) 2 2 [] rfl (by kernel_rfl)
  have hS := St.nil w
  refine go_fr hF (fun a hF => (wp_seq (wp_region_lit ?_)))
  refine wpl_one hF (by kernel_rfl) (wp_alloc hF hS rfl (z := .agg (ic .i64 (rz 25)).toArray) (by kernel_rfl) (ic .i64 (rz 25)) rfl (by kernel_rfl) (fun b10 w11 a12 hS12 hF12 => (wpList_nil (then_n (wp_seq (wp_region_lit ?_))))))
  refine wplp 1 [0, 1] [(0, pp b10 0), (1, .agg (ic .i64 ([0, 1, 62, 28, 27, 36, 44, 6, 55, 20, 3, 10, 43, 25, 39, 41, 45, 15, 21, 8, 18, 2, 61, 56, 14])).toArray)] hF12 (fun a13 hF13 => ?_)
  refine wpl_one hF13 (by kernel_rfl) (wp_store hF13 hS12 rfl 0 rfl (off := 0) (by kernel_rfl) (v := .agg (ic .i64 ([0, 1, 62, 28, 27, 36, 44, 6, 55, 20, 3, 10, 43, 25, 39, 41, 45, 15, 21, 8, 18, 2, 61, 56, 14])).toArray) (by kernel_rfl) (vs := ic .i64 ([0, 1, 62, 28, 27, 36, 44, 6, 55, 20, 3, 10, 43, 25, 39, 41, 45, 15, 21, 8, 18, 2, 61, 56, 14])) rfl (k := 25) (by kernel_rfl) (((ic_len _ _).trans (len_is ([0, 1, 62, 28, 27, 36, 44, 6, 55, 20, 3, 10, 43, 25, 39, 41, 45, 15, 21, 8, 18, 2, 61, 56, 14] : List Int) (n := 25) rfl)) : (ic .i64 ([0, 1, 62, 28, 27, 36, 44, 6, 55, 20, 3, 10, 43, 25, 39, 41, 45, 15, 21, 8, 18, 2, 61, 56, 14])).length = 25) (by have h2 := (((ic_len _ _).trans (len_is (rz 25) (n := 25) (List.length_replicate))) : (ic .i64 (rz 25)).length = 25); omega) (ic_one _ _) (cs' := ic .i64 ([0, 1, 62, 28, 27, 36, 44, 6, 55, 20, 3, 10, 43, 25, 39, 41, 45, 15, 21, 8, 18, 2, 61, 56, 14])) ((upd_ic _ _ _ _).trans (congrArg (ic .i64) (upd_all (((len_is ([0, 1, 62, 28, 27, 36, 44, 6, 55, 20, 3, 10, 43, 25, 39, 41, 45, 15, 21, 8, 18, 2, 61, 56, 14] : List Int) (n := 25) rfl)).trans ((len_is (rz 25) (n := 25) (List.length_replicate))).symm)))) (by kernel_rfl) (L' := [.blk b10 (ic .i64 ([0, 1, 62, 28, 27, 36, 44, 6, 55, 20, 3, 10, 43, 25, 39, 41, 45, 15, 21, 8, 18, 2, 61, 56, 14])) 109]) rfl (fun w14 a15 hS15 hF15 => ?_))
  obtain ⟨v7, hv_v7, h⟩ := nm_ok h
  have hl_v7 : v7.length = 25 := (congrArg List.length hv_v7).trans (len_is ([0, 1, 62, 28, 27, 36, 44, 6, 55, 20, 3, 10, 43, 25, 39, 41, 45, 15, 21, 8, 18, 2, 61, 56, 14] : List Int) (n := 25) rfl)
  have hS16 := St.eqv (M := [.blk b10 (ic .i64 v7) 109]) hS15 (by rw [hv_v7])
  refine wpList_nil (then_n (wp_ret (ret_ok hF15 [.agg (ic .i64 v7).toArray] (⟨⟨⟨b10, 0, none⟩, by kernel_rfl, loadVarR (by kernel_rfl) (k := 25) (by kernel_rfl) (((ic_len _ _).trans hl_v7) : (ic .i64 v7).length = 25) (hS16.all 0 rfl)⟩, trivial⟩) ?_)))
  have hr0 := Option.some.inj h
  subst hr0
  exact ⟨rfl, hS16.sub (List.nil_sublist _), hl_v7⟩
def i_keccak_constants  : Option (List Int) :=
  (nm_ ([1, 32898, 9223372036854808714, 9223372039002292224, 32907, 2147483649, 9223372039002292353, 9223372036854808585, 138, 136, 2147516425, 2147483658, 2147516555, 9223372036854775947, 9223372036854808713, 9223372036854808579, 9223372036854808578, 9223372036854775936, 32778, 9223372039002259466, 9223372039002292353, 9223372036854808704, 2147483649, 9223372039002292232]) fun v7 => some v7)
theorem i_keccak_constants_ok  {w : World}  (c0 : List Int) (h : i_keccak_constants  = some c0) : Calls Try.prog 73 #[] w (Ret (fun v w' => v = .agg (ic .u64 c0).toArray ∧ St w w' [] ∧ c0.length = 24)) := by
  unfold i_keccak_constants at h
  refine calls_of_wp Try.func73 rfl ?_
  have hF := Fr.start (#[] : Array Value) 2 2 [] rfl (by kernel_rfl)
  have hS := St.nil w
  refine go_fr hF (fun a hF => (wp_seq (wp_region_lit ?_)))
  refine wpl_one hF (by kernel_rfl) (wp_alloc hF hS rfl (z := .agg (ic .u64 (rz 24)).toArray) (by kernel_rfl) (ic .u64 (rz 24)) rfl (by kernel_rfl) (fun b10 w11 a12 hS12 hF12 => (wpList_nil (then_n (wp_seq (wp_region_lit ?_))))))
  refine wplp 1 [0, 1] [(0, pp b10 0), (1, .agg (ic .u64 ([1, 32898, 9223372036854808714, 9223372039002292224, 32907, 2147483649, 9223372039002292353, 9223372036854808585, 138, 136, 2147516425, 2147483658, 2147516555, 9223372036854775947, 9223372036854808713, 9223372036854808579, 9223372036854808578, 9223372036854775936, 32778, 9223372039002259466, 9223372039002292353, 9223372036854808704, 2147483649, 9223372039002292232])).toArray)] hF12 (fun a13 hF13 => ?_)
  refine wpl_one hF13 (by kernel_rfl) (wp_store hF13 hS12 rfl 0 rfl (off := 0) (by kernel_rfl) (v := .agg (ic .u64 ([1, 32898, 9223372036854808714, 9223372039002292224, 32907, 2147483649, 9223372039002292353, 9223372036854808585, 138, 136, 2147516425, 2147483658, 2147516555, 9223372036854775947, 9223372036854808713, 9223372036854808579, 9223372036854808578, 9223372036854775936, 32778, 9223372039002259466, 9223372039002292353, 9223372036854808704, 2147483649, 9223372039002292232])).toArray) (by kernel_rfl) (vs := ic .u64 ([1, 32898, 9223372036854808714, 9223372039002292224, 32907, 2147483649, 9223372039002292353, 9223372036854808585, 138, 136, 2147516425, 2147483658, 2147516555, 9223372036854775947, 9223372036854808713, 9223372036854808579, 9223372036854808578, 9223372036854775936, 32778, 9223372039002259466, 9223372039002292353, 9223372036854808704, 2147483649, 9223372039002292232])) rfl (k := 24) (by kernel_rfl) (((ic_len _ _).trans (len_is ([1, 32898, 9223372036854808714, 9223372039002292224, 32907, 2147483649, 9223372039002292353, 9223372036854808585, 138, 136, 2147516425, 2147483658, 2147516555, 9223372036854775947, 9223372036854808713, 9223372036854808579, 9223372036854808578, 9223372036854775936, 32778, 9223372039002259466, 9223372039002292353, 9223372036854808704, 2147483649, 9223372039002292232] : List Int) (n := 24) rfl)) : (ic .u64 ([1, 32898, 9223372036854808714, 9223372039002292224, 32907, 2147483649, 9223372039002292353, 9223372036854808585, 138, 136, 2147516425, 2147483658, 2147516555, 9223372036854775947, 9223372036854808713, 9223372036854808579, 9223372036854808578, 9223372036854775936, 32778, 9223372039002259466, 9223372039002292353, 9223372036854808704, 2147483649, 9223372039002292232])).length = 24) (by have h2 := (((ic_len _ _).trans (len_is (rz 24) (n := 24) (List.length_replicate))) : (ic .u64 (rz 24)).length = 24); omega) (ic_one _ _) (cs' := ic .u64 ([1, 32898, 9223372036854808714, 9223372039002292224, 32907, 2147483649, 9223372039002292353, 9223372036854808585, 138, 136, 2147516425, 2147483658, 2147516555, 9223372036854775947, 9223372036854808713, 9223372036854808579, 9223372036854808578, 9223372036854775936, 32778, 9223372039002259466, 9223372039002292353, 9223372036854808704, 2147483649, 9223372039002292232])) ((upd_ic _ _ _ _).trans (congrArg (ic .u64) (upd_all (((len_is ([1, 32898, 9223372036854808714, 9223372039002292224, 32907, 2147483649, 9223372039002292353, 9223372036854808585, 138, 136, 2147516425, 2147483658, 2147516555, 9223372036854775947, 9223372036854808713, 9223372036854808579, 9223372036854808578, 9223372036854775936, 32778, 9223372039002259466, 9223372039002292353, 9223372036854808704, 2147483649, 9223372039002292232] : List Int) (n := 24) rfl)).trans ((len_is (rz 24) (n := 24) (List.length_replicate))).symm)))) (by kernel_rfl) (L' := [.blk b10 (ic .u64 ([1, 32898, 9223372036854808714, 9223372039002292224, 32907, 2147483649, 9223372039002292353, 9223372036854808585, 138, 136, 2147516425, 2147483658, 2147516555, 9223372036854775947, 9223372036854808713, 9223372036854808579, 9223372036854808578, 9223372036854775936, 32778, 9223372039002259466, 9223372039002292353, 9223372036854808704, 2147483649, 9223372039002292232])) 105]) rfl (fun w14 a15 hS15 hF15 => ?_))
  obtain ⟨v7, hv_v7, h⟩ := nm_ok h
  have hl_v7 : v7.length = 24 := (congrArg List.length hv_v7).trans (len_is ([1, 32898, 9223372036854808714, 9223372039002292224, 32907, 2147483649, 9223372039002292353, 9223372036854808585, 138, 136, 2147516425, 2147483658, 2147516555, 9223372036854775947, 9223372036854808713, 9223372036854808579, 9223372036854808578, 9223372036854775936, 32778, 9223372039002259466, 9223372039002292353, 9223372036854808704, 2147483649, 9223372039002292232] : List Int) (n := 24) rfl)
  have hS16 := St.eqv (M := [.blk b10 (ic .u64 v7) 105]) hS15 (by rw [hv_v7])
  refine wpList_nil (then_n (wp_ret (ret_ok hF15 [.agg (ic .u64 v7).toArray] (⟨⟨⟨b10, 0, none⟩, by kernel_rfl, loadVarR (by kernel_rfl) (k := 24) (by kernel_rfl) (((ic_len _ _).trans hl_v7) : (ic .u64 v7).length = 24) (hS16.all 0 rfl)⟩, trivial⟩) ?_)))
  have hr0 := Option.some.inj h
  subst hr0
  exact ⟨rfl, hS16.sub (List.nil_sublist _), hl_v7⟩
def i_math_bits_RotateLeft64 (v1 : Int) (v2 : Int) : Option (Int) :=
  (if decide (0 ≤ (iand .u64 (IntKind.u64.wrap v2) 63)) = true then (if decide (0 ≤ (IntKind.u64.wrap (64 - (iand .u64 (IntKind.u64.wrap v2) 63)))) = true then (nm_ (ishr .u64 v1 (IntKind.u64.wrap (64 - (iand .u64 (IntKind.u64.wrap v2) 63)))) fun v11 => some (ior .u64 (ishl .u64 v1 (iand .u64 (IntKind.u64.wrap v2) 63)) v11)) else none) else none)
theorem i_math_bits_RotateLeft64_ok (v1 : Int) (v2 : Int) {w : World}  (c0 : Int) (h : i_math_bits_RotateLeft64 v1 v2 = some c0) : Calls Try.prog 78 #[.int .u64 v1, i6 v2] w (Ret (fun v w' => v = .int .u64 c0 ∧ St w w' [])) := by
  unfold i_math_bits_RotateLeft64 at h
  refine calls_of_wp Try.func78 rfl ?_
  have hF := Fr.start (#[.int .u64 v1, i6 v2] : Array Value) 15 17 [(0, .int .u64 v1), (1, i6 v2)] rfl (by kernel_rfl)
  have hS := St.nil w
  refine go_fr hF (fun a hF => (wp_seq (wp_region_lit ?_)))
  refine wplp 1 [0, 1] [(0, .int .u64 v1), (1, i6 v2)] hF (fun a10 hF10 => (wpList_nil (then_n (wp_seq (wp_region_lit ?_)))))
  refine wplp 4 [0, 5] [(0, .int .u64 v1), (5, .int .u64 (iand .u64 (IntKind.u64.wrap v2) 63))] hF10 (fun a11 hF11 => (wpList_nil (then_n (wp_seq (wp_region_lit ?_)))))
  refine wplp 2 [0, 5, 9, 10] [(0, .int .u64 v1), (5, .int .u64 (iand .u64 (IntKind.u64.wrap v2) 63)), (9, .int .u64 v1), (10, .int .u64 (iand .u64 (IntKind.u64.wrap v2) 63))] hF11 (fun a12 hF12 => ?_)
  obtain ⟨hg13, h⟩ := gd_ok h
  refine wpl_val hF12 (by kernel_rfl) (v := .int .u64 (ishl .u64 v1 (iand .u64 (IntKind.u64.wrap v2) 63))) (run_shift rfl (.inl rfl) (k := .u64) (yk := .u64) (p := v1) (q := (iand .u64 (IntKind.u64.wrap v2) 63)) hF12.e hF12.e (of_decide_eq_true hg13)) (by kernel_rfl) (fun a14 hF14 => ?_)
  refine wplp 3 [11, 12, 14] [(11, .int .u64 (ishl .u64 v1 (iand .u64 (IntKind.u64.wrap v2) 63))), (12, .int .u64 v1), (14, .int .u64 (IntKind.u64.wrap (64 - (iand .u64 (IntKind.u64.wrap v2) 63))))] hF14 (fun a15 hF15 => ?_)
  obtain ⟨hg16, h⟩ := gd_ok h
  refine wpl_val hF15 (by kernel_rfl) (v := .int .u64 (ishr .u64 v1 (IntKind.u64.wrap (64 - (iand .u64 (IntKind.u64.wrap v2) 63))))) (run_shift rfl (.inr rfl) (k := .u64) (yk := .u64) (p := v1) (q := (IntKind.u64.wrap (64 - (iand .u64 (IntKind.u64.wrap v2) 63)))) hF15.e hF15.e (of_decide_eq_true hg16)) (by kernel_rfl) (fun a17 hF17 => ?_)
  obtain ⟨v11, hv_v11, h⟩ := nm_ok h
  have hF18 := Fr.eqv (L := [(11, .int .u64 (ishl .u64 v1 (iand .u64 (IntKind.u64.wrap v2) 63))), (15, .int .u64 (ishr .u64 v1 (IntKind.u64.wrap (64 - (iand .u64 (IntKind.u64.wrap v2) 63)))))]) (Fr.pick [11, 15] (by kernel_rfl) hF17) (M := [(11, .int .u64 (ishl .u64 v1 (iand .u64 (IntKind.u64.wrap v2) 63))), (15, .int .u64 v11)]) (by rw [hv_v11])
  refine wplp 2 [4] [(4, .int .u64 (ior .u64 (ishl .u64 v1 (iand .u64 (IntKind.u64.wrap v2) 63)) v11))] hF18 (fun a19 hF19 => (wpList_nil (then_n (wp_ret (ret_ok hF19 [.int .u64 (ior .u64 (ishl .u64 v1 (iand .u64 (IntKind.u64.wrap v2) 63)) v11)] (⟨by kernel_rfl, trivial⟩) ?_)))))
  have hr0 := Option.some.inj h
  subst hr0
  exact ⟨rfl, hS.sub (List.nil_sublist _)⟩
def i_keccak_Permute_l10 (v772 : List Int) : Nat → List Int → Int → Option (List Int)
  | 0, _, _ => none
  | k + 1, v856, v857 =>
    (if (decide (v857 < 5)) = true then (if inb v857 25 = true then (if inb (IntKind.i64.wrap (v857 + 5)) 25 = true then (if inb (IntKind.i64.wrap (v857 + 10)) 25 = true then (if inb (IntKind.i64.wrap (v857 + 15)) 25 = true then (if inb (IntKind.i64.wrap (v857 + 20)) 25 = true then (if inb v857 5 = true then (nm_ (v856.set v857.toNat (ixor .u64 (ixor .u64 (ixor .u64 (ixor .u64 (rd v772 v857.toNat) (rd v772 ((IntKind.i64.wrap (v857 + 5)).toNat))) (rd v772 ((IntKind.i64.wrap (v857 + 10)).toNat))) (rd v772 ((IntKind.i64.wrap (v857 + 15)).toNat))) (rd v772 ((IntKind.i64.wrap (v857 + 20)).toNat)))) fun v891 => i_keccak_Permute_l10 v772 k v891 (IntKind.i64.wrap (v857 + 1))) else none) else none) else none) else none) else none) else none) else some (v856))
def i_keccak_Permute_l11 (v858 : List Int) : Nat → List Int → Int → Option (List Int)
  | 0, _, _ => none
  | k + 1, v941, v942 =>
    (if (decide (v942 < 5)) = true then (if inb ((IntKind.i64.wrap (v942 + 4)).tmod 5) 5 = true then (if inb ((IntKind.i64.wrap (v942 + 1)).tmod 5) 5 = true then ((i_math_bits_RotateLeft64 (rd v858 (((IntKind.i64.wrap (v942 + 1)).tmod 5).toNat)) 1).bind fun v959 => (if inb v942 5 = true then (nm_ (v941.set v942.toNat (ixor .u64 (rd v858 (((IntKind.i64.wrap (v942 + 4)).tmod 5).toNat)) v959)) fun v968 => i_keccak_Permute_l11 v858 k v968 (IntKind.i64.wrap (v942 + 1))) else none)) else none) else none) else some (v941))
def i_keccak_Permute_l12 (v772 : List Int) (v943 : List Int) (v8 : List Int) : Nat → List Int → Int → Option (List Int)
  | 0, _, _ => none
  | k + 1, v1027, v1028 =>
    (if (decide (v1028 < 25)) = true then (if inb v1028 25 = true then (if inb (v1028.tmod 5) 5 = true then ((i_math_bits_RotateLeft64 (ixor .u64 (rd v772 v1028.toNat) (rd v943 ((v1028.tmod 5).toNat))) (rd v8 v1028.toNat)).bind fun v1049 => (if inb (IntKind.i64.wrap ((IntKind.i64.wrap (5 * ((IntKind.i64.wrap ((IntKind.i64.wrap (2 * (v1028.tmod 5))) + (IntKind.i64.wrap (3 * (IntKind.i64.wrap (v1028.tdiv 5)))))).tmod 5))) + (IntKind.i64.wrap (v1028.tdiv 5)))) 25 = true then (nm_ (v1027.set ((IntKind.i64.wrap ((IntKind.i64.wrap (5 * ((IntKind.i64.wrap ((IntKind.i64.wrap (2 * (v1028.tmod 5))) + (IntKind.i64.wrap (3 * (IntKind.i64.wrap (v1028.tdiv 5)))))).tmod 5))) + (IntKind.i64.wrap (v1028.tdiv 5)))).toNat) v1049) fun v1057 => i_keccak_Permute_l12 v772 v943 v8 k v1057 (IntKind.i64.wrap (v1028 + 1))) else none)) else none) else none) else some (v1027))
def i_keccak_Permute_l13 (v1029 : List Int) : Nat → List Int → Int → Option (List Int)
  | 0, _, _ => none
  | k + 1, v1107, v1108 =>
    (if (decide (v1108 < 25)) = true then (if inb v1108 25 = true then (if inb (IntKind.i64.wrap ((IntKind.i64.wrap ((IntKind.i64.wrap (v1108.tdiv 5)) * 5)) + ((IntKind.i64.wrap (v1108 + 1)).tmod 5))) 25 = true then (if inb (IntKind.i64.wrap ((IntKind.i64.wrap ((IntKind.i64.wrap (v1108.tdiv 5)) * 5)) + ((IntKind.i64.wrap (v1108 + 2)).tmod 5))) 25 = true then (nm_ (v1107.set v1108.toNat (ixor .u64 (rd v1029 v1108.toNat) (iand .u64 (ixor .u64 18446744073709551615 (rd v1029 ((IntKind.i64.wrap ((IntKind.i64.wrap ((IntKind.i64.wrap (v1108.tdiv 5)) * 5)) + ((IntKind.i64.wrap (v1108 + 1)).tmod 5))).toNat))) (rd v1029 ((IntKind.i64.wrap ((IntKind.i64.wrap ((IntKind.i64.wrap (v1108.tdiv 5)) * 5)) + ((IntKind.i64.wrap (v1108 + 2)).tmod 5))).toNat))))) fun v1134 => i_keccak_Permute_l13 v1029 k v1134 (IntKind.i64.wrap (v1108 + 1))) else none) else none) else none) else some (v1107))
def i_keccak_Permute_l9 (v8 : List Int) (v17 : List Int) : Nat → List Int → Int → Option (List Int)
  | 0, _, _ => none
  | k + 1, v772, v773 =>
    (if (decide (v773 < 24)) = true then (if inb v773 24 = true then ((i_keccak_Permute_l10 v772 LIM (List.replicate 5 (0 : Int)) 0).bind fun v858 => ((i_keccak_Permute_l11 v858 LIM (List.replicate 5 (0 : Int)) 0).bind fun v943 => ((i_keccak_Permute_l12 v772 v943 v8 LIM (List.replicate 25 (0 : Int)) 0).bind fun v1029 => ((i_keccak_Permute_l13 v1029 LIM v772 0).bind fun v1109 => (nm_ (v1109.set 0 (ixor .u64 (rd v1109 0) (rd v17 v773.toNat))) fun v1151 => i_keccak_Permute_l9 v8 v17 k v1151 (IntKind.i64.wrap (v773 + 1))))))) else none) else some (v772))
def i_keccak_Permute (v1 : List Int) : Option (List Int) :=
  ((i_keccak_offsets).bind fun v8 => ((i_keccak_constants).bind fun v17 => ((i_keccak_Permute_l9 v8 v17 LIM v1 0).bind fun v774 => some v774)))
theorem i_keccak_Permute_ok (v1 : List Int) {w : World} (hl_v1 : v1.length = 25) (c0 : List Int) (h : i_keccak_Permute v1 = some c0) : Calls Try.prog 61 #[.agg (ic .u64 v1).toArray] w (Ret (fun v w' => v = .agg (ic .u64 c0).toArray ∧ St w w' [] ∧ c0.length = 25)) := by
  unfold i_keccak_Permute at h
  refine calls_of_wp Try.func61 rfl ?_
  have hF := Fr.start (#[.agg (ic .u64 v1).toArray] : Array Value) 19 20 [(0, .agg (ic .u64 v1).toArray)] rfl (by kernel_rfl)
  have hS := St.nil w
  refine go_fr hF (fun a hF => (wp_seq (wp_region_lit ?_)))
  refine wpl_one hF (by kernel_rfl) (wp_box hF hS rfl (v := .agg (ic .u64 v1).toArray) (by kernel_rfl) (ic .u64 v1) rfl (by kernel_rfl) (fun b10 w11 a12 hS12 hF12 => ?_))
  refine wpl_one hF12 (by kernel_rfl) (wp_alloc hF12 hS12 rfl (z := .agg (ic .u64 (rz 25)).toArray) (by kernel_rfl) (ic .u64 (rz 25)) rfl (by kernel_rfl) (fun b13 w14 a15 hS15 hF15 => (wpList_nil (then_n (wp_seq (wp_region_lit ?_))))))
  obtain ⟨v8, hb16, h⟩ := bind_ok h
  refine wpl_one hF15 (by kernel_rfl) (wp_callR hF15 (by kernel_rfl) (g := 72) (args := #[]) (by kernel_rfl) (i_keccak_offsets_ok v8 hb16) (fun vr w17 hp => ?_))
  obtain ⟨rfl, hS18, hl_v8⟩ := hp
  replace hS18 := St.call hS15 hS18 rfl
  refine go_fr (hF15.next (.agg (ic .i64 v8).toArray) [1, 2, 6] (M := [(1, pp b10 0), (2, pp b13 0), (6, .agg (ic .i64 v8).toArray)]) (by kernel_rfl)) (fun a18 hF18 => ?_)
  refine wpl_one hF18 (by kernel_rfl) (wp_alloc hF18 hS18 rfl (z := .agg (ic .i64 (rz 25)).toArray) (by kernel_rfl) (ic .i64 (rz 25)) rfl (by kernel_rfl) (fun b19 w20 a21 hS21 hF21 => ?_))
  refine wpl_one hF21 (by kernel_rfl) (wp_store hF21 hS21 rfl 0 rfl (off := 0) (by kernel_rfl) (v := .agg (ic .i64 v8).toArray) (by kernel_rfl) (vs := ic .i64 v8) rfl (k := 25) (by kernel_rfl) (((ic_len _ _).trans hl_v8) : (ic .i64 v8).length = 25) (by have h2 := (((ic_len _ _).trans (len_is (rz 25) (n := 25) (List.length_replicate))) : (ic .i64 (rz 25)).length = 25); omega) (ic_one _ _) (cs' := ic .i64 v8) ((upd_ic _ _ _ _).trans (congrArg (ic .i64) (upd_all ((hl_v8).trans ((len_is (rz 25) (n := 25) (List.length_replicate))).symm)))) (by kernel_rfl) (L' := [.blk b19 (ic .i64 v8) 109, .blk b13 (ic .u64 (rz 25)) 72, .blk b10 (ic .u64 v1) 72]) rfl (fun w22 a23 hS23 hF23 => (wpList_nil (then_n (wp_seq (wp_seq (wp_region_lit ?_)))))))
  obtain ⟨v17, hb24, h⟩ := bind_ok h
  refine wpl_one hF23 (by kernel_rfl) (wp_callR hF23 (by kernel_rfl) (g := 73) (args := #[]) (by kernel_rfl) (i_keccak_constants_ok v17 hb24) (fun vr w25 hp => ?_))
  obtain ⟨rfl, hS26, hl_v17⟩ := hp
  replace hS26 := St.call hS23 hS26 rfl
  refine go_fr (hF23.next (.agg (ic .u64 v17).toArray) [1, 2, 3, 7] (M := [(1, pp b10 0), (2, pp b13 0), (3, pp b19 0), (7, .agg (ic .u64 v17).toArray)]) (by kernel_rfl)) (fun a26 hF26 => ?_)
  refine wplp 1 [1, 2, 3, 7, 8] [(1, pp b10 0), (2, pp b13 0), (3, pp b19 0), (7, .agg (ic .u64 v17).toArray), (8, i6 0)] hF26 (fun a27 hF27 => (wpList_nil (then_n ?_)))
  obtain ⟨ev28, hl29, h⟩ := bind_ok h
  refine block_cut (fun a' w' => ∃ (v774 : List Int), v774 = ev28 ∧ Fr 20 [] [(1, pp b10 0), (2, pp b13 0)] a' ∧ St w w' [.blk b19 (ic .i64 v8) 109, .blk b13 (ic .u64 (rz 25)) 72, .blk b10 (ic .u64 v774) 72] ∧ v774.length = 25) ?_ ?_
  ·
   refine wp_loop_ghost (fun k a' w' => ∃ (v772 : List Int) (v773 : Int), i_keccak_Permute_l9 v8 v17 k v772 v773 = some ev28 ∧ Fr 20 [] [(1, pp b10 0), (2, pp b13 0), (3, pp b19 0), (7, .agg (ic .u64 v17).toArray), (8, i6 v773)] a' ∧ St w w' [.blk b19 (ic .i64 v8) 109, .blk b13 (ic .u64 (rz 25)) 72, .blk b10 (ic .u64 v772) 72] ∧ v772.length = 25) LIM ⟨v1, 0, hl29, Fr.pick [1, 2, 3, 7, 8] (by kernel_rfl) hF27, hS26, hl_v1⟩ ?_
   rintro k30 a30 w31 ⟨v772, v773, hr30, hF30, hS30, hl_v772⟩
   cases k30 with
   | zero => rw [i_keccak_Permute_l9] at hr30; cases hr30
   | succ k30 =>
    rw [i_keccak_Permute_l9] at hr30
    refine wp_seq (wp_region_lit ?_)
    refine wplp 1 [1, 2, 3, 7, 8, 9] [(1, pp b10 0), (2, pp b13 0), (3, pp b19 0), (7, .agg (ic .u64 v17).toArray), (8, i6 v773), (9, .bool (decide (v773 < 24)))] hF30 (fun a32 hF32 => (wpList_nil (then_n (wp_seq ?_))))
    refine wp_cond_split (t := (decide (v773 < 24))) hF32.e (fun ht33 => ?_) (fun ht33 => ?_)
    ·
     have h := if_t ht33 hr30
     refine wp_skip (then_n (wp_seq (wp_block (wp_seq (wp_region_lit ?_)))))
     obtain ⟨hg34, h⟩ := gd_ok h
     refine wpl_val hF32 (by kernel_rfl) (v := .int .u64 (rd v17 v773.toNat)) (run_indexV rfl (cs := ic .u64 v17) hF32.e (k := .i64) (i := v773) hF32.e (len := 24) (E := 71) (by kernel_rfl) (by kernel_rfl) (by kernel_rfl) (inb_ok hg34) (j := v773.toNat) rfl (ic_get (lt_len (inb_nat hg34) hl_v17))) (by kernel_rfl) (fun a35 hF35 => ?_)
     refine wplp 1 [1, 2, 3, 5, 7, 8] [(1, pp b10 0), (2, pp b13 0), (3, pp b19 0), (5, .int .u64 (rd v17 v773.toNat)), (7, .agg (ic .u64 v17).toArray), (8, i6 v773)] hF35 (fun a36 hF36 => (wpList_nil (then_n (wp_seq (wp_region_lit ?_)))))
     refine wpl_val hF36 (by kernel_rfl) (v := .agg (ic .u64 v772).toArray) (run_loadR rfl (b := b10) (off := 0) hF36.e (by kernel_rfl) (k := 25) (by kernel_rfl) (((ic_len _ _).trans hl_v772) : (ic .u64 v772).length = 25) (hS30.all 2 rfl)) (by kernel_rfl) (fun a37 hF37 => ?_)
     refine wpl_one hF37 (by kernel_rfl) (wp_inl hF37 (by kernel_rfl) (g := 74) (args := #[.agg (ic .u64 v772).toArray, pp b19 0]) (by kernel_rfl) (calls_of_wp Try.func74 rfl ?_))
     refine go_fr (Fr.start (#[.agg (ic .u64 v772).toArray, pp b19 0] : Array Value) 121 123 [(0, .agg (ic .u64 v772).toArray), (1, pp b19 0)] rfl (by kernel_rfl)) (fun a38 hF38 => (wp_seq (wp_region_lit ?_)))
     refine wpl_one hF38 (by kernel_rfl) (wp_box hF38 hS30 rfl (v := .agg (ic .u64 v772).toArray) (by kernel_rfl) (ic .u64 v772) rfl (by kernel_rfl) (fun b39 w40 a41 hS41 hF41 => ?_))
     refine wpl_one hF41 (by kernel_rfl) (wp_alloc hF41 hS41 rfl (z := .agg (ic .u64 (rz 25)).toArray) (by kernel_rfl) (ic .u64 (rz 25)) rfl (by kernel_rfl) (fun b42 w43 a44 hS44 hF44 => (wpList_nil (then_n (wp_seq (wp_region_lit ?_))))))
     refine wpl_one hF44 (by kernel_rfl) (wp_alloc hF44 hS44 rfl (z := .agg (ic .u64 (rz 5)).toArray) (by kernel_rfl) (ic .u64 (rz 5)) rfl (by kernel_rfl) (fun b45 w46 a47 hS47 hF47 => ?_))
     refine wpl_one hF47 (by kernel_rfl) (wp_alloc hF47 hS47 rfl (z := .agg (ic .u64 (rz 5)).toArray) (by kernel_rfl) (ic .u64 (rz 5)) rfl (by kernel_rfl) (fun b48 w49 a50 hS50 hF50 => (wpList_nil (then_n (wp_seq (wp_seq (wp_region_lit ?_)))))))
     refine wplp 1 [1, 2, 4, 5, 6, 15] [(1, pp b19 0), (2, pp b39 0), (4, pp b42 0), (5, pp b45 0), (6, pp b48 0), (15, i6 0)] hF50 (fun a51 hF51 => (wpList_nil (then_n ?_)))
     obtain ⟨ev52, hl53, h⟩ := bind_ok h
     refine block_cut (fun a' w' => ∃ (v858 : List Int), v858 = ev52 ∧ Fr 123 [] [(1, pp b19 0), (2, pp b39 0), (4, pp b42 0), (5, pp b45 0), (6, pp b48 0)] a' ∧ St w w' [.blk b48 (ic .u64 (rz 5)) 116, .blk b45 (ic .u64 v858) 116, .blk b42 (ic .u64 (rz 25)) 72, .blk b39 (ic .u64 v772) 72, .blk b19 (ic .i64 v8) 109, .blk b13 (ic .u64 (rz 25)) 72, .blk b10 (ic .u64 v772) 72] ∧ v858.length = 5) ?_ ?_
     ·
      refine wp_loop_ghost (fun k a' w' => ∃ (v856 : List Int) (v857 : Int), i_keccak_Permute_l10 v772 k v856 v857 = some ev52 ∧ Fr 123 [] [(1, pp b19 0), (2, pp b39 0), (4, pp b42 0), (5, pp b45 0), (6, pp b48 0), (15, i6 v857)] a' ∧ St w w' [.blk b48 (ic .u64 (rz 5)) 116, .blk b45 (ic .u64 v856) 116, .blk b42 (ic .u64 (rz 25)) 72, .blk b39 (ic .u64 v772) 72, .blk b19 (ic .i64 v8) 109, .blk b13 (ic .u64 (rz 25)) 72, .blk b10 (ic .u64 v772) 72] ∧ v856.length = 5) LIM ⟨(rz 5), 0, hl53, Fr.pick [1, 2, 4, 5, 6, 15] (by kernel_rfl) hF51, hS50, (len_is (rz 5) (n := 5) (List.length_replicate))⟩ ?_
      rintro k54 a54 w55 ⟨v856, v857, hr54, hF54, hS54, hl_v856⟩
      cases k54 with
      | zero => rw [i_keccak_Permute_l10] at hr54; cases hr54
      | succ k54 =>
       rw [i_keccak_Permute_l10] at hr54
       refine wp_seq (wp_region_lit ?_)
       refine wplp 1 [1, 2, 4, 5, 6, 15, 16] [(1, pp b19 0), (2, pp b39 0), (4, pp b42 0), (5, pp b45 0), (6, pp b48 0), (15, i6 v857), (16, .bool (decide (v857 < 5)))] hF54 (fun a56 hF56 => (wpList_nil (then_n (wp_seq ?_))))
       refine wp_cond_split (t := (decide (v857 < 5))) hF56.e (fun ht57 => ?_) (fun ht57 => ?_)
       ·
        have h := if_t ht57 hr54
        refine wp_skip (then_n (wp_seq (wp_block (wp_seq (wp_region_lit ?_)))))
        refine wplp 2 [1, 2, 4, 5, 6, 7, 15] [(1, pp b19 0), (2, pp b39 0), (4, pp b42 0), (5, pp b45 0), (6, pp b48 0), (7, i6 v857), (15, i6 v857)] hF56 (fun a58 hF58 => (wpList_nil (then_n (wp_region_noPanic (region_al [25] (fun w' => St w w' [.blk b48 (ic .u64 (rz 5)) 116, .blk b45 (ic .u64 v856) 116, .blk b42 (ic .u64 (rz 25)) 72, .blk b39 (ic .u64 v772) 72, .blk b19 (ic .i64 v8) 109, .blk b13 (ic .u64 (rz 25)) 72, .blk b10 (ic .u64 v772) 72]) 26 rfl (by kernel_rfl) ?_)))))
        have hS59 := St.draw1 hS54
        refine al_run (fun _ _ _ _ _ h => h) 16 [0, 1, 4, 5, 9, 10, 14, 15, 19, 20] rfl [1, 2, 4, 5, 6, 15, 18, 19, 23, 28, 33, 38] [(1, pp b19 0), (2, pp b39 0), (4, pp b42 0), (5, pp b45 0), (6, pp b48 0), (15, i6 v857), (18, i6 v857), (19, i6 v857), (23, i6 (IntKind.i64.wrap (v857 + 5))), (28, i6 (IntKind.i64.wrap (v857 + 10))), (33, i6 (IntKind.i64.wrap (v857 + 15))), (38, i6 (IntKind.i64.wrap (v857 + 20)))] hF58 (by kernel_rfl) (fun _ => hS59) (fun a60 hF60 => ?_)
        obtain ⟨hg61, h⟩ := gd_ok h
        refine al_any (i := 2) rfl (by kernel_rfl) (fun _ _ _ _ h => h) hF60 (by kernel_rfl) (v := pp b39 v857.toNat) (fun _ => run_indexA rfl (b := b39) (off := 0) hF60.e (k := .i64) (i := v857) hF60.e (len := 25) (E := 71) (by kernel_rfl) (s := 1) (by kernel_rfl) (inb_ok hg61) (r := v857.toNat) (by simp only [Nat.zero_add, Nat.mul_one])) (by kernel_rfl) (fun _ => hS59) (fun a62 hF62 => ?_)
        refine al_val (i := 3) rfl (by kernel_rfl) (fun _ _ _ _ h => h) hF62 (by kernel_rfl) (v := .int .u64 (rd v772 v857.toNat)) (fun _ HS => run_load1 rfl (b := b39) (off := v857.toNat) hF62.e (by kernel_rfl) (HS.at 3 rfl (v857.toNat) (ic_get (lt_len (inb_nat hg61) hl_v772)))) (by kernel_rfl) (hS59.sub (.cons_cons _ (.cons_cons _ (.cons_cons _ (.cons_cons _ (.cons_cons _ (.cons_cons _ (.cons_cons _ (.slnil))))))))) (fun a63 hF63 => ?_)
        obtain ⟨hg64, h⟩ := gd_ok h
        refine al_any (i := 6) rfl (by kernel_rfl) (fun _ _ _ _ h => h) hF63 (by kernel_rfl) (v := pp b39 ((IntKind.i64.wrap (v857 + 5)).toNat)) (fun _ => run_indexA rfl (b := b39) (off := 0) hF63.e (k := .i64) (i := (IntKind.i64.wrap (v857 + 5))) hF63.e (len := 25) (E := 71) (by kernel_rfl) (s := 1) (by kernel_rfl) (inb_ok hg64) (r := (IntKind.i64.wrap (v857 + 5)).toNat) (by simp only [Nat.zero_add, Nat.mul_one])) (by kernel_rfl) (fun _ => hS59) (fun a65 hF65 => ?_)
        refine al_val (i := 7) rfl (by kernel_rfl) (fun _ _ _ _ h => h) hF65 (by kernel_rfl) (v := .int .u64 (rd v772 ((IntKind.i64.wrap (v857 + 5)).toNat))) (fun _ HS => run_load1 rfl (b := b39) (off := (IntKind.i64.wrap (v857 + 5)).toNat) hF65.e (by kernel_rfl) (HS.at 3 rfl ((IntKind.i64.wrap (v857 + 5)).toNat) (ic_get (lt_len (inb_nat hg64) hl_v772)))) (by kernel_rfl) (hS59.sub (.cons_cons _ (.cons_cons _ (.cons_cons _ (.cons_cons _ (.cons_cons _ (.cons_cons _ (.cons_cons _ (.slnil))))))))) (fun a66 hF66 => ?_)
        refine al_run (fun _ _ _ _ _ h => h) 11 [8] rfl [1, 2, 4, 5, 6, 15, 18, 26, 28, 33, 38] [(1, pp b19 0), (2, pp b39 0), (4, pp b42 0), (5, pp b45 0), (6, pp b48 0), (15, i6 v857), (18, i6 v857), (26, .int .u64 (ixor .u64 (rd v772 v857.toNat) (rd v772 ((IntKind.i64.wrap (v857 + 5)).toNat)))), (28, i6 (IntKind.i64.wrap (v857 + 10))), (33, i6 (IntKind.i64.wrap (v857 + 15))), (38, i6 (IntKind.i64.wrap (v857 + 20)))] hF66 (by kernel_rfl) (fun _ => hS59) (fun a67 hF67 => ?_)
        obtain ⟨hg68, h⟩ := gd_ok h
        refine al_any (i := 11) rfl (by kernel_rfl) (fun _ _ _ _ h => h) hF67 (by kernel_rfl) (v := pp b39 ((IntKind.i64.wrap (v857 + 10)).toNat)) (fun _ => run_indexA rfl (b := b39) (off := 0) hF67.e (k := .i64) (i := (IntKind.i64.wrap (v857 + 10))) hF67.e (len := 25) (E := 71) (by kernel_rfl) (s := 1) (by kernel_rfl) (inb_ok hg68) (r := (IntKind.i64.wrap (v857 + 10)).toNat) (by simp only [Nat.zero_add, Nat.mul_one])) (by kernel_rfl) (fun _ => hS59) (fun a69 hF69 => ?_)
        refine al_val (i := 12) rfl (by kernel_rfl) (fun _ _ _ _ h => h) hF69 (by kernel_rfl) (v := .int .u64 (rd v772 ((IntKind.i64.wrap (v857 + 10)).toNat))) (fun _ HS => run_load1 rfl (b := b39) (off := (IntKind.i64.wrap (v857 + 10)).toNat) hF69.e (by kernel_rfl) (HS.at 3 rfl ((IntKind.i64.wrap (v857 + 10)).toNat) (ic_get (lt_len (inb_nat hg68) hl_v772)))) (by kernel_rfl) (hS59.sub (.cons_cons _ (.cons_cons _ (.cons_cons _ (.cons_cons _ (.cons_cons _ (.cons_cons _ (.cons_cons _ (.slnil))))))))) (fun a70 hF70 => ?_)
        refine al_run (fun _ _ _ _ _ h => h) 8 [13] rfl [1, 2, 4, 5, 6, 15, 18, 31, 33, 38] [(1, pp b19 0), (2, pp b39 0), (4, pp b42 0), (5, pp b45 0), (6, pp b48 0), (15, i6 v857), (18, i6 v857), (31, .int .u64 (ixor .u64 (ixor .u64 (rd v772 v857.toNat) (rd v772 ((IntKind.i64.wrap (v857 + 5)).toNat))) (rd v772 ((IntKind.i64.wrap (v857 + 10)).toNat)))), (33, i6 (IntKind.i64.wrap (v857 + 15))), (38, i6 (IntKind.i64.wrap (v857 + 20)))] hF70 (by kernel_rfl) (fun _ => hS59) (fun a71 hF71 => ?_)
        obtain ⟨hg72, h⟩ := gd_ok h
        refine al_any (i := 16) rfl (by kernel_rfl) (fun _ _ _ _ h => h) hF71 (by kernel_rfl) (v := pp b39 ((IntKind.i64.wrap (v857 + 15)).toNat)) (fun _ => run_indexA rfl (b := b39) (off := 0) hF71.e (k := .i64) (i := (IntKind.i64.wrap (v857 + 15))) hF71.e (len := 25) (E := 71) (by kernel_rfl) (s := 1) (by kernel_rfl) (inb_ok hg72) (r := (IntKind.i64.wrap (v857 + 15)).toNat) (by simp only [Nat.zero_add, Nat.mul_one])) (by kernel_rfl) (fun _ => hS59) (fun a73 hF73 => ?_)
        refine al_val (i := 17) rfl (by kernel_rfl) (fun _ _ _ _ h => h) hF73 (by kernel_rfl) (v := .int .u64 (rd v772 ((IntKind.i64.wrap (v857 + 15)).toNat))) (fun _ HS => run_load1 rfl (b := b39) (off := (IntKind.i64.wrap (v857 + 15)).toNat) hF73.e (by kernel_rfl) (HS.at 3 rfl ((IntKind.i64.wrap (v857 + 15)).toNat) (ic_get (lt_len (inb_nat hg72) hl_v772)))) (by kernel_rfl) (hS59.sub (.cons_cons _ (.cons_cons _ (.cons_cons _ (.cons_cons _ (.cons_cons _ (.cons_cons _ (.cons_cons _ (.slnil))))))))) (fun a74 hF74 => ?_)
        refine al_run (fun _ _ _ _ _ h => h) 5 [18] rfl [1, 2, 4, 5, 6, 15, 18, 36, 38] [(1, pp b19 0), (2, pp b39 0), (4, pp b42 0), (5, pp b45 0), (6, pp b48 0), (15, i6 v857), (18, i6 v857), (36, .int .u64 (ixor .u64 (ixor .u64 (ixor .u64 (rd v772 v857.toNat) (rd v772 ((IntKind.i64.wrap (v857 + 5)).toNat))) (rd v772 ((IntKind.i64.wrap (v857 + 10)).toNat))) (rd v772 ((IntKind.i64.wrap (v857 + 15)).toNat)))), (38, i6 (IntKind.i64.wrap (v857 + 20)))] hF74 (by kernel_rfl) (fun _ => hS59) (fun a75 hF75 => ?_)
        obtain ⟨hg76, h⟩ := gd_ok h
        refine al_any (i := 21) rfl (by kernel_rfl) (fun _ _ _ _ h => h) hF75 (by kernel_rfl) (v := pp b39 ((IntKind.i64.wrap (v857 + 20)).toNat)) (fun _ => run_indexA rfl (b := b39) (off := 0) hF75.e (k := .i64) (i := (IntKind.i64.wrap (v857 + 20))) hF75.e (len := 25) (E := 71) (by kernel_rfl) (s := 1) (by kernel_rfl) (inb_ok hg76) (r := (IntKind.i64.wrap (v857 + 20)).toNat) (by simp only [Nat.zero_add, Nat.mul_one])) (by kernel_rfl) (fun _ => hS59) (fun a77 hF77 => ?_)
        refine al_val (i := 22) rfl (by kernel_rfl) (fun _ _ _ _ h => h) hF77 (by kernel_rfl) (v := .int .u64 (rd v772 ((IntKind.i64.wrap (v857 + 20)).toNat))) (fun _ HS => run_load1 rfl (b := b39) (off := (IntKind.i64.wrap (v857 + 20)).toNat) hF77.e (by kernel_rfl) (HS.at 3 rfl ((IntKind.i64.wrap (v857 + 20)).toNat) (ic_get (lt_len (inb_nat hg76) hl_v772)))) (by kernel_rfl) (hS59.sub (.cons_cons _ (.cons_cons _ (.cons_cons _ (.cons_cons _ (.cons_cons _ (.cons_cons _ (.cons_cons _ (.slnil))))))))) (fun a78 hF78 => ?_)
        refine al_run (fun _ _ _ _ _ h => h) 2 [23] rfl [1, 2, 4, 5, 6, 15, 18, 41] [(1, pp b19 0), (2, pp b39 0), (4, pp b42 0), (5, pp b45 0), (6, pp b48 0), (15, i6 v857), (18, i6 v857), (41, .int .u64 (ixor .u64 (ixor .u64 (ixor .u64 (ixor .u64 (rd v772 v857.toNat) (rd v772 ((IntKind.i64.wrap (v857 + 5)).toNat))) (rd v772 ((IntKind.i64.wrap (v857 + 10)).toNat))) (rd v772 ((IntKind.i64.wrap (v857 + 15)).toNat))) (rd v772 ((IntKind.i64.wrap (v857 + 20)).toNat))))] hF78 (by kernel_rfl) (fun _ => hS59) (fun a79 hF79 => ?_)
        obtain ⟨hg80, h⟩ := gd_ok h
        refine al_any (i := 24) rfl (by kernel_rfl) (fun _ _ _ _ h => h) hF79 (by kernel_rfl) (v := pp b45 v857.toNat) (fun _ => run_indexA rfl (b := b45) (off := 0) hF79.e (k := .i64) (i := v857) hF79.e (len := 5) (E := 71) (by kernel_rfl) (s := 1) (by kernel_rfl) (inb_ok hg80) (r := v857.toNat) (by simp only [Nat.zero_add, Nat.mul_one])) (by kernel_rfl) (fun _ => hS59) (fun a81 hF81 => ?_)
        refine al_one (i := 25) rfl (by kernel_rfl) hF81 (by kernel_rfl) (wp_store1 hF81 hS59 rfl 1 rfl (off := v857.toNat) (v := .int .u64 (ixor .u64 (ixor .u64 (ixor .u64 (ixor .u64 (rd v772 v857.toNat) (rd v772 ((IntKind.i64.wrap (v857 + 5)).toNat))) (rd v772 ((IntKind.i64.wrap (v857 + 10)).toNat))) (rd v772 ((IntKind.i64.wrap (v857 + 15)).toNat))) (rd v772 ((IntKind.i64.wrap (v857 + 20)).toNat)))) (by kernel_rfl) rfl rfl (.ic (lt_len (inb_nat hg80) hl_v856)) (L' := [.blk b48 (ic .u64 (rz 5)) 116, .blk b45 (ic .u64 (v856.set v857.toNat (ixor .u64 (ixor .u64 (ixor .u64 (ixor .u64 (rd v772 v857.toNat) (rd v772 ((IntKind.i64.wrap (v857 + 5)).toNat))) (rd v772 ((IntKind.i64.wrap (v857 + 10)).toNat))) (rd v772 ((IntKind.i64.wrap (v857 + 15)).toNat))) (rd v772 ((IntKind.i64.wrap (v857 + 20)).toNat))))) 116, .blk b42 (ic .u64 (rz 25)) 72, .blk b39 (ic .u64 v772) 72, .blk b19 (ic .i64 v8) 109, .blk b13 (ic .u64 (rz 25)) 72, .blk b10 (ic .u64 v772) 72]) rfl (fun w82 a83 hS83 hF83 => (And.intro (late_yes (by kernel_rfl)) ?_)))
        refine al_done (by kernel_rfl) ?_ _
        refine NoPanic.normal (blk_n (then_n ?_))
        obtain ⟨v891, hv_v891, h⟩ := nm_ok h
        have hl_v891 : v891.length = 5 := (congrArg List.length hv_v891).trans (len_is ((v856.set v857.toNat (ixor .u64 (ixor .u64 (ixor .u64 (ixor .u64 (rd v772 v857.toNat) (rd v772 ((IntKind.i64.wrap (v857 + 5)).toNat))) (rd v772 ((IntKind.i64.wrap (v857 + 10)).toNat))) (rd v772 ((IntKind.i64.wrap (v857 + 15)).toNat))) (rd v772 ((IntKind.i64.wrap (v857 + 20)).toNat))))) (n := 5) (List.length_set.trans hl_v856))
        have hS84 := St.eqv (M := [.blk b48 (ic .u64 (rz 5)) 116, .blk b45 (ic .u64 v891) 116, .blk b42 (ic .u64 (rz 25)) 72, .blk b39 (ic .u64 v772) 72, .blk b19 (ic .i64 v8) 109, .blk b13 (ic .u64 (rz 25)) 72, .blk b10 (ic .u64 v772) 72]) hS83 (by rw [hv_v891])
        refine wp_region_lit ?_
        refine wplp 2 [1, 2, 4, 5, 6, 15] [(1, pp b19 0), (2, pp b39 0), (4, pp b42 0), (5, pp b45 0), (6, pp b48 0), (15, i6 (IntKind.i64.wrap (v857 + 1)))] hF83 (fun a85 hF85 => (wpList_nil ?_))
        exact ⟨k54, Nat.lt_succ_self _, v891, (IntKind.i64.wrap (v857 + 1)), h, Fr.pick [1, 2, 4, 5, 6, 15] (by kernel_rfl) hF85, hS84.sub (.cons_cons _ (.cons_cons _ (.cons_cons _ (.cons_cons _ (.cons_cons _ (.cons_cons _ (.cons_cons _ (.slnil)))))))), hl_v891⟩
       ·
        have h := if_f ht57 hr54
        refine wp_exit ?_
        refine then_x (then_x (cut_x ?_))
        have hr := Option.some.inj h
        subst hr
        exact ⟨_, rfl, Fr.pick [1, 2, 4, 5, 6] (by kernel_rfl) hF56, hS54.sub (.cons_cons _ (.cons_cons _ (.cons_cons _ (.cons_cons _ (.cons_cons _ (.cons_cons _ (.cons_cons _ (.slnil)))))))), hl_v856⟩
     ·
      rintro a86 w87 ⟨v858, hev, hF86, hS86, hl_v858⟩
      subst hev
      refine then_n (wp_seq (wp_seq (wp_region_lit ?_)))
      refine wplp 1 [1, 2, 4, 5, 6, 44] [(1, pp b19 0), (2, pp b39 0), (4, pp b42 0), (5, pp b45 0), (6, pp b48 0), (44, i6 0)] hF86 (fun a88 hF88 => (wpList_nil (then_n ?_)))
      obtain ⟨ev89, hl90, h⟩ := bind_ok h
      refine block_cut (fun a' w' => ∃ (v943 : List Int), v943 = ev89 ∧ Fr 123 [] [(1, pp b19 0), (2, pp b39 0), (4, pp b42 0), (6, pp b48 0)] a' ∧ St w w' [.blk b48 (ic .u64 v943) 116, .blk b45 (ic .u64 v858) 116, .blk b42 (ic .u64 (rz 25)) 72, .blk b39 (ic .u64 v772) 72, .blk b19 (ic .i64 v8) 109, .blk b13 (ic .u64 (rz 25)) 72, .blk b10 (ic .u64 v772) 72] ∧ v943.length = 5) ?_ ?_
      ·
       refine wp_loop_ghost (fun k a' w' => ∃ (v941 : List Int) (v942 : Int), i_keccak_Permute_l11 v858 k v941 v942 = some ev89 ∧ Fr 123 [] [(1, pp b19 0), (2, pp b39 0), (4, pp b42 0), (5, pp b45 0), (6, pp b48 0), (44, i6 v942)] a' ∧ St w w' [.blk b48 (ic .u64 v941) 116, .blk b45 (ic .u64 v858) 116, .blk b42 (ic .u64 (rz 25)) 72, .blk b39 (ic .u64 v772) 72, .blk b19 (ic .i64 v8) 109, .blk b13 (ic .u64 (rz 25)) 72, .blk b10 (ic .u64 v772) 72] ∧ v941.length = 5) LIM ⟨(rz 5), 0, hl90, Fr.pick [1, 2, 4, 5, 6, 44] (by kernel_rfl) hF88, hS86, (len_is (rz 5) (n := 5) (List.length_replicate))⟩ ?_
       rintro k91 a91 w92 ⟨v941, v942, hr91, hF91, hS91, hl_v941⟩
       cases k91 with
       | zero => rw [i_keccak_Permute_l11] at hr91; cases hr91
       | succ k91 =>
        rw [i_keccak_Permute_l11] at hr91
        refine wp_seq (wp_region_lit ?_)
        refine wplp 1 [1, 2, 4, 5, 6, 44, 45] [(1, pp b19 0), (2, pp b39 0), (4, pp b42 0), (5, pp b45 0), (6, pp b48 0), (44, i6 v942), (45, .bool (decide (v942 < 5)))] hF91 (fun a93 hF93 => (wpList_nil (then_n (wp_seq ?_))))
        refine wp_cond_split (t := (decide (v942 < 5))) hF93.e (fun ht94 => ?_) (fun ht94 => ?_)
        ·
         have h := if_t ht94 hr91
         refine wp_skip (then_n (wp_seq (wp_block (wp_seq (wp_region_lit ?_)))))
         refine wplp 2 [1, 2, 4, 5, 6, 8, 44] [(1, pp b19 0), (2, pp b39 0), (4, pp b42 0), (5, pp b45 0), (6, pp b48 0), (8, i6 v942), (44, i6 v942)] hF93 (fun a95 hF95 => (wpList_nil (then_n (wp_region_noPanic (region_al [14] (fun w' => St w w' [.blk b48 (ic .u64 v941) 116, .blk b45 (ic .u64 v858) 116, .blk b42 (ic .u64 (rz 25)) 72, .blk b39 (ic .u64 v772) 72, .blk b19 (ic .i64 v8) 109, .blk b13 (ic .u64 (rz 25)) 72, .blk b10 (ic .u64 v772) 72]) 15 rfl (by kernel_rfl) ?_)))))
         have hS96 := St.draw1 hS91
         refine al_run (fun _ _ _ _ _ h => h) 8 [0, 1, 2, 3, 6, 7, 8] rfl [1, 2, 4, 5, 6, 44, 47, 50, 55] [(1, pp b19 0), (2, pp b39 0), (4, pp b42 0), (5, pp b45 0), (6, pp b48 0), (44, i6 v942), (47, i6 v942), (50, i6 ((IntKind.i64.wrap (v942 + 4)).tmod 5)), (55, i6 ((IntKind.i64.wrap (v942 + 1)).tmod 5))] hF95 (by kernel_rfl) (fun _ => hS96) (fun a97 hF97 => ?_)
         obtain ⟨hg98, h⟩ := gd_ok h
         refine al_any (i := 4) rfl (by kernel_rfl) (fun _ _ _ _ h => h) hF97 (by kernel_rfl) (v := pp b45 (((IntKind.i64.wrap (v942 + 4)).tmod 5).toNat)) (fun _ => run_indexA rfl (b := b45) (off := 0) hF97.e (k := .i64) (i := ((IntKind.i64.wrap (v942 + 4)).tmod 5)) hF97.e (len := 5) (E := 71) (by kernel_rfl) (s := 1) (by kernel_rfl) (inb_ok hg98) (r := ((IntKind.i64.wrap (v942 + 4)).tmod 5).toNat) (by simp only [Nat.zero_add, Nat.mul_one])) (by kernel_rfl) (fun _ => hS96) (fun a99 hF99 => ?_)
         refine al_val (i := 5) rfl (by kernel_rfl) (fun _ _ _ _ h => h) hF99 (by kernel_rfl) (v := .int .u64 (rd v858 (((IntKind.i64.wrap (v942 + 4)).tmod 5).toNat))) (fun _ HS => run_load1 rfl (b := b45) (off := ((IntKind.i64.wrap (v942 + 4)).tmod 5).toNat) hF99.e (by kernel_rfl) (HS.at 1 rfl (((IntKind.i64.wrap (v942 + 4)).tmod 5).toNat) (ic_get (lt_len (inb_nat hg98) hl_v858)))) (by kernel_rfl) (hS96.sub (.cons_cons _ (.cons_cons _ (.cons_cons _ (.cons_cons _ (.cons_cons _ (.cons_cons _ (.cons_cons _ (.slnil))))))))) (fun a100 hF100 => ?_)
         obtain ⟨hg101, h⟩ := gd_ok h
         refine al_any (i := 9) rfl (by kernel_rfl) (fun _ _ _ _ h => h) hF100 (by kernel_rfl) (v := pp b45 (((IntKind.i64.wrap (v942 + 1)).tmod 5).toNat)) (fun _ => run_indexA rfl (b := b45) (off := 0) hF100.e (k := .i64) (i := ((IntKind.i64.wrap (v942 + 1)).tmod 5)) hF100.e (len := 5) (E := 71) (by kernel_rfl) (s := 1) (by kernel_rfl) (inb_ok hg101) (r := ((IntKind.i64.wrap (v942 + 1)).tmod 5).toNat) (by simp only [Nat.zero_add, Nat.mul_one])) (by kernel_rfl) (fun _ => hS96) (fun a102 hF102 => ?_)
         refine al_val (i := 10) rfl (by kernel_rfl) (fun _ _ _ _ h => h) hF102 (by kernel_rfl) (v := .int .u64 (rd v858 (((IntKind.i64.wrap (v942 + 1)).tmod 5).toNat))) (fun _ HS => run_load1 rfl (b := b45) (off := ((IntKind.i64.wrap (v942 + 1)).tmod 5).toNat) hF102.e (by kernel_rfl) (HS.at 1 rfl (((IntKind.i64.wrap (v942 + 1)).tmod 5).toNat) (ic_get (lt_len (inb_nat hg101) hl_v858)))) (by kernel_rfl) (hS96.sub (.cons_cons _ (.cons_cons _ (.cons_cons _ (.cons_cons _ (.cons_cons _ (.cons_cons _ (.cons_cons _ (.slnil))))))))) (fun a103 hF103 => ?_)
         obtain ⟨v959, hb104, h⟩ := bind_ok h
         refine al_one (i := 11) rfl (by kernel_rfl) hF103 (by kernel_rfl) (wp_callR hF103 (by kernel_rfl) (g := 78) (args := #[.int .u64 (rd v858 (((IntKind.i64.wrap (v942 + 1)).tmod 5).toNat)), i6 1]) (by kernel_rfl) (i_math_bits_RotateLeft64_ok (rd v858 (((IntKind.i64.wrap (v942 + 1)).tmod 5).toNat)) 1 v959 hb104) (fun vr w105 hp => ?_))
         obtain ⟨rfl, hS106⟩ := hp
         replace hS106 := St.call hS96 hS106 rfl
         refine And.intro (fun _ => hS106) ?_
         refine go_fr (hF103.next (.int .u64 v959) [1, 2, 4, 5, 6, 44, 47, 52, 58] (M := [(1, pp b19 0), (2, pp b39 0), (4, pp b42 0), (5, pp b45 0), (6, pp b48 0), (44, i6 v942), (47, i6 v942), (52, .int .u64 (rd v858 (((IntKind.i64.wrap (v942 + 4)).tmod 5).toNat))), (58, .int .u64 v959)]) (by kernel_rfl)) (fun a106 hF106 => ?_)
         refine al_run (fun _ _ _ _ _ h => h) 2 [12] rfl [1, 2, 4, 5, 6, 44, 47, 59] [(1, pp b19 0), (2, pp b39 0), (4, pp b42 0), (5, pp b45 0), (6, pp b48 0), (44, i6 v942), (47, i6 v942), (59, .int .u64 (ixor .u64 (rd v858 (((IntKind.i64.wrap (v942 + 4)).tmod 5).toNat)) v959))] hF106 (by kernel_rfl) (fun _ => hS106) (fun a107 hF107 => ?_)
         obtain ⟨hg108, h⟩ := gd_ok h
         refine al_any (i := 13) rfl (by kernel_rfl) (fun _ _ _ _ h => h) hF107 (by kernel_rfl) (v := pp b48 v942.toNat) (fun _ => run_indexA rfl (b := b48) (off := 0) hF107.e (k := .i64) (i := v942) hF107.e (len := 5) (E := 71) (by kernel_rfl) (s := 1) (by kernel_rfl) (inb_ok hg108) (r := v942.toNat) (by simp only [Nat.zero_add, Nat.mul_one])) (by kernel_rfl) (fun _ => hS106) (fun a109 hF109 => ?_)
         refine al_one (i := 14) rfl (by kernel_rfl) hF109 (by kernel_rfl) (wp_store1 hF109 hS106 rfl 0 rfl (off := v942.toNat) (v := .int .u64 (ixor .u64 (rd v858 (((IntKind.i64.wrap (v942 + 4)).tmod 5).toNat)) v959)) (by kernel_rfl) rfl rfl (.ic (lt_len (inb_nat hg108) hl_v941)) (L' := [.blk b48 (ic .u64 (v941.set v942.toNat (ixor .u64 (rd v858 (((IntKind.i64.wrap (v942 + 4)).tmod 5).toNat)) v959))) 116, .blk b45 (ic .u64 v858) 116, .blk b42 (ic .u64 (rz 25)) 72, .blk b39 (ic .u64 v772) 72, .blk b19 (ic .i64 v8) 109, .blk b13 (ic .u64 (rz 25)) 72, .blk b10 (ic .u64 v772) 72]) rfl (fun w110 a111 hS111 hF111 => (And.intro (late_yes (by kernel_rfl)) ?_)))
         refine al_done (by kernel_rfl) ?_ _
         refine NoPanic.normal (blk_n (then_n ?_))
         obtain ⟨v968, hv_v968, h⟩ := nm_ok h
         have hl_v968 : v968.length = 5 := (congrArg List.length hv_v968).trans (len_is ((v941.set v942.toNat (ixor .u64 (rd v858 (((IntKind.i64.wrap (v942 + 4)).tmod 5).toNat)) v959))) (n := 5) (List.length_set.trans hl_v941))
         have hS112 := St.eqv (M := [.blk b48 (ic .u64 v968) 116, .blk b45 (ic .u64 v858) 116, .blk b42 (ic .u64 (rz 25)) 72, .blk b39 (ic .u64 v772) 72, .blk b19 (ic .i64 v8) 109, .blk b13 (ic .u64 (rz 25)) 72, .blk b10 (ic .u64 v772) 72]) hS111 (by rw [hv_v968])
         refine wp_region_lit ?_
         refine wplp 2 [1, 2, 4, 5, 6, 44] [(1, pp b19 0), (2, pp b39 0), (4, pp b42 0), (5, pp b45 0), (6, pp b48 0), (44, i6 (IntKind.i64.wrap (v942 + 1)))] hF111 (fun a113 hF113 => (wpList_nil ?_))
         exact ⟨k91, Nat.lt_succ_self _, v968, (IntKind.i64.wrap (v942 + 1)), h, Fr.pick [1, 2, 4, 5, 6, 44] (by kernel_rfl) hF113, hS112.sub (.cons_cons _ (.cons_cons _ (.cons_cons _ (.cons_cons _ (.cons_cons _ (.cons_cons _ (.cons_cons _ (.slnil)))))))), hl_v968⟩
        ·
         have h := if_f ht94 hr91
         refine wp_exit ?_
         refine then_x (then_x (cut_x ?_))
         have hr := Option.some.inj h
         subst hr
         exact ⟨_, rfl, Fr.pick [1, 2, 4, 6] (by kernel_rfl) hF93, hS91.sub (.cons_cons _ (.cons_cons _ (.cons_cons _ (.cons_cons _ (.cons_cons _ (.cons_cons _ (.cons_cons _ (.slnil)))))))), hl_v941⟩
      ·
       rintro a114 w115 ⟨v943, hev, hF114, hS114, hl_v943⟩
       subst hev
       refine then_n (wp_seq (wp_region_lit ?_))
       refine wpl_one hF114 (by kernel_rfl) (wp_alloc hF114 hS114 rfl (z := .agg (ic .u64 (rz 25)).toArray) (by kernel_rfl) (ic .u64 (rz 25)) rfl (by kernel_rfl) (fun b116 w117 a118 hS118 hF118 => (wpList_nil (then_n (wp_seq (wp_seq (wp_region_lit ?_)))))))
       refine wplp 1 [1, 2, 4, 6, 9, 62] [(1, pp b19 0), (2, pp b39 0), (4, pp b42 0), (6, pp b48 0), (9, pp b116 0), (62, i6 0)] hF118 (fun a119 hF119 => (wpList_nil (then_n ?_)))
       obtain ⟨ev120, hl121, h⟩ := bind_ok h
       refine block_cut (fun a' w' => ∃ (v1029 : List Int), v1029 = ev120 ∧ Fr 123 [] [(2, pp b39 0), (4, pp b42 0), (9, pp b116 0)] a' ∧ St w w' [.blk b116 (ic .u64 v1029) 72, .blk b48 (ic .u64 v943) 116, .blk b45 (ic .u64 v858) 116, .blk b42 (ic .u64 (rz 25)) 72, .blk b39 (ic .u64 v772) 72, .blk b19 (ic .i64 v8) 109, .blk b13 (ic .u64 (rz 25)) 72, .blk b10 (ic .u64 v772) 72] ∧ v1029.length = 25) ?_ ?_
       ·
        refine wp_loop_ghost (fun k a' w' => ∃ (v1027 : List Int) (v1028 : Int), i_keccak_Permute_l12 v772 v943 v8 k v1027 v1028 = some ev120 ∧ Fr 123 [] [(1, pp b19 0), (2, pp b39 0), (4, pp b42 0), (6, pp b48 0), (9, pp b116 0), (62, i6 v1028)] a' ∧ St w w' [.blk b116 (ic .u64 v1027) 72, .blk b48 (ic .u64 v943) 116, .blk b45 (ic .u64 v858) 116, .blk b42 (ic .u64 (rz 25)) 72, .blk b39 (ic .u64 v772) 72, .blk b19 (ic .i64 v8) 109, .blk b13 (ic .u64 (rz 25)) 72, .blk b10 (ic .u64 v772) 72] ∧ v1027.length = 25) LIM ⟨(rz 25), 0, hl121, Fr.pick [1, 2, 4, 6, 9, 62] (by kernel_rfl) hF119, hS118, (len_is (rz 25) (n := 25) (List.length_replicate))⟩ ?_
        rintro k122 a122 w123 ⟨v1027, v1028, hr122, hF122, hS122, hl_v1027⟩
        cases k122 with
        | zero => rw [i_keccak_Permute_l12] at hr122; cases hr122
        | succ k122 =>
         rw [i_keccak_Permute_l12] at hr122
         refine wp_seq (wp_region_lit ?_)
         refine wplp 1 [1, 2, 4, 6, 9, 62, 63] [(1, pp b19 0), (2, pp b39 0), (4, pp b42 0), (6, pp b48 0), (9, pp b116 0), (62, i6 v1028), (63, .bool (decide (v1028 < 25)))] hF122 (fun a124 hF124 => (wpList_nil (then_n (wp_seq ?_))))
         refine wp_cond_split (t := (decide (v1028 < 25))) hF124.e (fun ht125 => ?_) (fun ht125 => ?_)
         ·
          have h := if_t ht125 hr122
          refine wp_skip (then_n (wp_seq (wp_block (wp_seq (wp_region_lit ?_)))))
          refine wplp 2 [1, 2, 4, 6, 9, 10, 62] [(1, pp b19 0), (2, pp b39 0), (4, pp b42 0), (6, pp b48 0), (9, pp b116 0), (10, i6 v1028), (62, i6 v1028)] hF124 (fun a126 hF126 => (wpList_nil (then_n (wp_seq (wp_region_lit ?_)))))
          refine wplp 6 [1, 2, 4, 6, 9, 10, 11, 12, 62] [(1, pp b19 0), (2, pp b39 0), (4, pp b42 0), (6, pp b48 0), (9, pp b116 0), (10, i6 v1028), (11, i6 (v1028.tmod 5)), (12, i6 (IntKind.i64.wrap (v1028.tdiv 5))), (62, i6 v1028)] hF126 (fun a127 hF127 => (wpList_nil (then_n (wp_region_noPanic (region_al [23] (fun w' => St w w' [.blk b116 (ic .u64 v1027) 72, .blk b48 (ic .u64 v943) 116, .blk b45 (ic .u64 v858) 116, .blk b42 (ic .u64 (rz 25)) 72, .blk b39 (ic .u64 v772) 72, .blk b19 (ic .i64 v8) 109, .blk b13 (ic .u64 (rz 25)) 72, .blk b10 (ic .u64 v772) 72]) 24 rfl (by kernel_rfl) ?_)))))
          have hS128 := St.draw1 hS122
          refine al_run (fun _ _ _ _ _ h => h) 10 [0, 1, 2, 3, 4, 5, 6, 7, 8, 9, 12, 16, 17, 18] rfl [1, 2, 4, 6, 9, 62, 77, 78, 81, 86, 87] [(1, pp b19 0), (2, pp b39 0), (4, pp b42 0), (6, pp b48 0), (9, pp b116 0), (62, i6 v1028), (77, i6 (IntKind.i64.wrap ((IntKind.i64.wrap (5 * ((IntKind.i64.wrap ((IntKind.i64.wrap (2 * (v1028.tmod 5))) + (IntKind.i64.wrap (3 * (IntKind.i64.wrap (v1028.tdiv 5)))))).tmod 5))) + (IntKind.i64.wrap (v1028.tdiv 5))))), (78, i6 v1028), (81, i6 (v1028.tmod 5)), (86, i6 v1028), (87, pp b19 0)] hF127 (by kernel_rfl) (fun _ => hS128) (fun a129 hF129 => ?_)
          obtain ⟨hg130, h⟩ := gd_ok h
          refine al_any (i := 10) rfl (by kernel_rfl) (fun _ _ _ _ h => h) hF129 (by kernel_rfl) (v := pp b39 v1028.toNat) (fun _ => run_indexA rfl (b := b39) (off := 0) hF129.e (k := .i64) (i := v1028) hF129.e (len := 25) (E := 71) (by kernel_rfl) (s := 1) (by kernel_rfl) (inb_ok hg130) (r := v1028.toNat) (by simp only [Nat.zero_add, Nat.mul_one])) (by kernel_rfl) (fun _ => hS128) (fun a131 hF131 => ?_)
          refine al_val (i := 11) rfl (by kernel_rfl) (fun _ _ _ _ h => h) hF131 (by kernel_rfl) (v := .int .u64 (rd v772 v1028.toNat)) (fun _ HS => run_load1 rfl (b := b39) (off := v1028.toNat) hF131.e (by kernel_rfl) (HS.at 4 rfl (v1028.toNat) (ic_get (lt_len (inb_nat hg130) hl_v772)))) (by kernel_rfl) (hS128.sub (.cons_cons _ (.cons_cons _ (.cons_cons _ (.cons_cons _ (.cons_cons _ (.cons_cons _ (.cons_cons _ (.cons_cons _ (.slnil)))))))))) (fun a132 hF132 => ?_)
          obtain ⟨hg133, h⟩ := gd_ok h
          refine al_any (i := 13) rfl (by kernel_rfl) (fun _ _ _ _ h => h) hF132 (by kernel_rfl) (v := pp b48 ((v1028.tmod 5).toNat)) (fun _ => run_indexA rfl (b := b48) (off := 0) hF132.e (k := .i64) (i := (v1028.tmod 5)) hF132.e (len := 5) (E := 71) (by kernel_rfl) (s := 1) (by kernel_rfl) (inb_ok hg133) (r := (v1028.tmod 5).toNat) (by simp only [Nat.zero_add, Nat.mul_one])) (by kernel_rfl) (fun _ => hS128) (fun a134 hF134 => ?_)
          refine al_val (i := 14) rfl (by kernel_rfl) (fun _ _ _ _ h => h) hF134 (by kernel_rfl) (v := .int .u64 (rd v943 ((v1028.tmod 5).toNat))) (fun _ HS => run_load1 rfl (b := b48) (off := (v1028.tmod 5).toNat) hF134.e (by kernel_rfl) (HS.at 1 rfl ((v1028.tmod 5).toNat) (ic_get (lt_len (inb_nat hg133) hl_v943)))) (by kernel_rfl) (hS128.sub (.cons_cons _ (.cons_cons _ (.cons_cons _ (.cons_cons _ (.cons_cons _ (.cons_cons _ (.cons_cons _ (.cons_cons _ (.slnil)))))))))) (fun a135 hF135 => ?_)
          refine al_run (fun _ _ _ _ _ h => h) 5 [15] rfl [1, 2, 4, 6, 9, 62, 77, 84, 86, 87] [(1, pp b19 0), (2, pp b39 0), (4, pp b42 0), (6, pp b48 0), (9, pp b116 0), (62, i6 v1028), (77, i6 (IntKind.i64.wrap ((IntKind.i64.wrap (5 * ((IntKind.i64.wrap ((IntKind.i64.wrap (2 * (v1028.tmod 5))) + (IntKind.i64.wrap (3 * (IntKind.i64.wrap (v1028.tdiv 5)))))).tmod 5))) + (IntKind.i64.wrap (v1028.tdiv 5))))), (84, .int .u64 (ixor .u64 (rd v772 v1028.toNat) (rd v943 ((v1028.tmod 5).toNat)))), (86, i6 v1028), (87, pp b19 0)] hF135 (by kernel_rfl) (fun _ => hS128) (fun a136 hF136 => ?_)
          refine al_any (i := 19) rfl (by kernel_rfl) (fun _ _ _ _ h => h) hF136 (by kernel_rfl) (v := pp b19 v1028.toNat) (fun _ => run_indexA rfl (b := b19) (off := 0) hF136.e (k := .i64) (i := v1028) hF136.e (len := 25) (E := 3) (by kernel_rfl) (s := 1) (by kernel_rfl) (inb_ok hg130) (r := v1028.toNat) (by simp only [Nat.zero_add, Nat.mul_one])) (by kernel_rfl) (fun _ => hS128) (fun a137 hF137 => ?_)
          refine al_val (i := 20) rfl (by kernel_rfl) (fun _ _ _ _ h => h) hF137 (by kernel_rfl) (v := i6 (rd v8 v1028.toNat)) (fun _ HS => run_load1 rfl (b := b19) (off := v1028.toNat) hF137.e (by kernel_rfl) (HS.at 5 rfl (v1028.toNat) (ic_get (lt_len (inb_nat hg130) hl_v8)))) (by kernel_rfl) (hS128.sub (.cons_cons _ (.cons_cons _ (.cons_cons _ (.cons_cons _ (.cons_cons _ (.cons_cons _ (.cons_cons _ (.cons_cons _ (.slnil)))))))))) (fun a138 hF138 => ?_)
          obtain ⟨v1049, hb139, h⟩ := bind_ok h
          refine al_one (i := 21) rfl (by kernel_rfl) hF138 (by kernel_rfl) (wp_callR hF138 (by kernel_rfl) (g := 78) (args := #[.int .u64 (ixor .u64 (rd v772 v1028.toNat) (rd v943 ((v1028.tmod 5).toNat))), i6 (rd v8 v1028.toNat)]) (by kernel_rfl) (i_math_bits_RotateLeft64_ok (ixor .u64 (rd v772 v1028.toNat) (rd v943 ((v1028.tmod 5).toNat))) (rd v8 v1028.toNat) v1049 hb139) (fun vr w140 hp => ?_))
          obtain ⟨rfl, hS141⟩ := hp
          replace hS141 := St.call hS128 hS141 rfl
          refine And.intro (fun _ => hS141) ?_
          refine go_fr (hF138.next (.int .u64 v1049) [1, 2, 4, 6, 9, 62, 77, 90] (M := [(1, pp b19 0), (2, pp b39 0), (4, pp b42 0), (6, pp b48 0), (9, pp b116 0), (62, i6 v1028), (77, i6 (IntKind.i64.wrap ((IntKind.i64.wrap (5 * ((IntKind.i64.wrap ((IntKind.i64.wrap (2 * (v1028.tmod 5))) + (IntKind.i64.wrap (3 * (IntKind.i64.wrap (v1028.tdiv 5)))))).tmod 5))) + (IntKind.i64.wrap (v1028.tdiv 5))))), (90, .int .u64 v1049)]) (by kernel_rfl)) (fun a141 hF141 => ?_)
          obtain ⟨hg142, h⟩ := gd_ok h
          refine al_any (i := 22) rfl (by kernel_rfl) (fun _ _ _ _ h => h) hF141 (by kernel_rfl) (v := pp b116 ((IntKind.i64.wrap ((IntKind.i64.wrap (5 * ((IntKind.i64.wrap ((IntKind.i64.wrap (2 * (v1028.tmod 5))) + (IntKind.i64.wrap (3 * (IntKind.i64.wrap (v1028.tdiv 5)))))).tmod 5))) + (IntKind.i64.wrap (v1028.tdiv 5)))).toNat)) (fun _ => run_indexA rfl (b := b116) (off := 0) hF141.e (k := .i64) (i := (IntKind.i64.wrap ((IntKind.i64.wrap (5 * ((IntKind.i64.wrap ((IntKind.i64.wrap (2 * (v1028.tmod 5))) + (IntKind.i64.wrap (3 * (IntKind.i64.wrap (v1028.tdiv 5)))))).tmod 5))) + (IntKind.i64.wrap (v1028.tdiv 5))))) hF141.e (len := 25) (E := 71) (by kernel_rfl) (s := 1) (by kernel_rfl) (inb_ok hg142) (r := (IntKind.i64.wrap ((IntKind.i64.wrap (5 * ((IntKind.i64.wrap ((IntKind.i64.wrap (2 * (v1028.tmod 5))) + (IntKind.i64.wrap (3 * (IntKind.i64.wrap (v1028.tdiv 5)))))).tmod 5))) + (IntKind.i64.wrap (v1028.tdiv 5)))).toNat) (by simp only [Nat.zero_add, Nat.mul_one])) (by kernel_rfl) (fun _ => hS141) (fun a143 hF143 => ?_)
          refine al_one (i := 23) rfl (by kernel_rfl) hF143 (by kernel_rfl) (wp_store1 hF143 hS141 rfl 0 rfl (off := (IntKind.i64.wrap ((IntKind.i64.wrap (5 * ((IntKind.i64.wrap ((IntKind.i64.wrap (2 * (v1028.tmod 5))) + (IntKind.i64.wrap (3 * (IntKind.i64.wrap (v1028.tdiv 5)))))).tmod 5))) + (IntKind.i64.wrap (v1028.tdiv 5)))).toNat) (v := .int .u64 v1049) (by kernel_rfl) rfl rfl (.ic (lt_len (inb_nat hg142) hl_v1027)) (L' := [.blk b116 (ic .u64 (v1027.set ((IntKind.i64.wrap ((IntKind.i64.wrap (5 * ((IntKind.i64.wrap ((IntKind.i64.wrap (2 * (v1028.tmod 5))) + (IntKind.i64.wrap (3 * (IntKind.i64.wrap (v1028.tdiv 5)))))).tmod 5))) + (IntKind.i64.wrap (v1028.tdiv 5)))).toNat) v1049)) 72, .blk b48 (ic .u64 v943) 116, .blk b45 (ic .u64 v858) 116, .blk b42 (ic .u64 (rz 25)) 72, .blk b39 (ic .u64 v772) 72, .blk b19 (ic .i64 v8) 109, .blk b13 (ic .u64 (rz 25)) 72, .blk b10 (ic .u64 v772) 72]) rfl (fun w144 a145 hS145 hF145 => (And.intro (late_yes (by kernel_rfl)) ?_)))
          refine al_done (by kernel_rfl) ?_ _
          refine NoPanic.normal (blk_n (then_n ?_))
          obtain ⟨v1057, hv_v1057, h⟩ := nm_ok h
          have hl_v1057 : v1057.length = 25 := (congrArg List.length hv_v1057).trans (len_is ((v1027.set ((IntKind.i64.wrap ((IntKind.i64.wrap (5 * ((IntKind.i64.wrap ((IntKind.i64.wrap (2 * (v1028.tmod 5))) + (IntKind.i64.wrap (3 * (IntKind.i64.wrap (v1028.tdiv 5)))))).tmod 5))) + (IntKind.i64.wrap (v1028.tdiv 5)))).toNat) v1049)) (n := 25) (List.length_set.trans hl_v1027))
          have hS146 := St.eqv (M := [.blk b116 (ic .u64 v1057) 72, .blk b48 (ic .u64 v943) 116, .blk b45 (ic .u64 v858) 116, .blk b42 (ic .u64 (rz 25)) 72, .blk b39 (ic .u64 v772) 72, .blk b19 (ic .i64 v8) 109, .blk b13 (ic .u64 (rz 25)) 72, .blk b10 (ic .u64 v772) 72]) hS145 (by rw [hv_v1057])
          refine wp_region_lit ?_
          refine wplp 2 [1, 2, 4, 6, 9, 62] [(1, pp b19 0), (2, pp b39 0), (4, pp b42 0), (6, pp b48 0), (9, pp b116 0), (62, i6 (IntKind.i64.wrap (v1028 + 1)))] hF145 (fun a147 hF147 => (wpList_nil ?_))
          exact ⟨k122, Nat.lt_succ_self _, v1057, (IntKind.i64.wrap (v1028 + 1)), h, Fr.pick [1, 2, 4, 6, 9, 62] (by kernel_rfl) hF147, hS146.sub (.cons_cons _ (.cons_cons _ (.cons_cons _ (.cons_cons _ (.cons_cons _ (.cons_cons _ (.cons_cons _ (.cons_cons _ (.slnil))))))))), hl_v1057⟩
         ·
          have h := if_f ht125 hr122
          refine wp_exit ?_
          refine then_x (then_x (cut_x ?_))
          have hr := Option.some.inj h
          subst hr
          exact ⟨_, rfl, Fr.pick [2, 4, 9] (by kernel_rfl) hF124, hS122.sub (.cons_cons _ (.cons_cons _ (.cons_cons _ (.cons_cons _ (.cons_cons _ (.cons_cons _ (.cons_cons _ (.cons_cons _ (.slnil))))))))), hl_v1027⟩
       ·
        rintro a148 w149 ⟨v1029, hev, hF148, hS148, hl_v1029⟩
        subst hev
        refine then_n (wp_seq (wp_seq (wp_region_lit ?_)))
        refine wplp 1 [2, 4, 9, 93] [(2, pp b39 0), (4, pp b42 0), (9, pp b116 0), (93, i6 0)] hF148 (fun a150 hF150 => (wpList_nil (then_n ?_)))
        obtain ⟨ev151, hl152, h⟩ := bind_ok h
        refine block_cut (fun a' w' => ∃ (v1109 : List Int), v1109 = ev151 ∧ Fr 123 [] [(2, pp b39 0), (4, pp b42 0)] a' ∧ St w w' [.blk b116 (ic .u64 v1029) 72, .blk b48 (ic .u64 v943) 116, .blk b45 (ic .u64 v858) 116, .blk b42 (ic .u64 (rz 25)) 72, .blk b39 (ic .u64 v1109) 72, .blk b19 (ic .i64 v8) 109, .blk b13 (ic .u64 (rz 25)) 72, .blk b10 (ic .u64 v772) 72] ∧ v1109.length = 25) ?_ ?_
        ·
         refine wp_loop_ghost (fun k a' w' => ∃ (v1107 : List Int) (v1108 : Int), i_keccak_Permute_l13 v1029 k v1107 v1108 = some ev151 ∧ Fr 123 [] [(2, pp b39 0), (4, pp b42 0), (9, pp b116 0), (93, i6 v1108)] a' ∧ St w w' [.blk b116 (ic .u64 v1029) 72, .blk b48 (ic .u64 v943) 116, .blk b45 (ic .u64 v858) 116, .blk b42 (ic .u64 (rz 25)) 72, .blk b39 (ic .u64 v1107) 72, .blk b19 (ic .i64 v8) 109, .blk b13 (ic .u64 (rz 25)) 72, .blk b10 (ic .u64 v772) 72] ∧ v1107.length = 25) LIM ⟨v772, 0, hl152, Fr.pick [2, 4, 9, 93] (by kernel_rfl) hF150, hS148, hl_v772⟩ ?_
         rintro k153 a153 w154 ⟨v1107, v1108, hr153, hF153, hS153, hl_v1107⟩
         cases k153 with
         | zero => rw [i_keccak_Permute_l13] at hr153; cases hr153
         | succ k153 =>
          rw [i_keccak_Permute_l13] at hr153
          refine wp_seq (wp_region_lit ?_)
          refine wplp 1 [2, 4, 9, 93, 94] [(2, pp b39 0), (4, pp b42 0), (9, pp b116 0), (93, i6 v1108), (94, .bool (decide (v1108 < 25)))] hF153 (fun a155 hF155 => (wpList_nil (then_n (wp_seq ?_))))
          refine wp_cond_split (t := (decide (v1108 < 25))) hF155.e (fun ht156 => ?_) (fun ht156 => ?_)
          ·
           have h := if_t ht156 hr153
           refine wp_skip (then_n (wp_seq (wp_block (wp_seq (wp_region_lit ?_)))))
           refine wplp 2 [2, 4, 9, 13, 93] [(2, pp b39 0), (4, pp b42 0), (9, pp b116 0), (13, i6 v1108), (93, i6 v1108)] hF155 (fun a157 hF157 => (wpList_nil (then_n (wp_seq (wp_region_lit ?_)))))
           refine wplp 4 [2, 4, 9, 13, 14, 93] [(2, pp b39 0), (4, pp b42 0), (9, pp b116 0), (13, i6 v1108), (14, i6 (IntKind.i64.wrap ((IntKind.i64.wrap (v1108.tdiv 5)) * 5))), (93, i6 v1108)] hF157 (fun a158 hF158 => (wpList_nil (then_n (wp_region_noPanic (region_al [22] (fun w' => St w w' [.blk b116 (ic .u64 v1029) 72, .blk b48 (ic .u64 v943) 116, .blk b45 (ic .u64 v858) 116, .blk b42 (ic .u64 (rz 25)) 72, .blk b39 (ic .u64 v1107) 72, .blk b19 (ic .i64 v8) 109, .blk b13 (ic .u64 (rz 25)) 72, .blk b10 (ic .u64 v772) 72]) 23 rfl (by kernel_rfl) ?_)))))
           have hS159 := St.draw1 hS153
           refine al_run (fun _ _ _ _ _ h => h) 11 [0, 1, 4, 5, 6, 7, 8, 12, 13, 14, 15, 16] rfl [2, 4, 9, 93, 99, 100, 107, 115] [(2, pp b39 0), (4, pp b42 0), (9, pp b116 0), (93, i6 v1108), (99, i6 v1108), (100, i6 v1108), (107, i6 (IntKind.i64.wrap ((IntKind.i64.wrap ((IntKind.i64.wrap (v1108.tdiv 5)) * 5)) + ((IntKind.i64.wrap (v1108 + 1)).tmod 5)))), (115, i6 (IntKind.i64.wrap ((IntKind.i64.wrap ((IntKind.i64.wrap (v1108.tdiv 5)) * 5)) + ((IntKind.i64.wrap (v1108 + 2)).tmod 5))))] hF158 (by kernel_rfl) (fun _ => hS159) (fun a160 hF160 => ?_)
           obtain ⟨hg161, h⟩ := gd_ok h
           refine al_any (i := 2) rfl (by kernel_rfl) (fun _ _ _ _ h => h) hF160 (by kernel_rfl) (v := pp b116 v1108.toNat) (fun _ => run_indexA rfl (b := b116) (off := 0) hF160.e (k := .i64) (i := v1108) hF160.e (len := 25) (E := 71) (by kernel_rfl) (s := 1) (by kernel_rfl) (inb_ok hg161) (r := v1108.toNat) (by simp only [Nat.zero_add, Nat.mul_one])) (by kernel_rfl) (fun _ => hS159) (fun a162 hF162 => ?_)
           refine al_val (i := 3) rfl (by kernel_rfl) (fun _ _ _ _ h => h) hF162 (by kernel_rfl) (v := .int .u64 (rd v1029 v1108.toNat)) (fun _ HS => run_load1 rfl (b := b116) (off := v1108.toNat) hF162.e (by kernel_rfl) (HS.at 0 rfl (v1108.toNat) (ic_get (lt_len (inb_nat hg161) hl_v1029)))) (by kernel_rfl) (hS159.sub (.cons_cons _ (.cons_cons _ (.cons_cons _ (.cons_cons _ (.cons_cons _ (.cons_cons _ (.cons_cons _ (.cons_cons _ (.slnil)))))))))) (fun a163 hF163 => ?_)
           obtain ⟨hg164, h⟩ := gd_ok h
           refine al_any (i := 9) rfl (by kernel_rfl) (fun _ _ _ _ h => h) hF163 (by kernel_rfl) (v := pp b116 ((IntKind.i64.wrap ((IntKind.i64.wrap ((IntKind.i64.wrap (v1108.tdiv 5)) * 5)) + ((IntKind.i64.wrap (v1108 + 1)).tmod 5))).toNat)) (fun _ => run_indexA rfl (b := b116) (off := 0) hF163.e (k := .i64) (i := (IntKind.i64.wrap ((IntKind.i64.wrap ((IntKind.i64.wrap (v1108.tdiv 5)) * 5)) + ((IntKind.i64.wrap (v1108 + 1)).tmod 5)))) hF163.e (len := 25) (E := 71) (by kernel_rfl) (s := 1) (by kernel_rfl) (inb_ok hg164) (r := (IntKind.i64.wrap ((IntKind.i64.wrap ((IntKind.i64.wrap (v1108.tdiv 5)) * 5)) + ((IntKind.i64.wrap (v1108 + 1)).tmod 5))).toNat) (by simp only [Nat.zero_add, Nat.mul_one])) (by kernel_rfl) (fun _ => hS159) (fun a165 hF165 => ?_)
           refine al_val (i := 10) rfl (by kernel_rfl) (fun _ _ _ _ h => h) hF165 (by kernel_rfl) (v := .int .u64 (rd v1029 ((IntKind.i64.wrap ((IntKind.i64.wrap ((IntKind.i64.wrap (v1108.tdiv 5)) * 5)) + ((IntKind.i64.wrap (v1108 + 1)).tmod 5))).toNat))) (fun _ HS => run_load1 rfl (b := b116) (off := (IntKind.i64.wrap ((IntKind.i64.wrap ((IntKind.i64.wrap (v1108.tdiv 5)) * 5)) + ((IntKind.i64.wrap (v1108 + 1)).tmod 5))).toNat) hF165.e (by kernel_rfl) (HS.at 0 rfl ((IntKind.i64.wrap ((IntKind.i64.wrap ((IntKind.i64.wrap (v1108.tdiv 5)) * 5)) + ((IntKind.i64.wrap (v1108 + 1)).tmod 5))).toNat) (ic_get (lt_len (inb_nat hg164) hl_v1029)))) (by kernel_rfl) (hS159.sub (.cons_cons _ (.cons_cons _ (.cons_cons _ (.cons_cons _ (.cons_cons _ (.cons_cons _ (.cons_cons _ (.cons_cons _ (.slnil)))))))))) (fun a166 hF166 => ?_)
           refine al_run (fun _ _ _ _ _ h => h) 6 [11] rfl [2, 4, 9, 93, 99, 102, 110, 115] [(2, pp b39 0), (4, pp b42 0), (9, pp b116 0), (93, i6 v1108), (99, i6 v1108), (102, .int .u64 (rd v1029 v1108.toNat)), (110, .int .u64 (ixor .u64 18446744073709551615 (rd v1029 ((IntKind.i64.wrap ((IntKind.i64.wrap ((IntKind.i64.wrap (v1108.tdiv 5)) * 5)) + ((IntKind.i64.wrap (v1108 + 1)).tmod 5))).toNat)))), (115, i6 (IntKind.i64.wrap ((IntKind.i64.wrap ((IntKind.i64.wrap (v1108.tdiv 5)) * 5)) + ((IntKind.i64.wrap (v1108 + 2)).tmod 5))))] hF166 (by kernel_rfl) (fun _ => hS159) (fun a167 hF167 => ?_)
           obtain ⟨hg168, h⟩ := gd_ok h
           refine al_any (i := 17) rfl (by kernel_rfl) (fun _ _ _ _ h => h) hF167 (by kernel_rfl) (v := pp b116 ((IntKind.i64.wrap ((IntKind.i64.wrap ((IntKind.i64.wrap (v1108.tdiv 5)) * 5)) + ((IntKind.i64.wrap (v1108 + 2)).tmod 5))).toNat)) (fun _ => run_indexA rfl (b := b116) (off := 0) hF167.e (k := .i64) (i := (IntKind.i64.wrap ((IntKind.i64.wrap ((IntKind.i64.wrap (v1108.tdiv 5)) * 5)) + ((IntKind.i64.wrap (v1108 + 2)).tmod 5)))) hF167.e (len := 25) (E := 71) (by kernel_rfl) (s := 1) (by kernel_rfl) (inb_ok hg168) (r := (IntKind.i64.wrap ((IntKind.i64.wrap ((IntKind.i64.wrap (v1108.tdiv 5)) * 5)) + ((IntKind.i64.wrap (v1108 + 2)).tmod 5))).toNat) (by simp only [Nat.zero_add, Nat.mul_one])) (by kernel_rfl) (fun _ => hS159) (fun a169 hF169 => ?_)
           refine al_val (i := 18) rfl (by kernel_rfl) (fun _ _ _ _ h => h) hF169 (by kernel_rfl) (v := .int .u64 (rd v1029 ((IntKind.i64.wrap ((IntKind.i64.wrap ((IntKind.i64.wrap (v1108.tdiv 5)) * 5)) + ((IntKind.i64.wrap (v1108 + 2)).tmod 5))).toNat))) (fun _ HS => run_load1 rfl (b := b116) (off := (IntKind.i64.wrap ((IntKind.i64.wrap ((IntKind.i64.wrap (v1108.tdiv 5)) * 5)) + ((IntKind.i64.wrap (v1108 + 2)).tmod 5))).toNat) hF169.e (by kernel_rfl) (HS.at 0 rfl ((IntKind.i64.wrap ((IntKind.i64.wrap ((IntKind.i64.wrap (v1108.tdiv 5)) * 5)) + ((IntKind.i64.wrap (v1108 + 2)).tmod 5))).toNat) (ic_get (lt_len (inb_nat hg168) hl_v1029)))) (by kernel_rfl) (hS159.sub (.cons_cons _ (.cons_cons _ (.cons_cons _ (.cons_cons _ (.cons_cons _ (.cons_cons _ (.cons_cons _ (.cons_cons _ (.slnil)))))))))) (fun a170 hF170 => ?_)
           refine al_run (fun _ _ _ _ _ h => h) 2 [19, 20] rfl [2, 4, 9, 93, 99, 119] [(2, pp b39 0), (4, pp b42 0), (9, pp b116 0), (93, i6 v1108), (99, i6 v1108), (119, .int .u64 (ixor .u64 (rd v1029 v1108.toNat) (iand .u64 (ixor .u64 18446744073709551615 (rd v1029 ((IntKind.i64.wrap ((IntKind.i64.wrap ((IntKind.i64.wrap (v1108.tdiv 5)) * 5)) + ((IntKind.i64.wrap (v1108 + 1)).tmod 5))).toNat))) (rd v1029 ((IntKind.i64.wrap ((IntKind.i64.wrap ((IntKind.i64.wrap (v1108.tdiv 5)) * 5)) + ((IntKind.i64.wrap (v1108 + 2)).tmod 5))).toNat)))))] hF170 (by kernel_rfl) (fun _ => hS159) (fun a171 hF171 => ?_)
           refine al_any (i := 21) rfl (by kernel_rfl) (fun _ _ _ _ h => h) hF171 (by kernel_rfl) (v := pp b39 v1108.toNat) (fun _ => run_indexA rfl (b := b39) (off := 0) hF171.e (k := .i64) (i := v1108) hF171.e (len := 25) (E := 71) (by kernel_rfl) (s := 1) (by kernel_rfl) (inb_ok hg161) (r := v1108.toNat) (by simp only [Nat.zero_add, Nat.mul_one])) (by kernel_rfl) (fun _ => hS159) (fun a172 hF172 => ?_)
           refine al_one (i := 22) rfl (by kernel_rfl) hF172 (by kernel_rfl) (wp_store1 hF172 hS159 rfl 4 rfl (off := v1108.toNat) (v := .int .u64 (ixor .u64 (rd v1029 v1108.toNat) (iand .u64 (ixor .u64 18446744073709551615 (rd v1029 ((IntKind.i64.wrap ((IntKind.i64.wrap ((IntKind.i64.wrap (v1108.tdiv 5)) * 5)) + ((IntKind.i64.wrap (v1108 + 1)).tmod 5))).toNat))) (rd v1029 ((IntKind.i64.wrap ((IntKind.i64.wrap ((IntKind.i64.wrap (v1108.tdiv 5)) * 5)) + ((IntKind.i64.wrap (v1108 + 2)).tmod 5))).toNat))))) (by kernel_rfl) rfl rfl (.ic (lt_len (inb_nat hg161) hl_v1107)) (L' := [.blk b116 (ic .u64 v1029) 72, .blk b48 (ic .u64 v943) 116, .blk b45 (ic .u64 v858) 116, .blk b42 (ic .u64 (rz 25)) 72, .blk b39 (ic .u64 (v1107.set v1108.toNat (ixor .u64 (rd v1029 v1108.toNat) (iand .u64 (ixor .u64 18446744073709551615 (rd v1029 ((IntKind.i64.wrap ((IntKind.i64.wrap ((IntKind.i64.wrap (v1108.tdiv 5)) * 5)) + ((IntKind.i64.wrap (v1108 + 1)).tmod 5))).toNat))) (rd v1029 ((IntKind.i64.wrap ((IntKind.i64.wrap ((IntKind.i64.wrap (v1108.tdiv 5)) * 5)) + ((IntKind.i64.wrap (v1108 + 2)).tmod 5))).toNat)))))) 72, .blk b19 (ic .i64 v8) 109, .blk b13 (ic .u64 (rz 25)) 72, .blk b10 (ic .u64 v772) 72]) rfl (fun w173 a174 hS174 hF174 => (And.intro (late_yes (by kernel_rfl)) ?_)))
           refine al_done (by kernel_rfl) ?_ _
           refine NoPanic.normal (blk_n (then_n ?_))
           obtain ⟨v1134, hv_v1134, h⟩ := nm_ok h
           have hl_v1134 : v1134.length = 25 := (congrArg List.length hv_v1134).trans (len_is ((v1107.set v1108.toNat (ixor .u64 (rd v1029 v1108.toNat) (iand .u64 (ixor .u64 18446744073709551615 (rd v1029 ((IntKind.i64.wrap ((IntKind.i64.wrap ((IntKind.i64.wrap (v1108.tdiv 5)) * 5)) + ((IntKind.i64.wrap (v1108 + 1)).tmod 5))).toNat))) (rd v1029 ((IntKind.i64.wrap ((IntKind.i64.wrap ((IntKind.i64.wrap (v1108.tdiv 5)) * 5)) + ((IntKind.i64.wrap (v1108 + 2)).tmod 5))).toNat)))))) (n := 25) (List.length_set.trans hl_v1107))
           have hS175 := St.eqv (M := [.blk b116 (ic .u64 v1029) 72, .blk b48 (ic .u64 v943) 116, .blk b45 (ic .u64 v858) 116, .blk b42 (ic .u64 (rz 25)) 72, .blk b39 (ic .u64 v1134) 72, .blk b19 (ic .i64 v8) 109, .blk b13 (ic .u64 (rz 25)) 72, .blk b10 (ic .u64 v772) 72]) hS174 (by rw [hv_v1134])
           refine wp_region_lit ?_
           refine wplp 2 [2, 4, 9, 93] [(2, pp b39 0), (4, pp b42 0), (9, pp b116 0), (93, i6 (IntKind.i64.wrap (v1108 + 1)))] hF174 (fun a176 hF176 => (wpList_nil ?_))
           exact ⟨k153, Nat.lt_succ_self _, v1134, (IntKind.i64.wrap (v1108 + 1)), h, Fr.pick [2, 4, 9, 93] (by kernel_rfl) hF176, hS175.sub (.cons_cons _ (.cons_cons _ (.cons_cons _ (.cons_cons _ (.cons_cons _ (.cons_cons _ (.cons_cons _ (.cons_cons _ (.slnil))))))))), hl_v1134⟩
          ·
           have h := if_f ht156 hr153
           refine wp_exit ?_
           refine then_x (then_x (cut_x ?_))
           have hr := Option.some.inj h
           subst hr
           exact ⟨_, rfl, Fr.pick [2, 4] (by kernel_rfl) hF155, hS153.sub (.cons_cons _ (.cons_cons _ (.cons_cons _ (.cons_cons _ (.cons_cons _ (.cons_cons _ (.cons_cons _ (.cons_cons _ (.slnil))))))))), hl_v1107⟩
        ·
         rintro a177 w178 ⟨v1109, hev, hF177, hS177, hl_v1109⟩
         subst hev
         refine then_n (wp_seq (wp_region_lit ?_))
         refine wpl_val hF177 (by kernel_rfl) (v := .agg (ic .u64 v1109).toArray) (run_loadR rfl (b := b39) (off := 0) hF177.e (by kernel_rfl) (k := 25) (by kernel_rfl) (((ic_len _ _).trans hl_v1109) : (ic .u64 v1109).length = 25) (hS177.all 4 rfl)) (by kernel_rfl) (fun a179 hF179 => ?_)
         refine wpl_one hF179 (by kernel_rfl) (wp_store hF179 hS177 rfl 3 rfl (off := 0) (by kernel_rfl) (v := .agg (ic .u64 v1109).toArray) (by kernel_rfl) (vs := ic .u64 v1109) rfl (k := 25) (by kernel_rfl) (((ic_len _ _).trans hl_v1109) : (ic .u64 v1109).length = 25) (by have h2 := (((ic_len _ _).trans (len_is (rz 25) (n := 25) (List.length_replicate))) : (ic .u64 (rz 25)).length = 25); omega) (ic_one _ _) (cs' := ic .u64 v1109) ((upd_ic _ _ _ _).trans (congrArg (ic .u64) (upd_all ((hl_v1109).trans ((len_is (rz 25) (n := 25) (List.length_replicate))).symm)))) (by kernel_rfl) (L' := [.blk b116 (ic .u64 v1029) 72, .blk b48 (ic .u64 v943) 116, .blk b45 (ic .u64 v858) 116, .blk b42 (ic .u64 v1109) 72, .blk b39 (ic .u64 v1109) 72, .blk b19 (ic .i64 v8) 109, .blk b13 (ic .u64 (rz 25)) 72, .blk b10 (ic .u64 v772) 72]) rfl (fun w180 a181 hS181 hF181 => (wpList_nil (then_n (wp_ret (ret_ok hF181 [.agg (ic .u64 v1109).toArray] (⟨⟨⟨b42, 0, none⟩, by kernel_rfl, loadVarR (by kernel_rfl) (k := 25) (by kernel_rfl) (((ic_len _ _).trans hl_v1109) : (ic .u64 v1109).length = 25) (hS181.all 3 rfl)⟩, trivial⟩) (inl_ret ?_)))))))
         refine go_fr (hF37.next (.agg (ic .u64 v1109).toArray) [1, 2, 3, 5, 7, 8, 12] (M := [(1, pp b10 0), (2, pp b13 0), (3, pp b19 0), (5, .int .u64 (rd v17 v773.toNat)), (7, .agg (ic .u64 v17).toArray), (8, i6 v773), (12, .agg (ic .u64 v1109).toArray)]) (by kernel_rfl)) (fun a182 hF182 => ?_)
         refine wpl_one hF182 (by kernel_rfl) (wp_store hF182 hS181 rfl 7 rfl (off := 0) (by kernel_rfl) (v := .agg (ic .u64 v1109).toArray) (by kernel_rfl) (vs := ic .u64 v1109) rfl (k := 25) (by kernel_rfl) (((ic_len _ _).trans hl_v1109) : (ic .u64 v1109).length = 25) (by have h2 := (((ic_len _ _).trans hl_v772) : (ic .u64 v772).length = 25); omega) (ic_one _ _) (cs' := ic .u64 v1109) ((upd_ic _ _ _ _).trans (congrArg (ic .u64) (upd_all ((hl_v1109).trans (hl_v772).symm)))) (by kernel_rfl) (L' := [.blk b116 (ic .u64 v1029) 72, .blk b48 (ic .u64 v943) 116, .blk b45 (ic .u64 v858) 116, .blk b42 (ic .u64 v1109) 72, .blk b39 (ic .u64 v1109) 72, .blk b19 (ic .i64 v8) 109, .blk b13 (ic .u64 (rz 25)) 72, .blk b10 (ic .u64 v1109) 72]) rfl (fun w183 a184 hS184 hF184 => (wpList_nil (then_n (wp_region_lit ?_)))))
         refine wpl_val hF184 (by kernel_rfl) (v := pp b10 0) (run_indexA rfl (b := b10) (off := 0) hF184.e (k := .i64) (i := 0) hF184.e (len := 25) (E := 71) (by kernel_rfl) (s := 1) (by kernel_rfl) (by decide) (r := 0) rfl) (by kernel_rfl) (fun a185 hF185 => ?_)
         refine wpl_val hF185 (by kernel_rfl) (v := .int .u64 (rd v1109 0)) (run_load1 rfl (b := b10) (off := 0) hF185.e (by kernel_rfl) (hS184.at 7 rfl (0) (ic_get (lt_len (by decide : 0 < 25) hl_v1109)))) (by kernel_rfl) (fun a186 hF186 => ?_)
         refine wplp 2 [1, 2, 3, 7, 8, 16] [(1, pp b10 0), (2, pp b13 0), (3, pp b19 0), (7, .agg (ic .u64 v17).toArray), (8, i6 v773), (16, .int .u64 (ixor .u64 (rd v1109 0) (rd v17 v773.toNat)))] hF186 (fun a187 hF187 => ?_)
         refine wpl_val hF187 (by kernel_rfl) (v := pp b10 0) (run_indexA rfl (b := b10) (off := 0) hF187.e (k := .i64) (i := 0) hF187.e (len := 25) (E := 71) (by kernel_rfl) (s := 1) (by kernel_rfl) (by decide) (r := 0) rfl) (by kernel_rfl) (fun a188 hF188 => ?_)
         refine wpl_one hF188 (by kernel_rfl) (wp_store1 hF188 hS184 rfl 7 rfl (off := 0) (v := .int .u64 (ixor .u64 (rd v1109 0) (rd v17 v773.toNat))) (by kernel_rfl) rfl rfl (.ic (lt_len (by decide : 0 < 25) hl_v1109)) (L' := [.blk b116 (ic .u64 v1029) 72, .blk b48 (ic .u64 v943) 116, .blk b45 (ic .u64 v858) 116, .blk b42 (ic .u64 v1109) 72, .blk b39 (ic .u64 v1109) 72, .blk b19 (ic .i64 v8) 109, .blk b13 (ic .u64 (rz 25)) 72, .blk b10 (ic .u64 (v1109.set 0 (ixor .u64 (rd v1109 0) (rd v17 v773.toNat)))) 72]) rfl (fun w189 a190 hS190 hF190 => ?_))
         obtain ⟨v1151, hv_v1151, h⟩ := nm_ok h
         have hl_v1151 : v1151.length = 25 := (congrArg List.length hv_v1151).trans (len_is ((v1109.set 0 (ixor .u64 (rd v1109 0) (rd v17 v773.toNat)))) (n := 25) (List.length_set.trans hl_v1109))
         have hS191 := St.eqv (M := [.blk b116 (ic .u64 v1029) 72, .blk b48 (ic .u64 v943) 116, .blk b45 (ic .u64 v858) 116, .blk b42 (ic .u64 v1109) 72, .blk b39 (ic .u64 v1109) 72, .blk b19 (ic .i64 v8) 109, .blk b13 (ic .u64 (rz 25)) 72, .blk b10 (ic .u64 v1151) 72]) hS190 (by rw [hv_v1151])
         refine wpList_nil (blk_n (then_n (wp_region_lit ?_)))
         refine wplp 2 [1, 2, 3, 7, 8] [(1, pp b10 0), (2, pp b13 0), (3, pp b19 0), (7, .agg (ic .u64 v17).toArray), (8, i6 (IntKind.i64.wrap (v773 + 1)))] hF190 (fun a192 hF192 => (wpList_nil ?_))
         exact ⟨k30, Nat.lt_succ_self _, v1151, (IntKind.i64.wrap (v773 + 1)), h, Fr.pick [1, 2, 3, 7, 8] (by kernel_rfl) hF192, hS191.sub (.cons _ (.cons _ (.cons _ (.cons _ (.cons _ (.cons_cons _ (.cons_cons _ (.cons_cons _ (.slnil))))))))), hl_v1151⟩
    ·
     have h := if_f ht33 hr30
     refine wp_exit ?_
     refine then_x (then_x (cut_x ?_))
     have hr := Option.some.inj h
     subst hr
     exact ⟨_, rfl, Fr.pick [1, 2] (by kernel_rfl) hF32, hS30.sub (.cons_cons _ (.cons_cons _ (.cons_cons _ (.slnil)))), hl_v772⟩
  ·
   rintro a193 w194 ⟨v774, hev, hF193, hS193, hl_v774⟩
   subst hev
   refine then_n (wp_seq (wp_region_lit ?_))
   refine wpl_val hF193 (by kernel_rfl) (v := .agg (ic .u64 v774).toArray) (run_loadR rfl (b := b10) (off := 0) hF193.e (by kernel_rfl) (k := 25) (by kernel_rfl) (((ic_len _ _).trans hl_v774) : (ic .u64 v774).length = 25) (hS193.all 2 rfl)) (by kernel_rfl) (fun a195 hF195 => ?_)
   refine wpl_one hF195 (by kernel_rfl) (wp_store hF195 hS193 rfl 1 rfl (off := 0) (by kernel_rfl) (v := .agg (ic .u64 v774).toArray) (by kernel_rfl) (vs := ic .u64 v774) rfl (k := 25) (by kernel_rfl) (((ic_len _ _).trans hl_v774) : (ic .u64 v774).length = 25) (by have h2 := (((ic_len _ _).trans (len_is (rz 25) (n := 25) (List.length_replicate))) : (ic .u64 (rz 25)).length = 25); omega) (ic_one _ _) (cs' := ic .u64 v774) ((upd_ic _ _ _ _).trans (congrArg (ic .u64) (upd_all ((hl_v774).trans ((len_is (rz 25) (n := 25) (List.length_replicate))).symm)))) (by kernel_rfl) (L' := [.blk b19 (ic .i64 v8) 109, .blk b13 (ic .u64 v774) 72, .blk b10 (ic .u64 v774) 72]) rfl (fun w196 a197 hS197 hF197 => (wpList_nil (then_n (wp_ret (ret_ok hF197 [.agg (ic .u64 v774).toArray] (⟨⟨⟨b13, 0, none⟩, by kernel_rfl, loadVarR (by kernel_rfl) (k := 25) (by kernel_rfl) (((ic_len _ _).trans hl_v774) : (ic .u64 v774).length = 25) (hS197.all 1 rfl)⟩, trivial⟩) ?_))))))
   have hr0 := Option.some.inj h
   subst hr0
   exact ⟨rfl, hS197.sub (List.nil_sublist _), hl_v774⟩
end Go.Proofs.YtapilbdboeggdaaR.Gx
