/-
A part of the proof: printed walks of the functions that the law reaches, and plain laws over them.
-/
import Derived.Test.YtapilbdboeggdaaRW01
import Derived.Test.YtapilbdboeggdaaRW09
set_option maxRecDepth 1000000
set_option linter.unusedVariables false
set_option linter.unusedSimpArgs false
set_option maxHeartbeats 4000000
namespace Go.Proofs.YtapilbdboeggdaaR.Gx
open Go
theorem red_l1 {a : List Int} (ha : a.length = 256) (hp : Lo 65536 a) : ∀ (k : Nat) (out : List Int) (i : Nat), i ≤ 256 → out.length = 256 → (∀ j, j < 256 → rd out j = if j < i then rd a j % 3329 else rd a j) → 256 - i < k →
    OK (i_ring_Reduce_l1 k out (i : Int)) (fun r => r.length = 256 ∧ ∀ j, j < 256 → rd r j = rd a j % 3329) := by
  intro k
  induction k with
  | zero => intro out j _ _ _ hm; exact absurd hm (Nat.not_lt_zero _)
  | succ k ih =>
    intro out i hi hl h hm
    rw [i_ring_Reduce_l1]
    refine OK.ite (fun hc => ?_) (fun hc => ?_)
    · have hc := of_decide_eq_true hc
      have hi : i < 256 := by omega
      refine OK.grd (inb_n hi) ?_
      refine OK.nm (fun v hv => ?_)
      rw [Int.toNat_natCast] at hv
      have h0 := h i hi
      rw [if_neg (by omega)] at h0
      rw [h0, tm (hp.rd (by decide) i).1] at hv
      rw [wi64 (by omega) (by omega), show (i : Int) + 1 = ((i + 1 : Nat) : Int) from rfl]
      refine ih v (i + 1) (by omega) (by rw [hv, List.length_set]; exact hl) (fun j hj => ?_) (by omega)
      by_cases he : i = j
      · subst he
        rw [hv, rd_set_eq (by omega), if_pos (by omega)]
      · rw [hv, rd_set_ne he, h j hj]
        by_cases hlt : j < i
        · rw [if_pos hlt, if_pos (by omega)]
        · rw [if_neg hlt, if_neg (by omega)]
    · have hc := of_decide_eq_false hc
      have hi : i = 256 := by omega
      subst hi
      refine OK.some ⟨hl, fun j hj => ?_⟩
      rw [h j hj, if_pos hj]
theorem red_ok {a : List Int} (ha : a.length = 256) (hp : Lo 65536 a) : OK (i_ring_Reduce a) (fun r => r.length = 256 ∧ ∀ j, j < 256 → rd r j = rd a j % 3329) := by
  unfold i_ring_Reduce
  refine OK.bind (red_l1 ha hp LIM a 0 (by omega) ha (fun j _ => by rw [if_neg (by omega)]) (by simp only [LIM]; omega)) (fun r hr => ?_)
  exact OK.some hr
theorem list_rd {a b : List Int} (ha : a.length = 256) (hb : b.length = 256) (h : ∀ j, j < 256 → rd a j = rd b j) : a = b := by
  apply List.ext_getElem (by omega)
  intro i h1 h2
  have := h i (by omega)
  simpa [rd, List.getD_eq_getElem?_getD, h1, h2] using this
theorem lo_of_rd {a : List Int} {n : Nat} {m : Int} (ha : a.length = n) (h : ∀ j, j < n → 0 ≤ rd a j ∧ rd a j < m) : Lo m a := by
  intro x hx
  obtain ⟨i, hi, rfl⟩ := List.getElem_of_mem hx
  have := h i (by omega)
  simpa [rd, List.getD_eq_getElem?_getD, hi] using this
theorem red_id {a : List Int} (ha : a.length = 256) (hp : Lo 3329 a) : i_ring_Reduce a = some a := by
  obtain ⟨r, e, hl, h⟩ := red_ok ha (hp.le (by decide))
  rw [e]; congr 1
  refine list_rd hl ha fun j hj => ?_
  rw [h j hj]
  have := hp.rd (by decide) j
  omega
theorem canon_ok {b : List Int} (hbl : b.length = 384) (hb : Lo 256 b) : ∃ r, r.length = 256 ∧ Lo 4096 r ∧ (∀ t, t < 3072 → pb r t = gb b t) ∧ (Lo 3329 r → i_ring_Canon b = some true) ∧ (¬ Lo 3329 r → i_ring_Canon b = some false) := by
  obtain ⟨r, e, hl, hlo, hbits⟩ := raw_ok hbl hb
  obtain ⟨q, e2, hl2, h2⟩ := red_ok hl (hlo.le (by decide))
  have hc : i_ring_Canon b = some (r == q) := by
    unfold i_ring_Canon
    rw [if_neg (by simp [hbl]), e]
    simp only [Option.bind_some]
    rw [e2]
    rfl
  refine ⟨r, hl, hlo, hbits, fun h3 => ?_, fun h3 => ?_⟩
  · rw [hc]
    have : q = r := by
      have := red_id hl h3
      rw [e2] at this; exact Option.some.inj this
    rw [this]; simp
  · rw [hc]
    congr 1
    rw [beq_eq_false_iff_ne]
    intro he
    subst he
    apply h3
    refine lo_of_rd hl fun j hj => ?_
    have h4 := h2 j hj
    have h5 := hlo.rd (by decide) j
    omega
theorem enc_ok {a : List Int} (ha : a.length = 256) (hp : Lo 3329 a) : ∃ b, i_ring_Encode 12 a = some (b, 0) ∧ b.length = 384 ∧ Lo 256 b ∧ i_ring_Canon b = some true := by
  have h1 : OK (i_ring_Encode 12 a) (fun r => r.2 = 0 ∧ EncInv a r.1 3072) := by
    unfold i_ring_Encode
    rw [if_neg (by decide), if_neg (by decide), if_pos (by decide), red_id ha hp]
    simp only [Option.bind_some]
    rw [if_pos (by kernel_rfl), show (IntKind.i64.wrap (32 * 12)).toNat = 384 from by kernel_rfl]
    refine OK.bind (enc_l3 hp LIM _ 0 (by omega) (enc_new a) (by simp only [LIM]; omega)) (fun r hr => ?_)
    exact OK.some ⟨rfl, hr⟩
  obtain ⟨⟨b, z⟩, e, h2, h3⟩ := h1
  simp only at h2 h3
  subst h2
  refine ⟨b, e, h3.len, h3.lo, ?_⟩
  obtain ⟨r, hl, hlo, hbits, hyes, _⟩ := canon_ok h3.len h3.lo
  refine hyes ?_
  have : a = r := pb_ext ha hl (hp.le (by decide)) hlo fun t ht => by
    rw [hbits t ht, h3.bits t ht]; simp [ht]
  rw [← this]; exact hp
theorem canon_bad {b : List Int} (hbl : b.length = 384) (hb : Lo 256 b) {i n : Nat} (hi : i < 256) (hn : 3329 ≤ n) (hn2 : n < 4096) (h : ∀ j, j < 12 → gb b (12 * i + j) = n.testBit j) : i_ring_Canon b = some false := by
  obtain ⟨r, hl, hlo, hbits, _, hno⟩ := canon_ok hbl hb
  refine hno fun h3 => ?_
  obtain ⟨x, hx, hx2⟩ := hlo.nat (by decide) i
  have h4 := h3.rd (by decide) i
  have : x = n := by
    apply Nat.eq_of_testBit_eq
    intro j
    by_cases hj : j < 12
    · have h5 := hbits (12 * i + j) (by omega)
      rw [h j hj] at h5
      unfold pb at h5
      rwa [show (12 * i + j) / 12 = i from by omega, show (12 * i + j) % 12 = j from by omega, hx, Int.toNat_natCast] at h5
    · rw [Nat.testBit_lt_two_pow (Nat.lt_of_lt_of_le (show x < 2 ^ 12 from by omega) (Nat.pow_le_pow_right (by decide) (by omega))), Nat.testBit_lt_two_pow (Nat.lt_of_lt_of_le (show n < 2 ^ 12 from by omega) (Nat.pow_le_pow_right (by decide) (by omega)))]
  omega
theorem add_l1_lo (b : List Int) (hb : b.length = 256) : ∀ (k : Nat) (out : List Int) (i : Nat), i ≤ 256 → out.length = 256 → (∀ j, j < i → 0 ≤ rd out j ∧ rd out j < 3329) → 256 - i < k →
    OK (i_ring_Add_l1 b k out (i : Int)) (fun r => r.length = 256 ∧ Lo 3329 r) := by
  intro k
  induction k with
  | zero => intro out j _ _ _ hm; exact absurd hm (Nat.not_lt_zero _)
  | succ k ih =>
    intro out i hi hl h hm
    rw [i_ring_Add_l1]
    refine OK.ite (fun hc => ?_) (fun hc => ?_)
    · have hc := of_decide_eq_true hc
      have hi : i < 256 := by omega
      refine OK.grd (inb_n hi) ?_
      refine OK.nm (fun v hv => ?_)
      rw [Int.toNat_natCast] at hv
      rw [wi64 (by omega) (by omega), show (i : Int) + 1 = ((i + 1 : Nat) : Int) from rfl]
      refine ih v (i + 1) (by omega) (by rw [hv, List.length_set]; exact hl) (fun j hj => ?_) (by omega)
      by_cases he : i = j
      · subst he
        rw [hv, rd_set_eq (by omega)]
        exact tmod_b (u16_b _).1 (by decide)
      · rw [hv, rd_set_ne he]; exact h j (by omega)
    · have hc := of_decide_eq_false hc
      have hi : i = 256 := by omega
      subst hi
      exact OK.some ⟨hl, lo_of_rd hl h⟩
theorem add_lo (a b : List Int) (ha : a.length = 256) (hb : b.length = 256) : OK (i_ring_Add a b) (fun r => r.length = 256 ∧ Lo 3329 r) := by
  unfold i_ring_Add
  refine OK.bind (i_ring_Reduce_tot a ha) (fun x hx => ?_)
  refine OK.bind (i_ring_Reduce_tot b hb) (fun y hy => ?_)
  refine OK.bind (add_l1_lo y hy LIM x 0 (by omega) hx (fun j hj => absurd hj (Nat.not_lt_zero _)) (by simp only [LIM]; omega)) (fun r hr => ?_)
  exact OK.some hr
structure Row3 (x a b c : List Int) : Prop where
  eq : x = a ++ b ++ c
  la : a.length = 384
  lb : b.length = 384
  lc : c.length = 384
  oa : Lo 256 a
  ob : Lo 256 b
  oc : Lo 256 c
  ca : i_ring_Canon a = some true
  cb : i_ring_Canon b = some true
  cc : i_ring_Canon c = some true
def GoodRow (x : List Int) : Prop := ∃ a b c, Row3 x a b c
theorem row_enc_ok {t0 t1 t2 : List Int} (h0 : t0.length = 256 ∧ Lo 3329 t0) (h1 : t1.length = 256 ∧ Lo 3329 t1) (h2 : t2.length = 256 ∧ Lo 3329 t2) : OK (i_kem_row_encoded t0 t1 t2) GoodRow := by
  obtain ⟨a, ea, la, oa, ca⟩ := enc_ok h0.1 h0.2
  obtain ⟨b, eb, lb, ob, cb⟩ := enc_ok h1.1 h1.2
  obtain ⟨c, ec, lc, oc, cc⟩ := enc_ok h2.1 h2.2
  unfold i_kem_row_encoded
  rw [ea, eb, ec]
  simp only [Option.bind_some]
  rw [if_neg (by decide), if_pos (by simp [la]), if_neg (by decide), if_pos (by simp [la, lb]), if_neg (by decide), if_pos (by simp [la, lb, lc])]
  exact OK.some ⟨a, b, c, rfl, la, lb, lc, oa, ob, oc, ca, cb, cc⟩
theorem GoodRow.len {x : List Int} (h : GoodRow x) : x.length = 1152 := by
  obtain ⟨a, b, c, h⟩ := h
  rw [h.eq]; simp [h.la, h.lb, h.lc]
theorem entry_err {v : List Int} {i j e : Int} (h : i_kem_entry v i j = some (.error e)) : e ≠ 0 := by
  unfold i_kem_entry nm_ at h
  simp only [] at h
  cases h1 : i_octet_Join_2 v [IntKind.u8.wrap j, IntKind.u8.wrap i] with
  | none => rw [h1] at h; cases h
  | some x =>
    rw [h1] at h
    simp only [Option.bind_some] at h
    cases h2 : i_ring_SampleNtt x with
    | none => rw [h2] at h; cases h
    | some y =>
      obtain ⟨p, q⟩ := y
      rw [h2] at h
      simp only [Option.bind_some] at h
      split at h
      · rename_i hq
        injection h with h; injection h with h; subst h
        simpa using hq
      · injection h with h; cases h
def GoodEk (ek : List Int) : Prop := ∃ x rho, ek = x ++ rho ∧ GoodRow x ∧ rho.length = 32
theorem join2_eq {a b c : List Int} (h : i_octet_Join_2 a b = some c) : c = a ++ b := by
  unfold i_octet_Join_2 at h
  have h := (gd_ok h).2
  have h := (gd_ok h).2
  have h := (gd_ok h).2
  exact (Option.some.inj h).symm
theorem pke_spec (v1 : List Int) (hl_v1 : v1.length = 32) : OK (i_kem_PkeKey v1) (fun r => (r.2.2 = 0 → GoodEk r.1 ∧ r.2.1.length = 1152) ∧ (r.2.2 ≠ 0 → ∃ x, i_keccak_Sha3512_2 v1 [3] = some x ∧ ∃ y, ∃ rho, i_kem_split x = some (rho, y) ∧ ∃ i j, (i = 0 ∨ i = 1 ∨ i = 2) ∧ (j = 0 ∨ j = 1 ∨ j = 2) ∧ i_kem_entry rho i j = some (.error r.2.2))) := by
  unfold i_kem_PkeKey
  refine OK.bindE (i_keccak_Sha3512_2_tot v1 ([3]) hl_v1 rfl) (fun v17 Ehr1 hr1 => ?_)
  have hl_v17 := hr1
  refine OK.bindE (i_kem_split_tot v17 hl_v17) (fun r3 Ehr2 hr2 => ?_)
  obtain ⟨v21, v22⟩ := r3
  obtain ⟨hl_v21, hl_v22⟩ := hr2
  refine OK.bindE (i_kem_noises_tot v22 hl_v22) (fun r5 Ehr4 hr4 => ?_)
  obtain ⟨v39, v40, v41⟩ := r5
  obtain ⟨hl_v39, hl_v40, hl_v41⟩ := hr4
  refine OK.bindE (i_kem_row_turned_tot v39 v40 v41 hl_v39 hl_v40 hl_v41) (fun r7 Ehr6 hr6 => ?_)
  obtain ⟨v45, v46, v47⟩ := r7
  obtain ⟨hl_v45, hl_v46, hl_v47⟩ := hr6
  refine OK.bindE (i_kem_noises_tot1 v22 hl_v22) (fun r9 Ehr8 hr8 => ?_)
  obtain ⟨v51, v52, v53⟩ := r9
  obtain ⟨hl_v51, hl_v52, hl_v53⟩ := hr8
  refine OK.bindE (i_kem_row_turned_tot v51 v52 v53 hl_v51 hl_v52 hl_v53) (fun r11 Ehr10 hr10 => ?_)
  obtain ⟨v57, v58, v59⟩ := r11
  obtain ⟨hl_v57, hl_v58, hl_v59⟩ := hr10
  refine OK.bindE (i_kem_entry_tot v21 hl_v21) (fun r12 Ehr13 hr13 => ?_)
  rcases r12 with v2113 | v2110
  ·
   exact OK.some ⟨fun h => absurd h (entry_err Ehr13), fun _ => ⟨v17, Ehr1, v22, v21, Ehr2, _, _, by decide, by decide, Ehr13⟩⟩
  ·
   have hl_v2110 := hr13
   refine OK.bindE (i_kem_entry_tot1 v21 hl_v21) (fun r14 Ehr15 hr15 => ?_)
   rcases r14 with v2133 | v2130
   ·
    exact OK.some ⟨fun h => absurd h (entry_err Ehr15), fun _ => ⟨v17, Ehr1, v22, v21, Ehr2, _, _, by decide, by decide, Ehr15⟩⟩
   ·
    have hl_v2130 := hr15
    refine OK.bindE (i_kem_entry_tot2 v21 hl_v21) (fun r16 Ehr17 hr17 => ?_)
    rcases r16 with v2153 | v2150
    ·
     exact OK.some ⟨fun h => absurd h (entry_err Ehr17), fun _ => ⟨v17, Ehr1, v22, v21, Ehr2, _, _, by decide, by decide, Ehr17⟩⟩
    ·
     have hl_v2150 := hr17
     refine OK.bindE (i_kem_row_times_tot v2110 v2130 v2150 v45 v46 v47 hl_v2110 hl_v2130 hl_v2150 hl_v45 hl_v46 hl_v47) (fun v2174 Ehr18 hr18 => ?_)
     have hl_v2174 := hr18
     refine OK.bindE (add_lo v2174 v57 hl_v2174 hl_v57) (fun v2178 Ehr19 hr19 => ?_)
     have hl_v2178 := hr19.1; have hg_v2178 := hr19
     refine OK.bindE (i_kem_entry_tot3 v21 hl_v21) (fun r20 Ehr21 hr21 => ?_)
     rcases r20 with v2325 | v2322
     ·
      exact OK.some ⟨fun h => absurd h (entry_err Ehr21), fun _ => ⟨v17, Ehr1, v22, v21, Ehr2, _, _, by decide, by decide, Ehr21⟩⟩
     ·
      have hl_v2322 := hr21
      refine OK.bindE (i_kem_entry_tot4 v21 hl_v21) (fun r22 Ehr23 hr23 => ?_)
      rcases r22 with v2345 | v2342
      ·
       exact OK.some ⟨fun h => absurd h (entry_err Ehr23), fun _ => ⟨v17, Ehr1, v22, v21, Ehr2, _, _, by decide, by decide, Ehr23⟩⟩
      ·
       have hl_v2342 := hr23
       refine OK.bindE (i_kem_entry_tot5 v21 hl_v21) (fun r24 Ehr25 hr25 => ?_)
       rcases r24 with v2365 | v2362
       ·
        exact OK.some ⟨fun h => absurd h (entry_err Ehr25), fun _ => ⟨v17, Ehr1, v22, v21, Ehr2, _, _, by decide, by decide, Ehr25⟩⟩
       ·
        have hl_v2362 := hr25
        refine OK.bindE (i_kem_row_times_tot v2322 v2342 v2362 v45 v46 v47 hl_v2322 hl_v2342 hl_v2362 hl_v45 hl_v46 hl_v47) (fun v2386 Ehr26 hr26 => ?_)
        have hl_v2386 := hr26
        refine OK.bindE (add_lo v2386 v58 hl_v2386 hl_v58) (fun v2390 Ehr27 hr27 => ?_)
        have hl_v2390 := hr27.1; have hg_v2390 := hr27
        refine OK.bindE (i_kem_entry_tot6 v21 hl_v21) (fun r28 Ehr29 hr29 => ?_)
        rcases r28 with v2537 | v2534
        ·
         exact OK.some ⟨fun h => absurd h (entry_err Ehr29), fun _ => ⟨v17, Ehr1, v22, v21, Ehr2, _, _, by decide, by decide, Ehr29⟩⟩
        ·
         have hl_v2534 := hr29
         refine OK.bindE (i_kem_entry_tot7 v21 hl_v21) (fun r30 Ehr31 hr31 => ?_)
         rcases r30 with v2557 | v2554
         ·
          exact OK.some ⟨fun h => absurd h (entry_err Ehr31), fun _ => ⟨v17, Ehr1, v22, v21, Ehr2, _, _, by decide, by decide, Ehr31⟩⟩
         ·
          have hl_v2554 := hr31
          refine OK.bindE (i_kem_entry_tot8 v21 hl_v21) (fun r32 Ehr33 hr33 => ?_)
          rcases r32 with v2577 | v2574
          ·
           exact OK.some ⟨fun h => absurd h (entry_err Ehr33), fun _ => ⟨v17, Ehr1, v22, v21, Ehr2, _, _, by decide, by decide, Ehr33⟩⟩
          ·
           have hl_v2574 := hr33
           refine OK.bindE (i_kem_row_times_tot v2534 v2554 v2574 v45 v46 v47 hl_v2534 hl_v2554 hl_v2574 hl_v45 hl_v46 hl_v47) (fun v2598 Ehr34 hr34 => ?_)
           have hl_v2598 := hr34
           refine OK.bindE (add_lo v2598 v59 hl_v2598 hl_v59) (fun v2602 Ehr35 hr35 => ?_)
           have hl_v2602 := hr35.1; have hg_v2602 := hr35
           refine OK.bindE (row_enc_ok hg_v2178 hg_v2390 hg_v2602) (fun v2615 Ehr36 hr36 => ?_)
           have hl_v2615 := hr36.len
           refine OK.bindE (i_octet_Join_2_tot1 v2615 v21 hl_v2615 hl_v21) (fun v2625 Ehr37 hr37 => ?_)
           have hl_v2625 := hr37
           refine OK.bindE (i_kem_row_encoded_tot v45 v46 v47 hl_v45 hl_v46 hl_v47) (fun v2632 Ehr38 hr38 => ?_)
           have hl_v2632 := hr38
           exact OK.some ⟨fun _ => ⟨⟨v2615, v21, join2_eq Ehr37, hr36, hl_v21⟩, hl_v2632⟩, fun h => absurd rfl h⟩
theorem sub_mid {a b c : List Int} {l h : Nat} (hl : a.length = l) (hh : l + b.length = h) : sub (a ++ b ++ c) l h = b := by
  subst hl; subst hh
  simp [sub, List.append_assoc]
theorem goodEk_len {ek : List Int} (h : GoodEk ek) : ek.length = 1184 := by
  obtain ⟨x, rho, rfl, hx, hr⟩ := h
  simp [hx.len, hr]
theorem goodEk_check {ek : List Int} (h : GoodEk ek) : i_kem_CheckEk ek = some 0 := by
  have hlen := goodEk_len h
  obtain ⟨x, rho, rfl, ⟨a, b, c, r⟩, hr⟩ := h
  have e0 : sub (x ++ rho) 0 384 = a := by rw [r.eq]; simp [sub, List.append_assoc, r.la]
  have e1 : sub (x ++ rho) 384 768 = b := by rw [r.eq, List.append_assoc]; exact sub_mid r.la (by rw [r.lb])
  have e2 : sub (x ++ rho) 768 1152 = c := by rw [r.eq]; exact sub_mid (by rw [List.length_append, r.la, r.lb]) (by rw [r.lc])
  unfold i_kem_CheckEk
  rw [if_neg (by simp only [hlen]; decide), if_pos (by simp only [hlen]; decide), e0, r.ca]
  simp only [Option.bind_some, Bool.not_true, Bool.false_eq_true, if_false]
  rw [if_pos (by simp only [hlen]; decide), e1, r.cb]
  simp only [Option.bind_some, Bool.not_true, Bool.false_eq_true, if_false]
  rw [if_pos (by simp only [hlen]; decide), e2, r.cc]
  simp
end Go.Proofs.YtapilbdboeggdaaR.Gx
