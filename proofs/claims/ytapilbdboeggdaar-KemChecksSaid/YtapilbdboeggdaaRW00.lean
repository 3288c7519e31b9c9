/-
A part of the proof: printed walks of the functions that the law reaches, and plain laws over them.
-/
import Derived.WalkKit
import Derived.Deep.MidRow
import Derived.OrdersHeld
import Derived.KernelRfl
import Derived.RowKit
import Derived.Deep.LoopGhost
import Derived.Maps.AppendAt
import Derived.Laws.MakeOwn
import Derived.Laws.CopyRow
import Derived.Laws.BytesArg
import Derived.Deep.RegionHeld3
import Derived.Defers
import Derived.Recover
import Derived.Scope
set_option maxRecDepth 1000000
set_option linter.unusedVariables false
set_option linter.unusedSimpArgs false
set_option maxHeartbeats 4000000
namespace Go.Proofs.YtapilbdboeggdaaR.Gx
open Go Go.RowKit
variable {P : Program}
def lk : List (Nat × Value) → Nat → Option Value
  | [], _ => none
  | (d, v) :: l, t => if d = t then some v else lk l t
def rmv (t : Nat) : List (Nat × Value) → List (Nat × Value)
  | [] => []
  | (d, v) :: l => if d = t then rmv t l else (d, v) :: rmv t l
theorem lk_rmv {t u : Nat} (h : t ≠ u) : ∀ l, lk (rmv t l) u = lk l u
  | [] => rfl
  | (d, v) :: l => by
    simp only [rmv]
    by_cases hd : d = t
    · subst hd; simp only [lk, if_neg h]; simpa using lk_rmv h l
    · simp only [if_neg hd, lk]; rw [lk_rmv h l]
structure Fr (n : Nat) (ds : List Deferred) (L : List (Nat × Value)) (a : Act) : Prop where
  size : a.tmps.size = n
  defers : a.defers = ds
  has : ∀ t v, lk L t = some v → a.tmps[t]? = some v
def ev (L : List (Nat × Value)) : Operand → Value
  | .tmp t => (lk L t).getD undef
  | .const v => v
  | .global g => .pointer (some ⟨g, 0, none⟩)
  | .func f => .func (.func f) #[] #[]
def kn (L : List (Nat × Value)) : Operand → Bool
  | .tmp t => (lk L t).isSome
  | _ => true
theorem Fr.eval {n : Nat} {ds : List Deferred} {L : List (Nat × Value)} {a : Act} (h : Fr n ds L a) {x : Operand} (hk : kn L x = true) : a.eval x = ev L x := by
  cases x with
  | tmp t =>
    simp only [kn] at hk
    obtain ⟨v, hv⟩ := Option.isSome_iff_exists.1 hk
    have := h.has t v hv
    simp only [ev, hv, Option.getD_some, Act.eval]
    rw [Array.getD_eq_getD_getElem?, this]; rfl
  | _ => rfl
theorem Fr.slot {n : Nat} {ds : List Deferred} {L : List (Nat × Value)} {a : Act} (h : Fr n ds L a) {x : Operand} {v : Value} (hk : (if kn L x = true then some (ev L x) else none) = some v) : a.eval x = v := by
  split at hk
  · rename_i hx; rw [h.eval hx]; injection hk
  · cases hk
def dok (d : Option Tmp) (n : Nat) : Bool := match d with | some t => decide (t < n) | none => true
def pt (d : Option Tmp) (v : Value) (L : List (Nat × Value)) : List (Nat × Value) :=
  match d with
  | some t => (t, v) :: rmv t L
  | none => L
theorem Fr.put {n : Nat} {ds : List Deferred} {L : List (Nat × Value)} {a : Act} (h : Fr n ds L a) (d : Option Tmp) (v : Value) (hd : dok d n = true) : Fr n ds (pt d v L) (a.put d v) := by
  cases d with
  | none => exact h
  | some t =>
    have ht : t < n := by simpa [dok] using hd
    refine ⟨by simp [Act.put, h.size], by simp [Act.put, h.defers], fun u x hx => ?_⟩
    simp only [pt, lk] at hx
    simp only [Act.put]
    by_cases hu : t = u
    · subst hu
      simp only [reduceIte] at hx
      injection hx with hx; subst hx
      rw [Array.getElem?_setIfInBounds_self, if_pos (by rw [h.size]; exact ht)]
    · rw [if_neg hu, lk_rmv hu] at hx
      rw [Array.getElem?_setIfInBounds_ne hu]
      exact h.has u x hx
def pick (ks : List Nat) (L : List (Nat × Value)) : Option (List (Nat × Value)) :=
  match ks with
  | [] => some []
  | k :: ks => match lk L k, pick ks L with
    | some v, some r => some ((k, v) :: r)
    | _, _ => none
theorem lk_pick : ∀ (ks : List Nat) (L M : List (Nat × Value)), pick ks L = some M → ∀ t v, lk M t = some v → lk L t = some v
  | [], L, M, h, t, v, hv => by simp only [pick] at h; injection h with h; subst h; cases hv
  | k :: ks, L, M, h, t, v, hv => by
    simp only [pick] at h
    split at h
    · rename_i x r hx hr
      injection h with h; subst h
      simp only [lk] at hv
      by_cases hk : k = t
      · subst hk; simp only [reduceIte] at hv; rw [← hv]; exact hx
      · rw [if_neg hk] at hv; exact lk_pick ks L r hr t v hv
    · cases h
theorem Fr.pick {n : Nat} {ds : List Deferred} {L M : List (Nat × Value)} {a : Act} (ks : List Nat) (hM : pick ks L = some M) (h : Fr n ds L a) : Fr n ds M a :=
  ⟨h.size, h.defers, fun t v hv => h.has t v (lk_pick ks L M hM t v hv)⟩
def pureVal (P : Program) {α : Type} : Sem α → Option α
  | .pure a => some a
  | .program k => pureVal P (k P)
  | .load .. | .store .. | .new .. | .shape .. | .freeze .. | .frozen .. | .getObj .. | .setObj .. | .choose .. | .sys .. | .mark .. | .halt .. => none
theorem pureVal_run {α : Type} : ∀ (s : Sem α) (v : α), pureVal P s = some v → ∀ w, s.run P w = .ok v w
  | .pure a, v, h, w => by simp only [pureVal] at h; injection h with h; subst h; rfl
  | .program k, v, h, w => pureVal_run (k P) v (by simpa only [pureVal] using h) w
  | .load .., v, h, w => by simp [pureVal] at h
  | .store .., v, h, w => by simp [pureVal] at h
  | .new .., v, h, w => by simp [pureVal] at h
  | .shape .., v, h, w => by simp [pureVal] at h
  | .freeze .., v, h, w => by simp [pureVal] at h
  | .frozen .., v, h, w => by simp [pureVal] at h
  | .getObj .., v, h, w => by simp [pureVal] at h
  | .setObj .., v, h, w => by simp [pureVal] at h
  | .choose .., v, h, w => by simp [pureVal] at h
  | .sys .., v, h, w => by simp [pureVal] at h
  | .mark .., v, h, w => by simp [pureVal] at h
  | .halt .., v, h, w => by simp [pureVal] at h
def noSel : Op → Bool
  | .select .. => false
  | _ => true
def opVal (P : Program) (L : List (Nat × Value)) (o : Oper) : Option Value :=
  if o.op.operands.toList.all (kn L) && noSel o.op then
    match pureVal P (execOp (ev L) o) with
    | some (.value v) => some v
    | _ => none
  else none
def gd (ops : Array Oper) (n : Nat) (L : List (Nat × Value)) (o : Oper) : Option Bool :=
  match o.guard with
  | none => some true
  | some (j, want) =>
    match (ops[j]?).bind (·.dst) with
    | some d => if d < n then match lk L d with
      | some (.bool b) => some (b == want)
      | some (.tuple _) => some false
      | _ => none
      else none
    | none => none
theorem gd_yes {n : Nat} {ds : List Deferred} {L : List (Nat × Value)} {a : Act} {ops : Array Oper} {o : Oper} {b : Bool} (h : Fr n ds L a) (hg : gd ops n L o = some b) : Region.wanted o (yielded ops a.tmps) = b := by
  unfold gd at hg
  unfold Region.wanted
  cases hgu : o.guard with
  | none => simp only [hgu] at hg ⊢; injection hg
  | some p =>
    obtain ⟨j, want⟩ := p
    simp only [hgu] at hg ⊢
    unfold yielded
    cases hd : (ops[j]?).bind (·.dst) with
    | none => simp [hd] at hg
    | some d =>
      simp only [hd] at hg ⊢
      split at hg
      · split at hg
        · rename_i c hl
          have := h.has d _ hl
          injection hg with hg
          simp only [Option.bind_some, this]; rw [← hg]; cases c <;> cases want <;> rfl
        · rename_i c hl
          have := h.has d _ hl
          injection hg with hg
          simp only [Option.bind_some, this]; rw [← hg]; rfl
        · cases hg
      · cases hg
def step1 (P : Program) (ops : Array Oper) (n : Nat) (L : List (Nat × Value)) (o : Oper) : Option (List (Nat × Value)) :=
  if dok o.dst n then
    match gd ops n L o with
    | some true => (opVal P L o).map fun v => pt o.dst v L
    | some false => some (pt o.dst undef L)
    | none => none
  else none
def runP (P : Program) (ops : Array Oper) (n : Nat) : Nat → List Oper → List (Nat × Value) → Option (List (Nat × Value))
  | 0, _, L => some L
  | _ + 1, [], _ => none
  | k + 1, o :: r, L => match step1 P ops n L o with
    | some M => runP P ops n k r M
    | none => none
theorem noSel_ne {o : Oper} (h : noSel o.op = true) : ∀ cs b, o.op ≠ .select cs b := fun cs b e => by rw [e] at h; cases h
theorem opVal_run {n : Nat} {ds : List Deferred} {L : List (Nat × Value)} {a : Act} {o : Oper} {v : Value} (h : Fr n ds L a) (hv : opVal P L o = some v) : ∀ w, (execOp a.eval o).run P w = .ok (.value v) w := by
  unfold opVal at hv
  split at hv
  · rename_i hk
    rw [Bool.and_eq_true] at hk
    have he : execOp a.eval o = execOp (ev L) o := execOp_congr o (noSel_ne hk.2) fun x hx => h.eval (List.all_eq_true.1 hk.1 x (by simpa using hx))
    split at hv
    · rename_i u hu
      injection hv with hv; subst hv
      intro w; rw [he]; exact pureVal_run _ _ hu w
    · cases hv
  · cases hv
theorem wp_val {a : Act} {o : Oper} {v : Value} {w : World} {K : Act → World → Prop} {Q : Exit → Act → World → Prop} (h : (execOp a.eval o).run P w = .ok (.value v) w) (hK : K (a.put o.dst v) w) : o.wp P a w K Q := by
  unfold Oper.wp; rw [h]; exact hK
theorem wpl_run {ops : Array Oper} {n : Nat} {ds : List Deferred} {Q : Exit → Act → World → Prop} {w : World} : ∀ (k : Nat) (l : List Oper) (L M : List (Nat × Value)) (a : Act), runP P ops n k l L = some M → Fr n ds L a →
    (∀ a', Fr n ds M a' → wpList P ops Q (l.drop k) a' w) → wpList P ops Q l a w
  | 0, l, L, M, a, h, hF, H => by simp only [runP] at h; injection h with h; subst h; exact H a hF
  | k + 1, [], L, M, a, h, hF, H => by simp [runP] at h
  | k + 1, o :: r, L, M, a, h, hF, H => by
    simp only [runP] at h
    split at h
    · rename_i L' h1
      unfold step1 at h1
      split at h1
      · rename_i hd
        split at h1
        · rename_i hg
          cases hv : opVal P L o with
          | none => simp [hv] at h1
          | some v =>
            simp only [hv, Option.map_some] at h1
            injection h1 with h1; subst h1
            unfold wpList
            rw [if_pos (gd_yes hF hg)]
            exact .inl (wp_val (opVal_run hF hv w) (wpl_run k r _ M _ h (hF.put o.dst v hd) H))
        · rename_i hg
          injection h1 with h1; subst h1
          unfold wpList
          rw [gd_yes hF hg]
          exact wpl_run k r _ M _ h (hF.put o.dst undef hd) H
        · cases h1
      · cases h1
    · cases h
theorem wpl_pick {ops : Array Oper} {n : Nat} {ds : List Deferred} {Q : Exit → Act → World → Prop} {w : World} (k : Nat) (ks : List Nat) {l : List Oper} {L : List (Nat × Value)} (M : List (Nat × Value)) {a : Act} (hF : Fr n ds L a)
    (h : (runP P ops n k l L).bind (pick ks) = some M) (H : ∀ a', Fr n ds M a' → wpList P ops Q (l.drop k) a' w) : wpList P ops Q l a w := by
  cases hr : runP P ops n k l L with
  | none => simp [hr] at h
  | some N =>
    rw [hr] at h
    exact wpl_run k l L N a hr hF fun a' hF' => H a' (hF'.pick ks h)
theorem wpl_one {ops : Array Oper} {n : Nat} {ds : List Deferred} {L : List (Nat × Value)} {a : Act} {Q : Exit → Act → World → Prop} {w : World} {o : Oper} {r : List Oper} (hF : Fr n ds L a) (hg : gd ops n L o = some true)
    (h : o.wp P a w (wpList P ops Q r) Q) : wpList P ops Q (o :: r) a w := by
  unfold wpList
  rw [if_pos (gd_yes hF hg)]
  exact .inl h
def blkOf (ao : Option Addr) : Nat := (ao.map (·.block)).getD 0
def offOf (ao : Option Addr) : Nat := (ao.map (·.off)).getD 0
def plainA (ao : Option Addr) : Prop := ao = some ⟨blkOf ao, offOf ao, none⟩
inductive Ent where
  | blk (b : Nat) (cs : List Value) (E : TypeId)
  | sl (ao : Option Addr) (n c size : Nat) (cs : List Value) (E : TypeId)
  | ro (ao : Option Addr) (n c : Nat) (cs : List Value)
def Rd (w : World) (ao : Option Addr) (n c : Nat) (cs : List Value) : Prop := (n ≤ c ∧ (ao = none → n = 0 ∧ c = 0)) ∧ (cs = [] ∨ (plainA ao ∧ w.rangeAt (blkOf ao) (offOf ao) cs))
def Ent.holds (base : Nat) (w : World) : Ent → Prop
  | .blk b cs E => base ≤ b ∧ w.heap[b]? = some (.cells cs.toArray E (0, 0))
  | .sl ao n c size cs E => w.ownsRow base E size (.slice ao n c) n cs
  | .ro ao n c cs => Rd w ao n c cs
def Ent.owns : Ent → Nat → Prop
  | .blk b _ _, k => k = b
  | .sl ao _ _ _ _ _, k => ∃ a, ao = some a ∧ k = a.block
  | .ro .., _ => False
def Ent.sees : Ent → Nat → Prop
  | .ro ao _ _ cs, k => cs ≠ [] ∧ k = blkOf ao
  | e, k => e.owns k
theorem Ent.sees_of_owns {e : Ent} {k : Nat} (h : e.owns k) : e.sees k := by cases e <;> first | exact h | exact h.elim
theorem Ent.base_le {e : Ent} {base k : Nat} {w : World} (h : e.holds base w) (ho : e.owns k) : base ≤ k := by
  cases e with
  | blk b cs E => simp only [Ent.owns] at ho; subst ho; exact h.1
  | sl ao n c size cs E =>
    obtain ⟨a, rfl, rfl⟩ := ho
    obtain ⟨_, h | ⟨g, cap, cur, hv, hg, _⟩⟩ := h
    · cases h.1
    · injection hv with hv; injection hv with hv; subst hv; exact hg
  | ro => exact ho.elim
theorem rangeAt_lt {w : World} {b o : Nat} {cs : List Value} (h : w.rangeAt b o cs) (hne : cs ≠ []) : b < w.heap.size := by
  cases cs with
  | nil => exact absurd rfl hne
  | cons v r => exact World.block_lt_of_cell? w _ (h 0 v rfl)
theorem Ent.lt_size {e : Ent} {base k : Nat} {w : World} (h : e.holds base w) (ho : e.sees k) : k < w.heap.size := by
  cases e with
  | blk b cs E => simp only [Ent.sees, Ent.owns] at ho; subst ho; exact (Array.getElem?_eq_some_iff.1 h.2).1
  | sl ao n c size cs E =>
    obtain ⟨a, rfl, rfl⟩ := ho
    obtain ⟨_, h | ⟨g, cap, cur, hv, hg, hh, _⟩⟩ := h
    · cases h.1
    · injection hv with hv; injection hv with hv; subst hv; exact (Array.getElem?_eq_some_iff.1 hh).1
  | ro ao n c cs =>
    obtain ⟨hne, rfl⟩ := ho
    obtain ⟨_, h | h⟩ := h
    · exact absurd h hne
    · exact rangeAt_lt h.2 hne
theorem rangeAt_same {w w' : World} {b o : Nat} {cs : List Value} (h : w.rangeAt b o cs) (hb : w'.heap[b]? = w.heap[b]?) : w'.rangeAt b o cs := fun j v hv => by
  rw [World.cell?_of_block (w := w) (a := ⟨b, o + j, none⟩) hb]; exact h j v hv
theorem Rd.same {w w' : World} {ao : Option Addr} {n c : Nat} {cs : List Value} (h : Rd w ao n c cs) (hb : cs ≠ [] → w'.heap[blkOf ao]? = w.heap[blkOf ao]?) : Rd w' ao n c cs := by
  refine ⟨h.1, ?_⟩
  by_cases hn : cs = []
  · exact .inl hn
  · rcases h.2 with h2 | h2
    · exact absurd h2 hn
    · exact .inr ⟨h2.1, rangeAt_same h2.2 (hb hn)⟩
theorem Ent.keep {e : Ent} {base : Nat} {w w' : World} (h : e.holds base w) (hb : ∀ k, e.sees k → w'.heap[k]? = w.heap[k]?) : e.holds base w' := by
  cases e with
  | blk b cs E => exact ⟨h.1, by rw [hb b rfl]; exact h.2⟩
  | sl ao n c size cs E =>
    obtain ⟨h1, h2⟩ := h
    refine ⟨h1, ?_⟩
    rcases h2 with h2 | ⟨g, cap, cur, hv, hg, hh, r⟩
    · exact .inl h2
    · refine .inr ⟨g, cap, cur, hv, hg, ?_, r⟩
      injection hv with hv
      rw [hb g ⟨_, hv, rfl⟩]; exact hh
  | ro ao n c cs => exact Rd.same h fun hne => hb _ ⟨hne, rfl⟩
def Apart (e f : Ent) : Prop := ∀ k, (e.owns k → ¬ f.sees k) ∧ (f.owns k → ¬ e.sees k)
structure St (W w : World) (L : List Ent) : Prop where
  below : Below W.heap.size W w
  holds : ∀ e ∈ L, e.holds W.heap.size w
  apart : L.Pairwise Apart
def Ent.isRo : Ent → Bool
  | .ro .. => true
  | _ => false
theorem St.start (w : World) (L : List Ent) (h : ∀ e ∈ L, e.holds w.heap.size w) (hro : L.all Ent.isRo = true) : St w w L := by
  refine ⟨Below.refl _ _, h, ?_⟩
  have hro' := List.all_eq_true.1 hro
  clear h hro
  induction L with
  | nil => exact .nil
  | cons e L ih =>
    refine .cons (fun f hf k => ?_) (ih fun x hx => hro' x (.tail _ hx))
    have h1 := hro' e (.head _)
    have h2 := hro' f (.tail _ hf)
    cases e <;> cases f <;> simp_all [Ent.isRo, Ent.owns]
theorem St.nil (w : World) : St w w [] := ⟨Below.refl _ _, fun _ h => (List.not_mem_nil h).elim, .nil⟩
theorem St.sub {W w : World} {L M : List Ent} (h : St W w L) (hs : M.Sublist L) : St W w M :=
  ⟨h.below, fun e he => h.holds e (hs.subset he), h.apart.sublist hs⟩
theorem St.sizes {W w : World} {L : List Ent} (h : St W w L) : W.heap.size ≤ w.heap.size := h.below.size
structure Same (w w' : World) (row : Nat → Prop) : Prop where
  os : w'.os = w.os
  tape : w'.tape = w.tape
  output : w'.output = w.output
  size : w.heap.size ≤ w'.heap.size
  block : ∀ k, k < w.heap.size → ¬ row k → w'.heap[k]? = w.heap[k]?
theorem pairwise_set {α : Type} {R : α → α → Prop} (hsym : ∀ x y, R x y → R y x) : ∀ {L : List α} (i : Nat) {e e' : α}, L[i]? = some e → (∀ f ∈ L, R e f → R e' f) → L.Pairwise R → (L.set i e').Pairwise R
  | [], _, _, _, h, _, _ => by simp at h
  | x :: L, 0, e, e', h, hR, hp => by
    simp only [List.getElem?_cons_zero] at h
    injection h with h; subst h
    rw [List.set_cons_zero]
    cases hp with
    | cons h1 h2 => exact .cons (fun f hf => hR f (.tail _ hf) (h1 f hf)) h2
  | x :: L, i + 1, e, e', h, hR, hp => by
    rw [List.set_cons_succ]
    rw [List.getElem?_cons_succ] at h
    cases hp with
    | cons h1 h2 =>
      refine .cons (fun f hf => ?_) (pairwise_set hsym i h (fun f hf => hR f (.tail _ hf)) h2)
      rcases List.mem_or_eq_of_mem_set hf with hf | rfl
      · exact h1 f hf
      · exact hsym _ _ (hR x (.head _) (hsym _ _ (h1 e (List.mem_of_getElem? h))))
theorem Apart.symm {e f : Ent} (h : Apart e f) : Apart f e := fun k => ⟨(h k).2, (h k).1⟩
theorem St.upd {W w w' : World} {L : List Ent} (h : St W w L) (i : Nat) {e : Ent} (e' : Ent) (hi : L[i]? = some e) (hs : Same w w' e.owns) (he : e'.holds W.heap.size w')
    (hsees : ∀ k, e'.sees k → e.owns k ∨ w.heap.size ≤ k) : St W w' (L.set i e') := by
  have hmem := List.mem_of_getElem? hi
  have hbase : ∀ k, e.owns k → W.heap.size ≤ k := fun k => Ent.base_le (h.holds e hmem)
  refine ⟨h.below.trans ⟨hs.os, hs.tape, hs.output, hs.size, fun k hk => hs.block k (Nat.lt_of_lt_of_le hk h.sizes) (fun ho => by have := hbase k ho; omega)⟩, ?_, ?_⟩
  · intro f hf
    obtain ⟨j, hj⟩ := List.getElem?_of_mem hf
    by_cases hij : i = j
    · subst hij
      have hlt := (List.getElem?_eq_some_iff.1 hi).1
      rw [List.getElem?_set_self hlt] at hj
      injection hj with hj; subst hj; exact he
    · rw [List.getElem?_set_ne hij] at hj
      have hfm := List.mem_of_getElem? hj
      refine Ent.keep (h.holds f hfm) fun k hk => hs.block k (Ent.lt_size (h.holds f hfm) hk) fun ho => ?_
      have hap : Apart e f ∨ Apart f e := by
        rcases Nat.lt_or_gt_of_ne hij with hl | hl
        · exact .inl (List.pairwise_iff_getElem.1 h.apart i j (List.getElem?_eq_some_iff.1 hi).1 (List.getElem?_eq_some_iff.1 hj).1 hl |> fun q => by
            rwa [(List.getElem?_eq_some_iff.1 hi).2, (List.getElem?_eq_some_iff.1 hj).2] at q)
        · exact .inr (List.pairwise_iff_getElem.1 h.apart j i (List.getElem?_eq_some_iff.1 hj).1 (List.getElem?_eq_some_iff.1 hi).1 hl |> fun q => by
            rwa [(List.getElem?_eq_some_iff.1 hi).2, (List.getElem?_eq_some_iff.1 hj).2] at q)
      rcases hap with hap | hap
      · exact (hap k).1 ho hk
      · exact (hap k).2 ho hk
  · refine pairwise_set (fun _ _ => Apart.symm) i hi (fun f hf hap k => ⟨fun ho hse => ?_, fun ho hse => ?_⟩) h.apart
    · rcases hsees k (Ent.sees_of_owns ho) with h1 | h1
      · exact (hap k).1 h1 hse
      · have := Ent.lt_size (h.holds f hf) hse; omega
    · rcases hsees k hse with h1 | h1
      · exact (hap k).1 h1 (Ent.sees_of_owns ho)
      · have := Ent.lt_size (h.holds f hf) (Ent.sees_of_owns ho); omega
theorem St.more {W w w' : World} {L M : List Ent} (h : St W w L) (hm : St w w' M) (hM : ∀ e ∈ M, ∀ k, e.sees k → w.heap.size ≤ k) : St W w' (M ++ L) := by
  refine ⟨h.below.trans (hm.below.mono h.sizes), ?_, ?_⟩
  · intro e he
    rcases List.mem_append.1 he with he | he
    · have h1 := hm.holds e he
      have hs := h.sizes
      cases e with
      | blk b cs E => exact ⟨Nat.le_trans hs h1.1, h1.2⟩
      | sl ao n c size cs E =>
        obtain ⟨h2, h3⟩ := h1
        refine ⟨h2, h3.imp id fun ⟨g, cap, cur, hv, hg, r⟩ => ⟨g, cap, cur, hv, Nat.le_trans hs hg, r⟩⟩
      | ro ao n c cs => exact h1
    · exact Ent.keep (h.holds e he) fun k hk => hm.below.block k (Ent.lt_size (h.holds e he) hk)
  · refine List.pairwise_append.2 ⟨hm.apart, h.apart, fun e he f hf k => ⟨fun ho hse => ?_, fun ho hse => ?_⟩⟩
    · have := hM e he k (Ent.sees_of_owns ho); have := Ent.lt_size (h.holds f hf) hse; omega
    · have := hM e he k hse; have := Ent.lt_size (h.holds f hf) (Ent.sees_of_owns ho); omega
def Ent.mine : Ent → Bool
  | .ro .. => false
  | _ => true
theorem St.call {W w w' : World} {L M : List Ent} (h : St W w L) (hm : St w w' M) (hM : M.all Ent.mine = true) : St W w' (M ++ L) :=
  h.more hm fun e he k hk => by
    have h1 := List.all_eq_true.1 hM e he
    have h2 := hm.holds e he
    cases e with
    | blk b cs E => exact Ent.base_le h2 hk
    | sl ao n c size cs E => exact Ent.base_le h2 hk
    | ro ao n c cs => cases h1
theorem St.alloc {W w : World} {L : List Ent} (h : St W w L) (cs : List Value) (E : TypeId) : St W (w.alloc (.cells cs.toArray E)) (.blk w.heap.size cs E :: L) := by
  refine h.more (M := [.blk w.heap.size cs E]) ⟨(Below.refl _ _).alloc (Nat.le_refl _) _, fun e he => ?_, .cons (fun _ h => (List.not_mem_nil h).elim) .nil⟩ fun e he k hk => ?_
  · rw [List.mem_singleton] at he; subst he
    exact ⟨Nat.le_refl _, heap_alloc_new w _⟩
  · rw [List.mem_singleton] at he; subst he
    exact Nat.le_of_eq hk.symm
theorem St.drew {W w w' : World} {L : List Ent} (h : St W w L) (hh : w'.heap = w.heap) (h1 : w'.os = w.os) (h2 : w'.tape = w.tape) (h3 : w'.output = w.output) : St W w' L :=
  ⟨h.below.trans ⟨h1, h2, h3, by rw [hh]; exact Nat.le_refl _, fun k _ => by rw [hh]⟩, fun e he => Ent.keep (h.holds e he) fun k _ => by rw [hh], h.apart⟩
theorem St.give {W w : World} {L : List Ent} (h : St W w L) (i : Nat) {ao : Option Addr} {n c size : Nat} {cs : List Value} {E : TypeId} (hi : L[i]? = some (.sl ao n c size cs E)) : St W w (L.set i (.ro ao n c cs)) := by
  have hmem := List.mem_of_getElem? hi
  have hh := h.holds _ hmem
  refine h.upd i (.ro ao n c cs) hi ⟨rfl, rfl, rfl, Nat.le_refl _, fun _ _ _ => rfl⟩ ?_ ?_
  · obtain ⟨h1, ⟨hv, hn⟩ | ⟨g, cap, cur, hv, hg, hh, hle, _, hcur, htk⟩⟩ := hh
    · injection hv with _ h5 h6
      exact ⟨⟨by omega, fun _ => ⟨hn, h6⟩⟩, .inl (List.eq_nil_of_length_eq_zero (by rw [h1, hn, Nat.zero_mul]))⟩
    · injection hv with hv h5 h6; subst hv; subst h6
      refine ⟨⟨hle, fun h => by cases h⟩, .inr ⟨rfl, fun j v hj => ?_⟩⟩
      show w.cell? ⟨g, 0 + j, none⟩ = some v
      rw [Nat.zero_add, cell_of_row w g j cur E _ hh]
      rw [← htk] at hj
      rw [List.getElem?_take] at hj
      split at hj
      · simpa using hj
      · cases hj
  · intro k hk
    obtain ⟨hne, rfl⟩ := hk
    left
    obtain ⟨h1, ⟨hv, hn⟩ | ⟨g, cap, cur, hv, _⟩⟩ := hh
    · exact absurd (List.eq_nil_of_length_eq_zero (by rw [h1, hn, Nat.zero_mul])) hne
    · injection hv with hv; subst hv; exact ⟨_, rfl, rfl⟩
def Ent.rd : Ent → Option Addr × List Value
  | .blk b cs _ => (some ⟨b, 0, none⟩, cs)
  | .sl ao _ _ _ cs _ => (ao, cs)
  | .ro ao _ _ cs => (ao, cs)
theorem St.reads {W w : World} {L : List Ent} (h : St W w L) (i : Nat) {e : Ent} (hi : L[i]? = some e) {ao : Option Addr} {cs : List Value} (he : e.rd = (ao, cs)) (hne : cs ≠ []) : plainA ao ∧ w.rangeAt (blkOf ao) (offOf ao) cs := by
  have hh := h.holds e (List.mem_of_getElem? hi)
  cases e with
  | blk b ds E =>
    injection he with h1 h2; subst h1; subst h2
    refine ⟨rfl, fun j v hj => ?_⟩
    show w.cell? ⟨b, 0 + j, none⟩ = some v
    rw [Nat.zero_add, cell_of_row w b j ds.toArray E _ hh.2]; simpa using hj
  | sl ao' n c size ds E =>
    injection he with h1 h2; subst h1; subst h2
    have h3 := (h.give i hi).holds (.ro ao' n c ds) (by
      have hlt := (List.getElem?_eq_some_iff.1 hi).1
      exact List.mem_of_getElem? (List.getElem?_set_self hlt))
    exact h3.2.resolve_left hne
  | ro ao' n c ds =>
    injection he with h1 h2; subst h1; subst h2
    exact hh.2.resolve_left hne
theorem rangeAt_cell {w : World} {b o : Nat} {cs : List Value} (h : w.rangeAt b o cs) (j : Nat) {v : Value} (hj : cs[j]? = some v) {o' : Nat} (ho : o' = o + j) : w.cell? ⟨b, o', none⟩ = some v := by subst ho; exact h j v hj
theorem rangeAt_part {w : World} {b o : Nat} {cs : List Value} (h : w.rangeAt b o cs) (l m : Nat) : w.rangeAt b (o + l) ((cs.drop l).take m) := fun j v hj => by
  rw [List.getElem?_take] at hj
  split at hj
  · rw [List.getElem?_drop] at hj
    have := h (l + j) v hj
    rwa [← Nat.add_assoc] at this
  · cases hj
theorem St.cell {W w : World} {L : List Ent} (h : St W w L) (i : Nat) {e : Ent} (hi : L[i]? = some e) {ao : Option Addr} {cs : List Value} (he : e.rd = (ao, cs)) (j : Nat) {v : Value} (hj : cs[j]? = some v) {b o : Nat} (hb : b = blkOf ao) (ho : o = offOf ao + j) : w.cell? ⟨b, o, none⟩ = some v := by
  subst hb
  exact rangeAt_cell (h.reads i hi he (fun e => by rw [e] at hj; simp at hj)).2 j hj ho
def sv (F : List (Nat × Value)) (x : Operand) : Option Value := if kn F x then some (ev F x) else none
section laws
variable {n : Nat} {ds : List Deferred} {F : List (Nat × Value)} {a : Act} {w W : World} {L : List Ent} {o : Oper} {K : Act → World → Prop} {Q : Exit → Act → World → Prop}
theorem Fr.sv (hF : Fr n ds F a) {x : Operand} {v : Value} (h : sv F x = some v) : a.eval x = v := hF.slot h
theorem Fr.next (hF : Fr n ds F a) (v : Value) (ks : List Nat) {M : List (Nat × Value)} (hM : (if dok o.dst n then Gx.pick ks (pt o.dst v F) else none) = some M) : Fr n ds M (a.put o.dst v) := by
  split at hM
  · rename_i hd; exact (hF.put o.dst v hd).pick ks hM
  · cases hM
theorem pv_isAgg {t : TypeId} {b : Bool} (h : pureVal P (isAgg t) = some b) (w : World) : (isAgg t).run P w = .ok b w := pureVal_run _ _ h w
theorem pv_sizeOf {t : TypeId} {b : Nat} (h : pureVal P (sizeOf t) = some b) (w : World) : (sizeOf t).run P w = .ok b w := pureVal_run _ _ h w
theorem pv_under {t : TypeId} {d : TypeDesc} (h : pureVal P (underlying t) = some d) (w : World) : (underlying t).run P w = .ok d w := pureVal_run _ _ h w
theorem run_load1 {t : TypeId} {x : Operand} (ho : o.op = .load t x) {b off : Nat} (hx : a.eval x = .pointer (some ⟨b, off, none⟩)) (ht : pureVal P (isAgg t) = some false) {v : Value} (hc : w.cell? ⟨b, off, none⟩ = some v) :
    (execOp a.eval o).run P w = .ok (.value v) w := by
  unfold execOp
  simp only [ho, hx, Instr.loadAt, Instr.sureAddr, loadVar, Sem.run_bind, Sem.run_pure, Result.andThen_ok, pv_isAgg ht, Bool.false_eq_true, if_false, load, Sem.run, hc]
theorem run_loadR {t : TypeId} {x : Operand} (ho : o.op = .load t x) {b off : Nat} (hx : a.eval x = .pointer (some ⟨b, off, none⟩)) (ht : pureVal P (isAgg t) = some true) {k : Nat} (hk : pureVal P (sizeOf t) = some k) {cs : List Value} (hl : cs.length = k) (hc : w.rangeAt b off cs) :
    (execOp a.eval o).run P w = .ok (.value (.agg cs.toArray)) w := by
  have hl2 : (loadCells ⟨b, off, none⟩ cs.length).run P w = .ok cs.toArray w :=
    run_loadCells_list (P := P) w ⟨b, off, none⟩ cs (fun j v hv => by rw [Addr.add_mid]; exact hc j v hv)
  subst hl
  unfold execOp
  simp only [ho, hx, Instr.loadAt, Instr.sureAddr, loadVar, Sem.run_bind, Sem.run_pure, Result.andThen_ok, pv_isAgg ht, if_true, pv_sizeOf hk, hl2]
theorem add_at (b off k : Nat) : (⟨b, off, none⟩ : Addr).add k = ⟨b, off + k, none⟩ := Addr.add_mid b off k
theorem run_indexA {t : TypeId} {x ix : Operand} (ho : o.op = .indexAddr t x ix) {b off : Nat} (hx : a.eval x = .pointer (some ⟨b, off, none⟩)) {k : IntKind} {i : Int} (hi : a.eval ix = .int k i) {len : Nat} {E : TypeId} (ht : pureVal P (underlying t) = some (.array len E)) {s : Nat} (hs : pureVal P (sizeOf E) = some s) (h0 : 0 ≤ i ∧ i < len) {r : Nat} (hr : off + i.toNat * s = r) :
    (execOp a.eval o).run P w = .ok (.value (.pointer (some ⟨b, r, none⟩))) w := by
  subst hr
  unfold execOp
  simp only [ho, hx, hi, Instr.indexAt, asIntOf, Instr.sureAddr, Sem.run_bind, Sem.run_pure, Result.andThen_ok, pv_under ht, pv_sizeOf hs, if_pos h0, add_at]
theorem run_indexS {t : TypeId} {x ix : Operand} (ho : o.op = .indexAddr t x ix) {ao : Option Addr} {m c : Nat} (hx : a.eval x = .slice ao m c) (hao : plainA ao) {k : IntKind} {i : Int} (hi : a.eval ix = .int k i) {E : TypeId} (ht : pureVal P (underlying t) = some (.slice E)) {s : Nat} (hs : pureVal P (sizeOf E) = some s) (h0 : 0 ≤ i ∧ i < m) {r : Nat} (hr : offOf ao + i.toNat * s = r) :
    (execOp a.eval o).run P w = .ok (.value (.pointer (some ⟨blkOf ao, r, none⟩))) w := by
  subst hr
  rw [show ao = some ⟨blkOf ao, offOf ao, none⟩ from hao] at hx
  unfold execOp
  simp only [ho, hx, hi, Instr.indexAt, asIntOf, Instr.sureAddr, Sem.run_bind, Sem.run_pure, Result.andThen_ok, pv_under ht, pv_sizeOf hs, if_pos h0, add_at]
def subA (ao : Option Addr) (c l s : Nat) : Option Addr := if c = l then ao else ao.map (·.add (l * s))
def BdL (a : Act) (d : Nat) (y : Option Operand) (l : Nat) : Prop := match y with | some y => ∃ k i, a.eval y = .int k i ∧ (l : Int) = i | none => l = d
theorem BdL.no {a : Act} {d : Nat} : BdL a d none d := rfl
theorem BdL.so {n : Nat} {ds : List Deferred} {F : List (Nat × Value)} {a : Act} (hF : Fr n ds F a) {d l : Nat} {y : Operand} (k : IntKind) (i : Int) (h : sv F y = some (.int k i)) (hi : (l : Int) = i) : BdL a d (some y) l := ⟨k, i, hF.sv h, hi⟩
theorem run_sliceS {t : TypeId} {x : Operand} {lo hi : Option Operand} (ho : o.op = .slice t x lo hi none) {ao : Option Addr} {m c : Nat} (hx : a.eval x = .slice ao m c) {E : TypeId} (ht : pureVal P (underlying t) = some (.slice E)) {s : Nat} (hs : pureVal P (sizeOf E) = some s)
    {l h : Nat} (hl0 : BdL a 0 lo l) (hh0 : BdL a m hi h) (h0 : l ≤ h) (h1 : h ≤ c) :
    (execOp a.eval o).run P w = .ok (.value (.slice (subA ao c l s) (h - l) (c - l))) w := by
  have hl : match lo with | some y => ∃ k, a.eval y = .int k (l : Int) | none => l = 0 := by
    cases lo with
    | none => exact hl0
    | some y => obtain ⟨k, i, q1, q2⟩ := hl0; exact ⟨k, by rw [q1, q2]⟩
  have hh : match hi with | some y => ∃ k, a.eval y = .int k (h : Int) | none => h = m := by
    cases hi with
    | none => exact hh0
    | some y => obtain ⟨k, i, q1, q2⟩ := hh0; exact ⟨k, by rw [q1, q2]⟩
  have e1 : (0 : Int) ≤ (l : Int) := by omega
  have e2 : (l : Int) ≤ (h : Int) := by omega
  have e3 : (0 : Int) ≤ (h : Int) := by omega
  have e4 : (h : Int) ≤ (c : Int) := by omega
  unfold execOp
  cases lo <;> cases hi <;> simp only at hl hh
  · subst hl; subst hh
    simp only [ho, hx, Instr.sliceAt, Instr.slice, Instr.sliceBounds, Option.map_none, Sem.run_bind, Sem.run_pure, Result.andThen_ok, pv_under ht, pv_sizeOf hs]
    rfl
  · obtain ⟨k, hk⟩ := hh; subst hl
    simp only [ho, hx, hk, Instr.sliceAt, Instr.slice, Instr.sliceBounds, Instr.sliceBound, asIntOf, Option.map_none, Option.map_some, Sem.run_bind, Sem.run_pure, Result.andThen_ok, pv_under ht, pv_sizeOf hs, if_pos (And.intro e3 e4), Int.toNat_natCast]
    rfl
  · obtain ⟨k, hk⟩ := hl; subst hh
    simp only [ho, hx, hk, Instr.sliceAt, Instr.slice, Instr.sliceBounds, Instr.sliceBound, asIntOf, Option.map_none, Option.map_some, Sem.run_bind, Sem.run_pure, Result.andThen_ok, pv_under ht, pv_sizeOf hs, if_pos (And.intro e1 e2), Int.toNat_natCast]
    rfl
  · obtain ⟨k, hk⟩ := hl; obtain ⟨k2, hk2⟩ := hh
    simp only [ho, hx, hk, hk2, Instr.sliceAt, Instr.slice, Instr.sliceBounds, Instr.sliceBound, asIntOf, Option.map_none, Option.map_some, Sem.run_bind, Sem.run_pure, Result.andThen_ok, pv_under ht, pv_sizeOf hs, if_pos (And.intro e1 e2), if_pos (And.intro e3 e4), Int.toNat_natCast]
    rfl
theorem run_shift {t ty : TypeId} {op : BinOp} {x y : Operand} (ho : o.op = .binOp op t x y ty) (hop : op = .shl ∨ op = .shr) {k yk : IntKind} {p q : Int} (hx : a.eval x = .int k p) (hy : a.eval y = .int yk q) (h0 : 0 ≤ q) :
    (execOp a.eval o).run P w = .ok (.value (.int k (if op = .shl then k.wrap (p * 2 ^ (min q.toNat k.bits)) else p.fdiv (2 ^ (min q.toNat k.bits))))) w := by
  have hn : ¬ q < 0 := by omega
  unfold execOp
  rcases hop with rfl | rfl <;> simp [ho, hx, hy, eqGuard, binOp, Op.shift, hn]
theorem wp_alloc (hF : Fr n ds F a) (hS : St W w L) {E : TypeId} (ho : o.op = .alloc E) {z : Value} (hz : pureVal P (zeroValue E) = some z) (cs : List Value) (hc : z.cells = cs.toArray) (hd : dok o.dst n = true)
    (hK : ∀ b w' a', St W w' (.blk b cs E :: L) → Fr n ds (pt o.dst (.pointer (some ⟨b, 0, none⟩)) F) a' → K a' w') : o.wp P a w K Q := by
  unfold Oper.wp execOp
  simp only [ho, Instr.alloc, newVar, newRow, Sem.run_bind, Sem.run_pure, Result.andThen_ok, pureVal_run _ _ hz, hc, run_newObj_alloc]
  exact hK _ _ _ (hS.alloc cs E) (hF.put _ _ hd)
theorem wp_box (hF : Fr n ds F a) (hS : St W w L) {E : TypeId} {x : Operand} (ho : o.op = .box E x) {v : Value} (hx : sv F x = some v) (cs : List Value) (hc : v.cells = cs.toArray) (hd : dok o.dst n = true)
    (hK : ∀ b w' a', St W w' (.blk b cs E :: L) → Fr n ds (pt o.dst (.pointer (some ⟨b, 0, none⟩)) F) a' → K a' w') : o.wp P a w K Q := by
  unfold Oper.wp execOp
  simp only [ho, hF.sv hx, Instr.box, newVar, newRow, Sem.run_bind, Sem.run_pure, Result.andThen_ok, hc, run_newObj_alloc]
  exact hK _ _ _ (hS.alloc cs E) (hF.put _ _ hd)
def upd {α : Type} (cs : List α) (off : Nat) (vs : List α) : List α := cs.take off ++ vs ++ cs.drop (off + vs.length)
theorem same_setRow (w : World) (b : Nat) (cs : Array Value) : Same w (w.setRow b cs) (· = b) :=
  ⟨rfl, rfl, rfl, by simp, fun k _ hk => setRow_other w b k cs hk⟩
theorem St.store {W w : World} {L : List Ent} (h : St W w L) (i : Nat) {b : Nat} {cs : List Value} {E : TypeId} (hi : L[i]? = some (.blk b cs E)) (cs' : List Value) : St W (w.setRow b cs'.toArray) (L.set i (.blk b cs' E)) := by
  have hh := h.holds _ (List.mem_of_getElem? hi)
  exact h.upd i (.blk b cs' E) hi (same_setRow w b _) ⟨hh.1, setRow_heap w b _ _ E _ hh.2⟩ fun k hk => .inl hk
theorem run_storeVar_blk {t E : TypeId} {b off : Nat} {cs vs : List Value} {v : Value} (hb : w.heap[b]? = some (.cells cs.toArray E (0, 0))) (hv : v.cells = vs.toArray) (hs : pureVal P (sizeOf t) = some vs.length) (hle : off + vs.length ≤ cs.length) (h1 : ∀ u ∈ vs, u.oneCell' = true) :
    (storeVar t ⟨b, off, none⟩ v).run P w = .ok () (w.setRow b (upd cs off vs).toArray) := by
  have := run_storeCells_at (P := P) b off E vs 0 cs.toArray w hb (by simpa using hle) h1
  simp only [Nat.add_zero] at this
  simp [storeVar, Sem.run_bind, pv_sizeOf hs, hv, this, upd]
theorem wp_store (hF : Fr n ds F a) (hS : St W w L) {t : TypeId} {x y : Operand} (ho : o.op = .store t x y) (i : Nat) {b off : Nat} {cs : List Value} {E : TypeId} (hi : L[i]? = some (.blk b cs E)) (hx : sv F x = some (.pointer (some ⟨b, off, none⟩))) {v : Value} (hy : sv F y = some v)
    {vs : List Value} (hv : v.cells = vs.toArray) {k : Nat} (hs : pureVal P (sizeOf t) = some k) (hl : vs.length = k) (hle : off + k ≤ cs.length) (h1 : ∀ u ∈ vs, u.oneCell' = true) {cs' : List Value} (hc : upd cs off vs = cs')
    (hd : dok o.dst n = true) {L' : List Ent} (hL : L.set i (.blk b cs' E) = L')
    (hK : ∀ w' a', St W w' L' → Fr n ds (pt o.dst undef F) a' → K a' w') : o.wp P a w K Q := by
  have hh := hS.holds _ (List.mem_of_getElem? hi)
  subst hL
  subst hl
  unfold Oper.wp execOp
  simp only [ho, hF.sv hx, hF.sv hy, Instr.storeAt, Instr.sureAddr, Sem.run_bind, Sem.run_pure, Result.andThen_ok, run_storeVar_blk hh.2 hv hs hle h1, hc]
  exact hK _ _ (hS.store i hi cs') (hF.put _ _ hd)
def Ret (p : Value → World → Prop) : Ending → World → Prop
  | .returned v, w => p v w
  | _, _ => False
def RetT (p : Value → World → Prop) (q : List PanicEntry → World → Prop) : Ending → World → Prop
  | .returned v, w => p v w
  | .panicked c, w => q c w
  | .outgrown, _ => False
theorem wp_call (hF : Fr n ds F a) {g : FuncId} {args : Array Value} (hk : (o.op.operands.toList.all (kn F) && noSel o.op) = true) (he : pureVal P (execOp (ev F) o) = some (.enter g args))
    (h : Calls P g args w fun
      | .returned v, w' => K (a.put o.dst v) w'
      | .panicked c, w' => Q (.panic c) a w'
      | .outgrown, _ => LetsOut Q) : o.wp P a w K Q := by
  rw [Bool.and_eq_true] at hk
  have hc : execOp a.eval o = execOp (ev F) o := execOp_congr o (noSel_ne hk.2) fun x hx => hF.eval (List.all_eq_true.1 hk.1 x (by simpa using hx))
  unfold Oper.wp
  rw [hc, pureVal_run _ _ he w]
  exact h
theorem wp_callR (hF : Fr n ds F a) {g : FuncId} {args : Array Value} (hk : (o.op.operands.toList.all (kn F) && noSel o.op) = true) (he : pureVal P (execOp (ev F) o) = some (.enter g args)) {p : Value → World → Prop}
    (h : Calls P g args w (Ret p)) (H : ∀ v w', p v w' → K (a.put o.dst v) w') : o.wp P a w K Q :=
  wp_call hF hk he (h.mono fun e w' hr => by cases e <;> first | exact H _ _ hr | exact hr.elim)
theorem wp_callT (hF : Fr n ds F a) {g : FuncId} {args : Array Value} (hk : (o.op.operands.toList.all (kn F) && noSel o.op) = true) (he : pureVal P (execOp (ev F) o) = some (.enter g args)) {p : Value → World → Prop} {q : List PanicEntry → World → Prop}
    (h : Calls P g args w (RetT p q)) (H : ∀ v w', p v w' → K (a.put o.dst v) w') (H2 : ∀ c w', q c w' → Q (.panic c) a w') : o.wp P a w K Q :=
  wp_call hF hk he (h.mono fun e w' hr => by cases e <;> first | exact H _ _ hr | exact H2 _ _ hr | exact hr.elim)
theorem wp_defer (hF : Fr n ds F a) {d : Deferred} (hk : (o.op.operands.toList.all (kn F) && noSel o.op) = true) (he : pureVal P (execOp (ev F) o) = some (.defer d)) (hd : dok o.dst n = true)
    (hK : ∀ a', Fr n (d :: ds) (pt o.dst undef F) a' → K a' w) : o.wp P a w K Q := by
  rw [Bool.and_eq_true] at hk
  have hc : execOp a.eval o = execOp (ev F) o := execOp_congr o (noSel_ne hk.2) fun x hx => hF.eval (List.all_eq_true.1 hk.1 x (by simpa using hx))
  unfold Oper.wp
  rw [hc, pureVal_run _ _ he w]
  have h2 : Fr n (d :: ds) F { a with defers := d :: a.defers } := ⟨hF.size, by simp [hF.defers], hF.has⟩
  exact hK _ (h2.put o.dst undef hd)
theorem wp_panic {x : Operand} (hF : Fr n ds F a) (ho : o.op = .panic x) {t : TypeId} {v : Value} (hx : sv F x = some (.iface t v)) (h : Q (.panic [{ v := .iface t v, recovered := false }]) a w) : o.wp P a w K Q := by
  unfold Oper.wp execOp
  simp only [ho, hF.sv hx, Instr.panic, goPanic, Sem.run_bind, Sem.run, Result.andThen]
  exact h
end laws
section drawn
variable {ops : Array Oper} {Q : Exit → Act → World → Prop} {md : Region.Mode} {S : World → Prop} {late : List Nat}
def lated (late : List Nat) (listed : Array Bool) : Bool := late.any fun l => listed.getD l false
theorem lated_mono {i : Nat} {listed : Array Bool} (h : lated late (listed.setIfInBounds i true) = false) : lated late listed = false := by
  simp only [lated, List.any_eq_false, Bool.not_eq_true] at h ⊢
  intro l hl
  have h1 := h l hl
  cases hc : listed.getD l false with
  | false => rfl
  | true => rw [getD_set_true hc] at h1; cases h1
theorem lated_add {i : Nat} {listed : Array Bool} (hi : late.contains i = false) (h : lated late listed = false) : lated late (listed.setIfInBounds i true) = false := by
  simp only [lated, List.any_eq_false, Bool.not_eq_true] at h ⊢
  intro l hl
  have hne : i ≠ l := by
    intro e; subst e
    rw [List.contains_iff_mem.2 hl] at hi; cases hi
  rw [getD_set_ne false hne]
  exact h l hl
def wpAL (P : Program) (md : Region.Mode) (ops : Array Oper) (Q : Exit → Act → World → Prop) (S : World → Prop) (late : List Nat) : Nat → Array Bool → Act → World → Prop
  | 0, listed, a, w => Region.ready md ops listed = [] ∧ Q .normal a w
  | f + 1, listed, a, w => (Region.ready md ops listed = [] → Q .normal a w) ∧
    ∀ i ∈ Region.ready md ops listed, wpOp P ops Q i (fun a' w' => (lated late (listed.setIfInBounds i true) = false → S w') ∧ wpAL P md ops Q S late f (listed.setIfInBounds i true) a' w') a w
theorem wpAny_of_late : ∀ (f : Nat) (listed : Array Bool) (a : Act) (w : World), wpAL P md ops Q S late f listed a w → wpAny P md ops Q f listed a w
  | 0, _, _, _, h => h
  | f + 1, _, _, _, h => ⟨h.1, fun i hi => wpOp_mono (fun a' w' h' => wpAny_of_late f _ a' w' h'.2) (h.2 i hi)⟩
def Closed (md : Region.Mode) (ops : Array Oper) (listed : Array Bool) : Prop :=
  ∀ j oj, ops[j]? = some oj → listed.getD j false = true → ∀ e ∈ oj.after, Region.binds md e = true → listed.getD e.on false = true
theorem Closed.add {listed : Array Bool} {i : Nat} (h : Closed md ops listed) (hi : i ∈ Region.ready md ops listed) : Closed md ops (listed.setIfInBounds i true) := by
  intro j oj hj hl e he hb
  by_cases hij : i = j
  · subst hij
    obtain ⟨_, o, ho, hall⟩ := mem_ready.1 hi
    rw [hj] at ho
    injection ho with ho
    subst ho
    exact getD_set_true (hall e he hb)
  · rw [getD_set_ne false hij] at hl
    exact getD_set_true (h j oj hj hl e he hb)
def waitsOn (md : Region.Mode) (ops : Array Oper) : Nat → Nat → Nat → Bool
  | 0, _, _ => false
  | f + 1, j, i => match ops[j]? with
    | some oj => oj.after.any fun e => Region.binds md e && (e.on == i || waitsOn md ops f e.on i)
    | none => false
theorem waits_listed {listed : Array Bool} {i : Nat} (hc : Closed md ops listed) : ∀ (f j : Nat) (oj : Oper), ops[j]? = some oj → waitsOn md ops f j i = true → (∀ e ∈ oj.after, Region.binds md e = true → listed.getD e.on false = true) → listed.getD i false = true
  | 0, _, _, _, h, _ => by simp [waitsOn] at h
  | f + 1, j, oj, hj, h, hall => by
    simp only [waitsOn, hj] at h
    obtain ⟨k, hk, h2⟩ := Array.any_eq_true.1 h
    simp only [Bool.and_eq_true, Bool.or_eq_true, beq_iff_eq] at h2
    obtain ⟨hb, h3⟩ := h2
    have hl := hall _ (Array.getElem_mem hk) hb
    rcases h3 with h3 | h3
    · rw [← h3]; exact hl
    · cases ho : ops[(oj.after[k]).on]? with
      | none => cases f <;> simp [waitsOn, ho] at h3
      | some o2 => exact waits_listed hc f _ o2 ho h3 (hc _ o2 ho hl)
theorem wpAL_first {i : Nat} {oi : Oper} {v : Value} (T : World → Prop) (hi : ops[i]? = some oi) (hsel : ∀ (j : Nat) (o : Oper) cs b, ops[j]? = some o → o.op ≠ .select cs b)
    (hQ : ∀ c a w, Q (.panic c) (a.put oi.dst v) w → Q (.panic c) a w) (hil : late.contains i = false)
    (hT : (∀ w, T w) ∨ ((∀ w, S w → T w) ∧ ∀ j, late.contains j = true → waitsOn md ops ops.size j i = true)) :
    ∀ (f : Nat) (listed : Array Bool) (a : Act) (w : World),
      (∀ j oj, ops[j]? = some oj → j ≠ i → listed.getD j true = false → (∀ e ∈ oj.after, Region.binds md e = true → e.on ≠ i) → oi.apart ops oj = true) →
      i ∈ Region.ready md ops listed → YieldsIf P ops T oi v a → (lated late listed = false → S w) → T w →
      wpAL P md ops Q S late f (listed.setIfInBounds i true) (a.put oi.dst v) w → ((∀ w, T w) ∨ (lated late listed = false ∧ Closed md ops listed)) → wpAL P md ops Q S late (f + 1) listed a w := by
  intro f
  induction f with
  | zero =>
    intro listed a w _ hr hy hS hTw H _
    refine ⟨fun h => (by rw [h] at hr; cases hr), fun j hj => ?_⟩
    by_cases hji : j = i
    · subst hji; exact hy.wpOp hi hTw ⟨fun h => hS (lated_mono h), H⟩
    · have := ready_mono hj hji
      rw [H.1] at this
      cases this
  | succ f ih =>
    intro listed a w hfree hr hy hS hTw H hnl
    refine ⟨fun h => (by rw [h] at hr; cases hr), fun j hj => ?_⟩
    by_cases hji : j = i
    · subst hji; exact hy.wpOp hi hTw ⟨fun h => hS (lated_mono h), H⟩
    · obtain ⟨hjun, oj, hoj, hall⟩ := mem_ready.1 hj
      have hiun : listed.getD i false = false := by
        have q0 := (mem_ready.1 hr).1
        rcases Nat.lt_or_ge i listed.size with h' | h'
        · simpa [h'] using q0
        · simp [Array.getElem?_eq_none h'] at q0
      have hnot : ∀ e ∈ oj.after, Region.binds md e = true → e.on ≠ i := by
        intro e he hb heq
        have q1 := hall e he hb
        rw [heq, hiun] at q1
        cases q1
      have h1 := H.2 j (ready_mono hj hji)
      have h2 := wpOp_putIf hoj (hfree j oj hoj hji hjun hnot) (fun cs b => hsel i oi cs b hi) (fun cs b => hsel j oj cs b hoj) hQ hy h1
      have hfree' : ∀ k ok, ops[k]? = some ok → k ≠ i → (listed.setIfInBounds j true).getD k true = false → (∀ e ∈ ok.after, Region.binds md e = true → e.on ≠ i) → oi.apart ops ok = true := by
        intro k ok hk hki hun hno
        refine hfree k ok hk hki ?_ hno
        by_cases hjk : j = k
        · subst hjk; exact hjun
        · rw [getD_set_ne true hjk] at hun; exact hun
      refine wpOp_mono (fun a' w' h3 => ?_) h2
      have hS' : lated late (listed.setIfInBounds j true) = false → S w' := fun h => h3.2.1 (by rw [Array.setIfInBounds_comm _ _ (Ne.symm hji)]; exact lated_add hil h)
      have hnl' : (∀ w, T w) ∨ (lated late (listed.setIfInBounds j true) = false ∧ Closed md ops (listed.setIfInBounds j true)) := by
        rcases hT with hT | ⟨_, hlate⟩
        · exact .inl hT
        · rcases hnl with h | ⟨h, hcl⟩
          · exact .inl h
          · refine .inr ⟨lated_add ?_ h, hcl.add hj⟩
            cases hc : late.contains j with
            | false => rfl
            | true =>
              have := waits_listed hcl _ j oj hoj (hlate j hc) hall
              rw [hiun] at this
              cases this
      have hTw' : T w' := by
        rcases hT with hT | ⟨hST, _⟩
        · exact hT w'
        · rcases hnl' with h | h
          · exact h w'
          · exact hST _ (hS' h.1)
      refine ⟨hS', ih (listed.setIfInBounds j true) a' w' hfree' (ready_mono hr (Ne.symm hji)) h3.1 hS' hTw' ?_ hnl'⟩
      rw [Array.setIfInBounds_comm _ _ hji]
      exact h3.2.2
def lateOk (md : Region.Mode) (ops : Array Oper) (late : List Nat) (i : Nat) : Bool := late.all fun j => waitsOn md ops ops.size j i
theorem lateOk_spec {i : Nat} (h : lateOk md ops late i = true) (j : Nat) (hj : late.contains j = true) : waitsOn md ops ops.size j i = true :=
  List.all_eq_true.1 h j (by simpa using hj)
def closedB (md : Region.Mode) (ops : Array Oper) (listed : Array Bool) : Bool :=
  (List.range ops.size).all fun j => !listed.getD j false || match ops[j]? with
    | some oj => oj.after.all fun e => !Region.binds md e || listed.getD e.on false
    | none => true
theorem closedB_spec {listed : Array Bool} (h : closedB md ops listed = true) : Closed md ops listed := by
  intro j oj hj hl e he hb
  have hlt := (Array.getElem?_eq_some_iff.1 hj).1
  have h1 := List.all_eq_true.1 h j (List.mem_range.2 hlt)
  simp only [hl, hj, Bool.not_true, Bool.false_or] at h1
  have h2 := Array.all_eq_true_iff_forall_mem.1 h1 e he
  simpa [hb] using h2
def takeOk (ops : Array Oper) (listed : Array Bool) (i : Nat) : Bool :=
  Region.noSelect ops && Region.free .any ops listed i && (Region.ready .any ops listed).contains i
variable {n : Nat} {ds : List Deferred} {F M : List (Nat × Value)} {a : Act} {w : World} {f : Nat} {listed : Array Bool}
theorem al_pure {i : Nat} {oi : Oper} (hi : ops[i]? = some oi) (hok : (takeOk ops listed i && !late.contains i) = true) (hQ : ∀ v c a w, Q (.panic c) (Act.put a oi.dst v) w → Q (.panic c) a w) (hF : Fr n ds F a)
    {v : Value} (hv : (match gd ops n F oi with | some true => opVal P F oi | some false => some undef | none => none) = some v)
    (hd : dok oi.dst n = true) (hS : lated late listed = false → S w)
    (H : ∀ a', Fr n ds (pt oi.dst v F) a' → wpAL P .any ops Q S late f (listed.setIfInBounds i true) a' w) : wpAL P .any ops Q S late (f + 1) listed a w := by
  simp only [takeOk, Bool.and_eq_true, Bool.not_eq_true'] at hok
  refine wpAL_first (fun _ => True) hi (Region.noSelect_spec hok.1.1.1) (hQ v) hok.2 (.inl fun _ => trivial) f listed a w (Region.free_spec hi hok.1.1.2) (by simpa using hok.1.2) ?_ hS trivial (H _ (hF.put _ v hd)) (.inl fun _ => trivial)
  cases hg : gd ops n F oi with
  | none => simp [hg] at hv
  | some b =>
    cases b with
    | true => simp only [hg] at hv; exact .inl ⟨gd_yes hF hg, fun w _ => opVal_run hF hv w⟩
    | false => simp only [hg] at hv; injection hv with hv; exact .inr ⟨gd_yes hF hg, hv.symm⟩
def ups : List Nat → Array Bool → Array Bool
  | [], l => l
  | i :: is, l => ups is (l.setIfInBounds i true)
def alP (P : Program) (ops : Array Oper) (n : Nat) (late : List Nat) : List Nat → Array Bool → List (Nat × Value) → Option (List (Nat × Value))
  | [], _, F => some F
  | i :: is, listed, F => match ops[i]? with
    | none => none
    | some oi => if (takeOk ops listed i && !late.contains i && dok oi.dst n) = true then
      match (match gd ops n F oi with | some true => opVal P F oi | some false => some undef | none => none) with
      | some v => alP P ops n late is (listed.setIfInBounds i true) (pt oi.dst v F)
      | none => none
      else none
theorem al_is {w : World} (hQ : ∀ d v c a w, Q (.panic c) (Act.put a d v) w → Q (.panic c) a w) : ∀ (is : List Nat) (f : Nat) (listed : Array Bool) (F M : List (Nat × Value)) (a : Act), alP P ops n late is listed F = some M → Fr n ds F a → (lated late listed = false → S w) →
    (∀ a', Fr n ds M a' → wpAL P .any ops Q S late f (ups is listed) a' w) → wpAL P .any ops Q S late (f + is.length) listed a w
  | [], f, listed, F, M, a, h, hF, hS, H => by simp only [alP] at h; injection h with h; subst h; exact H a hF
  | i :: is, f, listed, F, M, a, h, hF, hS, H => by
    simp only [alP] at h
    split at h
    · cases h
    · rename_i oi hi
      split at h
      · rename_i hok
        split at h
        · rename_i v hv
          simp only [Bool.and_eq_true] at hok
          exact al_pure (f := f + is.length) hi (by rw [Bool.and_eq_true]; exact hok.1) (hQ _) hF hv hok.2 hS fun a' hF' => al_is hQ is f _ _ M a' h hF' (fun h' => hS (lated_mono h')) H
        · cases h
      · cases h
theorem al_run {N : Nat} {w : World} (hQ : ∀ d v c a w, Q (.panic c) (Act.put a d v) w → Q (.panic c) a w) (f : Nat) (is : List Nat) (hN : N = f + is.length) (ks : List Nat) (M : List (Nat × Value)) (hF : Fr n ds F a) (h : (alP P ops n late is listed F).bind (pick ks) = some M) (hS : lated late listed = false → S w)
    (H : ∀ a', Fr n ds M a' → wpAL P .any ops Q S late f (ups is listed) a' w) : wpAL P .any ops Q S late N listed a w := by
  subst hN
  cases hr : alP P ops n late is listed F with
  | none => simp [hr] at h
  | some M2 =>
    rw [hr] at h
    exact al_is hQ is f listed F M2 a hr hF hS fun a' hF' => H a' (hF'.pick ks h)
theorem al_any {i : Nat} {oi : Oper} (hi : ops[i]? = some oi) (hok : (takeOk ops listed i && !late.contains i) = true) (hQ : ∀ v c a w, Q (.panic c) (Act.put a oi.dst v) w → Q (.panic c) a w) (hF : Fr n ds F a) (hg : gd ops n F oi = some true)
    {v : Value} (hv : ∀ w, (execOp a.eval oi).run P w = .ok (.value v) w)
    (hd : dok oi.dst n = true) (hS : lated late listed = false → S w)
    (H : ∀ a', Fr n ds (pt oi.dst v F) a' → wpAL P .any ops Q S late f (listed.setIfInBounds i true) a' w) : wpAL P .any ops Q S late (f + 1) listed a w := by
  simp only [takeOk, Bool.and_eq_true, Bool.not_eq_true'] at hok
  exact wpAL_first (fun _ => True) hi (Region.noSelect_spec hok.1.1.1) (hQ v) hok.2 (.inl fun _ => trivial) f listed a w (Region.free_spec hi hok.1.1.2) (by simpa using hok.1.2) (.inl ⟨gd_yes hF hg, fun w _ => hv w⟩) hS trivial (H _ (hF.put _ v hd)) (.inl fun _ => trivial)
theorem al_val {i : Nat} {oi : Oper} (hi : ops[i]? = some oi) (hok : (takeOk ops listed i && !late.contains i && lateOk .any ops late i && !lated late listed && closedB .any ops listed) = true) (hQ : ∀ v c a w, Q (.panic c) (Act.put a oi.dst v) w → Q (.panic c) a w) (hF : Fr n ds F a) (hg : gd ops n F oi = some true)
    {v : Value} (hv : ∀ w, S w → (execOp a.eval oi).run P w = .ok (.value v) w)
    (hd : dok oi.dst n = true) (hS : S w)
    (H : ∀ a', Fr n ds (pt oi.dst v F) a' → wpAL P .any ops Q S late f (listed.setIfInBounds i true) a' w) : wpAL P .any ops Q S late (f + 1) listed a w := by
  simp only [takeOk, Bool.and_eq_true, Bool.not_eq_true'] at hok
  exact wpAL_first S hi (Region.noSelect_spec hok.1.1.1.1.1.1) (hQ v) hok.1.1.1.2 (.inr ⟨fun _ h => h, lateOk_spec hok.1.1.2⟩) f listed a w (Region.free_spec hi hok.1.1.1.1.1.2) (by simpa using hok.1.1.1.1.2) (.inl ⟨gd_yes hF hg, hv⟩) (fun _ => hS) hS (H _ (hF.put _ v hd)) (.inr ⟨hok.1.2, closedB_spec hok.2⟩)
theorem al_one {i : Nat} {oi : Oper} (hi : ops[i]? = some oi) (hr : Region.ready .any ops listed = [i]) (hF : Fr n ds F a) (hg : gd ops n F oi = some true)
    (h : oi.wp P a w (fun a' w' => (lated late (listed.setIfInBounds i true) = false → S w') ∧ wpAL P .any ops Q S late f (listed.setIfInBounds i true) a' w') Q) : wpAL P .any ops Q S late (f + 1) listed a w := by
  refine ⟨fun h0 => (by rw [hr] at h0; cases h0), fun j hj => ?_⟩
  rw [hr, List.mem_singleton] at hj
  subst hj
  unfold wpOp
  simp only [hi]
  rw [if_pos (gd_yes hF hg)]
  exact .inl h
theorem al_all (rs : List Nat) (hr : Region.ready .any ops listed = rs) (hne : rs.isEmpty = false)
    (h : ∀ i ∈ rs, wpOp P ops Q i (fun a' w' => (lated late (listed.setIfInBounds i true) = false → S w') ∧ wpAL P .any ops Q S late f (listed.setIfInBounds i true) a' w') a w) : wpAL P .any ops Q S late (f + 1) listed a w := by
  refine ⟨fun h0 => ?_, hr ▸ h⟩
  rw [hr] at h0; subst h0; cases hne
theorem al_op {i : Nat} {oi : Oper} {K : Act → World → Prop} (hi : ops[i]? = some oi) (hF : Fr n ds F a) (hg : gd ops n F oi = some true) (h : oi.wp P a w K Q) : wpOp P ops Q i K a w := by
  unfold wpOp
  simp only [hi]
  rw [if_pos (gd_yes hF hg)]
  exact .inl h
theorem al_done (hr : Region.ready .any ops listed = []) (h : Q .normal a w) : ∀ f, wpAL P .any ops Q S late f listed a w
  | 0 => ⟨hr, h⟩
  | _ + 1 => ⟨fun _ => h, by rw [hr]; simp⟩
theorem region_al {id : Nat} (late : List Nat) (S : World → Prop) (k : Nat) (hk : ops.size = k) (hm : P.follows .mixedOrders = true) (h : wpAL P .any ops Q S late k (Array.replicate k false) a { w with drawn := w.drawn + 1 }) : (Code.region id ops true).wp P Q a w := by
  subst hk
  exact wp_region_any hm (wpAny_of_late _ _ _ _ h)
theorem al_eq {l l' : Array Bool} (e : l = l') (h : wpAL P .any ops Q S late f l' a w) : wpAL P .any ops Q S late f l a w := e ▸ h
theorem al_cut (f2 : Nat) (l2 : Array Bool) (I : Act → World → Prop) (h1 : ∀ a w, I a w → wpAL P .any ops Q S late f2 l2 a w) (h2 : (∀ a w, I a w → wpAL P .any ops Q S late f2 l2 a w) → wpAL P .any ops Q S late f listed a w) : wpAL P .any ops Q S late f listed a w := h2 h1
theorem all_nil {p : Nat → Prop} : ∀ i ∈ ([] : List Nat), p i := fun _ h => (List.not_mem_nil h).elim
theorem all_cons {p : Nat → Prop} {i : Nat} {l : List Nat} (h1 : p i) (h2 : ∀ j ∈ l, p j) : ∀ j ∈ i :: l, p j := List.forall_mem_cons.2 ⟨h1, h2⟩
theorem late_yes {p : Prop} {listed : Array Bool} (h : lated late listed = true) : lated late listed = false → p := fun h' => by rw [h] at h'; cases h'
theorem St.draw1 {W w : World} {L : List Ent} (h : St W w L) : St W { w with drawn := w.drawn + 1 } L := h.drew rfl rfl rfl rfl
end drawn
theorem Fr.start (args : Array Value) (k : Nat) (n : Nat) (F : List (Nat × Value)) (hn : args.size + k = n)
    (hF : F.map (fun p => ((args ++ Array.replicate k undef)[p.1]?)) = F.map (fun p => some p.2)) : Fr n [] F { tmps := args ++ Array.replicate k undef, defers := [] } := by
  refine ⟨by simp [hn], rfl, fun t v hv => ?_⟩
  induction F with
  | nil => cases hv
  | cons p F ih =>
    simp only [List.map_cons, List.cons.injEq] at hF
    obtain ⟨d, x⟩ := p
    simp only [lk] at hv
    by_cases hd : d = t
    · subst hd; simp only [reduceIte] at hv; injection hv with hv; subst hv; exact hF.1
    · rw [if_neg hd] at hv; exact ih hF.2 hv
def ResL (P : Program) (F : List (Nat × Value)) (w : World) : List ResultVar → List Value → Prop
  | [], [] => True
  | .tmp t :: r, v :: vs => sv F (.tmp t) = some v ∧ ResL P F w r vs
  | .cell s t :: r, v :: vs => (∃ ad, sv F (.tmp s) = some (.pointer (some ad)) ∧ (loadVar t ad).run P w = .ok v w) ∧ ResL P F w r vs
  | _, _ => False
def retV : List Value → Value
  | [v] => v
  | vs => .tuple vs.toArray
def resv (a : Act) : ResultVar → Sem Value
  | .tmp t => pure (a.tmps.getD t undef)
  | .cell s t => do loadVar t (← asAddr (a.tmps.getD s undef))
theorem run_resl {n : Nat} {ds : List Deferred} {F : List (Nat × Value)} {a : Act} {w : World} (hF : Fr n ds F a) : ∀ (l : List ResultVar) (vs : List Value), ResL P F w l vs → (l.mapM (resv a)).run P w = .ok vs w
  | [], [], _ => by simp
  | [], _ :: _, h => h.elim
  | .tmp _ :: _, [], h => h.elim
  | .cell _ _ :: _, [], h => h.elim
  | .tmp t :: l, v :: vs, h => by
    have h1 := hF.sv h.1
    simp only [Act.eval] at h1
    have h2 := run_resl hF l vs h.2
    rw [List.mapM_cons]
    simp only [Sem.run_bind, resv, h1, Sem.run_pure, Result.andThen_ok, h2]
  | .cell s t :: l, v :: vs, h => by
    obtain ⟨⟨ad, h1, h3⟩, h4⟩ := h
    have h1 := hF.sv h1
    simp only [Act.eval] at h1
    have h2 := run_resl hF l vs h4
    rw [List.mapM_cons]
    simp only [Sem.run_bind, resv, h1, asAddr, Sem.run_pure, Result.andThen_ok, h2, h3]
theorem results_ok {n : Nat} {ds : List Deferred} {F : List (Nat × Value)} {a : Act} {w : World} (hF : Fr n ds F a) (fn : Func) (vs : List Value) (h : ResL P F w fn.results.toList vs) : (results fn a.tmps).run P w = .ok (retV vs) w := by
  have hm := run_resl hF _ vs h
  have e : (Array.mapM (m := Sem) (resv a) fn.results).run P w = .ok vs.toArray w := by
    rw [Array.mapM_eq_mapM_toList, Sem.run_map, hm]; rfl
  have e2 : results fn a.tmps = (do let vs ← Array.mapM (m := Sem) (resv a) fn.results; pure (if h : vs.size = 1 then vs[0] else .tuple vs)) := by
    unfold results
    congr 1
  rw [e2, Sem.run_bind, e]
  simp only [Result.andThen_ok]
  cases vs with
  | nil => rfl
  | cons v vs => cases vs <;> rfl
theorem ret_ok {n : Nat} {F : List (Nat × Value)} {a : Act} {w : World} {fn : Func} {R : Ending → World → Prop} (hF : Fr n [] F a) (vs : List Value) (h : ResL P F w fn.results.toList vs) (hR : R (.returned (retV vs)) w) : bodyPost P fn R .ret a w :=
  ⟨hF.defers, _, results_ok hF fn vs h, hR⟩
theorem end_ok {n : Nat} {F : List (Nat × Value)} {a : Act} {w : World} {fn : Func} {R : Ending → World → Prop} (hF : Fr n [] F a) (vs : List Value) (h : ResL P F w fn.results.toList vs) (hR : R (.returned (retV vs)) w) : bodyPost P fn R .normal a w :=
  ⟨hF.defers, _, results_ok hF fn vs h, hR⟩
theorem wpl_val {ops : Array Oper} {n : Nat} {ds : List Deferred} {F : List (Nat × Value)} {a : Act} {Q : Exit → Act → World → Prop} {w : World} {o : Oper} {r : List Oper} (hF : Fr n ds F a) (hg : gd ops n F o = some true) {v : Value} (hv : (execOp a.eval o).run P w = .ok (.value v) w)
    (hd : dok o.dst n = true) (H : ∀ a', Fr n ds (pt o.dst v F) a' → wpList P ops Q r a' w) : wpList P ops Q (o :: r) a w :=
  wpl_one hF hg (wp_val hv (H _ (hF.put _ v hd)))
def exitJ (id : Nat) (J : Act → World → Prop) (Q : Exit → Act → World → Prop) : Exit → Act → World → Prop
  | .exit i, a, w => if i = id then J a w else Q (.exit i) a w
  | e, a, w => Q e a w
theorem block_cut {id : Nat} {c : Code} {Q : Exit → Act → World → Prop} {a : Act} {w : World} (J : Act → World → Prop) (h1 : c.wp P (exitJ id J (fun e a w => Exit.inBlock id Q e a w)) a w) (h2 : ∀ a w, J a w → Q .normal a w) : (Code.block id c).wp P Q a w :=
  wp_block (wp_mono h1 fun e a w h => by
    cases e with
    | exit i =>
      simp only [exitJ] at h
      split at h
      · rename_i hi; simp only [Exit.inBlock, if_pos hi]; exact h2 _ _ h
      · exact h
    | _ => exact h)
theorem bind_ok {α β : Type} {x : Option α} {f : α → Option β} {r : β} (h : x.bind f = some r) : ∃ t, x = some t ∧ f t = some r := by
  cases x with
  | none => cases h
  | some t => exact ⟨t, rfl, h⟩
def LIM : Nat := 18446744073709551616
def rd (xs : List Int) (i : Nat) : Int := xs.getD i 0
def inb (i : Int) (n : Nat) : Bool := decide (0 ≤ i) && decide (i < n)
theorem inb_ok {i : Int} {n : Nat} (h : inb i n = true) : 0 ≤ i ∧ i < n := by simpa [inb] using h
def iand (k : IntKind) (x y : Int) : Int := k.wrap (BitVec.ofInt k.bits x &&& BitVec.ofInt k.bits y).toNat
def ior (k : IntKind) (x y : Int) : Int := k.wrap (BitVec.ofInt k.bits x ||| BitVec.ofInt k.bits y).toNat
def ixor (k : IntKind) (x y : Int) : Int := k.wrap (BitVec.ofInt k.bits x ^^^ BitVec.ofInt k.bits y).toNat
def ishl (k : IntKind) (x y : Int) : Int := k.wrap (x * 2 ^ (min y.toNat k.bits))
def ishr (k : IntKind) (x y : Int) : Int := x.fdiv (2 ^ (min y.toNat k.bits))
def ic (k : IntKind) (xs : List Int) : List Value := xs.map (Value.int k)
def bc (xs : List Bool) : List Value := xs.map Value.bool
def sub {α : Type} (xs : List α) (l h : Nat) : List α := (xs.drop l).take (h - l)
theorem ic_len (k : IntKind) (xs : List Int) : (ic k xs).length = xs.length := by simp [ic]
theorem bc_len (xs : List Bool) : (bc xs).length = xs.length := by simp [bc]
theorem ic_get {k : IntKind} {xs : List Int} {i : Nat} (h : i < xs.length) : (ic k xs)[i]? = some (.int k (rd xs i)) := by
  simp [ic, rd, List.getElem?_eq_getElem h, List.getD_eq_getElem?_getD]
theorem upd_one {α : Type} {xs : List α} {i : Nat} (h : i < xs.length) (v : α) : upd xs i [v] = xs.set i v := by
  unfold upd
  rw [List.set_eq_take_append_cons_drop, if_pos h]
  simp
theorem upd_ic1 {k : IntKind} {xs : List Int} {i : Nat} (h : i < xs.length) (v : Int) : upd (ic k xs) i [.int k v] = ic k (xs.set i v) := by
  rw [upd_one (by rw [ic_len]; exact h)]; simp [ic]
theorem upd_bc1 {xs : List Bool} {i : Nat} (h : i < xs.length) (v : Bool) : upd (bc xs) i [.bool v] = bc (xs.set i v) := by
  rw [upd_one (by rw [bc_len]; exact h)]; simp [bc]
theorem upd_ic (k : IntKind) (xs ys : List Int) (i : Nat) : upd (ic k xs) i (ic k ys) = ic k (upd xs i ys) := by
  simp [upd, ic, List.map_take, List.map_drop]
theorem upd_all {α : Type} {xs ys : List α} (h : ys.length = xs.length) : upd xs 0 ys = ys := by
  simp [upd, h]
theorem ic_sub (k : IntKind) (xs : List Int) (l m : Nat) : ((ic k xs).drop l).take m = ic k ((xs.drop l).take m) := by simp [ic, List.map_take, List.map_drop]
theorem sub_len {α : Type} {xs : List α} {l h : Nat} (h1 : l ≤ h) (h2 : h ≤ xs.length) : (sub xs l h).length = h - l := by simp [sub]; omega
theorem ic_one (k : IntKind) (xs : List Int) : ∀ u ∈ ic k xs, u.oneCell' = true := by
  intro u hu; simp only [ic, List.mem_map] at hu; obtain ⟨x, _, rfl⟩ := hu; rfl
theorem bc_one (xs : List Bool) : ∀ u ∈ bc xs, u.oneCell' = true := by
  intro u hu; simp only [bc, List.mem_map] at hu; obtain ⟨x, _, rfl⟩ := hu; rfl
theorem seg_r {A B : List Value} {p j : Nat} (hA : A.length = p) {v : Option Value} (h : B[j]? = v) : (A ++ B)[p + j]? = v := by
  subst hA; rw [List.getElem?_append_right (by omega), Nat.add_sub_cancel_left]; exact h
theorem seg_l {A B : List Value} {j : Nat} {v : Value} (h : A[j]? = some v) : (A ++ B)[j]? = some v := by
  rw [List.getElem?_append_left (List.getElem?_eq_some_iff.1 h).1]; exact h
theorem upd_r {A B vs C : List Value} {p j : Nat} (hA : A.length = p) (h : upd B j vs = C) : upd (A ++ B) (p + j) vs = A ++ C := by
  subst hA; subst h
  unfold upd
  rw [List.take_append, List.drop_append]
  simp [List.take_of_length_le, List.drop_of_length_le, Nat.add_assoc, show A.length + (j + vs.length) - A.length = j + vs.length by omega]
theorem upd_r2 {A B vs C : List Value} {p j o : Nat} (hA : A.length = p) (ho : o = p + j) (h : upd B j vs = C) : upd (A ++ B) o vs = A ++ C := by subst ho; exact upd_r hA h
theorem upd_l {A B vs C : List Value} {j : Nat} (hA : j + vs.length ≤ A.length) (h : upd A j vs = C) : upd (A ++ B) j vs = C ++ B := by
  subst h
  unfold upd
  rw [List.take_append_of_le_length (by omega), List.drop_append_of_le_length (by omega)]
  simp
section wrap
variable {J : Act → World → Prop} {Q : Exit → Act → World → Prop} {a : Act} {w : World} {i id : Nat} {c : List PanicEntry}
theorem then_n (h : J a w) : Exit.then J Q .normal a w := h
theorem then_x (h : Q (.exit i) a w) : Exit.then J Q (.exit i) a w := h
theorem then_r (h : Q .ret a w) : Exit.then J Q .ret a w := h
theorem then_p (h : Q (.panic c) a w) : Exit.then J Q (.panic c) a w := h
theorem blk_n (h : Q .normal a w) : Exit.inBlock id Q .normal a w := h
theorem blk_x (h : Q .normal a w) : Exit.inBlock id Q (.exit id) a w := by simp only [Exit.inBlock, if_pos]; exact h
theorem blk_r (h : Q .ret a w) : Exit.inBlock id Q .ret a w := h
theorem blk_p (h : Q (.panic c) a w) : Exit.inBlock id Q (.panic c) a w := h
theorem cut_x (h : J a w) : exitJ id J Q (.exit id) a w := by simp only [exitJ, if_pos]; exact h
theorem cut_r (h : Q .ret a w) : exitJ id J (fun e a w => Exit.inBlock id Q e a w) .ret a w := h
end wrap
theorem gd_ok {α : Type} {c : Bool} {x : Option α} {r : α} (h : (if c = true then x else none) = some r) : c = true ∧ x = some r := by
  cases c with
  | false => simp at h
  | true => exact ⟨rfl, by simpa using h⟩
theorem if_t {α : Type} {c : Bool} {x y : Option α} {r : α} (hc : c = true) (h : (if c = true then x else y) = some r) : x = some r := by rwa [if_pos hc] at h
theorem if_f {α : Type} {c : Bool} {x y : Option α} {r : α} (hc : c = false) (h : (if c = true then x else y) = some r) : y = some r := by rwa [if_neg (by rw [hc]; exact Bool.false_ne_true)] at h
theorem rounds_go {c : Code} {Q : Exit → Act → World → Prop} {n : Nat} {a : Act} {w : World} (h : c.wp P (Exit.then (Code.rounds P c Q n) Q) a w) : Code.rounds P c Q (n + 1) a w := h
theorem inb_nat {i : Int} {n : Nat} (h : inb i n = true) : i.toNat < n := by have := inb_ok h; omega
theorem St.rdro {W w : World} {L : List Ent} (h : St W w L) (i : Nat) {ao : Option Addr} {n c : Nat} {cs : List Value} (hi : L[i]? = some (.ro ao n c cs)) : Rd w ao n c cs := h.holds _ (List.mem_of_getElem? hi)
theorem St.rdsl {W w : World} {L : List Ent} (h : St W w L) (i : Nat) {ao : Option Addr} {n c s : Nat} {cs : List Value} {E : TypeId} (hi : L[i]? = some (.sl ao n c s cs E)) : Rd w ao n c cs :=
  (h.give i hi).rdro i (List.getElem?_set_self (List.getElem?_eq_some_iff.1 hi).1)
theorem Rd.nil (w : World) : Rd w none 0 0 [] := ⟨⟨Nat.le_refl _, fun _ => ⟨rfl, rfl⟩⟩, .inl rfl⟩
theorem range_l {w : World} {b o : Nat} {A B : List Value} (h : w.rangeAt b o (A ++ B)) : w.rangeAt b o A := fun j v hj => h j v (seg_l hj)
theorem range_r {w : World} {b o o' : Nat} {A B : List Value} {p : Nat} (h : w.rangeAt b o (A ++ B)) (hA : A.length = p) (ho : o' = o + p) : w.rangeAt b o' B := fun j v hj => by
  subst ho
  have := h (p + j) v (seg_r hA hj)
  rwa [← Nat.add_assoc] at this
theorem St.all {W w : World} {L : List Ent} (h : St W w L) (i : Nat) {b : Nat} {cs : List Value} {E : TypeId} (hi : L[i]? = some (.blk b cs E)) : w.rangeAt b 0 cs := by
  have hh := h.holds _ (List.mem_of_getElem? hi)
  intro j v hj
  rw [Nat.zero_add, cell_of_row w b j cs.toArray E _ hh.2]; simpa using hj
theorem St.at {W w : World} {L : List Ent} (h : St W w L) (i : Nat) {b : Nat} {cs : List Value} {E : TypeId} (hi : L[i]? = some (.blk b cs E)) (j : Nat) {v : Value} (hj : cs[j]? = some v) : w.cell? ⟨b, j, none⟩ = some v := by
  have := h.all i hi j v hj
  rwa [Nat.zero_add] at this
theorem St.atA {W w : World} {L : List Ent} (h : St W w L) (i : Nat) {e : Ent} (hi : L[i]? = some e) {ao : Option Addr} {cs : List Value} (he : e.rd = (ao, cs)) (j : Nat) {v : Value} (hj : cs[j]? = some v) : w.cell? ⟨blkOf ao, offOf ao + j, none⟩ = some v := h.cell i hi he j hj rfl rfl
theorem ne_of_get {cs : List Value} {j : Nat} {v : Value} (h : cs[j]? = some v) : cs ≠ [] := by intro e; subst e; simp at h
theorem lt_len {α : Type} {xs : List α} {i n : Nat} (h : i < n) (hl : xs.length = n) : i < xs.length := by omega
theorem loadVar1 {t : TypeId} {w : World} {b off : Nat} (ht : pureVal P (isAgg t) = some false) {v : Value} (hc : w.cell? ⟨b, off, none⟩ = some v) : (loadVar t ⟨b, off, none⟩).run P w = .ok v w := by
  simp only [loadVar, Sem.run_bind, pv_isAgg ht, Result.andThen_ok, Bool.false_eq_true, if_false, load, Sem.run, hc]
theorem loadVarR {t : TypeId} {w : World} {b off : Nat} (ht : pureVal P (isAgg t) = some true) {k : Nat} (hk : pureVal P (sizeOf t) = some k) {cs : List Value} (hl : cs.length = k) (hc : w.rangeAt b off cs) : (loadVar t ⟨b, off, none⟩).run P w = .ok (.agg cs.toArray) w := by
  have hl2 : (loadCells ⟨b, off, none⟩ cs.length).run P w = .ok cs.toArray w :=
    run_loadCells_list (P := P) w ⟨b, off, none⟩ cs (fun j v hv => by rw [Addr.add_mid]; exact hc j v hv)
  subst hl
  simp only [loadVar, Sem.run_bind, pv_isAgg ht, pv_sizeOf hk, Result.andThen_ok, if_true, hl2, Sem.run_pure]
theorem go_fr {n : Nat} {ds : List Deferred} {M : List (Nat × Value)} {a : Act} {w : World} {K : Act → World → Prop} (h : Fr n ds M a) (H : ∀ a', Fr n ds M a' → K a' w) : K a w := H a h
theorem Fr.eqv {n : Nat} {ds : List Deferred} {L M : List (Nat × Value)} {a : Act} (h : Fr n ds L a) (e : L = M) : Fr n ds M a := e ▸ h
theorem St.eqv {W w : World} {L M : List Ent} (h : St W w L) (e : L = M) : St W w M := e ▸ h
theorem St.addnil {W w : World} {L : List Ent} (h : St W w L) (s : Nat) (E : TypeId) : St W w (.sl none 0 0 s [] E :: L) := by
  refine h.more (M := [.sl none 0 0 s [] E]) ⟨Below.refl _ _, fun e he => ?_, .cons (fun _ h => (List.not_mem_nil h).elim) .nil⟩ fun e he k hk => ?_
  · rw [List.mem_singleton] at he; subst he
    exact ⟨by simp, .inl ⟨rfl, rfl⟩⟩
  · rw [List.mem_singleton] at he; subst he
    obtain ⟨a, ha, _⟩ := hk
    cases ha
section more
variable {n : Nat} {ds : List Deferred} {F : List (Nat × Value)} {a : Act} {w W : World} {L : List Ent} {o : Oper} {K : Act → World → Prop} {Q : Exit → Act → World → Prop}
theorem run_indexV {t : TypeId} {x ix : Operand} (ho : o.op = .index t x ix) {cs : List Value} (hx : a.eval x = .agg cs.toArray) {k : IntKind} {i : Int} (hi : a.eval ix = .int k i) {len : Nat} {E : TypeId} (ht : pureVal P (underlying t) = some (.array len E)) (hs : pureVal P (sizeOf E) = some 1) (hE : pureVal P (isAgg E) = some false) (h0 : 0 ≤ i ∧ i < len) {j : Nat} (hj : i.toNat = j) {v : Value} (hv : cs[j]? = some v) :
    (execOp a.eval o).run P w = .ok (.value v) w := by
  subst hj
  have hv2 : cs.toArray[i.toNat * 1]? = some v := by rw [Nat.mul_one]; simpa using hv
  unfold execOp
  simp only [ho, hx, hi, Instr.index, asIntOf, Sem.run_bind, Sem.run_pure, Result.andThen_ok, pv_under ht, pv_sizeOf hs, if_pos h0, part, pv_isAgg hE, Bool.false_eq_true, if_false, hv2]
theorem run_indexT {t : TypeId} {x ix : Operand} (ho : o.op = .index t x ix) {s : ByteArray} (hx : a.eval x = .string s) {k : IntKind} {i : Int} (hi : a.eval ix = .int k i) (ht : pureVal P (underlying t) = some .string) {xs : List Int} (hs : s.data.toList.map (fun b => (b.toNat : Int)) = xs) {m : Nat} (hm : xs.length = m) (h0 : 0 ≤ i ∧ i < m) :
    (execOp a.eval o).run P w = .ok (.value (.int .u8 (rd xs i.toNat))) w := by
  subst hs
  have hl : i.toNat < s.data.toList.length := by rw [List.length_map] at hm; omega
  have hl2 : i.toNat < s.size := by simpa using hl
  have hg : s[i.toNat]? = some s[i.toNat] := by simp [getElem?_pos, hl2]
  have hr : rd (s.data.toList.map (fun b => (b.toNat : Int))) i.toNat = ((s[i.toNat]).toNat : Int) := by
    have e : s.data.toList[i.toNat]? = some s[i.toNat] := by
      rw [List.getElem?_eq_getElem hl]; rfl
    simp only [rd, List.getD_eq_getElem?_getD, List.getElem?_map, e, Option.map_some, Option.getD_some]
  unfold execOp
  simp only [ho, hx, hi, Instr.index, asIntOf, Sem.run_bind, Sem.run_pure, Result.andThen_ok, pv_under ht, if_pos h0.1, hg, hr]
theorem wp_buildSlice (hF : Fr n ds F a) (hS : St W w L) {t : TypeId} {len : Nat} {parts : Array (Nat × Operand)} (ho : o.op = .buildSlice t len parts) {E : TypeId} (ht : pureVal P (underlying t) = some (.slice E)) (hs : pureVal P (sizeOf E) = some 1) {z : Value} (hz : pureVal P (zeroValue E) = some z) (hzc : z.cells.size = 1)
    {ps : List (Nat × Value)} (hk : (parts.toList.all fun p => kn F p.2) = true) (hp : parts.toList.map (fun p => (p.1, ev F p.2)) = ps) {cs : List Value} (hf : Instr.fill (fun i => some (i * 1, 1)) ((Array.range len).map fun _ => z.cells[0]!) ps = some cs.toArray) (hlen : (decide (len * 1 ≤ 2 ^ 24) && decide (0 < len)) = true)
    (hd : dok o.dst n = true) (hK : ∀ b w' a', St W w' (.blk b cs E :: L) → Fr n ds (pt o.dst (.slice (some ⟨b, 0, none⟩) len len) F) a' → K a' w') : o.wp P a w K Q := by
  rw [Bool.and_eq_true, decide_eq_true_eq, decide_eq_true_eq] at hlen
  have he : (parts.map fun (x : Nat × Operand) => (x.1, a.eval x.2)).toList = ps := by
    rw [← hp, Array.toList_map]
    refine List.map_congr_left fun p hpm => ?_
    rw [hF.eval (List.all_eq_true.1 hk p hpm)]
  have hr : ((Array.range (len * 1)).map (z.cells[· % z.cells.size]!)) = (Array.range len).map fun _ => z.cells[0]! := by
    rw [Nat.mul_one]
    refine Array.map_congr_left fun x _ => ?_
    rw [hzc, Nat.mod_one]
  have h1 : ¬ (len * 1 > 2 ^ 24) := by omega
  have h2 : ¬ (len * 1 = 0) := by omega
  unfold Oper.wp execOp
  simp only [ho, Instr.buildSlice, Sem.run_bind, Sem.run_pure, Result.andThen_ok, pv_under ht, pv_sizeOf hs, if_neg h1, if_neg h2, pureVal_run _ _ hz, he, hr, hf, newRow, run_newObj_alloc]
  exact hK _ _ _ (hS.alloc cs E) (hF.put _ _ hd)
end more
theorem app_len {A B : List Value} {p q : Nat} (hA : A.length = p) (hB : B.length = q) : (A ++ B).length = p + q := by rw [List.length_append, hA, hB]
def InlR (o : Oper) (a : Act) (K : Act → World → Prop) (Q : Exit → Act → World → Prop) : Ending → World → Prop
  | .returned v, w' => K (a.put o.dst v) w'
  | .panicked c, w' => Q (.panic c) a w'
  | .outgrown, _ => LetsOut Q
theorem inl_ret {o : Oper} {a : Act} {K : Act → World → Prop} {Q : Exit → Act → World → Prop} {v : Value} {w : World} (h : K (a.put o.dst v) w) : InlR o a K Q (.returned v) w := h
theorem inl_pan {o : Oper} {a : Act} {K : Act → World → Prop} {Q : Exit → Act → World → Prop} {c : List PanicEntry} {w : World} (h : Q (.panic c) a w) : InlR o a K Q (.panicked c) w := h
theorem wp_inl {n : Nat} {ds : List Deferred} {F : List (Nat × Value)} {a : Act} {w : World} {o : Oper} {K : Act → World → Prop} {Q : Exit → Act → World → Prop} (hF : Fr n ds F a) {g : FuncId} {args : Array Value} (hk : (o.op.operands.toList.all (kn F) && noSel o.op) = true) (he : pureVal P (execOp (ev F) o) = some (.enter g args))
    (h : Calls P g args w (InlR o a K Q)) : o.wp P a w K Q :=
  wp_call hF hk he (h.mono fun e w' hr => by cases e <;> exact hr)
section slices
variable {n : Nat} {ds : List Deferred} {F : List (Nat × Value)} {a : Act} {w W : World} {L : List Ent} {o : Oper} {K : Act → World → Prop} {Q : Exit → Act → World → Prop}
theorem Same.of_grown {w w' : World} {row : Option Nat} (h : w.grownBy w' row) {R : Nat → Prop} (hR : ∀ k, row = some k → R k) : Same w w' R :=
  ⟨h.os, h.tape, h.output, h.size, fun k hk hn => h.block k hk fun e => hn (hR k e.symm)⟩
theorem owned_shape {base : Nat} {E : TypeId} {size : Nat} {v : Value} {m : Nat} {xs : List Value} (h : w.ownsRow base E size v m xs) : ∃ ao c, v = .slice ao m c := by
  rcases h.2 with ⟨rfl, rfl⟩ | ⟨g, cap, cur, rfl, _⟩
  · exact ⟨none, 0, rfl⟩
  · exact ⟨_, _, rfl⟩
theorem wp_append (hF : Fr n ds F a) (hS : St W w L) {s x : Operand} {t : TypeId} (ho : o.op = .call { callee := .builtin .append, args := #[s, x], argTypes := #[t, t] }) (i : Nat) {ao : Option Addr} {m c : Nat} {cs : List Value} {E : TypeId} (hi : L[i]? = some (.sl ao m c 1 cs E)) (hs : sv F s = some (.slice ao m c))
    {ao2 : Option Addr} {m2 c2 : Nat} {news : List Value} (hx : sv F x = some (.slice ao2 m2 c2)) (hrd : Rd w ao2 m2 c2 news) (hl : news.length = m2) (h1 : ∀ u ∈ news, u.oneCell' = true) (ht : P.underlying t = some (.slice E)) {by_ : Nat} (hE : (P.info? E).map (fun i => (i.size, i.bytes, i.zero.map (·.cells.size))) = some (1, by_, some 1))
    (hb : m + m2 ≤ 1099511627776) (hby : by_ ≤ 64) {m' : Nat} (hm : m + m2 = m') {cs' : List Value} (hcs : cs ++ news = cs') (hd : dok o.dst n = true) {L' : Option Addr → Nat → List Ent} (hL : ∀ ao' c', L.set i (.sl ao' m' c' 1 cs' E) = L' ao' c')
    (hK : ∀ ao' c' w' a', St W w' (L' ao' c') → Fr n ds (pt o.dst (.slice ao' m' c') F) a' → K a' w') : o.wp P a w K Q := by
  have hown := hS.holds _ (List.mem_of_getElem? hi)
  cases hq : P.info? E with
  | none => simp [hq] at hE
  | some info =>
    simp only [hq, Option.map_some, Option.some.injEq, Prod.mk.injEq] at hE
    obtain ⟨e1, e2, e3⟩ := hE
    cases hz : info.zero with
    | none => simp [hz] at e3
    | some z =>
      simp only [hz, Option.map_some, Option.some.injEq] at e3
      have hbytes : (m + m2) * by_ ≤ 140737488355328 := by
        have := Nat.mul_le_mul hb hby
        omega
      have h63 : m + m2 ≤ maxLen := by unfold maxLen; omega
      have key : ∃ v' w', (Builtin.append_ #[t, t] o.type #[.slice ao m c, .slice ao2 m2 c2]).run P w = .ok v' w' ∧ w'.ownsRow W.heap.size E 1 v' (m + m2) (cs ++ news) ∧ w.grownBy w' (Value.slice ao m c).ownBlock ∧ (v'.ownBlock = (Value.slice ao m c).ownBlock ∨ v'.ownBlock = some w.heap.size) := by
        cases ao2 with
        | none =>
          obtain ⟨rfl, rfl⟩ := hrd.1.2 rfl
          have hn : news = [] := List.eq_nil_of_length_eq_zero hl
          subst hn
          refine ⟨_, w, run_append_owned_none w W.heap.size t o.type E info 1 ht hq (.slice ao m c) m cs hown, ?_, ⟨rfl, rfl, rfl, Nat.le_refl _, fun _ _ _ => rfl⟩, .inl rfl⟩
          rw [List.append_nil]; exact hown
        | some ad =>
          have hnews : ∀ j u, news[j]? = some u → w.cell? (ad.add j) = some u := by
            intro j u hu
            rcases hrd.2 with h | ⟨hp, hr⟩
            · subst h; simp at hu
            · have e : ad = ⟨ad.block, ad.off, none⟩ := by
                have := hp
                unfold plainA blkOf offOf at this
                simpa using this
              rw [e, add_at]
              exact hr j u hu
          obtain ⟨v', w', q1, q2, q3, _, q4⟩ := run_append_own_at w W.heap.size t o.type E info z 1 by_ ht hq hz e1 e2 e3 (by decide) (.slice ao m c) m cs hown ad m2 c2 news (by rw [hl, Nat.mul_one]) hnews h1 h63 hbytes hS.sizes
          exact ⟨v', w', q1, q2, q3, q4⟩
      obtain ⟨v', w', q1, q2, q3, q4⟩ := key
      obtain ⟨ao', c', rfl⟩ := owned_shape q2
      subst hm; subst hcs
      have hS' : St W w' (L' ao' c') := by
        rw [← hL]
        refine hS.upd i _ hi (Same.of_grown q3 fun k hk => ?_) q2 fun k hk => ?_
        · cases ao with
          | none => simp [Value.ownBlock] at hk
          | some ad => simp only [Value.ownBlock, Option.some.injEq] at hk; exact ⟨ad, rfl, hk.symm⟩
        · obtain ⟨ad, rfl, rfl⟩ := hk
          rcases q4 with q4 | q4
          · left
            cases ao with
            | none => simp [Value.ownBlock] at q4
            | some ad0 => simp only [Value.ownBlock, Option.some.injEq] at q4; exact ⟨ad0, rfl, q4⟩
          · right
            simp only [Value.ownBlock, Option.some.injEq] at q4
            exact Nat.le_of_eq q4.symm
      have h3 := hF.sv hs
      have h4 := hF.sv hx
      unfold Oper.wp
      have e : execOp a.eval o = (do pure (.value (← Builtin.append_ #[t, t] o.type #[.slice ao m c, .slice ao2 m2 c2]))) := by
        obtain ⟨d, op, ty, pos, aft, gd⟩ := o
        simp only at ho
        subst ho
        simp only [Go.BigFrame.execOp_builtin, Go.BigFrame.builtin_append, List.map_toArray, List.map_cons, List.map_nil, h3, h4]
      rw [e, Sem.run_bind, q1]
      exact hK _ _ _ _ hS' (hF.put _ _ hd)
theorem wp_make (hF : Fr n ds F a) (hS : St W w L) {t : TypeId} {x y : Operand} (ho : o.op = .makeSlice t x y) {E : TypeId} (ht : P.underlying t = some (.slice E)) {by_ : Nat} {z : Value} (hE : (P.info? E).map (fun i => (i.size, i.bytes)) = some (1, by_)) (hz : pureVal P (zeroValue E) = some z) (hz1 : z.cells = #[z]) {k1 k2 : IntKind} {i : Int} (hx : sv F x = some (.int k1 i)) (hy : sv F y = some (.int k2 i))
    (h0 : (decide (0 ≤ i) && decide (i ≤ 1099511627776)) = true) (hby : by_ ≤ 64) {m : Nat} (hm : i.toNat = m) {cs : List Value} (hcs : List.replicate m z = cs) (hd : dok o.dst n = true)
    (hK : ∀ b w' a', St W w' (.blk b cs E :: L) → Fr n ds (pt o.dst (.slice (some ⟨b, 0, none⟩) m m) F) a' → K a' w') : o.wp P a w K Q := by
  rw [Bool.and_eq_true, decide_eq_true_eq, decide_eq_true_eq] at h0
  subst hm; subst hcs
  cases hq : P.info? E with
  | none => simp [hq] at hE
  | some info =>
    simp only [hq, Option.map_some, Option.some.injEq, Prod.mk.injEq] at hE
    obtain ⟨e1, e2⟩ := hE
    have hzz : info.zero = some z := by
      have := pureVal_run _ _ hz w
      simp only [zeroValue, typeInfo, Sem.run_bind] at this
      cases hh : info.zero with
      | none => simp [program, Sem.run, hq, hh, Result.andThen, unsupported] at this
      | some z' => simp [program, Sem.run, hq, hh, Result.andThen] at this; rw [this]
    have hb : (info.bytes : Int) * i ≤ 281474976710656 := by
      rw [e2]
      have h5 : (by_ : Int) ≤ 64 := by omega
      have := Int.mul_le_mul h5 h0.2 h0.1 (by omega)
      omega
    have hr := run_make (P := P) w t E info z ht hq hzz k1 k2 i i h0.1 (Int.le_refl _) hb (by omega)
    have hmc : Go.madeCells z.cells (i.toNat * info.size) = (List.replicate i.toNat z).toArray := by
      rw [e1, hz1, Nat.mul_one]
      apply Array.ext
      · simp [Go.madeCells]
      · intro q h1 h2
        simp [Go.madeCells, Nat.mod_one]
    rw [hmc] at hr
    unfold Oper.wp execOp
    simp only [ho, hF.sv hx, hF.sv hy, Sem.run_bind, hr, Result.andThen_ok, Sem.run_pure]
    exact hK _ _ _ (hS.alloc _ E) (hF.put _ _ hd)
theorem wp_make0 (hF : Fr n ds F a) (hS : St W w L) {t : TypeId} {x y : Operand} (ho : o.op = .makeSlice t x y) {E : TypeId} (ht : P.underlying t = some (.slice E)) {by_ : Nat} {z : Value} (hE : (P.info? E).map (fun i => (i.size, i.bytes)) = some (1, by_)) (hz : pureVal P (zeroValue E) = some z) {k1 k2 : IntKind} {i : Int} (hx : sv F x = some (.int k1 0)) (hy : sv F y = some (.int k2 i))
    (h0 : (decide (0 ≤ i) && decide (i ≤ 1099511627776)) = true) (hby : by_ ≤ 64) (hd : dok o.dst n = true)
    (hK : ∀ ao c w' a', St W w' (.sl ao 0 c 1 [] E :: L) → Fr n ds (pt o.dst (.slice ao 0 c) F) a' → K a' w') : o.wp P a w K Q := by
  rw [Bool.and_eq_true, decide_eq_true_eq, decide_eq_true_eq] at h0
  cases hq : P.info? E with
  | none => simp [hq] at hE
  | some info =>
    simp only [hq, Option.map_some, Option.some.injEq, Prod.mk.injEq] at hE
    obtain ⟨e1, e2⟩ := hE
    have hzz : info.zero = some z := by
      have := pureVal_run _ _ hz w
      simp only [zeroValue, typeInfo, Sem.run_bind] at this
      cases hh : info.zero with
      | none => simp [program, Sem.run, hq, hh, Result.andThen, unsupported] at this
      | some z' => simp [program, Sem.run, hq, hh, Result.andThen] at this; rw [this]
    have hb : info.bytes * i.toNat ≤ 281474976710656 := by
      rw [e2]
      have := Nat.mul_le_mul hby (show i.toNat ≤ 1099511627776 by omega)
      omega
    obtain ⟨w', q1, q2, q3⟩ := run_make_own w w.heap.size t E info z 1 ht hq hzz e1 k1 k2 i.toNat hb (by unfold maxLen; omega) (Nat.le_refl _)
    have hi : ((i.toNat : Nat) : Int) = i := by omega
    rw [hi] at q1
    have hS' : St W w' ([.sl (some ⟨w.heap.size, 0, none⟩) 0 i.toNat 1 [] E] ++ L) := by
      refine hS.more ⟨⟨q3.os, q3.tape, q3.output, q3.size, fun k hk => q3.block k hk (by simp)⟩, fun e he => ?_, .cons (fun _ h => (List.not_mem_nil h).elim) .nil⟩ fun e he k hk => ?_
      · rw [List.mem_singleton] at he; subst he; exact q2
      · rw [List.mem_singleton] at he; subst he
        obtain ⟨ad, had, rfl⟩ := hk
        injection had with had; subst had
        exact Nat.le_refl _
    unfold Oper.wp execOp
    simp only [ho, hF.sv hx, hF.sv hy, Sem.run_bind, q1, Result.andThen_ok, Sem.run_pure]
    exact hK _ _ _ _ hS' (hF.put _ _ hd)
theorem St.roSub (hS : St W w L) (i : Nat) {ao : Option Addr} {m c : Nat} {cs : List Value} (hi : L[i]? = some (.ro ao m c cs)) (hcs : cs.length = m) {l h : Nat} (h0 : l ≤ h) (h1 : h ≤ m) : St W w (.ro (subA ao c l 1) (h - l) (c - l) (Gx.sub cs l h) :: L) := by
  have hh : Rd w ao m c cs := hS.holds _ (List.mem_of_getElem? hi)
  have hb : ∀ x, (subA ao c l 1) = some x → ∃ y, ao = some y ∧ x.block = y.block := by
    intro x hx
    unfold subA at hx
    split at hx
    · exact ⟨x, hx, rfl⟩
    · cases ao with
      | none => simp at hx
      | some y => simp at hx; subst hx; refine ⟨y, rfl, ?_⟩; unfold Addr.add; split <;> rfl
  have hblk : ∀ k, Gx.sub cs l h ≠ [] → k = blkOf (subA ao c l 1) → cs ≠ [] ∧ k = blkOf ao := by
    intro k hne hk
    have hcne : cs ≠ [] := by intro e; subst e; simp [Gx.sub] at hne
    refine ⟨hcne, ?_⟩
    rcases hh.2 with h2 | ⟨hp, _⟩
    · exact absurd h2 hcne
    · subst hk
      rw [show ao = some ⟨blkOf ao, offOf ao, none⟩ from hp]
      unfold subA
      split
      · rfl
      · simp [blkOf, Addr.add_mid]
  have hRd : Rd w (subA ao c l 1) (h - l) (c - l) (Gx.sub cs l h) := by
    refine ⟨⟨by have := hh.1.1; omega, fun e => ?_⟩, ?_⟩
    · have : ao = none := by
        cases ao with
        | none => rfl
        | some y => unfold subA at e; split at e <;> simp at e
      have := hh.1.2 this
      omega
    · by_cases hne : Gx.sub cs l h = []
      · exact .inl hne
      · right
        have hcne : cs ≠ [] := by intro e; subst e; simp [Gx.sub] at hne
        have hlh : l < h := by
          rcases Nat.lt_or_ge l h with q | q
          · exact q
          · exfalso; apply hne; unfold Gx.sub; rw [show h - l = 0 by omega]; simp
        rcases hh.2 with h2 | ⟨hp, hr⟩
        · exact absurd h2 hcne
        · have hcl : ¬ c = l := by have := hh.1.1; omega
          have e : subA ao c l 1 = some ⟨blkOf ao, offOf ao + l, none⟩ := by
            unfold subA
            rw [if_neg hcl, show ao = some ⟨blkOf ao, offOf ao, none⟩ from hp]
            simp [Addr.add_mid, Nat.mul_one, blkOf, offOf]
          rw [e]
          exact ⟨rfl, rangeAt_part hr l (h - l)⟩
  refine ⟨hS.below, fun e he => ?_, .cons (fun f hf k => ⟨fun ho => ho.elim, fun ho hse => ?_⟩) hS.apart⟩
  · rcases List.mem_cons.1 he with rfl | he
    · exact hRd
    · exact hS.holds e he
  · obtain ⟨hne, hk⟩ := hse
    obtain ⟨q1, q2⟩ := hblk k hne hk
    -- f owns a block that the entry sees
    obtain ⟨j, hj⟩ := List.getElem?_of_mem hf
    by_cases hij : i = j
    · subst hij; rw [hi] at hj; injection hj with hj; subst hj; exact ho
    · have hap : Apart (.ro ao m c cs) f ∨ Apart f (.ro ao m c cs) := by
        rcases Nat.lt_or_gt_of_ne hij with hl | hl
        · exact .inl (List.pairwise_iff_getElem.1 hS.apart i j (List.getElem?_eq_some_iff.1 hi).1 (List.getElem?_eq_some_iff.1 hj).1 hl |> fun q => by
            rwa [(List.getElem?_eq_some_iff.1 hi).2, (List.getElem?_eq_some_iff.1 hj).2] at q)
        · exact .inr (List.pairwise_iff_getElem.1 hS.apart j i (List.getElem?_eq_some_iff.1 hj).1 (List.getElem?_eq_some_iff.1 hi).1 hl |> fun q => by
            rwa [(List.getElem?_eq_some_iff.1 hi).2, (List.getElem?_eq_some_iff.1 hj).2] at q)
      rcases hap with hap | hap
      · exact (hap k).2 ho ⟨q1, q2⟩
      · exact (hap k).1 ho ⟨q1, q2⟩
theorem St.toSl (hS : St W w L) (i : Nat) {b : Nat} {cs : List Value} {E : TypeId} (hi : L[i]? = some (.blk b cs E)) {m : Nat} (hm : cs.length = m) (hmax : m ≤ 1099511627776) : St W w (L.set i (.sl (some ⟨b, 0, none⟩) m m 1 cs E)) := by
  have hh := hS.holds _ (List.mem_of_getElem? hi)
  refine hS.upd i _ hi ⟨rfl, rfl, rfl, Nat.le_refl _, fun _ _ _ => rfl⟩ ⟨by omega, .inr ⟨b, m, cs.toArray, rfl, hh.1, hh.2, Nat.le_refl _, by unfold maxLen; omega, by simp [hm], by rw [List.take_of_length_le (by simp [hm])]⟩⟩ fun k hk => ?_
  obtain ⟨ad, had, rfl⟩ := hk
  injection had with had; subst had
  exact .inl rfl
theorem rd_ne {W w : World} {L : List Ent} (h : St W w L) (i : Nat) {e : Ent} (hi : L[i]? = some e) {ao : Option Addr} {cs : List Value} (he : e.rd = (ao, cs)) {j : Nat} {v : Value} (hj : cs[j]? = some v) : plainA ao := (h.reads i hi he (ne_of_get hj)).1
theorem Rd.nc {w : World} {ao : Option Addr} {n c : Nat} {cs : List Value} (h : Rd w ao n c cs) : n ≤ c := h.1.1
theorem ic_app (k : IntKind) (xs ys : List Int) : ic k xs ++ ic k ys = ic k (xs ++ ys) := by simp [ic]
theorem ic_sub' (k : IntKind) (xs : List Int) (l h : Nat) : sub (ic k xs) l h = ic k (sub xs l h) := by simp [sub, ic, List.map_take, List.map_drop]
theorem ic_rep (k : IntKind) (m : Nat) (i : Int) : List.replicate m (Value.int k i) = ic k (List.replicate m i) := by simp [ic]
end slices
def AllH (base : Nat) (w : World) : List Ent → Prop
  | [] => True
  | e :: L => e.holds base w ∧ AllH base w L
theorem AllH.mem {base : Nat} {w : World} : ∀ {L : List Ent}, AllH base w L → ∀ e ∈ L, e.holds base w
  | [], _, _, h => (List.not_mem_nil h).elim
  | _ :: _, h, _, hm => by
    rcases List.mem_cons.1 hm with rfl | hm
    · exact h.1
    · exact h.2.mem _ hm
theorem St.start' {w : World} {L : List Ent} (h : AllH w.heap.size w L) (hro : L.all Ent.isRo = true) : St w w L := St.start w L h.mem hro
theorem Rd.len {w : World} {ao : Option Addr} {n c m : Nat} {cs : List Value} (h : Rd w ao n c cs) (hn : m = n) : Rd w ao m c cs := hn ▸ h
theorem St.rdW {W w : World} {L : List Ent} (h : St W w L) (i : Nat) {b : Nat} {cs : List Value} {E : TypeId} (hi : L[i]? = some (.blk b cs E)) {n c : Nat} (hnc : n ≤ c) : Rd w (some ⟨b, 0, none⟩) n c cs :=
  ⟨⟨hnc, fun h => by cases h⟩, .inr ⟨rfl, h.all i hi⟩⟩
theorem app_len_i {A B : List Int} {p q : Nat} (hA : A.length = p) (hB : B.length = q) : (A ++ B).length = p + q := by rw [List.length_append, hA, hB]
def eqFrom (xs ys : List Int) (s m : Nat) : Bool := (List.range' s m).all fun i => rd xs i == rd ys i
theorem eq_loop {w : World} {E : TypeId} {d : Nat} {k k' : IntKind} {X Y : Array Value} {xs ys : List Int} (hE : P.underlying E = some (.int k')) (hA : pureVal P (isAgg E) = some false) (hX : ∀ i, i < xs.length → X[i * 1]? = some (.int k (rd xs i))) (hY : ∀ i, i < xs.length → Y[i * 1]? = some (.int k (rd ys i))) :
    ∀ (m s : Nat), s + m = xs.length → (forIn (m := Sem) (List.range' s m) ((none, ()) : Option Bool × PUnit) (fun i _ => do
      let a ← part E X (i * 1)
      let b ← part E Y (i * 1)
      let r ← Op.equalIn (d + 1) E a b
      if (!r) = true then pure (ForInStep.done (some false, ())) else pure (ForInStep.yield (none, ())))).run P w = .ok (if eqFrom xs ys s m = true then (none, ()) else (some false, ())) w
  | 0, s, _ => by simp [eqFrom]
  | m + 1, s, h => by
    have hs : s < xs.length := by omega
    have he0 : eqFrom xs ys s (m + 1) = ((rd xs s == rd ys s) && eqFrom xs ys (s + 1) m) := by simp [eqFrom, List.range'_succ]
    rw [he0, List.range'_succ, List.forIn_cons]
    simp only [Sem.run_bind, part, pv_isAgg hA, Result.andThen_ok, Bool.false_eq_true, if_false, hX s hs, hY s hs, Sem.run_pure, run_equalIn_int w d E k k' _ _ hE]
    cases he : (rd xs s == rd ys s) with
    | true =>
      simp only [Bool.not_true, Bool.false_eq_true, if_false, Sem.run_pure, Result.andThen_ok, Bool.true_and]
      exact eq_loop (d := d) hE hA hX hY m (s + 1) (by omega)
    | false => simp
theorem eqFrom_all {xs ys : List Int} (h : ys.length = xs.length) : eqFrom xs ys 0 xs.length = (xs == ys) := by
  rw [Bool.eq_iff_iff]
  simp only [eqFrom, List.all_eq_true, List.mem_range'_1, beq_iff_eq, Nat.zero_le, true_and, Nat.zero_add]
  constructor
  · intro q
    apply List.ext_getElem h.symm
    intro i h1 h2
    have := q i h1
    simpa [rd, List.getD_eq_getElem?_getD, List.getElem?_eq_getElem h1, List.getElem?_eq_getElem h2] using this
  · rintro rfl i _; rfl
theorem run_eqArrIn {w : World} {t E : TypeId} {d len : Nat} {k k' : IntKind} {xs ys : List Int} (ht : P.underlying t = some (.array len E)) (hE : P.underlying E = some (.int k')) (hA : pureVal P (isAgg E) = some false) (hs : pureVal P (sizeOf E) = some 1) (hx : xs.length = len) (hy : ys.length = len) :
    (Op.equalIn (d + 1 + 1) t (.agg (ic k xs).toArray) (.agg (ic k ys).toArray)).run P w = .ok (xs == ys) w := by
  subst hx
  have hX : ∀ i, i < xs.length → (ic k xs).toArray[i * 1]? = some (.int k (rd xs i)) := fun i hi => by rw [Nat.mul_one]; simpa using ic_get hi
  have hY : ∀ i, i < xs.length → (ic k ys).toArray[i * 1]? = some (.int k (rd ys i)) := fun i hi => by rw [Nat.mul_one]; simpa using ic_get (k := k) (show i < ys.length by omega)
  rw [Op.equalIn]
  simp only [Sem.run_bind, run_underlying ht, Result.andThen_ok, pv_sizeOf hs]
  have hl := eq_loop (w := w) (d := d) hE hA hX hY xs.length 0 (by omega)
  rw [eqFrom_all hy] at hl
  rw [Std.Legacy.Range.forIn_eq_forIn_range']
  have hsz : (Std.Legacy.Range.size [0:xs.length]) = xs.length := by simp [Std.Legacy.Range.size]
  rw [hsz]
  have hr : List.range' (Std.Legacy.Range.start [0:xs.length]) xs.length (Std.Legacy.Range.step [0:xs.length]) = List.range' 0 xs.length := rfl
  rw [hr, hl]
  cases (xs == ys) <;> simp
theorem run_eqArr {a : Act} {w : World} {o : Oper} {t ty : TypeId} {x y : Operand} {neg : Bool} (ho : o.op = .binOp (if neg then .neq else .eql) t x y ty) {k : IntKind} {xs ys : List Int} (hx : a.eval x = .agg (ic k xs).toArray) (hy : a.eval y = .agg (ic k ys).toArray) {E : TypeId} {len : Nat} {k' : IntKind} (ht : P.underlying t = some (.array len E)) (hE : P.underlying E = some (.int k')) (hA : pureVal P (isAgg E) = some false) (hs : pureVal P (sizeOf E) = some 1) (hlx : xs.length = len) (hly : ys.length = len)
    (hg : P.eqGuardType P.depth t = false) : (execOp a.eval o).run P w = .ok (.value (.bool (if neg then !(xs == ys) else (xs == ys)))) w := by
  have key : (Op.equal t (.agg (ic k xs).toArray) (.agg (ic k ys).toArray)).run P w = .ok (xs == ys) w := run_eqArrIn (d := 9998) ht hE hA hs hlx hly
  unfold execOp
  cases neg <;> simp [ho, hx, hy, eqGuard, binOp, key, hg]
section wrap2
variable {Q : Exit → Act → World → Prop} {a : Act} {w : World} {i : Nat} {c : List PanicEntry}
theorem scp_r (h : Q .ret a w) : Exit.noGoto Q .ret a w := h
end wrap2
structure Up (cs : List Value) (off : Nat) (v : Value) (cs' : List Value) : Prop where
  lt : off + 1 ≤ cs.length
  eq : upd cs off [v] = cs'
theorem Up.ic {k : IntKind} {xs : List Int} {i : Nat} (h : i < xs.length) {x : Int} : Up (Gx.ic k xs) i (.int k x) (Gx.ic k (xs.set i x)) := ⟨by rw [ic_len]; omega, upd_ic1 h x⟩
theorem Up.bc {xs : List Bool} {i : Nat} (h : i < xs.length) {x : Bool} : Up (Gx.bc xs) i (.bool x) (Gx.bc (xs.set i x)) := ⟨by rw [bc_len]; omega, upd_bc1 h x⟩
theorem Up.lit {l l' : List Value} {i : Nat} {v : Value} (h : i + 1 ≤ l.length) (e : l.set i v = l') : Up l i v l' := ⟨h, by rw [upd_one (by omega)]; exact e⟩
theorem Up.l {A B C : List Value} {j : Nat} {v : Value} (h : Up A j v C) : Up (A ++ B) j v (C ++ B) := ⟨by have := h.lt; simp; omega, upd_l (by simpa using h.lt) h.eq⟩
theorem Up.r {A B C : List Value} {p j o : Nat} {v : Value} (hA : A.length = p) (ho : o = p + j) (h : Up B j v C) : Up (A ++ B) o v (A ++ C) := ⟨by have := h.lt; subst ho; subst hA; simp; omega, upd_r2 hA ho h.eq⟩
theorem wp_store1 {n : Nat} {ds : List Deferred} {F : List (Nat × Value)} {a : Act} {w W : World} {L : List Ent} {o : Oper} {K : Act → World → Prop} {Q : Exit → Act → World → Prop} (hF : Fr n ds F a) (hS : St W w L) {t : TypeId} {x y : Operand} (ho : o.op = .store t x y) (i : Nat) {b off : Nat} {cs : List Value} {E : TypeId} (hi : L[i]? = some (.blk b cs E)) {v : Value}
    (hxy : (sv F x, sv F y, pureVal P (sizeOf t), dok o.dst n) = (some (.pointer (some ⟨b, off, none⟩)), some v, some 1, true)) (hv : v.cells = #[v]) (h1 : v.oneCell' = true) {cs' : List Value} (hu : Up cs off v cs')
    {L' : List Ent} (hL : L.set i (.blk b cs' E) = L') (hK : ∀ w' a', St W w' L' → Fr n ds (pt o.dst undef F) a' → K a' w') : o.wp P a w K Q := by
  injection hxy with hx hxy; injection hxy with hy hxy; injection hxy with hs hd
  exact wp_store hF hS ho i hi hx hy (vs := [v]) hv hs rfl hu.lt (by intro u hu; rw [List.mem_singleton] at hu; subst hu; exact h1) hu.eq hd hL hK
theorem range_part {w : World} {b o o' : Nat} {k : IntKind} {xs : List Int} (h : w.rangeAt b o (ic k xs)) (l m : Nat) (ho : o' = o + l) : w.rangeAt b o' (ic k (Gx.sub xs l m)) := by
  subst ho
  have := rangeAt_part h l (m - l)
  rwa [ic_sub] at this
theorem Apart.symm' {e f : Ent} (h : Apart e f) : Apart f e := fun k => ⟨(h k).2, (h k).1⟩
theorem St.perm {W w : World} {L M : List Ent} (h : St W w L) (p : L.Perm M) : St W w M :=
  ⟨h.below, fun e he => h.holds e (p.mem_iff.2 he), p.pairwise h.apart (fun h => h.symm')⟩
theorem St.move {W w : World} {L : List Ent} (h : St W w L) (k j : Nat) {e : Ent} (hk : L[k]? = some e) {M : List Ent} (hM : (L.eraseIdx k).insertIdx j e = M) (hj : j ≤ (L.eraseIdx k).length := by exact Nat.le_of_ble_eq_true rfl) : St W w M := by
  subst hM
  obtain ⟨hl, he⟩ := List.getElem?_eq_some_iff.1 hk
  refine h.perm ?_
  refine List.Perm.trans ?_ (List.perm_insertIdx e _ hj).symm
  rw [← he]
  have hp : (L.take k ++ L.drop k).Perm (L[k] :: (L.take k ++ L.drop (k + 1))) := by
    rw [List.drop_eq_getElem_cons hl]; exact List.perm_middle
  rw [List.take_append_drop] at hp
  rw [List.eraseIdx_eq_take_drop_succ]
  exact hp
theorem retOf {f : FuncId} {args : Array Value} {w : World} {p : Value → World → Prop} (h : Calls P f args w (RetT p (fun _ _ => False))) : Calls P f args w (Ret p) :=
  h.mono fun e w' hr => by cases e <;> first | exact hr | exact hr.elim
theorem wp_storeS {n : Nat} {ds : List Deferred} {F : List (Nat × Value)} {a : Act} {w W : World} {L : List Ent} {o : Oper} {K : Act → World → Prop} {Q : Exit → Act → World → Prop} (hF : Fr n ds F a) (hS : St W w L) {t : TypeId} {x y : Operand} (ho : o.op = .store t x y) (i : Nat) {ao : Option Addr} {m c : Nat} {cs : List Value} {E : TypeId} (hi : L[i]? = some (.sl ao m c 1 cs E)) {j : Nat} {v : Value}
    (hxy : (sv F x, sv F y, pureVal P (sizeOf t), dok o.dst n) = (some (.pointer (some ⟨blkOf ao, offOf ao + j, none⟩)), some v, some 1, true)) (hv : v.cells = #[v]) (h1 : v.oneCell' = true) {cs' : List Value} (hu : Up cs j v cs')
    {L' : List Ent} (hL : L.set i (.sl ao m c 1 cs' E) = L') (hK : ∀ w' a', St W w' L' → Fr n ds (pt o.dst undef F) a' → K a' w') : o.wp P a w K Q := by
  injection hxy with hx hxy; injection hxy with hy hxy; injection hxy with hs hd
  subst hL
  obtain ⟨hlen, hh⟩ := hS.holds _ (List.mem_of_getElem? hi)
  have hjl := hu.lt
  rcases hh with ⟨_, rfl⟩ | ⟨g, cap, cur, hval, hg, hheap, hn, hcap, hsz, htk⟩
  · simp only [Nat.zero_mul] at hlen; omega
  · injection hval with h2 h3 h4
    subst h2; subst h4
    simp only [blkOf, offOf, Option.map_some, Option.getD_some, Nat.zero_add] at hx
    have hcl : cur.toList.length = c := by simpa using hsz
    have hjc : j + 1 ≤ cur.toList.length := by
      have : cs.length ≤ cur.toList.length := by rw [← htk, List.length_take]; exact Nat.min_le_right _ _
      omega
    have hst := run_storeVar_blk (P := P) (t := t) (E := E) (b := g) (off := j) (cs := cur.toList) (vs := [v]) (v := v) (by simpa using hheap) hv hs hjc (by intro u hu; rw [List.mem_singleton] at hu; subst hu; exact h1)
    unfold Oper.wp execOp
    simp only [ho, hF.sv hx, hF.sv hy, Instr.storeAt, Instr.sureAddr, Sem.run_bind, Sem.run_pure, Result.andThen_ok, hst]
    refine hK _ _ (hS.upd i _ hi ?_ ?_ ?_) (hF.put _ _ hd)
    · refine ⟨rfl, rfl, rfl, by simp, fun k _ hk => setRow_other w g k _ fun e => hk ?_⟩
      exact ⟨_, rfl, e⟩
    · have hcs : cs' = cs.set j v := by rw [← hu.eq, upd_one (by omega)]
      refine ⟨by rw [hcs, List.length_set]; exact hlen, .inr ⟨g, c, (upd cur.toList j [v]).toArray, rfl, hg, ?_, hn, hcap, ?_, ?_⟩⟩
      · exact setRow_heap w g _ _ E _ hheap
      · rw [upd_one (by omega)]; simpa using hsz
      · rw [upd_one (by omega), hcs, ← htk]
        simp [List.take_set]
    · intro k hk
      exact .inl hk
def nm_ {α β : Type} (x : α) (f : α → Option β) : Option β := f x
theorem nm_ok {α β : Type} {x : α} {f : α → Option β} {c : β} (h : nm_ x f = some c) : ∃ v, v = x ∧ f v = some c := ⟨x, rfl, h⟩
theorem len_is {α : Type} (l : List α) {n : Nat} (h : l.length = n) : l.length = n := h
section recov
variable {n : Nat} {ds : List Deferred} {F : List (Nat × Value)} {a : Act} {w : World} {cs cs' : List Frame} {ops : Array Oper} {i : Nat} {o : Oper} {rest : List Nat} {Q : Exit → Act → List Frame → World → Prop}
theorem opsS_some (hi : ops[i]? = some o) (hF : Fr n ds F a) (hg : gd ops n F o = some true) (hk : (o.op.operands.toList.all (kn F) && noSel o.op) = true) (he : pureVal P (execOp (ev F) o) = some .recover) {v : Value} (hr : recoverD cs = some (v, cs')) (hd : dok o.dst n = true)
    (H : ∀ a', Fr n ds (pt o.dst v F) a' → wpOpsS P ops Q rest a' cs' w) : wpOpsS P ops Q (i :: rest) a cs w := by
  rw [Bool.and_eq_true] at hk
  have hc : execOp a.eval o = execOp (ev F) o := execOp_congr o (noSel_ne hk.2) fun x hx => hF.eval (List.all_eq_true.1 hk.1 x (by simpa using hx))
  simp only [wpOpsS, hi, if_pos (gd_yes hF hg), hc, pureVal_run _ _ he w, hr]
  exact H _ (hF.put _ _ hd)
theorem opsS_none (hi : ops[i]? = some o) (hF : Fr n ds F a) (hg : gd ops n F o = some true) (hk : (o.op.operands.toList.all (kn F) && noSel o.op) = true) (he : pureVal P (execOp (ev F) o) = some .recover) (hr : recoverD cs = none) (hd : dok o.dst n = true)
    (H : ∀ a', Fr n ds (pt o.dst .nilIface F) a' → wpOpsS P ops Q rest a' cs w) : wpOpsS P ops Q (i :: rest) a cs w := by
  rw [Bool.and_eq_true] at hk
  have hc : execOp a.eval o = execOp (ev F) o := execOp_congr o (noSel_ne hk.2) fun x hx => hF.eval (List.all_eq_true.1 hk.1 x (by simpa using hx))
  simp only [wpOpsS, hi, if_pos (gd_yes hF hg), hc, pureVal_run _ _ he w, hr]
  exact H _ (hF.put _ _ hd)
theorem opsS_pure (hi : ops[i]? = some o) (hF : Fr n ds F a) (hg : gd ops n F o = some true) {v : Value} (hv : opVal P F o = some v) (hd : dok o.dst n = true)
    (H : ∀ a', Fr n ds (pt o.dst v F) a' → wpOpsS P ops Q rest a' cs w) : wpOpsS P ops Q (i :: rest) a cs w := by
  simp only [wpOpsS, hi, if_pos (gd_yes hF hg), opVal_run hF hv w, Oper.upon]
  exact H _ (hF.put _ _ hd)
theorem recoverD_ret {c : Frame} (h : c.mode = .returning) : recoverD (c :: cs) = none := by
  obtain ⟨_, _, _, _, m, _, _⟩ := c
  simp only at h; subst h; rfl
theorem recoverD_pan {c : Frame} {v : Value} {r : List PanicEntry} (h : c.mode = .panicking ({ v := v, recovered := false } :: r)) : recoverD (c :: cs) = some (v, { c with mode := .panicking ({ v := v, recovered := true } :: r) } :: cs) := by
  obtain ⟨_, _, _, _, m, _, _⟩ := c
  simp only at h; subst h; rfl
end recov
abbrev pp (b o : Nat) : Value := .pointer (some ⟨b, o, none⟩)
abbrev i6 (x : Int) : Value := .int .i64 x
abbrev rz (n : Nat) : List Int := List.replicate n (0 : Int)
theorem Fr.e {n : Nat} {ds : List Deferred} {F : List (Nat × Value)} {a : Act} (hF : Fr n ds F a) {x : Operand} {v : Value} (h : Gx.sv F x = some v := by kernel_rfl) : a.eval x = v := hF.slot h
theorem wplp {ops : Array Oper} {n : Nat} {ds : List Deferred} {Q : Exit → Act → World → Prop} {w : World} (k : Nat) (ks : List Nat) {l : List Oper} {L : List (Nat × Value)} (M : List (Nat × Value)) {a : Act} (hF : Fr n ds L a)
    (H : ∀ a', Fr n ds M a' → wpList P ops Q (l.drop k) a' w) (h : (runP P ops n k l L).bind (pick ks) = some M := by kernel_rfl) : wpList P ops Q l a w := wpl_pick k ks M hF h H
end Go.Proofs.YtapilbdboeggdaaR.Gx
