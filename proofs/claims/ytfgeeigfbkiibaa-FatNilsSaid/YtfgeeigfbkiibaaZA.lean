/- Plain laws of rows of bytes, and appends of cuts: no condition but those that each theorem states. -/
import Derived.Laws.BitsLemmas
import Derived.Laws.BitsAllLaws
import Derived.Laws.Bits64
import Derived.Test.YtfgeeigfbkiibaaWWords
import Derived.Test.YtfgeeigfbkiibaaWMore
import Derived.Laws.CopyOwn
import Derived.Deep.RegionHeld3
import Derived.Test.YtfgeeigfbkiibaaWLast
import Derived.Test.YtfgeeigfbkiibaaWTab
import Derived.Test.YtfgeeigfbkiibaaWFour
import Derived.Test.YtfgeeigfbkiibaaWQPut
import Derived.Test.YtfgeeigfbkiibaaWApart
import Derived.Test.YtfgeeigfbkiibaaWArr
import Derived.Test.YtfgeeigfbkiibaaWZeros
import Derived.Test.YtfgeeigfbkiibaaWFoot
import Derived.Test.YtfgeeigfbkiibaaWKept
import Derived.Test.YtfgeeigfbkiibaaWShare
import Derived.Test.YtfgeeigfbkiibaaWN
import Derived.Test.YtfgeeigfbkiibaaWFootNe
import Derived.Test.YtfgeeigfbkiibaaWAt
import Derived.Test.YtfgeeigfbkiibaaWEqStruct
import Derived.Test.YtfgeeigfbkiibaaWRepsOne
import Derived.Test.YtfgeeigfbkiibaaWInv
import Derived.Test.YtfgeeigfbkiibaaWInvWords
import Derived.Test.YtfgeeigfbkiibaaWGuard
import Derived.Test.YtfgeeigfbkiibaaWNEv
namespace Go.Proofs.Ytfgeeigfbkiibaa.X
open Go.RowKit Go.Proofs.YtfgeeigfbkiibaaW.PrintWords Go.Proofs.YtfgeeigfbkiibaaW.PrintLast Go.Proofs.YtfgeeigfbkiibaaW.PrintMore
set_option linter.unusedVariables false
set_option linter.unusedSimpArgs false

/-! Plain words: bytes put over others; numbers as bytes, the lowest first. -/
def spl (l : List Int) (a : Nat) (bs : List Int) : List Int := l.take a ++ bs ++ l.drop (a + bs.length)
def le : Nat → Int → List Int
  | 0, _ => []
  | n + 1, v => v % 256 :: le n (v / 256)
def num : List Int → Int
  | [] => 0
  | b :: l => b + 256 * num l
def IsB (l : List Int) : Prop := ∀ x ∈ l, 0 ≤ x ∧ x < 256
def sub (l : List Int) (a n : Nat) : List Int := (l.drop a).take n
theorem le_length (n : Nat) : ∀ v, (le n v).length = n := by
  induction n with
  | zero => intro v; rfl
  | succ n ih => intro v; simp [le, ih]
theorem le_isB (n : Nat) : ∀ v, IsB (le n v) := by
  induction n with
  | zero => intro v x hx; simp [le] at hx
  | succ n ih =>
    intro v x hx
    simp only [le, List.mem_cons] at hx
    rcases hx with rfl | hx
    · omega
    · exact ih _ x hx
theorem spl_length (l : List Int) (a : Nat) (bs : List Int) (h : a + bs.length ≤ l.length) : (spl l a bs).length = l.length := by
  simp only [spl, List.length_append, List.length_take, List.length_drop]; omega
theorem spl_len {l : List Int} {a : Nat} {bs : List Int} {m : Nat} (h : l.length = m) (hb : a + bs.length ≤ m) : (spl l a bs).length = m := by rw [spl_length l a bs (by omega), h]
theorem spl_nil (l : List Int) (a : Nat) : spl l a [] = l := by simp [spl]
theorem spl_isB {l bs : List Int} (a : Nat) (h : IsB l) (hb : IsB bs) : IsB (spl l a bs) := by
  intro x hx
  simp only [spl, List.mem_append] at hx
  rcases hx with (hx | hx) | hx
  · exact h x (List.mem_of_mem_take hx)
  · exact hb x hx
  · exact h x (List.mem_of_mem_drop hx)
theorem spl_get (l : List Int) (a : Nat) (bs : List Int) (h : a + bs.length ≤ l.length) (i : Nat) :
    (spl l a bs)[i]? = if a ≤ i ∧ i < a + bs.length then bs[i - a]? else l[i]? := by
  unfold spl
  have ht : (l.take a).length = a := by rw [List.length_take]; omega
  by_cases h1 : i < a
  · rw [if_neg (by omega), List.append_assoc, List.getElem?_append_left (by omega), List.getElem?_take_of_lt h1]
  · by_cases h2 : i < a + bs.length
    · rw [if_pos ⟨by omega, h2⟩, List.append_assoc, List.getElem?_append_right (by omega), ht, List.getElem?_append_left (by omega)]
    · rw [if_neg (by omega), List.getElem?_append_right (by rw [List.length_append, ht]; omega), List.length_append, ht, List.getElem?_drop]
      congr 1; omega
theorem spl_set (l : List Int) (p : Nat) (b : Int) (bs : List Int) (h : p + 1 + bs.length ≤ l.length) : spl (l.set p b) (p + 1) bs = spl l p (b :: bs) := by
  apply List.ext_getElem?
  intro i
  rw [spl_get _ _ _ (by rw [List.length_set]; omega), spl_get _ _ _ (by simp only [List.length_cons]; omega)]
  simp only [List.length_cons]
  by_cases h1 : i = p
  · subst h1
    rw [if_neg (by omega), if_pos (by omega), Nat.sub_self, List.getElem?_cons_zero, List.getElem?_set_self (by omega)]
  · by_cases h2 : p + 1 ≤ i ∧ i < p + 1 + bs.length
    · rw [if_pos h2, if_pos (by omega), show i - p = (i - (p + 1)) + 1 by omega, List.getElem?_cons_succ]
    · rw [if_neg h2, if_neg (by omega), List.getElem?_set_ne (by omega)]
theorem rd_get (l : List Int) (i : Nat) : rd l (i : Int) = (l[i]?).getD 0 := by
  simp [rd, List.getD_eq_getElem?_getD]
theorem sub_get (l : List Int) (a n i : Nat) : (sub l a n)[i]? = if i < n then l[a + i]? else none := by
  unfold sub
  by_cases h : i < n
  · rw [if_pos h, List.getElem?_take_of_lt h, List.getElem?_drop]
  · rw [if_neg h, List.getElem?_take_eq_none (by omega)]
theorem sub_length (l : List Int) (a n : Nat) (h : a + n ≤ l.length) : (sub l a n).length = n := by
  simp only [sub, List.length_take, List.length_drop]; omega
theorem sub_isB {l : List Int} (h : IsB l) (a n : Nat) : IsB (sub l a n) := fun x hx => h x (List.mem_of_mem_drop (List.mem_of_mem_take hx))
theorem sub_spl_same (l : List Int) (a : Nat) (bs : List Int) (h : a + bs.length ≤ l.length) : sub (spl l a bs) a bs.length = bs := by
  apply List.ext_getElem?
  intro i
  rw [sub_get, spl_get _ _ _ h]
  by_cases h1 : i < bs.length
  · rw [if_pos h1, if_pos (by omega), Nat.add_sub_cancel_left]
  · rw [if_neg h1, List.getElem?_eq_none (by omega)]
theorem sub_spl_apart (l : List Int) (a : Nat) (bs : List Int) (b n : Nat) (h : a + bs.length ≤ l.length) (hd : b + n ≤ a ∨ a + bs.length ≤ b) : sub (spl l a bs) b n = sub l b n := by
  apply List.ext_getElem?
  intro i
  rw [sub_get, sub_get]
  by_cases h1 : i < n
  · rw [if_pos h1, if_pos h1, spl_get _ _ _ h, if_neg (by omega)]
  · rw [if_neg h1, if_neg h1]
theorem sub_sub (l : List Int) (a n b m : Nat) (h : b + m ≤ n) : sub (sub l a n) b m = sub l (a + b) m := by
  apply List.ext_getElem?
  intro i
  rw [sub_get _ b, sub_get _ (a + b)]
  by_cases h1 : i < m
  · rw [if_pos h1, if_pos h1, sub_get, if_pos (by omega), Nat.add_assoc]
  · rw [if_neg h1, if_neg h1]
theorem spl_comm (l : List Int) (a : Nat) (as : List Int) (b : Nat) (bs : List Int) (ha : a + as.length ≤ l.length) (hb : b + bs.length ≤ l.length) (hd : a + as.length ≤ b ∨ b + bs.length ≤ a) :
    spl (spl l a as) b bs = spl (spl l b bs) a as := by
  apply List.ext_getElem?
  intro i
  rw [spl_get _ _ _ (by rw [spl_length _ _ _ ha]; exact hb), spl_get _ _ _ ha, spl_get _ _ _ (by rw [spl_length _ _ _ hb]; exact ha), spl_get _ _ _ hb]
  by_cases h1 : b ≤ i ∧ i < b + bs.length
  · rw [if_pos h1, if_neg (by omega), if_pos h1]
  · rw [if_neg h1, if_neg h1]
theorem num_le (n : Nat) : ∀ v, num (le n v) = v % 256 ^ n := by
  induction n with
  | zero => intro v; simp [le, num]
  | succ n ih =>
    intro v
    simp only [le, num, ih]
    have h1 : (256 : Int) ^ (n + 1) = 256 * 256 ^ n := by rw [Int.pow_succ, Int.mul_comm]
    have h2 : v / 256 / 256 ^ n = v / (256 * 256 ^ n) := Int.ediv_ediv_of_nonneg (by decide)
    rw [h1, Int.emod_def v (256 * 256 ^ n), ← h2, Int.emod_def (v / 256) (256 ^ n), Int.mul_assoc]
    omega
theorem pow256_pos (n : Nat) : (1 : Int) ≤ 256 ^ n := Int.pow_pos (by decide)
theorem pow256_le {i j : Nat} (h : i ≤ j) : (256 : Int) ^ i ≤ 256 ^ j := by
  obtain ⟨d, rfl⟩ := Nat.le.dest h
  rw [Int.pow_add]
  have h1 : (256 : Int) ^ i * 1 ≤ 256 ^ i * 256 ^ d := Int.mul_le_mul_of_nonneg_left (pow256_pos d) (by have := pow256_pos i; omega)
  omega
theorem pow256_lt {i j : Nat} (h : i < j) : (256 : Int) ^ i < 256 ^ j := by
  have h1 := pow256_le (show i + 1 ≤ j from h)
  rw [Int.pow_succ] at h1
  have := pow256_pos i
  omega
theorem num_bound (l : List Int) (h : IsB l) : 0 ≤ num l ∧ num l < 256 ^ l.length := by
  induction l with
  | nil => simp [num]
  | cons b l ih =>
    have hb := h b (by simp)
    have hl := ih (fun x hx => h x (by simp [hx]))
    simp only [num, List.length_cons, Int.pow_succ]
    omega
theorem num_append (l m : List Int) : num (l ++ m) = num l + 256 ^ l.length * num m := by
  induction l with
  | nil => simp [num]
  | cons b l ih =>
    simp only [List.cons_append, num, List.length_cons, Int.pow_succ, ih]
    rw [Int.mul_add, ← Int.add_assoc, ← Int.mul_assoc, Int.mul_comm (256 ^ l.length) 256]
theorem le_num (l : List Int) (h : IsB l) : le l.length (num l) = l := by
  induction l with
  | nil => rfl
  | cons b l ih =>
    have hb := h b (by simp)
    have hl := ih (fun x hx => h x (by simp [hx]))
    simp only [List.length_cons, le, num]
    rw [show (b + 256 * num l) % 256 = b by omega, show (b + 256 * num l) / 256 = num l by omega, hl]
theorem sub_succ (l : List Int) (a n : Nat) (h : a + n < l.length) : sub l a (n + 1) = sub l a n ++ [rd l ((a + n : Nat) : Int)] := by
  unfold sub
  rw [List.take_add_one, List.getElem?_drop, rd_get, List.getElem?_eq_getElem h]
  rfl
theorem num_sub_succ (l : List Int) (a n : Nat) (h : a + n < l.length) : num (sub l a (n + 1)) = num (sub l a n) + 256 ^ n * rd l ((a + n : Nat) : Int) := by
  rw [sub_succ l a n h, num_append, sub_length l a n (by omega)]
  simp [num]
theorem rd_isB {l : List Int} (h : IsB l) (i : Int) : 0 ≤ rd l i ∧ rd l i < 256 := by
  unfold rd
  rw [List.getD_eq_getElem?_getD]
  cases hx : l[i.toNat]? with
  | none => simp
  | some x => exact h x (List.mem_of_getElem? hx)
theorem u8_inj {a b : Int} (ha : 0 ≤ a ∧ a < 256) (hb : 0 ≤ b ∧ b < 256) (h : UInt8.ofNat a.toNat = UInt8.ofNat b.toNat) : a = b := by
  have h1 := congrArg UInt8.toNat h
  simp only [UInt8.toNat_ofNat'] at h1
  omega
theorem map_u8_inj : ∀ (l m : List Int), IsB l → IsB m → (l.map fun n => UInt8.ofNat n.toNat) = (m.map fun n => UInt8.ofNat n.toNat) → l = m := by
  intro l
  induction l with
  | nil =>
    intro m _ _ h
    cases m with
    | nil => rfl
    | cons b m => simp at h
  | cons a l ih =>
    intro m hl hm h
    cases m with
    | nil => simp at h
    | cons b m =>
      simp only [List.map_cons, List.cons.injEq] at h
      rw [u8_inj (hl a (by simp)) (hm b (by simp)) h.1, ih m (fun x hx => hl x (by simp [hx])) (fun x hx => hm x (by simp [hx])) h.2]
theorem str_eq (l m : List Int) (hl : IsB l) (hm : IsB m) : ((strOfNums l).toList == (strOfNums m).toList) = (l == m) := by
  rw [ByteArray.toList_eq, ByteArray.toList_eq, strOfNums_data, strOfNums_data, Bool.eq_iff_iff, beq_iff_eq, beq_iff_eq]
  exact ⟨map_u8_inj l m hl hm, fun h => by rw [h]⟩
end Go.Proofs.Ytfgeeigfbkiibaa.X
namespace Go.Proofs.Ytfgeeigfbkiibaa.X
open Go.RowKit Go.Proofs.YtfgeeigfbkiibaaW.PrintWords Go.Proofs.YtfgeeigfbkiibaaW.PrintLast Go.Proofs.YtfgeeigfbkiibaaW.PrintMore
set_option linter.unusedVariables false
set_option linter.unusedSimpArgs false

theorem bcell {W w1 : World} (hb : Below W.heap.size W w1) : (∀ b o, b < W.heap.size → w1.cell? ⟨b, o, none⟩ = W.cell? ⟨b, o, none⟩) :=
  fun b o h => hb.cell (p := ⟨b, o, none⟩) h
theorem ret_int {k : IntKind} {a b : Int} (h : a = b) : Ending.returned (.int k a) = .returned (.int k b) := by rw [h]
theorem below_after {w W w' : World} (h : Below w.heap.size w W) (hb : Below W.heap.size W w') : Below w.heap.size w w' := below_step h hb

/-- The second operand's type counts only where it is a number's. -/
theorem append_types {P : Program} {t e t2 e2 t3 e3 : TypeId} (ht : P.underlying t = some (.slice e)) (h2 : P.underlying t2 = some (.slice e2)) (h3 : P.underlying t3 = some (.slice e3)) (ty : TypeId) (B : Option Addr) (n k : Nat) (x : Value) (W : World) :
    (Builtin.append_ #[t, t2] ty #[.slice B n k, x]).run P W = (Builtin.append_ #[t, t3] ty #[.slice B n k, x]).run P W := by
  simp [Builtin.append_, run_underlying ht, run_underlying h2, run_underlying h3]

section
variable {P : Program} {ops : Array Oper} {rest : List Oper} {o : Oper} {a : Act} {Q : Exit → Act → World → Prop}
/-- 'append(v, ys...)': bytes that are read behind a row of the call's own; ys of whatever named type. -/
theorem append_bytes {w0 W : World} (base : Nat) (s x : Operand) (t t2 e e2 : TypeId)
    (hgd : o.guard = none) (ho : o.op = .call { callee := .builtin .append, args := #[s, x], argTypes := #[t, t2] })
    (ht : P.underlying t = some (.slice e)) (ht2 : P.underlying t2 = some (.slice e2)) (hinfo : (P.info? e).map (fun i => (i.zero, i.size, i.bytes)) = some (some (.int .u8 0), 1, 1))
    (v : Value) (xs ys : List Int) (A : Option Addr) (m c : Nat) (ok : Nat → Prop) (hs : a.eval s = v) (hx : a.eval x = .slice A m c) (hfresh : ∀ k, W.heap.size ≤ k → ok k)
    (HO : (Kd.int .u8).R e W base ok v xs) (HR : (Kd.int .u8).C W A m ys) (HB : Below base w0 W) (hbase : base ≤ W.heap.size) (hl : xs.length + m ≤ 140737488355328)
    (h : ∀ v1 w1, (Kd.int .u8).R e w1 base ok v1 (xs ++ ys) → Below base w0 w1 → W.grownBy w1 v.ownBlock → (v1.ownBlock = v.ownBlock ∨ ∃ b, v1.ownBlock = some b ∧ W.heap.size ≤ b) → wpList P ops Q rest (a.put o.dst v1) w1) :
    wpList P ops Q (o :: rest) a W := by
  obtain ⟨i0, hi, hzz⟩ := Option.map_eq_some_iff.1 hinfo
  simp only [Prod.mk.injEq] at hzz
  obtain ⟨hz0, hz1, hz2⟩ := hzz
  have HO1 : W.ownsRow base e 1 v xs.length (encs (Value.int .u8) xs) := Kd.own_of_R HO
  have HR1 : ReadsOf (Value.int .u8) (0 : Int) W A m ys := Kd.reads_of_C HR
  have hm : ys.length = m := HR1.1
  have hrun : ∃ v1 w1, (Builtin.append_ #[t, t] o.type #[v, .slice A m c]).run P W = .ok v1 w1 ∧ w1.ownsRow base e 1 v1 (xs ++ ys).length (encs (Value.int .u8) (xs ++ ys)) ∧ W.grownBy w1 v.ownBlock ∧ (v1.ownBlock = v.ownBlock ∨ v1.ownBlock = some W.heap.size) := by
    rcases A with _ | ad
    · have h0 : m = 0 := by
        rcases Nat.eq_zero_or_pos m with h0 | h0
        · exact h0
        · obtain ⟨ad, h, _⟩ := HR1.2.2 h0
          cases h
      subst h0
      obtain rfl : ys = [] := List.eq_nil_of_length_eq_zero hm
      refine ⟨v, W, ?_, by simpa using HO1, World.grownBy.refl W _, .inl rfl⟩
      rcases HO1.2 with ⟨rfl, hn⟩ | ⟨g, cap, cur, rfl, _, _, hnc, _⟩
      · simp [Builtin.append_, run_underlying ht, sizeOf, typeInfo, hi, Builtin.lenOf, Builtin.firstCells]
      · simp [Builtin.append_, run_underlying ht, sizeOf, typeInfo, hi, Builtin.lenOf, Builtin.firstCells, hnc, storeCells]
    · have hcells : ∀ j u, (encs (Value.int .u8) ys)[j]? = some u → W.cell? (ad.add j) = some u := by
        intro j u hu
        have hj : j < ys.length := by
          rcases Nat.lt_or_ge j ys.length with h | h
          · exact h
          · simp [encs, List.getElem?_eq_none h] at hu
        obtain ⟨ad', h', hc⟩ := HR1.2.2 (by omega)
        injection h' with h'
        subst h'
        rw [encs_get (d := (0 : Int)) ys j hj] at hu
        rw [← hu]
        exact hc j (by omega)
      obtain ⟨v1, w1, hr, h2, h3, _, h5⟩ := run_append_own_at (P := P) W base t o.type e i0 (.int .u8 0) 1 1 ht hi hz0 hz1 hz2 rfl (by omega) v xs.length (encs (Value.int .u8) xs) HO1 ad m c (encs (Value.int .u8) ys) (by simp [encs, hm]) hcells
        (by intro u hu; simp only [encs, List.mem_map] at hu; obtain ⟨q, _, rfl⟩ := hu; rfl) (by simp only [maxLen]; omega) (by omega) hbase
      exact ⟨v1, w1, hr, by simpa [encs, hm] using h2, h3, h5⟩
  obtain ⟨v1, w1, hr, hown, hg, hat⟩ := hrun
  have hat' : v1.ownBlock = v.ownBlock ∨ ∃ b, v1.ownBlock = some b ∧ W.heap.size ≤ b := by
    rcases hat with hat | hat
    · exact .inl hat
    · exact .inr ⟨_, hat, Nat.le_refl _⟩
  refine wpList_plain hgd fun K hK => ?_
  unfold Oper.wp execOp
  have hr2 : (Builtin.append_ #[t, t2] o.type #[v, .slice A m c]).run P W = .ok v1 w1 := by
    obtain ⟨A1, c1, rfl⟩ := Kd.R_slice HO
    rw [append_types ht ht2 ht, hr]
  simp only [ho, resolve, invoke, builtin, Sem.run_bind, Sem.run_pure, Result.andThen_ok, List.map_toArray, List.map_cons, List.map_nil, hs, hx, hr2]
  refine hK _ _ (h v1 w1 (Kd.R_of_own hown (fun k hk => ?_)) (HB.grown hg hbase (own_base HO1)) hg hat')
  rcases hat' with e1 | ⟨b, e1, hbb⟩
  · exact HO.1 k (by rw [← e1]; exact hk)
  · rw [e1] at hk
    injection hk with hk
    subst hk
    exact hfresh _ hbb
end

/-- 'xs[i:j]', 'xs[i:]', 'xs[:j]': the cut is a letter. -/
structure Cut (P : Program) (t : TypeId) (A : Option Addr) (c : Nat) (xs : List Int) (lo hi : Option Value) (ys : List Int) (A' : Option Addr) (l : List Int) (c' : Nat) : Prop where
  is : l = ys
  reads : ∀ w : World, (Kd.int .u8).C w A xs.length xs → (Kd.int .u8).C w A' l.length l
  cap : l.length ≤ c'
theorem mid {P : Program} (t e : TypeId) (ht : P.underlying t = some (.slice e)) (hinfo : (P.info? e).map (fun i => (i.zero, i.size, i.bytes)) = some (some (.int .u8 0), 1, 1)) (A : Option Addr) (c : Nat) (xs : List Int) (a b : Int) (h0 : 0 ≤ a) (h1 : a ≤ b) (hm : b ≤ xs.length) (hc : xs.length ≤ c) :
    ∃ (A' : Option Addr) (l : List Int) (c' : Nat), (∀ W : World, (Instr.slice t (.slice A xs.length c) (some (.int .i64 a)) (some (.int .i64 b)) none).run P W = .ok (.slice A' l.length c') W) ∧
      Cut P t A c xs (some (.int .i64 a)) (some (.int .i64 b)) ((xs.take b.toNat).drop a.toNat) A' l c' := by
  obtain ⟨i0, hi, hzz⟩ := Option.map_eq_some_iff.1 hinfo
  simp only [Prod.mk.injEq] at hzz
  obtain ⟨A', h2, h3, h4⟩ := print_mid_of (P := P) (Value.int .u8) (0 : Int) t e .i64 .i64 ht hi hzz.2.1 A c xs a b h0 h1 hm hc
  exact ⟨A', _, _, h2, rfl, fun w h => Kd.C_of_reads (d := (0 : Int)) (h3 w (Kd.reads_of_C (d := (0 : Int)) h)), h4⟩
theorem cutFrom {P : Program} (t e : TypeId) (ht : P.underlying t = some (.slice e)) (hinfo : (P.info? e).map (fun i => (i.zero, i.size, i.bytes)) = some (some (.int .u8 0), 1, 1)) (A : Option Addr) (c : Nat) (xs : List Int) (a : Int) (h0 : 0 ≤ a) (hm : a ≤ xs.length) (hc : xs.length ≤ c) :
    ∃ (A' : Option Addr) (l : List Int) (c' : Nat), (∀ W : World, (Instr.slice t (.slice A xs.length c) (some (.int .i64 a)) none none).run P W = .ok (.slice A' l.length c') W) ∧
      Cut P t A c xs (some (.int .i64 a)) none (xs.drop a.toNat) A' l c' := by
  obtain ⟨i0, hi, hzz⟩ := Option.map_eq_some_iff.1 hinfo
  simp only [Prod.mk.injEq] at hzz
  obtain ⟨A', h2, h3, h4⟩ := print_drop_of (P := P) (Value.int .u8) (0 : Int) t e .i64 ht hi hzz.2.1 A c xs a h0 hm hc
  exact ⟨A', _, _, h2, rfl, fun w h => Kd.C_of_reads (d := (0 : Int)) (h3 w (Kd.reads_of_C (d := (0 : Int)) h)), h4⟩
theorem cutTo {P : Program} (t e : TypeId) (ht : P.underlying t = some (.slice e)) (hinfo : (P.info? e).map (fun i => (i.zero, i.size, i.bytes)) = some (some (.int .u8 0), 1, 1)) (A : Option Addr) (c : Nat) (xs : List Int) (b : Int) (h0 : 0 ≤ b) (hm : b ≤ xs.length) (hc : xs.length ≤ c) :
    ∃ (A' : Option Addr) (l : List Int) (c' : Nat), (∀ W : World, (Instr.slice t (.slice A xs.length c) none (some (.int .i64 b)) none).run P W = .ok (.slice A' l.length c') W) ∧
      Cut P t A c xs none (some (.int .i64 b)) (xs.take b.toNat) A' l c' := by
  obtain ⟨i0, hi, hzz⟩ := Option.map_eq_some_iff.1 hinfo
  simp only [Prod.mk.injEq] at hzz
  obtain ⟨h2, h3, h4⟩ := print_take_of (P := P) (Value.int .u8) (0 : Int) t e .i64 ht hi hzz.2.1 A c xs b h0 hm hc
  exact ⟨A, _, _, h2, rfl, fun w h => Kd.C_of_reads (d := (0 : Int)) (h3 w (Kd.reads_of_C (d := (0 : Int)) h)), h4⟩
end Go.Proofs.Ytfgeeigfbkiibaa.X
