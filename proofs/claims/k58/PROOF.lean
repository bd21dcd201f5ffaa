import PyProof.Rows.All
import Wide.All
import OpenK.AllK
import Wide.FinOn
import HandS.ForMost
import HandS.OwnEq
import HandS.Codes
import HandS.Conv
import HandS.SortKw
import HandS.Zip
import PySem.Challenge.RW_discwright_k58_whole_parity_gives_true_b
import HandS.More
set_option Elab.async false
set_option linter.all false
set_option maxRecDepth 100000
set_option maxHeartbeats 4000000
/-! The mathematics of the law: CRC bits, the span of changes, parity. Plain Lean. -/
namespace Dw
/-! ### one bit of a checksum -/
def shf (n : Nat) : Nat := 2 * n % 65536
def T (n : Nat) : Nat := if n / 32768 ≠ 0 then shf n ^^^ 4129 else shf n
def stepBit (n b : Nat) : Nat := if n / 32768 ≠ b then shf n ^^^ 4129 else shf n
theorem shf_lt (n : Nat) : shf n < 65536 := Nat.mod_lt _ (by decide)
theorem xor_lt16 {a b : Nat} (ha : a < 65536) (hb : b < 65536) : a ^^^ b < 65536 := Nat.xor_lt_two_pow (n := 16) ha hb
theorem T_lt (n : Nat) : T n < 65536 := by
  unfold T
  split
  · exact xor_lt16 (shf_lt n) (by decide)
  · exact shf_lt n
theorem stepBit_lt (n b : Nat) : stepBit n b < 65536 := by
  unfold stepBit
  split
  · exact xor_lt16 (shf_lt n) (by decide)
  · exact shf_lt n
theorem shf_xor (n m : Nat) : shf (n ^^^ m) = shf n ^^^ shf m := by
  unfold shf
  have e : ∀ k : Nat, 2 * k = k <<< 1 := fun k => by rw [Nat.shiftLeft_eq]; omega
  rw [e, e, e, Nat.shiftLeft_xor_distrib]
  exact Nat.xor_mod_two_pow (n := 16)
theorem top_xor (n m : Nat) : (n ^^^ m) / 32768 = (n / 32768) ^^^ (m / 32768) := by
  have e : ∀ k : Nat, k / 32768 = k >>> 15 := fun k => by rw [Nat.shiftRight_eq_div_pow]
  rw [e, e, e, Nat.shiftRight_xor_distrib]
theorem top2 {n : Nat} (h : n < 65536) : n / 32768 = 0 ∨ n / 32768 = 1 := by omega
theorem xor_self_l (a b : Nat) : a ^^^ (a ^^^ b) = b := by rw [← Nat.xor_assoc, Nat.xor_self, Nat.zero_xor]
theorem xor_ac (a b c d : Nat) : (a ^^^ b) ^^^ (c ^^^ d) = (a ^^^ c) ^^^ (b ^^^ d) := by
  rw [Nat.xor_assoc, Nat.xor_assoc, ← Nat.xor_assoc b, ← Nat.xor_assoc c, Nat.xor_comm b c]
theorem xor_right (a b c : Nat) : (a ^^^ b) ^^^ c = (a ^^^ c) ^^^ b := by
  rw [Nat.xor_assoc, Nat.xor_comm b c, Nat.xor_assoc]
theorem T_xor {n m : Nat} (hn : n < 65536) (hm : m < 65536) : T (n ^^^ m) = T n ^^^ T m := by
  unfold T
  rw [top_xor, shf_xor]
  rcases top2 hn with a | a <;> rcases top2 hm with b | b <;> rw [a, b] <;> simp
  · rw [Nat.xor_assoc]
  · rw [xor_right]
  · rw [xor_ac, Nat.xor_self, Nat.xor_zero]
theorem stepBit_xor {n m b : Nat} (hn : n < 65536) (hm : m < 65536) (hb : b < 2) : stepBit (n ^^^ m) b = stepBit n b ^^^ T m := by
  unfold stepBit T
  rw [top_xor, shf_xor]
  have hb' : b = 0 ∨ b = 1 := by omega
  rcases hb' with rfl | rfl <;> rcases top2 hn with a | a <;> rcases top2 hm with c | c <;> rw [a, c] <;> simp
  · rw [Nat.xor_assoc]
  · rw [xor_right]
  · rw [xor_ac, Nat.xor_self, Nat.xor_zero]
  · rw [xor_right]
  · rw [xor_ac, Nat.xor_self, Nat.xor_zero]
  · rw [Nat.xor_assoc]
theorem stepBit_flip {n : Nat} (hn : n < 65536) : stepBit n 1 = stepBit n 0 ^^^ 4129 := by
  unfold stepBit
  rcases top2 hn with a | a <;> rw [a] <;> simp
  rw [Nat.xor_assoc, Nat.xor_self, Nat.xor_zero]
def Tn : Nat → Nat → Nat
  | 0, n => n
  | k + 1, n => T (Tn k n)
theorem Tn_lt : ∀ (k : Nat) {n : Nat}, n < 65536 → Tn k n < 65536
  | 0, _, h => h
  | _ + 1, _, _ => T_lt _
theorem Tn_xor : ∀ (k : Nat) {n m : Nat}, n < 65536 → m < 65536 → Tn k (n ^^^ m) = Tn k n ^^^ Tn k m
  | 0, _, _, _, _ => rfl
  | k + 1, n, m, hn, hm => by
    show T (Tn k (n ^^^ m)) = _
    rw [Tn_xor k hn hm, T_xor (Tn_lt k hn) (Tn_lt k hm)]
    rfl
theorem Tn_T : ∀ (k n : Nat), Tn k (T n) = Tn (k + 1) n
  | 0, _ => rfl
  | k + 1, n => congrArg T (Tn_T k n)
theorem Tn_add : ∀ (j k n : Nat), Tn j (Tn k n) = Tn (j + k) n
  | 0, k, n => by rw [Nat.zero_add]; rfl
  | j + 1, k, n => by
    rw [Nat.succ_add]
    exact congrArg T (Tn_add j k n)
theorem xor_odd {a : Nat} (h : a % 2 = 0) : (a ^^^ 4129) % 2 = 1 := by
  have e : (a ^^^ 4129) % 2 ^ 1 = (a % 2 ^ 1) ^^^ (4129 % 2 ^ 1) := Nat.xor_mod_two_pow
  have h' : a % 2 ^ 1 = 0 := h
  rw [h'] at e
  exact e
theorem T_zero {n : Nat} (hn : n < 65536) (h : T n = 0) : n = 0 := by
  unfold T at h
  rcases top2 hn with a | a
  · rw [a] at h
    simp at h
    unfold shf at h
    omega
  · rw [a] at h
    simp at h
    have e : (shf n ^^^ 4129) % 2 = 1 := xor_odd (by unfold shf; omega)
    rw [h] at e
    omega
theorem Tn_zero : ∀ (k : Nat) {n : Nat}, n < 65536 → Tn k n = 0 → n = 0
  | 0, _, _, h => h
  | k + 1, _, hn, h => Tn_zero k hn (T_zero (Tn_lt k hn) h)
theorem Tn_of_zero : ∀ k : Nat, Tn k 0 = 0
  | 0 => rfl
  | k + 1 => by
    show T (Tn k 0) = 0
    rw [Tn_of_zero k]
    rfl
/-! ### the checksum of bits -/
def foldB (n : Nat) (l : List Nat) : Nat := l.foldl stepBit n
theorem foldB_lt : ∀ (l : List Nat) {n : Nat}, n < 65536 → foldB n l < 65536
  | [], _, h => h
  | b :: l, n, _ => foldB_lt l (stepBit_lt n b)
theorem foldB_xor : ∀ (l : List Nat) {n m : Nat}, (∀ b ∈ l, b < 2) → n < 65536 → m < 65536 → foldB (n ^^^ m) l = foldB n l ^^^ Tn l.length m
  | [], _, _, _, _, _ => rfl
  | b :: l, n, m, hl, hn, hm => by
    show foldB (stepBit (n ^^^ m) b) l = foldB (stepBit n b) l ^^^ Tn (l.length + 1) m
    rw [stepBit_xor hn hm (hl b List.mem_cons_self), foldB_xor l (fun c hc => hl c (List.mem_cons_of_mem _ hc)) (stepBit_lt n b) (T_lt m), Tn_T]
theorem foldB_set : ∀ (l : List Nat) {n p : Nat}, (∀ b ∈ l, b < 2) → n < 65536 → l[p]? = some 0 → foldB n (l.set p 1) = foldB n l ^^^ Tn (l.length - 1 - p) 4129
  | [], _, _, _, _, h => by simp at h
  | b :: l, n, 0, hl, hn, h => by
    have e : b = 0 := by simpa using h
    subst e
    show foldB (stepBit n 1) l = foldB (stepBit n 0) l ^^^ Tn (l.length + 1 - 1 - 0) 4129
    rw [stepBit_flip hn, foldB_xor l (fun c hc => hl c (List.mem_cons_of_mem _ hc)) (stepBit_lt n 0) (by decide)]
    rfl
  | b :: l, n, p + 1, hl, hn, h => by
    have h' : l[p]? = some 0 := by simpa using h
    show foldB (stepBit n b) (l.set p 1) = foldB (stepBit n b) l ^^^ Tn (l.length + 1 - 1 - (p + 1)) 4129
    rw [foldB_set l (fun c hc => hl c (List.mem_cons_of_mem _ hc)) (stepBit_lt n b) h']
    have hp : p < l.length := (List.getElem?_eq_some_iff.mp h').1
    congr 2
    omega
/-! ### bytes -/
def WTS : List Nat := [128, 64, 32, 16, 8, 4, 2, 1]
def bitsOf (v : Nat) : List Nat := WTS.map fun w => v / w % 2
def stepB (n v : Nat) : Nat := foldB n (bitsOf v)
def crcN (bs : List Nat) : Nat := bs.foldl stepB 65535
theorem bitsOf_lt {v b : Nat} (h : b ∈ bitsOf v) : b < 2 := by
  obtain ⟨w, _, rfl⟩ := List.mem_map.mp h
  exact Nat.mod_lt _ (by decide)
theorem stepB_lt {n v : Nat} (h : n < 65536) : stepB n v < 65536 := foldB_lt _ h
theorem crcN_lt (bs : List Nat) : crcN bs < 65536 := by
  have go : ∀ (l : List Nat) (n : Nat), n < 65536 → l.foldl stepB n < 65536 := by
    intro l
    induction l with
    | nil => exact fun n h => h
    | cons v l ih => exact fun n h => ih _ (stepB_lt h)
  exact go bs 65535 (by decide)
/-! ### parity -/
def vxor (a b : List Nat) : List Nat := List.zipWith (fun x y => x ^^^ y) a b
def zeros : List Nat := List.replicate 16 0
def parN (ls : List (List Nat)) : List Nat := ls.foldl vxor zeros
/-- a block of 16 bytes -/
def Blk (l : List Nat) : Prop := l.length = 16 ∧ ∀ x ∈ l, x < 256
theorem vxor_len {a b : List Nat} (ha : a.length = 16) (hb : b.length = 16) : (vxor a b).length = 16 := by
  unfold vxor
  rw [List.length_zipWith, ha, hb]
  rfl
end Dw
namespace Dw
open PySem PySem.Spec PyProof.Rows L2
/-! ### the text by places -/
def top (i : Nat) : Stmt := PySem.Challenge.pw_discwright_k58_whole_parity_gives_true_b.main.body.getD i (.Pass ⟨0, 0, 0, 0⟩)
abbrev s_byte_bits : Stmt := top 12
abbrev s_exclusive : Stmt := top 13
abbrev s_step : Stmt := top 14
abbrev s_crc : Stmt := top 15
abbrev s_parity : Stmt := top 16
abbrev s_is_group : Stmt := top 18
abbrev s_demand_plan : Stmt := top 19
abbrev s_missing_of : Stmt := top 20
abbrev s_holds : Stmt := top 21
abbrev s_parity_without : Stmt := top 22
abbrev s_mended_by_parity : Stmt := top 23
abbrev s_next_group : Stmt := top 24
abbrev s_broken_groups : Stmt := top 25
abbrev s_with_parity : Stmt := top 26
abbrev s_is_block : Stmt := top 30
abbrev s_init : Stmt := inClass (top 31) 0
abbrev s_dlen : Stmt := inClass (top 31) 1
abbrev s_deq : Stmt := inClass (top 31) 2
abbrev s_block : Stmt := inClass (top 31) 3
abbrev s_missing : Stmt := inClass (top 31) 4
abbrev s_with_block : Stmt := inClass (top 31) 5
abbrev s_with_bit : Stmt := top 35
abbrev s_crc_change : Stmt := top 36
abbrev s_demand_unknown : Stmt := top 37
abbrev s_sinit : Stmt := inClass (top 38) 0
abbrev s_reduced : Stmt := inClass (top 38) 1
abbrev s_add : Stmt := inClass (top 38) 2
abbrev s_span_of : Stmt := top 39
abbrev s_solution_count : Stmt := top 40
abbrev s_solution : Stmt := top 41
abbrev s_pool : Stmt := top 43
abbrev s_spread : Stmt := top 44
abbrev s_draw : Stmt := top 45
abbrev s_qblocks : Stmt := top 46
abbrev s_set_bit : Stmt := top 47
abbrev s_law : Stmt := top 48

/-! ### values -/
/-- a natural number as a value -/
def nV (n : Nat) : V := .int (n : Int)
def nVs (l : List Nat) : List V := l.map nV
theorem nVs_len (l : List Nat) : (nVs l).length = l.length := List.length_map _
theorem nVs_at {l : List Nat} {i : Nat} {x : V} (h : (nVs l)[i]? = some x) : ∃ n, l[i]? = some n ∧ x = nV n := by
  unfold nVs at h
  rw [List.getElem?_map] at h
  cases e : l[i]? with
  | none => rw [e] at h; cases h
  | some n => rw [e] at h; exact ⟨n, rfl, (Option.some.inj h).symm⟩
theorem at_nVs {l : List Nat} {i n : Nat} (h : l[i]? = some n) : (nVs l)[i]? = some (nV n) := by
  unfold nVs
  rw [List.getElem?_map, h]
  rfl
theorem nVs_app (a b : List Nat) : nVs (a ++ b) = nVs a ++ nVs b := List.map_append
theorem nVs_ints (l : List Nat) : nVs l = (l.map fun n : Nat => (n : Int)).map V.int := by
  unfold nVs nV
  rw [List.map_map]
  rfl
/-- a function, a test on natural numbers, by values -/
def nF (f : Nat → Nat) : V → V
  | .int i => nV (f i.toNat)
  | v => v
def kN (p : Nat → Bool) : V → Bool
  | .int i => p i.toNat
  | _ => false
def bF (p : Nat → Bool) : V → V
  | .int i => .bl (p i.toNat)
  | v => v
theorem map_nF (f : Nat → Nat) (l : List Nat) : (nVs l).map (nF f) = nVs (l.map f) := by
  unfold nVs
  rw [List.map_map, List.map_map]
  rfl
theorem map_bF (f : Nat → Bool) (l : List Nat) : (nVs l).map (bF f) = (l.map f).map V.bl := by
  unfold nVs
  rw [List.map_map, List.map_map]
  rfl
theorem filter_kN (p : Nat → Bool) : ∀ l : List Nat, (nVs l).filter (kN p) = nVs (l.filter p)
  | [] => rfl
  | n :: l => by
    have ih := filter_kN p l
    have e : nVs (n :: l) = nV n :: nVs l := rfl
    have k : kN p (nV n) = p n := rfl
    rw [e, List.filter_cons, List.filter_cons, k, ih]
    cases p n <;> rfl
theorem map_self {l : List V} : l.map (fun x => x) = l := List.map_id' l
theorem small {n : Nat} (h : n ≤ 100000) : n < sizeLine := Nat.lt_of_le_of_lt h (by decide)
theorem small' {n : Nat} (h : n ≤ 100000) : n ≤ sizeLine := Nat.le_of_lt (small h)
/-! ### heaps -/
end Dw
namespace L2
open PySem PySem.Spec PyProof.Rows
theorem Same.new {H : Hp} {p : Addr} {o : HO} (h : H p = none) : Same H (upd H p o) := fun b x e => by
  rw [upd_ne (ne_of_none e h)]
  exact e
theorem Same.grow {H H' : Hp} {p : Addr} {o : HO} (s : Same H H') (h : H p = none) : Same H (upd H' p o) := fun b x e => by
  rw [upd_ne (ne_of_none e h)]
  exact s _ _ e
theorem Same.tup {K : PySem.W.Frag} {H H' : Hp} {a : Addr} {xs : List V} (e : Same H H') (h : SqT K H a xs) : SqT K H' a xs := h.ext e
end L2
namespace Dw
open PySem PySem.Spec PyProof.Rows L2
/-- what the top leaves: builtins untouched, constants -/
def POWS : List Nat := [1, 2, 4, 8, 16, 32, 64, 128, 256, 512, 1024, 2048, 4096, 8192, 16384, 32768, 65536, 131072, 262144, 524288, 1048576, 2097152, 4194304, 8388608, 16777216]
def SIZS : List Nat := [16, 32, 64, 128, 256, 512]
structure Tx (K : PySem.W.Frag) (mg : Str → Option Value) : Prop where
  len : mg "len" = none
  all : mg "all" = none
  zip : mg "zip" = none
  list : mg "list" = none
  range : mg "range" = none
  max : mg "max" = none
  sorted : mg "sorted" = none
  isinst : mg "isinstance" = none
  int : mg "int" = none
  tuple : mg "tuple" = none
  enumr : mg "enumerate" = none
  wts : ∃ a, mg "BIT_WEIGHTS" = some (.ref a) ∧ ∀ H, SqT K H a (nVs WTS)
  pows : ∃ a, mg "POWERS" = some (.ref a) ∧ ∀ H, SqT K H a (nVs POWS)
  sizs : ∃ a, mg "SIZES" = some (.ref a) ∧ ∀ H, SqT K H a (nVs SIZS)
  start : ∃ t, mg "CRC_START" = some (.int 65535 t)
  mask : ∃ t, mg "CRC_MASK" = some (.int 4129 t)
  word : ∃ t, mg "WORD" = some (.int 65536 t)
  top : ∃ t, mg "TOP" = some (.int 32768 t)
  mostB : ∃ t, mg "MOST_BLOCKS" = some (.int 2000 t)
  mostU : ∃ t, mg "MOST_UNKNOWN" = some (.int 24 t)
/-- a module's int -/
theorem gi {mg : Str → Option Value} {x : Str} {i : Int} (h : ∃ t, mg x = some (.int i t)) : ∃ u, mg x = some u ∧ RelV (.int i) u := by
  obtain ⟨t, h⟩ := h
  exact ⟨_, h, t, rfl⟩

/-! ### comprehensions whose turns only make objects -/
section
variable {K : PySem.W.Frag} {a : Addr} {xs : List V} {g : TG} {tt : TT} {te : TE} {vs : List Nat} {σ : L2.St} {H1 : Hp} {D : Addr} {Qd : Hp → Prop}
/-- one turn: from any grown heap the item x is kept or not, its element is f x -/
abbrev TurnOk (g : TG) (tt : TT) (te : TE) (vs : List Nat) (σ : L2.St) (H : Hp) (x : V) (k : Bool) (y : V) : Prop :=
  ∀ (Nx : Hp → Prop) (Kp : V → Hp → Prop), (∀ H', Same H H' → if k = true then Kp y H' else Nx H') →
    g x (wipe σ vs) H fun σ2 H2 => wipe σ2 vs = wipe σ vs ∧ tt σ2 H2 fun b H3 => if b = true then te σ2 H3 Kp else Nx H3
theorem tt_yes {te : TE} {σ : L2.St} {H : Hp} {Kp : V → Hp → Prop} {Nx : Hp → Prop} (h : te σ H Kp) : tYes σ H (fun b H3 => if b = true then te σ H3 Kp else Nx H3) := by
  show if true = true then te σ H Kp else Nx H
  exact iteT h
theorem k_yes {H : Hp} {A B : Hp → Prop} (h : ∀ H', Same H H' → if true = true then A H' else B H') : ∀ H', Same H H' → A H' := fun H' s => by
  have z := h H' s
  rw [if_pos rfl] at z
  exact z
theorem take_snoc {α : Type} {l : List α} {i : Nat} {x : α} (h : l[i]? = some x) : l.take (i + 1) = l.take i ++ [x] := by
  rw [List.take_add_one, h]
  rfl
theorem lc_pure (keep : V → Bool) (f : V → V) (hS : SqL K H1 a xs) (hD : H1 D = none) (hz : xs.length ≤ 100000)
    (hs : ∀ (i : Nat) (x : V) (H : Hp), xs[i]? = some x → Same H1 H → TurnOk g tt te vs σ H x (keep x) (f x))
    (hd : ∀ H, Same H1 H → H D = some (.lst ((xs.filter keep).map f)) → Qd H) :
    ∃ W : Nat → Nat → Hp → Prop, (∃ m, W 0 m (upd H1 D (.lst []))) ∧ ∀ i m H, W i m H →
      ((Itl K a).stop i H ∧ Qd H) ∨ ((Itl K a).go i H ∧ ∃ Nx : Hp → Prop, (∀ H', Nx H' → ∃ m', m' < m ∧ W (i + 1) m' H') ∧ ∀ x H', (Itl K a).yld i H x H' → g x (wipe σ vs) H' fun σ2 H2 => wipe σ2 vs = wipe σ vs ∧ tt σ2 H2 fun b H3 =>
        if b = true then te σ2 H3 fun y H4 => ∃ acc, H4 D = some (.lst acc) ∧ acc.length < sizeLine ∧ Nx (upd H4 D (.lst (acc ++ [y]))) else Nx H3) := by
  refine lc_list (K := K) (a := a) (xs := xs) (fun i H => Same H1 H ∧ H D = some (.lst (((xs.take i).filter keep).map f))) ⟨Same.new hD, upd_same⟩ (fun i H _ p => p.1.seq hS) (fun i x H hx p => ?_) (fun H p => ?_)
  · obtain ⟨s, hd'⟩ := p
    refine hs i x H hx s _ _ fun H' s' => ?_
    rw [take_snoc hx, List.filter_append]
    cases e : keep x with
    | true =>
      rw [if_pos rfl]
      refine ⟨_, s' _ _ hd', ?_, (s.trans s').grow hD, ?_⟩
      · refine small (Nat.le_trans ?_ hz)
        rw [List.length_map]
        exact Nat.le_trans (List.length_filter_le _ _) (List.length_take_le' _ _)
      · rw [upd_same]
        simp [List.filter, e]
    | false =>
      rw [if_neg Bool.false_ne_true]
      refine ⟨s.trans s', ?_⟩
      rw [s' _ _ hd']
      simp [List.filter, e]
  · obtain ⟨s, h⟩ := p
    rw [List.take_length] at h
    exact hd H s h
theorem lc_pureT (keep : V → Bool) (f : V → V) (hS : SqT K H1 a xs) (hD : H1 D = none) (hz : xs.length ≤ 100000)
    (hs : ∀ (i : Nat) (x : V) (H : Hp), xs[i]? = some x → Same H1 H → TurnOk g tt te vs σ H x (keep x) (f x))
    (hd : ∀ H, Same H1 H → H D = some (.lst ((xs.filter keep).map f)) → Qd H) :
    ∃ W : Nat → Nat → Hp → Prop, (∃ m, W 0 m (upd H1 D (.lst []))) ∧ ∀ i m H, W i m H →
      ((Itt K a).stop i H ∧ Qd H) ∨ ((Itt K a).go i H ∧ ∃ Nx : Hp → Prop, (∀ H', Nx H' → ∃ m', m' < m ∧ W (i + 1) m' H') ∧ ∀ x H', (Itt K a).yld i H x H' → g x (wipe σ vs) H' fun σ2 H2 => wipe σ2 vs = wipe σ vs ∧ tt σ2 H2 fun b H3 =>
        if b = true then te σ2 H3 fun y H4 => ∃ acc, H4 D = some (.lst acc) ∧ acc.length < sizeLine ∧ Nx (upd H4 D (.lst (acc ++ [y]))) else Nx H3) := by
  refine lc_tup (K := K) (a := a) (xs := xs) (fun i H => Same H1 H ∧ H D = some (.lst (((xs.take i).filter keep).map f))) ⟨Same.new hD, upd_same⟩ (fun i H _ p => Same.tup p.1 hS) (fun i x H hx p => ?_) (fun H p => ?_)
  · obtain ⟨s, hd'⟩ := p
    refine hs i x H hx s _ _ fun H' s' => ?_
    rw [take_snoc hx, List.filter_append]
    cases e : keep x with
    | true =>
      rw [if_pos rfl]
      refine ⟨_, s' _ _ hd', ?_, (s.trans s').grow hD, ?_⟩
      · refine small (Nat.le_trans ?_ hz)
        rw [List.length_map]
        exact Nat.le_trans (List.length_filter_le _ _) (List.length_take_le' _ _)
      · rw [upd_same]
        simp [List.filter, e]
    | false =>
      rw [if_neg Bool.false_ne_true]
      refine ⟨s.trans s', ?_⟩
      rw [s' _ _ hd']
      simp [List.filter, e]
  · obtain ⟨s, h⟩ := p
    rw [List.take_length] at h
    exact hd H s h
def rgNs (n : Nat) : List V := (List.range n).map nV
theorem lc_pureR {n : Nat} (keep : V → Bool) (f : V → V) (hD : H1 D = none) (hz : n ≤ 100000)
    (hs : ∀ (i : Nat) (H : Hp), i < n → Same H1 H → TurnOk g tt te vs σ H (.int (0 + (i : Int))) (keep (nV i)) (f (nV i)))
    (hd : ∀ H, Same H1 H → H D = some (.lst (((nVs (List.range n)).filter keep).map f)) → Qd H) :
    ∃ W : Nat → Nat → Hp → Prop, (∃ m, W 0 m (upd H1 D (.lst []))) ∧ ∀ i m H, W i m H →
      ((Itr 0 n).stop i H ∧ Qd H) ∨ ((Itr 0 n).go i H ∧ ∃ Nx : Hp → Prop, (∀ H', Nx H' → ∃ m', m' < m ∧ W (i + 1) m' H') ∧ ∀ x H', (Itr 0 n).yld i H x H' → g x (wipe σ vs) H' fun σ2 H2 => wipe σ2 vs = wipe σ vs ∧ tt σ2 H2 fun b H3 =>
        if b = true then te σ2 H3 fun y H4 => ∃ acc, H4 D = some (.lst acc) ∧ acc.length < sizeLine ∧ Nx (upd H4 D (.lst (acc ++ [y]))) else Nx H3) := by
  refine lc_range (lo := 0) (n := n) (fun i H => Same H1 H ∧ i ≤ n ∧ H D = some (.lst (((nVs (List.range i)).filter keep).map f))) ⟨Same.new hD, Nat.zero_le _, upd_same⟩ (fun i H hi p => ?_) (fun H p => hd H p.1 p.2.2)
  obtain ⟨s, hn, hd'⟩ := p
  refine hs i H hi s _ _ fun H' s' => ?_
  rw [List.range_succ, nVs_app, List.filter_append]
  cases e : keep (nV i) with
  | true =>
    rw [if_pos rfl]
    refine ⟨_, s' _ _ hd', ?_, (s.trans s').grow hD, hi, ?_⟩
    · refine small (Nat.le_trans ?_ (Nat.le_trans hn hz))
      rw [List.length_map]
      refine Nat.le_trans (List.length_filter_le _ _) ?_
      rw [nVs_len, List.length_range]
      exact Nat.le_refl _
    · rw [upd_same]
      simp [nVs, List.filter, e]
  | false =>
    rw [if_neg Bool.false_ne_true]
    refine ⟨s.trans s', hi, ?_⟩
    rw [s' _ _ hd']
    simp [nVs, List.filter, e]
end
section
variable {K : PySem.W.Frag} {a b : Addr} {xs ys : List V} {g : TG} {tt : TT} {te : TE} {vs : List Nat} {σ : L2.St} {H1 : Hp} {D : Addr} {Qd : Hp → Prop}
theorem take_zipW {α β γ : Type} (f : α → β → γ) : ∀ {l : List α} {m : List β} {i : Nat} {x : α} {y : β}, l[i]? = some x → m[i]? = some y → List.zipWith f (l.take (i + 1)) (m.take (i + 1)) = List.zipWith f (l.take i) (m.take i) ++ [f x y]
  | [], _, i, _, _, h, _ => by simp at h
  | _ :: _, [], i, _, _, _, h => by simp at h
  | a :: l, b :: m, 0, x, y, h1, h2 => by
    have e1 : a = x := Option.some.inj h1
    have e2 : b = y := Option.some.inj h2
    rw [e1, e2]
    rfl
  | a :: l, b :: m, i + 1, x, y, h1, h2 => by
    have ih := take_zipW f (l := l) (m := m) (i := i) h1 h2
    show f a b :: List.zipWith f (l.take (i + 1)) (m.take (i + 1)) = _
    rw [ih]
    rfl
theorem lc_zip (f : V → V → V) (hl : xs.length = ys.length) (hS : SqL K H1 a xs) (hS' : SqL K H1 b ys) (hD : H1 D = none) (hz : xs.length ≤ 100000)
    (hs : ∀ (i : Nat) (x y : V) (T : Addr) (H : Hp), xs[i]? = some x → ys[i]? = some y → Same H1 H → H T = none → TurnOk g tt te vs σ (upd H T (.tup [x, y])) (.ref T) true (f x y))
    (hd : ∀ H, Same H1 H → H D = some (.lst (List.zipWith f xs ys)) → Qd H) :
    ∃ W : Nat → Nat → Hp → Prop, (∃ m, W 0 m (upd H1 D (.lst []))) ∧ ∀ i m H, W i m H →
      ((Itz K a b).stop i H ∧ Qd H) ∨ ((Itz K a b).go i H ∧ ∃ Nx : Hp → Prop, (∀ H', Nx H' → ∃ m', m' < m ∧ W (i + 1) m' H') ∧ ∀ x H', (Itz K a b).yld i H x H' → g x (wipe σ vs) H' fun σ2 H2 => wipe σ2 vs = wipe σ vs ∧ tt σ2 H2 fun b H3 =>
        if b = true then te σ2 H3 fun y H4 => ∃ acc, H4 D = some (.lst acc) ∧ acc.length < sizeLine ∧ Nx (upd H4 D (.lst (acc ++ [y]))) else Nx H3) := by
  refine ⟨fun i m H => m = xs.length - i ∧ i ≤ xs.length ∧ Same H1 H ∧ H D = some (.lst (List.zipWith f (xs.take i) (ys.take i))), ⟨xs.length, rfl, Nat.zero_le _, Same.new hD, upd_same⟩, ?_⟩
  rintro i m H ⟨rfl, hi, sm, hd'⟩
  by_cases hlt : i < xs.length
  · have hx : xs[i]? = some xs[i] := List.getElem?_eq_getElem hlt
    have hlt2 : i < ys.length := by omega
    have hy : ys[i]? = some ys[i] := List.getElem?_eq_getElem hlt2
    refine .inr ⟨⟨xs, ys, _, _, sm.seq hS, sm.seq hS', hx, hy⟩, fun H' => i + 1 ≤ xs.length ∧ Same H1 H' ∧ H' D = some (.lst (List.zipWith f (xs.take (i + 1)) (ys.take (i + 1)))), fun H' p' => ⟨xs.length - (i + 1), by omega, rfl, p'.1, p'.2.1, p'.2.2⟩, fun v H' y => ?_⟩
    obtain ⟨T, x', y', rfl, hT, rfl, f1, f2⟩ := y
    have ex := f1 xs (sm.seq hS)
    have ey := f2 ys (sm.seq hS')
    refine hs i x' y' T H ex ey sm hT _ _ fun H' s' => ?_
    rw [if_pos rfl]
    refine ⟨_, s' _ _ (Same.new hT _ _ hd'), ?_, hlt, ((sm.trans (Same.new hT)).trans s').grow hD, ?_⟩
    · refine small (Nat.le_trans ?_ hz)
      rw [List.length_zipWith]
      exact Nat.le_trans (Nat.min_le_left _ _) (List.length_take_le' _ _)
    · rw [upd_same, take_zipW f ex ey]
  · have e : i = xs.length := by omega
    subst e
    rw [List.take_length, hl, List.take_length] at hd'
    exact .inl ⟨⟨xs, ys, sm.seq hS, sm.seq hS', Or.inl (Nat.le_refl _)⟩, hd H sm hd'⟩
end
/-- rows of numbers at addresses -/
def LsAt (K : PySem.W.Frag) (H : Hp) (xs : List V) (ls : List (List Nat)) : Prop := xs.length = ls.length ∧ ∀ (i : Nat) (l : List Nat), ls[i]? = some l → ∃ b, xs[i]? = some (.ref b) ∧ SqL K H b (nVs l)
theorem LsAt.same {K : PySem.W.Frag} {H H' : Hp} {xs : List V} {ls : List (List Nat)} (s : Same H H') (h : LsAt K H xs ls) : LsAt K H' xs ls :=
  ⟨h.1, fun i l e => let ⟨b, e1, e2⟩ := h.2 i l e; ⟨b, e1, s.seq e2⟩⟩
theorem LsAt.at_ {K : PySem.W.Frag} {H : Hp} {xs : List V} {ls : List (List Nat)} (h : LsAt K H xs ls) {i : Nat} {x : V} (e : xs[i]? = some x) : ∃ l b, ls[i]? = some l ∧ x = .ref b ∧ SqL K H b (nVs l) := by
  have hi : i < ls.length := by
    rw [← h.1]
    exact (List.getElem?_eq_some_iff.mp e).1
  obtain ⟨b, e1, e2⟩ := h.2 i _ (List.getElem?_eq_getElem hi)
  rw [e] at e1
  exact ⟨_, b, List.getElem?_eq_getElem hi, Option.some.inj e1, e2⟩
def xF : V → V → V
  | .int i, .int j => nV (i.toNat ^^^ j.toNat)
  | x, _ => x
theorem zipW_nVs (a b : List Nat) : List.zipWith xF (nVs a) (nVs b) = nVs (vxor a b) := by
  unfold nVs vxor
  rw [List.zipWith_map, List.map_zipWith]
  rfl
/-! ### short words: built-in functions of one argument -/
section
variable {X : Cx} {e : Expr} {te : TE} {p pos : Pos} (K : PySem.W.Frag)
abbrev rLn (K : PySem.W.Frag) : List V → Hp → VK → Prop := fun xs H Q => ∃ p ys, xs = [.ref p] ∧ (SqL K H p ys ∨ SqT K H p ys) ∧ Q (.int ys.length) H
theorem pe_len (m : X.mg "len" = none) (h : PE X e te) (hK : X.K = K := by rfl) (hg : Gl X "len" := by rfl)
    (he : starEach [e] X.env = (false, eval e X.env) :: starEach [] X.env := by rfl) (hpl : (backTo pos (starEach [] X.env)).any (·.1) = false := by rfl) : PE X (.Call (.Name "len" p) [e] [] pos) (tCB (rLn K) (tCons te tNil)) := by
  subst hK
  exact pe_callB call_len_seq hg m PySem.boot_len (pa_cons h pa_nil he) (by decide) (by decide) he hpl
theorem pe_all (m : X.mg "all" = none) (hc : X.calm = true) (h : PE X e te) (hK : X.K = K := by rfl) (hg : Gl X "all" := by rfl)
    (he : starEach [e] X.env = (false, eval e X.env) :: starEach [] X.env := by rfl) (hpl : (backTo pos (starEach [] X.env)).any (·.1) = false := by rfl) : PE X (.Call (.Name "all" p) [e] [] pos) (tCB (rAll K) (tCons te tNil)) := by
  subst hK
  exact pe_callB (cr_all hc) hg m (by decide +kernel) (pa_cons h pa_nil he) (by decide) (by decide) he hpl
/-- not all(..) as a test -/
theorem pt_nall (m : X.mg "all" = none) (hc : X.calm = true) (h : PE X e te) {q : Pos} (hK : X.K = K := by rfl) (hg : Gl X "all" := by rfl)
    (he : starEach [e] X.env = (false, eval e X.env) :: starEach [] X.env := by rfl) (hpl : (backTo pos (starEach [] X.env)).any (·.1) = false := by rfl) : PT X (.UnaryOp .Not (.Call (.Name "all" p) [e] [] pos) q) (tNot (tB (tCB (rAll K) (tCons te tNil)))) :=
  pt_not (pt_val (pe_all K m hc h hK hg he hpl))
/-- xs[0], t[i] -/
theorem pe_il {a b : Expr} {ta tb : TE} (ha : PE X a ta) (hb : PE X b tb) (hK : X.K = K := by rfl) (hs : PlainIx b := by exact fun _ _ => rfl) : PE X (.Subscript a b pos) (tOp (rIxL K) ta tb) := by
  subst hK
  exact pe_ix ix_list ha hb hs
theorem pe_it {a b : Expr} {ta tb : TE} (ha : PE X a ta) (hb : PE X b tb) (hK : X.K = K := by rfl) (hs : PlainIx b := by exact fun _ _ => rfl) : PE X (.Subscript a b pos) (tOp (rIxT K) ta tb) := by
  subst hK
  exact pe_ix ix_tup ha hb hs
theorem pe_fl {f : Str} (h : PE X e te) (hK : X.K = K := by rfl) (hb : attributeBase e f X.env (eval e X.env) = eval e X.env := by rfl) : PE X (.Attribute e f pos) (tFld K te f) := by
  subst hK
  exact pe_fld h hb
theorem pt_inK {a b : Expr} {ta tb : TE} (ha : PE X a ta) (hb : PE X b tb) (hm : behindInMarks .In b = false := by rfl) (hK : X.K = K := by rfl) : PT X (.Compare a [.In] [b] pos) (tTest (tOp (rIn K false) ta tb)) := by
  subst hK
  exact pt_cmpR op_in_seq ha hb hm
theorem pt_notInK {a b : Expr} {ta tb : TE} (ha : PE X a ta) (hb : PE X b tb) (hm : behindInMarks .NotIn b = false := by rfl) (hK : X.K = K := by rfl) : PT X (.Compare a [.NotIn] [b] pos) (tTest (tOp (rIn K true) ta tb)) := by
  subst hK
  exact pt_cmpR op_notIn_seq ha hb hm
end
theorem all_true {l : List V} : l.filter (fun _ => true) = l := List.filter_eq_self.mpr fun _ _ => rfl
end Dw
namespace Dw
open PySem PySem.Spec PyProof.Rows L2
section
variable {P : Program} {w : World} {K : PySem.W.Frag} {mg : Str → Option Value} {base : Heap} {f : Addr} {fd : FuncData}
/-! ### byte_bits -/
def spBits : Sp := fun vs H Q _ => ∃ v : Nat, vs = [nV v] ∧ ∀ H' p, Same H H' → H p = none → H' p = some (.lst (nVs (bitsOf v))) → Q (.ref p) H'
theorem sc_bits : FnScope ["value", "weight"] ["value"] (C8.fnScope s_byte_bits) := C8.fnScope_by (by decide +kernel)
theorem c_bits (F : C8.Def K mg "byte_bits" s_byte_bits f fd) (b : Binds K fd ["value"] []) (T : Tx K mg) : C8.Cal P w K mg base 1 "byte_bits" spBits [] := by
  refine C8.cal0 F b .nil sc_bits (fun vs H Q E h => ?_) (fun cdv A outer s H vs Q E hr h => ?_)
  · obtain ⟨v, rfl, _⟩ := h
    rfl
  · obtain ⟨v, rfl, q⟩ := h
    obtain ⟨wa, mw, sw⟩ := T.wts
    refine ⟨_, pss_one (ps_ret (pe_lc (own := [("weight", 1)]) (g := gName 1) (tt := tYes) rfl sc_bits.nd (pi_tup (C8.pe_gc (v := .ref wa) (by rfl) ⟨_, mw, rfl⟩))
      (blkOk_by (N := ["value", "weight"]) (sc := C8.fnScope s_byte_bits) (by decide +kernel)) (fun _ _ _ _ _ => pg_name (i := 1) sc_bits.nd rfl (Or.inl rfl)) (fun _ _ _ _ _ => pts_nil)
      (fun _ _ _ _ _ => pe_op op_mod (pe_op op_fdiv (pv 0) (pv 1)) pe_int))), ?_⟩
    refine ⟨wa, rfl, ⟨_, sw H⟩, fun D hD => ?_⟩
    refine lc_pureT (fun _ => true) (nF fun w => v / w % 2) (sw H) hD (by decide) (fun i x H' hx sm Nx Kp k => ?_) (fun H' sm hd => ?_)
    · obtain ⟨n, hn, rfl⟩ := nVs_at hx
      refine ⟨rfl, tt_yes ?_⟩
      have k' := k_yes k H' (Same.refl _)
      have hn2 : 0 < n ∧ n < 1073741824 := (by decide : ∀ n ∈ WTS, 0 < n ∧ n < 1073741824) n (List.mem_of_getElem? hn)
      refine ⟨_, rfl, _, rfl, _, _, rfl, rfl, ⟨by show (0 : Int) < (n : Int); omega, by show (n : Int) < 1073741824; omega⟩, _, _, rfl, rfl, (by show (0 : Int) < 2; decide), ?_⟩
      exact k'
    · rw [all_true, map_nF] at hd
      exact q H' D sm hD hd
/-! ### exclusive -/
def spExcl : Sp := fun vs H Q _ => ∃ a b : Nat, vs = [nV a, nV b] ∧ Q (nV (a ^^^ b)) H
theorem sc_excl : FnScope ["first", "second"] ["first", "second"] (C8.fnScope s_exclusive) := C8.fnScope_by (by decide +kernel)
theorem xorV (a b : Nat) : V.int (Builtin.bitXor (a : Int) (b : Int)) = nV (a ^^^ b) := by
  rw [Bits.bitXor_pp (Int.natCast_nonneg a) (Int.natCast_nonneg b), Int.toNat_natCast, Int.toNat_natCast]
  rfl
theorem c_excl (F : C8.Def K mg "exclusive" s_exclusive f fd) (b : Binds K fd ["first", "second"] []) : C8.Cal P w K mg base 1 "exclusive" spExcl [] := by
  refine C8.cal0 F b .nil sc_excl (fun vs H Q E h => ?_) (fun cdv A outer s H vs Q E hr h => ?_)
  · obtain ⟨a, b, rfl, _⟩ := h
    rfl
  · obtain ⟨a, b, rfl, q⟩ := h
    refine ⟨_, pss_one (ps_ret (pe_op op_xor (pv 0) (pv 1))), ?_⟩
    refine ⟨_, rfl, _, rfl, _, _, rfl, rfl, ?_⟩
    show Q (V.int (Builtin.bitXor (a : Int) (b : Int))) H
    rw [xorV]
    exact q
/-! ### step -/
def spStep : Sp := fun vs H Q _ => ∃ n v : Nat, vs = [nV n, nV v] ∧ n < 65536 ∧ ∀ H', Same H H' → Q (nV (stepB n v)) H'
theorem sc_step : FnScope ["number", "value", "bit", "top"] ["number", "value"] (C8.fnScope s_step) := C8.fnScope_by (by decide +kernel)
theorem foldB_snoc {l : List Nat} {n b : Nat} : foldB n (l ++ [b]) = stepBit (foldB n l) b := by
  unfold foldB
  rw [List.foldl_append]
  rfl
theorem c_step (F : C8.Def K mg "step" s_step f fd) (b : Binds K fd ["number", "value"] []) (T : Tx K mg) (cB : C8.Cal P w K mg base 1 "byte_bits" spBits []) (cX : C8.Cal P w K mg base 1 "exclusive" spExcl []) : C8.Cal P w K mg base 2 "step" spStep [] := by
  refine C8.cal0 F b .nil sc_step (fun vs H Q E h => ?_) (fun cdv A outer s H vs Q E hr h => ?_)
  · obtain ⟨n, v, rfl, _⟩ := h
    rfl
  · obtain ⟨n, v, rfl, hn, q⟩ := h
    refine ⟨_, pss_cons (ps_for PassesOwn.never rfl (pi_list (C8.pe_c cB hr (Nat.le_refl _) (by rfl) (pa_cons (pv 1) pa_nil))) (pg_name (i := 2) sc_step.nd rfl (Or.inl rfl))
        (pss_cons (ps_set (i := 3) sc_step.nd rfl (Or.inl rfl) (pe_op op_fdiv (pv 0) (C8.pe_gc (by rfl) (gi T.top))))
        (pss_cons (ps_set (i := 0) sc_step.nd rfl (Or.inl rfl) (pe_op op_mod (pe_op op_mul pe_int (pv 0)) (C8.pe_gc (by rfl) (gi T.word))))
        (pss_one (ps_if (pt_cmpR op_ne (pv 3) (pv 2) (nomark _)) (pss_one (ps_set (i := 0) sc_step.nd rfl (Or.inl rfl) (C8.pe_c cX hr (Nat.le_refl _) (by rfl) (pa_cons (pv 0) (pa_cons (C8.pe_gc (by rfl) (gi T.mask)) pa_nil))))) pss_nil)))))
      (pss_one (ps_ret (pv 0))), ?_⟩
    refine ⟨_, rfl, v, rfl, fun H1 p s1 hp hd => ?_⟩
    refine ⟨p, rfl, ⟨_, SqL.of hd⟩, for_list (K := K) (a := p) (xs := nVs (bitsOf v)) (fun i σ H' => ∃ x2 x3, σ = [some (nV (foldB n ((bitsOf v).take i))), some (nV v), x2, x3] ∧ Same H1 H') ⟨none, none, rfl, Same.refl _⟩ (fun i σ H' _ ⟨_, _, _, s2⟩ => s2.seq (SqL.of hd)) ?_ ?_⟩
    · rintro i y σ H2 hi ⟨x2, x3, rfl, s2⟩
      obtain ⟨bit, hb, rfl⟩ := nVs_at hi
      have hlt := foldB_lt ((bitsOf v).take i) hn
      have hb2 : bit < 2 := bitsOf_lt (List.mem_of_getElem? hb)
      rw [take_snoc hb, foldB_snoc]
      generalize foldB n ((bitsOf v).take i) = m at hlt ⊢
      refine ⟨_, rfl, _, _, rfl, rfl, ⟨by decide, by decide⟩, ?_⟩
      refine ⟨_, rfl, _, _, rfl, rfl, .inl ⟨by decide, by decide⟩, _, _, rfl, rfl, (by show (0 : Int) < 65536; decide), ?_⟩
      refine ⟨_, rfl, _, rfl, rfl, _, rfl, ?_⟩
      have ed : decide (V.int ((m : Int) / 32768) = nV bit) = decide (m / 32768 = bit) := by
        refine decide_eq_decide.mpr ⟨fun e => ?_, fun e => ?_⟩
        · have e2 := V.int.inj e
          omega
        · show V.int _ = V.int _
          congr 1
          omega
      have em : V.int (2 * (m : Int) % 65536) = nV (shf m) := by
        show V.int _ = V.int _
        congr 1
      show if (!decide (V.int ((m : Int) / 32768) = nV bit)) = true then _ else _
      rw [ed]
      by_cases c : m / 32768 = bit
      · rw [decide_eq_true c]
        refine iteF ?_
        refine ⟨some (nV bit), some (.int ((m : Int) / 32768)), ?_, s2⟩
        rw [show stepBit m bit = shf m from if_neg (fun z => z c), ← em]
        rfl
      · rw [decide_eq_false c]
        refine iteT ?_
        refine ⟨_, rfl, shf m, 4129, ?_, ?_⟩
        · show [V.int (2 * (m : Int) % 65536), V.int 4129] ++ [] = _
          rw [em]
          rfl
        · refine ⟨some (nV bit), some (.int ((m : Int) / 32768)), ?_, s2⟩
          rw [show stepBit m bit = shf m ^^^ 4129 from if_pos c]
          rfl
    · rintro σ H2 ⟨x2, x3, rfl, s2⟩
      rw [nVs_len, List.take_length]
      exact ⟨_, rfl, q H2 (s1.trans s2)⟩
/-! ### crc -/
def spCrc (K : PySem.W.Frag) : Sp := fun vs H Q _ => ∃ (a : Addr) (bs : List Nat), vs = [.ref a] ∧ SqL K H a (nVs bs) ∧ ∀ H', Same H H' → Q (nV (crcN bs)) H'
theorem sc_crc : FnScope ["values", "number", "value"] ["values"] (C8.fnScope s_crc) := C8.fnScope_by (by decide +kernel)
theorem c_crc (F : C8.Def K mg "crc" s_crc f fd) (b : Binds K fd ["values"] []) (T : Tx K mg) (cS : C8.Cal P w K mg base 2 "step" spStep []) : C8.Cal P w K mg base 3 "crc" (spCrc K) [] := by
  refine C8.cal0 F b .nil sc_crc (fun vs H Q E h => ?_) (fun cdv A outer s H vs Q E hr h => ?_)
  · obtain ⟨a, bs, rfl, _⟩ := h
    rfl
  · obtain ⟨a, bs, rfl, hS, q⟩ := h
    refine ⟨_, pss_cons (ps_set (i := 1) sc_crc.nd rfl (Or.inl rfl) (C8.pe_gc (by rfl) (gi T.start)))
      (pss_cons (ps_for PassesOwn.never rfl (pi_list (pv 0)) (pg_name (i := 2) sc_crc.nd rfl (Or.inl rfl))
        (pss_one (ps_set (i := 1) sc_crc.nd rfl (Or.inl rfl) (C8.pe_c cS hr (Nat.le_refl _) (by rfl) (pa_cons (pv 1) (pa_cons (pv 2) pa_nil))))))
      (pss_one (ps_ret (pv 1)))), ?_⟩
    refine ⟨_, rfl, a, rfl, ⟨_, hS⟩, for_list (K := K) (a := a) (xs := nVs bs) (fun i σ H' => ∃ x2 n, σ = [some (.ref a), some (nV n), x2] ∧ n = (bs.take i).foldl stepB 65535 ∧ n < 65536 ∧ Same H H') ⟨none, 65535, rfl, rfl, by decide, Same.refl _⟩ (fun i σ H' _ ⟨_, _, _, _, _, s2⟩ => s2.seq hS) ?_ ?_⟩
    · rintro i y σ H2 hi ⟨x2, n, rfl, en, hn, s2⟩
      obtain ⟨v, hv, rfl⟩ := nVs_at hi
      refine ⟨_, rfl, _, rfl, n, v, rfl, hn, fun H3 s3 => ?_⟩
      refine ⟨some (nV v), stepB n v, rfl, ?_, stepB_lt hn, s2.trans s3⟩
      rw [take_snoc hv, List.foldl_append, ← en]
      rfl
    · rintro σ H2 ⟨x2, n, rfl, en, hn, s2⟩
      rw [nVs_len, List.take_length] at en
      subst en
      exact ⟨_, rfl, q H2 s2⟩
end
end Dw
namespace Dw
open PySem PySem.Spec PyProof.Rows L2
section
variable {P : Program} {w : World} {K : PySem.W.Frag} {mg : Str → Option Value} {base : Heap} {f : Addr} {fd : FuncData}
/-! ### parity -/
def spParity (K : PySem.W.Frag) : Sp := fun vs H Q _ => ∃ (a : Addr) (xs : List V) (ls : List (List Nat)), vs = [.ref a] ∧ SqL K H a xs ∧ LsAt K H xs ls ∧ ls ≠ [] ∧ ls.length ≤ 2000 ∧ (∀ l ∈ ls, l.length = 16) ∧
  ∀ H' p, Same H H' → H p = none → H' p = some (.lst (nVs (parN ls))) → Q (.ref p) H'
theorem sc_par : FnScope ["lists", "values", "found", "one", "other"] ["lists"] (C8.fnScope s_parity) := C8.fnScope_by (by decide +kernel)
theorem rep_zero : (List.replicate (16 : Int).toNat ([V.int 0] : List V)).flatten = nVs zeros := by decide
theorem rep_true {xs : List V} : ((xs.filter fun _ => true).map fun _ => V.bl true) = (List.replicate xs.length true).map V.bl := by
  rw [List.filter_eq_self.mpr fun _ _ => rfl]
  induction xs with
  | nil => rfl
  | cons x xs ih =>
    rw [List.map_cons, ih]
    rfl
theorem all_rep (n : Nat) : (List.replicate n true).all id = true := by
  induction n with
  | zero => rfl
  | succ n ih => exact ih
theorem c_par (F : C8.Def K mg "parity" s_parity f fd) (b : Binds K fd ["lists"] []) (T : Tx K mg) (cX : C8.Cal P w K mg base 1 "exclusive" spExcl []) : C8.Cal P w K mg base 2 "parity" (spParity K) [] := by
  refine C8.cal0 F b .nil sc_par (fun vs H Q E h => ?_) (fun cdv A outer s H vs Q E hr h => ?_)
  · obtain ⟨a, xs, ls, rfl, _⟩ := h
    rfl
  · obtain ⟨a, xs, ls, rfl, hS, hL, hne, hlen, h16, q⟩ := h
    refine ⟨_, pss_cons (ps_if (PW.pt (pw_or (pt_cmpR op_eq (pe_len K T.len (pv 0)) pe_int (nomark _))
        (pw_or1 (pt_nall K T.all rfl (pe_lc (own := [("values", 1)]) (g := gName 1) (tt := tYes) rfl sc_par.nd (pi_list (pv 0))
          (blkOk_by (N := ["lists", "values", "found", "one", "other"]) (sc := C8.fnScope s_parity) (by decide +kernel)) (fun _ _ _ _ _ => pg_name (i := 1) sc_par.nd rfl (Or.inl rfl)) (fun _ _ _ _ _ => pts_nil)
          (fun _ _ _ _ _ => pe_cmpR op_eq (pe_len K T.len (pv 1)) (pe_len K T.len (pe_il K (pv 0) pe_int)) (nomark _))))))) pss_never pss_nil)
      (pss_cons (ps_set (i := 2) sc_par.nd rfl (Or.inl rfl) (pe_op op_rep (pe_lst (pa_cons pe_int pa_nil)) (pe_len K T.len (pe_il K (pv 0) pe_int))))
      (pss_cons (ps_for PassesOwn.never rfl (pi_list (pv 0)) (pg_name (i := 1) sc_par.nd rfl (Or.inl rfl))
        (pss_one (ps_setLc (i := 2) (own := [("one", 3), ("other", 4)]) (g := gTup K 2 (gCons (gName 3) (gCons (gName 4) gNil))) (tt := tYes) rfl sc_par.nd rfl rfl (sw_true rfl rfl rfl (by decide +kernel)) (pi_zip (by rfl) T.zip (pa_cons (pv 2) (pa_cons (pv 1) pa_nil)))
          (blkOk_by (N := ["lists", "values", "found", "one", "other"]) (sc := C8.fnScope s_parity) (by decide +kernel))
          (fun _ _ _ _ _ => pg_tup rfl (pgs_cons (pg_name (i := 3) sc_par.nd rfl (Or.inl rfl)) (pgs_cons (pg_name (i := 4) sc_par.nd rfl (Or.inl rfl)) pgs_nil))) (fun _ _ _ _ _ => pts_nil)
          (fun _ _ _ _ _ => C8.pe_c cX hr (Nat.le_refl _) (by rfl) (pa_cons (pv 3) (pa_cons (pv 4) pa_nil))))))
      (pss_one (ps_ret (pv 2))))), ?_⟩
    obtain ⟨l0, hl0⟩ : ∃ l0, ls[0]? = some l0 := by
      cases ls with
      | nil => exact absurd rfl hne
      | cons l0 r => exact ⟨l0, rfl⟩
    obtain ⟨b0, hb0, hq0⟩ := hL.2 0 l0 hl0
    have z0 : l0.length = 16 := h16 l0 (List.mem_of_getElem? hl0)
    have xlen : 0 < xs.length := (List.getElem?_eq_some_iff.mp hb0).1
    have xl2 : xs.length ≤ 2000 := by rw [hL.1]; exact hlen
    -- len(lists) == 0
    refine ⟨_, rfl, a, _, rfl, .inl hS, rfl, _, rfl, ?_⟩
    have e0 : decide (V.int ((xs.length : Nat) : Int) = V.int 0) = false := decide_eq_false fun e => by
      have e2 := V.int.inj e
      omega
    rw [e0]
    refine iteF ?_
    -- all([..])
    refine ⟨_, rfl, a, rfl, ⟨_, hS⟩, fun D hD => ?_⟩
    refine lc_pure (fun _ => true) (fun _ => .bl true) hS hD (by omega) (fun i x H' hx sm Nx Kp k => ?_) (fun H1 s1 hd => ?_)
    · obtain ⟨l, b, el, rfl, hb⟩ := hL.at_ hx
      have zl : l.length = 16 := h16 l (List.mem_of_getElem? el)
      refine ⟨rfl, tt_yes ?_⟩
      have k' := k_yes k H' (Same.refl _)
      refine ⟨_, rfl, b, _, rfl, .inl (sm.seq hb), _, rfl, a, xs, 0, _, rfl, rfl, sm.seq hS, atI_nat (j := 0) hb0, b0, _, rfl, .inl (sm.seq hq0), rfl, ?_⟩
      rw [nVs_len, nVs_len, zl, z0]
      exact k'
    · rw [rep_true] at hd
      refine ⟨D, _, rfl, SqL.of hd, _, rfl, ?_⟩
      rw [all_rep]
      refine iteF ?_
      -- found = [0] * len(lists[0])
      refine ⟨by show 1 ≤ sizeLine; decide, fun p1 hp1 => ?_⟩
      have s2 : Same H (upd H1 p1 (.lst [.int 0])) := s1.trans (Same.new hp1)
      refine ⟨_, rfl, a, xs, 0, _, rfl, rfl, s2.seq hS, atI_nat (j := 0) hb0, b0, _, rfl, .inl (s2.seq hq0), p1, ((nVs l0).length : Nat), _, rfl, rfl, upd_same, ?_⟩
      rw [nVs_len, z0]
      refine ⟨by decide, by decide, by decide, fun p2 hp2 => ?_⟩
      have s3 := s2.trans (Same.new (o := .lst (List.replicate ((16 : Nat) : Int).toNat ([V.int 0] : List V)).flatten) hp2)
      have hp20 : H p2 = none := s2.free hp2
      refine ⟨_, rfl, a, rfl, ⟨_, s3.seq hS⟩, for_list (K := K) (a := a) (xs := xs) (fun i σ H' => ∃ x1 p, σ = [some (.ref a), x1, some (.ref p), none, none] ∧ Same H H' ∧ H p = none ∧ H' p = some (.lst (nVs ((ls.take i).foldl vxor zeros))) ∧ ((ls.take i).foldl vxor zeros).length = 16)
        ⟨none, p2, rfl, s3, hp20, by rw [upd_same]; exact congrArg (fun z => some (HO.lst z)) rep_zero, rfl⟩ (fun i σ H' _ ⟨_, _, _, s4, _⟩ => s4.seq hS) ?_ ?_⟩
      · rintro i y σ H2 hi ⟨x1, p, rfl, s4, hp, hd4, z4⟩
        obtain ⟨l, b, el, rfl, hb⟩ := hL.at_ hi
        have zl : l.length = 16 := h16 l (List.mem_of_getElem? el)
        rw [take_snoc el, List.foldl_append]
        generalize (ls.take i).foldl vxor zeros = acc at hd4 z4 ⊢
        refine ⟨_, rfl, _, rfl, p, b, _, _, rfl, SqL.of hd4, s4.seq hb, fun D2 hD2 => ?_⟩
        refine lc_zip xF (by rw [nVs_len, nVs_len, z4, zl]) (SqL.of hd4) (s4.seq hb) hD2 (by rw [nVs_len, z4]; decide) (fun j x y T H3 hx hy s5 hT Nx Kp k => ?_) (fun H3 s5 hd5 => ?_)
        · obtain ⟨n, _, rfl⟩ := nVs_at hx
          obtain ⟨m, _, rfl⟩ := nVs_at hy
          refine ⟨T, _, rfl, SqT.of upd_same, rfl, _, _, rfl, _, _, rfl, rfl, ?_⟩
          refine ⟨rfl, tt_yes ?_⟩
          exact ⟨_, rfl, _, rfl, n, m, rfl, k_yes k _ (Same.refl _)⟩
        · rw [zipW_nVs] at hd5
          refine ⟨some (.ref b), D2, rfl, s4.trans s5, s4.free hD2, hd5, vxor_len z4 zl⟩
      · rintro σ H2 ⟨x1, p, rfl, s4, hp, hd4, z4⟩
        rw [hL.1, List.take_length] at hd4
        exact ⟨_, rfl, q H2 p s4 hp hd4⟩
/-! ### is_block -/
def spIsBlock (K : PySem.W.Frag) : Sp := fun vs H Q _ => ∃ (a : Addr) (bs : List Nat), vs = [.ref a] ∧ SqL K H a (nVs bs) ∧ bs.length ≤ 600 ∧ (∀ x ∈ bs, x < 256) ∧ ∀ H', Same H H' → Q (.bl true) H'
theorem sc_isb : FnScope ["values", "value"] ["values"] (C8.fnScope s_is_block) := C8.fnScope_by (by decide +kernel)
theorem c_isb (F : C8.Def K mg "is_block" s_is_block f fd) (b : Binds K fd ["values"] []) (T : Tx K mg) : C8.Cal P w K mg base 1 "is_block" (spIsBlock K) [] := by
  refine C8.cal0 F b .nil sc_isb (fun vs H Q E h => ?_) (fun cdv A outer s H vs Q E hr h => ?_)
  · obtain ⟨a, bs, rfl, _⟩ := h
    rfl
  · obtain ⟨a, bs, rfl, hS, hz, hb, q⟩ := h
    refine ⟨_, pss_one (ps_ret (pe_all K T.all rfl (pe_lc (own := [("value", 1)]) (g := gName 1) (tt := tYes) rfl sc_isb.nd (pi_list (pv 0))
      (blkOk_by (N := ["values", "value"]) (sc := C8.fnScope s_is_block) (by decide +kernel)) (fun _ _ _ _ _ => pg_name (i := 1) sc_isb.nd rfl (Or.inl rfl)) (fun _ _ _ _ _ => pts_nil)
      (fun _ _ _ _ _ => pe_chain op_le op_le pe_int (pv 1) pe_int)))), ?_⟩
    refine ⟨_, rfl, a, rfl, ⟨_, hS⟩, fun D hD => ?_⟩
    refine lc_pure (fun _ => true) (fun _ => .bl true) hS hD (by rw [nVs_len]; omega) (fun i x H' hx sm Nx Kp k => ?_) (fun H1 s1 hd => ?_)
    · obtain ⟨n, en, rfl⟩ := nVs_at hx
      have hn := hb n (List.mem_of_getElem? en)
      refine ⟨rfl, tt_yes ?_⟩
      have k' := k_yes k H' (Same.refl _)
      refine ⟨_, rfl, _, _, rfl, rfl, true, ?_, ?_⟩
      · show V.bl (decide ((0 : Int) ≤ (n : Int))) = _
        rw [decide_eq_true (by omega : (0 : Int) ≤ (n : Int))]
      · refine iteT ⟨_, _, rfl, rfl, ?_⟩
        show Kp (V.bl (decide ((n : Int) ≤ 255))) H'
        rw [decide_eq_true (by omega : (n : Int) ≤ 255)]
        exact k'
    · rw [rep_true] at hd
      refine ⟨D, _, rfl, SqL.of hd, ?_⟩
      rw [all_rep]
      exact q H1 s1
end
end Dw
namespace Dw
open PySem PySem.Spec PyProof.Rows L2
/-! ### pairs of lists -/
theorem pr_R {α β : Type} {F : α → β → Prop} : ∀ {l : List α} {m : List β} {i : Nat} {y : β}, Paired F l m → m[i]? = some y → ∃ x, l[i]? = some x ∧ F x y
  | _, _, _, _, .nil, e => by simp at e
  | _, _, 0, _, .cons r _, e => ⟨_, rfl, by have e2 := Option.some.inj e; subst e2; exact r⟩
  | _, _, i + 1, _, .cons _ t, e => pr_R (i := i) t e
theorem pr_L {α β : Type} {F : α → β → Prop} : ∀ {l : List α} {m : List β} {i : Nat} {x : α}, Paired F l m → l[i]? = some x → ∃ y, m[i]? = some y ∧ F x y
  | _, _, _, _, .nil, e => by simp at e
  | _, _, 0, _, .cons r _, e => ⟨_, rfl, by have e2 := Option.some.inj e; subst e2; exact r⟩
  | _, _, i + 1, _, .cons _ t, e => pr_L (i := i) t e
theorem pr_app {α β : Type} {F : α → β → Prop} : ∀ {l l' : List α} {m m' : List β}, Paired F l m → Paired F l' m' → Paired F (l ++ l') (m ++ m')
  | _, _, _, _, .nil, s => s
  | _, _, _, _, .cons r t, s => .cons r (pr_app t s)
theorem pr_take {α β : Type} {F : α → β → Prop} : ∀ {l : List α} {m : List β} (n : Nat), Paired F l m → Paired F (l.take n) (m.take n)
  | _, _, 0, _ => .nil
  | _, _, _ + 1, .nil => .nil
  | _, _, n + 1, .cons r t => .cons r (pr_take n t)
theorem pr_drop {α β : Type} {F : α → β → Prop} : ∀ {l : List α} {m : List β} (n : Nat), Paired F l m → Paired F (l.drop n) (m.drop n)
  | _, _, 0, r => r
  | _, _, _ + 1, .nil => .nil
  | _, _, n + 1, .cons _ t => pr_drop n t
/-! ### a disc -/
abbrev Row := Option (List Nat)
/-- one row of a disc, its list at an address of R -/
def RowAt (R : Addr → Prop) (H : Hp) (v : V) (r : Row) : Prop := match r with
  | none => v = .non
  | some bs => ∃ b, v = .ref b ∧ R b ∧ H b = some (.lst (nVs bs))
/-- one row that may be read -/
def RdRow (H : Hp) (v : V) (r : Row) : Prop := match r with
  | none => v = .non
  | some bs => ∃ b, v = .ref b ∧ H b = some (.lst (nVs bs))
def dF (l : Addr) : List (Str × V) := [("size", .int 16), ("rows", .ref l)]
def Fine (rows : List Row) : Prop := ∀ bs, some bs ∈ rows → Blk bs
structure Disc (C : Addr) (R : Addr → Prop) (H : Hp) (d : Addr) (rows : List Row) : Prop where
  ex : ∃ dx l as, H d = some (.ins C dx (dF l)) ∧ H l = some (.lst as) ∧ R l ∧ Paired (RowAt R H) as rows
  at_ : R d
  fine : Fine rows
  len : rows.length ≤ 2000
  one : ∃ bs, some bs ∈ rows
theorem RowAt.same {R : Addr → Prop} {H H' : Hp} {v : V} {r : Row} (s : ∀ b o, R b → H b = some o → H' b = some o) (h : RowAt R H v r) : RowAt R H' v r := by
  cases r with
  | none => exact h
  | some bs =>
    obtain ⟨b, e, r, hb⟩ := h
    exact ⟨b, e, r, s _ _ r hb⟩
theorem RowAt.weak {R R' : Addr → Prop} {H : Hp} {v : V} {r : Row} (s : ∀ b, R b → R' b) (h : RowAt R H v r) : RowAt R' H v r := by
  cases r with
  | none => exact h
  | some bs =>
    obtain ⟨b, e, r, hb⟩ := h
    exact ⟨b, e, s _ r, hb⟩
theorem RowAt.rd {R : Addr → Prop} {H : Hp} {v : V} {r : Row} (h : RowAt R H v r) : RdRow H v r := by
  cases r with
  | none => exact h
  | some bs =>
    obtain ⟨b, e, r, hb⟩ := h
    exact ⟨b, e, hb⟩
theorem RdRow.same {H H' : Hp} {v : V} {r : Row} (s : Same H H') (h : RdRow H v r) : RdRow H' v r := by
  cases r with
  | none => exact h
  | some bs =>
    obtain ⟨b, e, hb⟩ := h
    exact ⟨b, e, s _ _ hb⟩
theorem Disc.same {C : Addr} {R : Addr → Prop} {H H' : Hp} {d : Addr} {rows : List Row} (s : ∀ b o, R b → H b = some o → H' b = some o) (h : Disc C R H d rows) : Disc C R H' d rows := by
  obtain ⟨dx, l, as, h1, h2, h3, h4⟩ := h.ex
  exact ⟨⟨dx, l, as, s _ _ h.at_ h1, s _ _ h3 h2, h3, Paired.mono (fun _ _ z => z.same s) h4⟩, h.at_, h.fine, h.len, h.one⟩
theorem Disc.weak {C : Addr} {R R' : Addr → Prop} {H : Hp} {d : Addr} {rows : List Row} (s : ∀ b, R b → R' b) (h : Disc C R H d rows) : Disc C R' H d rows := by
  obtain ⟨dx, l, as, h1, h2, h3, h4⟩ := h.ex
  exact ⟨⟨dx, l, as, h1, h2, s _ h3, Paired.mono (fun _ _ z => z.weak s) h4⟩, s _ h.at_, h.fine, h.len, h.one⟩
theorem dF_size (l : Addr) : (dF l).lookup ("size" : Str) = some (.int 16) := by
  have e : (("size" : Str) == "size") = true := beq_self_eq_true _
  unfold dF
  simp only [List.lookup, e]
theorem dF_rows (l : Addr) : (dF l).lookup ("rows" : Str) = some (.ref l) := by
  have e : (("rows" : Str) == "size") = false := by decide +kernel
  have e' : (("rows" : Str) == "rows") = true := beq_self_eq_true _
  unfold dF
  simp only [List.lookup, e, e']
theorem dF_no (l : Addr) {m : Str} (h1 : (m == "size") = false) (h2 : (m == "rows") = false) : (dF l).lookup m = none := by
  unfold dF
  simp only [List.lookup, h1, h2]
theorem sr_ : ¬ (("size" : Str) = "rows") := by decide +kernel
theorem dF_mk (l : Addr) : putF "rows" (.ref l) (putF "size" (.int 16) []) = dF l := by
  show (if ("size" : Str) = "rows" then [(("size" : Str), V.ref l)] else (("size" : Str), V.int 16) :: putF "rows" (V.ref l) []) = dF l
  rw [if_neg sr_]
  rfl
/-- what the class is -/
structure TC (K : PySem.W.Frag) (mg : Str → Option Value) (C : Addr) : Prop where
  cl : Cls K C
  nS : NoAttr K C "size"
  nR : NoAttr K C "rows"
/-- the rows that are there -/
def haves (rows : List Row) : List (List Nat) := rows.filterMap id
def isRef (v : V) : Bool := !decide (v = .non)
theorem haves_at {K : PySem.W.Frag} {H : Hp} : ∀ {bl : List V} {rows : List Row}, Paired (RdRow H) bl rows → Paired (fun v l => ∃ b, v = .ref b ∧ SqL K H b (nVs l)) (bl.filter isRef) (haves rows)
  | _, _, .nil => .nil
  | v :: vs, none :: rs, .cons r t => by
    have e : v = .non := r
    subst e
    show Paired _ (vs.filter isRef) (haves rs)
    exact haves_at t
  | v :: vs, some l :: rs, .cons r t => by
    obtain ⟨b, rfl, hb⟩ := r
    show Paired _ (V.ref b :: vs.filter isRef) (l :: haves rs)
    exact .cons ⟨b, rfl, SqL.of hb⟩ (haves_at t)
theorem ls_of {K : PySem.W.Frag} {H : Hp} {xs : List V} {ls : List (List Nat)} (h : Paired (fun v l => ∃ b, v = V.ref b ∧ SqL K H b (nVs l)) xs ls) : LsAt K H xs ls :=
  ⟨Paired.length h, fun i l e => by
    obtain ⟨x, h1, b, rfl, h2⟩ := pr_R h e
    exact ⟨b, h1, h2⟩⟩
theorem mem_haves {rows : List Row} {l : List Nat} (h : l ∈ haves rows) : some l ∈ rows := by
  obtain ⟨a, h1, h2⟩ := List.mem_filterMap.mp h
  have e : a = some l := h2
  rw [← e]
  exact h1
theorem haves_ne {rows : List Row} (h : ∃ bs, some bs ∈ rows) : haves rows ≠ [] := by
  obtain ⟨bs, h⟩ := h
  have m : bs ∈ haves rows := List.mem_filterMap.mpr ⟨some bs, h, rfl⟩
  intro e
  rw [e] at m
  cases m
section
variable {P : Program} {w : World} {K : PySem.W.Frag} {mg : Str → Option Value} {base : Heap} {f C : Addr} {fd : FuncData}
/-! ### BlockDisc.__init__ -/
def spInit (C : Addr) : Sp := fun vs H Q _ => ∃ (p dx a : Addr) (bl : List V) (rows : List Row), vs = [.ref p, .ref a] ∧ H p = some (.ins C dx []) ∧ H a = some (.lst bl) ∧ Paired (RdRow H) bl rows ∧ Fine rows ∧ rows.length ≤ 2000 ∧ (∃ bs, some bs ∈ rows) ∧
  ∀ H', (∀ b o, H b = some o → b ≠ p → H' b = some o) → Disc C (fun x => x = p ∨ H x = none) H' p rows → Q .non H'
theorem sc_init : FnScope ["self", "blocks", "there", "block"] ["self", "blocks"] (C8.fnScope s_init) := C8.fnScope_by (by decide +kernel)
theorem and_true {c : Bool} (h : c = true) {A : Prop} {B : Prop} (a : A) : if c = true then A else B := by
  rw [if_pos h]
  exact a
theorem c_init {C : Addr} (M : Mk K C f) (hm : mg "BlockDisc" = some (.ref C)) (F : C8.Fun K "__init__" "BlockDisc.__init__" s_init f fd) (b : Binds K fd ["self", "blocks"] []) (T : Tx K mg) (TD : TC K mg C) (cI : C8.Cal P w K mg base 1 "is_block" (spIsBlock K) []) :
    C8.Mak P w K mg base 2 "BlockDisc" C (spInit C) [] := by
  refine C8.mak0 M hm F b .nil sc_init (fun vs H Q E h => ?_) (fun cdv A outer s H vs Q E hr h => ?_)
  · obtain ⟨p, dx, a, bl, rows, rfl, _⟩ := h
    rfl
  · obtain ⟨p, dx, a, bl, rows, rfl, hp, hA, hB, hF, hlen, hone, q⟩ := h
    have hS : SqL K H a bl := SqL.of hA
    obtain ⟨za, mz, sz⟩ := T.sizs
    refine ⟨_, pss_cons (ps_set (i := 2) sc_init.nd rfl (Or.inr rfl) (pe_lc (own := [("block", 3)]) (g := gName 3) rfl sc_init.nd (pi_list (pv 1))
          (blkOk_by (N := ["self", "blocks", "there", "block"]) (sc := C8.fnScope s_init) (by decide +kernel)) (fun _ _ _ _ _ => pg_name (i := 3) sc_init.nd rfl (Or.inl rfl)) (fun _ _ _ _ _ => pts_one (pt_cmpR op_notN (pv 3) pe_non (nomark _)))
          (fun _ _ _ _ _ => pv 3)))
      (pss_cons (ps_if (PW.pt (pw_or (pt_cmpR op_gt (pe_len K T.len (pv 1)) (C8.pe_gc (by rfl) (gi T.mostB)) (nomark _)) (pw_or (pt_cmpR op_eq (pe_len K T.len (pv 2)) pe_int (nomark _))
          (pw_or1 (pt_notInK K (pe_len K T.len (pe_il K (pv 2) pe_int)) (C8.pe_gc (v := .ref za) (by rfl) ⟨_, mz, rfl⟩)))))) pss_never pss_nil)
      (pss_cons (ps_if (pt_nall K T.all rfl (pe_lc (own := [("block", 3)]) (g := gName 3) (tt := tYes) rfl sc_init.nd (pi_list (pv 2))
          (blkOk_by (N := ["self", "blocks", "there", "block"]) (sc := C8.fnScope s_init) (by decide +kernel)) (fun _ _ _ _ _ => pg_name (i := 3) sc_init.nd rfl (Or.inl rfl)) (fun _ _ _ _ _ => pts_nil)
          (fun _ _ _ _ _ => pe_and (pe_cmpR op_eq (pe_len K T.len (pv 3)) (pe_len K T.len (pe_il K (pv 2) pe_int)) (nomark _)) (pe_one (C8.pe_c cI hr (Nat.le_refl _) (by rfl) (pa_cons (pv 3) pa_nil)))))) pss_never pss_nil)
      (pss_cons (ps_fld (pv 0) (pe_len K T.len (pe_il K (pv 2) pe_int)) rfl)
      (pss_cons (ps_fld (pv 0) (pe_lst pa_nil) rfl)
      (pss_one (ps_for PassesOwn.never rfl (pi_list (pv 1)) (pg_name (i := 3) sc_init.nd rfl (Or.inl rfl))
        (pss_cons (ps_if (pt_cmpR op_notN (pv 3) pe_non (nomark _)) (pss_one (ps_set (i := 3) sc_init.nd rfl (Or.inl rfl) (pe_callTy call_list_of (by rfl) T.list (by decide +kernel) (pa_cons (pv 3) pa_nil)))) pss_nil)
        (pss_one (ps_expr (pe_bm PySem.F.plainAttrs_list PySem.F.slot_list_append PySem.F.type_list_append mt_append (pe_fld (pv 0) rfl) (pa_cons (pv 3) pa_nil))))))))))), ?_⟩
    have hbl : bl.length ≤ 2000 := by rw [Paired.length hB]; exact hlen
    -- there = [..]
    refine ⟨_, rfl, a, rfl, ⟨_, hS⟩, fun D hD => ?_⟩
    refine lc_pure isRef (fun x => x) hS hD (by omega) (fun i x H' hx sm Nx Kp k => ?_) (fun H1 s1 hd => ?_)
    · refine ⟨rfl, ?_⟩
      have k' := k H' (Same.refl _)
      refine ⟨_, rfl, rfl, _, rfl, ?_⟩
      show if isRef x = true then _ else _
      cases e : isRef x with
      | true =>
        rw [e, if_pos rfl] at k'
        exact iteT ⟨_, rfl, k'⟩
      | false =>
        rw [e, if_neg Bool.false_ne_true] at k'
        exact iteF k'
    · rw [map_self] at hd
      have hP := haves_at (K := K) hB
      have hL : LsAt K H (bl.filter isRef) (haves rows) := ls_of hP
      have hL1 : LsAt K H1 (bl.filter isRef) (haves rows) := hL.same s1
      obtain ⟨l0, hl0⟩ : ∃ l0, (haves rows)[0]? = some l0 := by
        cases e : haves rows with
        | nil => exact absurd e (haves_ne hone)
        | cons l0 r => exact ⟨l0, rfl⟩
      obtain ⟨b0, hb0, hq0⟩ := hL1.2 0 l0 hl0
      have z0 : l0.length = 16 := (hF l0 (mem_haves (List.mem_of_getElem? hl0))).1
      have tlen : 0 < (bl.filter isRef).length := (List.getElem?_eq_some_iff.mp hb0).1
      have tlen2 : (bl.filter isRef).length ≤ 2000 := Nat.le_trans (List.length_filter_le _ _) hbl
      generalize hT : bl.filter isRef = th at hd hL hL1 hb0 tlen tlen2
      -- the first test
      refine ⟨_, rfl, a, _, rfl, .inl (s1.seq hS), _, _, rfl, rfl, _, rfl, ?_⟩
      have e1 : decide ((2000 : Int) < ((bl.length : Nat) : Int)) = false := decide_eq_false (by omega)
      rw [e1]
      refine iteF ?_
      refine ⟨_, rfl, D, _, rfl, .inl (SqL.of hd), rfl, _, rfl, ?_⟩
      have e2 : decide (V.int ((th.length : Nat) : Int) = V.int 0) = false := decide_eq_false fun e => by
        have e2 := V.int.inj e
        omega
      rw [e2]
      refine iteF ?_
      refine ⟨_, rfl, D, th, 0, _, rfl, rfl, SqL.of hd, atI_nat (j := 0) hb0, b0, _, rfl, .inl hq0, za, _, rfl, .inr (sz _), rfl, by decide, _, rfl, ?_⟩
      rw [nVs_len, z0]
      refine iteF ?_
      -- the second test
      refine ⟨_, rfl, D, rfl, ⟨_, SqL.of hd⟩, fun D2 hD2 => ?_⟩
      refine lc_pure (fun _ => true) (fun _ => .bl true) (SqL.of hd) hD2 (by omega) (fun i x H' hx sm Nx Kp k => ?_) (fun H2 s2 hd2 => ?_)
      · obtain ⟨l, b, el, rfl, hb⟩ := (hL1.same sm).at_ hx
        obtain ⟨zl, zb⟩ := hF l (mem_haves (List.mem_of_getElem? el))
        refine ⟨rfl, tt_yes ?_⟩
        have k' := k_yes k
        refine ⟨_, rfl, b, _, rfl, .inl hb, _, rfl, D, th, 0, _, rfl, rfl, sm.seq (SqL.of hd), atI_nat (j := 0) hb0, b0, _, rfl, .inl (sm.seq hq0), rfl, true, ?_, iteT ?_⟩
        · rw [nVs_len, nVs_len, zl, z0]
          rfl
        · exact ⟨_, rfl, b, l, rfl, hb, by omega, zb, fun H3 s3 => k' H3 s3⟩
      · rw [rep_true] at hd2
        refine ⟨D2, _, rfl, SqL.of hd2, _, rfl, ?_⟩
        rw [all_rep]
        refine iteF ?_
        have s12 := s1.trans s2
        have hp2 := s12 _ _ hp
        -- self.size = ..
        refine ⟨_, rfl, D, th, 0, _, rfl, rfl, s2.seq (SqL.of hd), atI_nat (j := 0) hb0, b0, _, rfl, .inl (s2.seq hq0), _, rfl, p, C, dx, [], rfl, hp2, TD.cl, TD.nS, (by show 0 < 1000; decide), ?_⟩
        rw [nVs_len, z0]
        -- self.rows = []
        refine ⟨Nat.zero_le _, fun l hl => ?_⟩
        have npl : p ≠ l := ne_of_none upd_same hl
        have hl2 : H2 l = none := by
          rw [upd_ne npl.symm] at hl
          exact hl
        have hl0' : H l = none := s12.free hl2
        refine ⟨_, rfl, p, C, dx, _, rfl, (upd_ne npl).trans upd_same, TD.cl, TD.nR, (by show 1 < 1000; decide), ?_⟩
        have ef : putF "rows" (V.ref l) (putF "size" (V.int ((16 : Nat) : Int)) []) = dF l := dF_mk l
        rw [ef]
        -- the loop
        have keep0 : ∀ b o, H b = some o → b ≠ p → (upd (upd (upd H2 p (.ins C dx (putF "size" (V.int ((16 : Nat) : Int)) []))) l (.lst [])) p (.ins C dx (dF l))) b = some o := fun b o e hb => by
          rw [upd_ne hb, upd_ne (ne_of_none e hl0'), upd_ne hb]
          exact s12 _ _ e
        have seqk : ∀ {H' : Hp}, (∀ b o, H b = some o → b ≠ p → H' b = some o) → ∀ {b : Addr} {xs : List V}, H b = some (.lst xs) → H' b = some (.lst xs) := fun {H'} k {b xs} h =>
          k _ _ h (ne_of h hp (by intro z; cases z))
        refine ⟨_, rfl, a, rfl, ⟨_, SqL.of (seqk keep0 hA)⟩, for_list (K := K) (a := a) (xs := bl) (fun i σ H' => ∃ x3 acc, σ = [some (.ref p), some (.ref a), some (.ref D), x3] ∧ (∀ b o, H b = some o → b ≠ p → H' b = some o) ∧ H' p = some (.ins C dx (dF l)) ∧ H' l = some (.lst acc) ∧ Paired (RowAt (fun b => H b = none ∧ b ≠ l ∧ b ≠ p) H') acc (rows.take i))
          ⟨none, [], rfl, keep0, upd_same, by rw [upd_ne npl.symm, upd_same], .nil⟩ (fun i σ H' _ ⟨_, _, _, k, _⟩ => SqL.of (seqk k hA)) ?_ ?_⟩
        · rintro i y σ H3 hi ⟨x3, acc, rfl, k3, hp3, hl3, P3⟩
          obtain ⟨r, hr', hy⟩ := pr_L hB hi
          have hlt : i < rows.length := (List.getElem?_eq_some_iff.mp hr').1
          have accl : acc.length ≤ 2000 := by
            rw [Paired.length P3]
            exact Nat.le_trans (List.length_take_le' _ _) hlen
          rw [take_snoc hr']
          cases r with
          | none =>
            have e : y = .non := hy
            subst e
            refine ⟨_, rfl, rfl, _, rfl, iteF ?_⟩
            refine ⟨_, rfl, p, C, dx, _, _, rfl, hp3, TD.cl, TD.nR, dF_rows l, .inl ⟨rfl, _, SqL.of hl3⟩, _, rfl, l, _, _, rfl, rfl, hl3, small (by omega), ?_⟩
            refine ⟨some .non, acc ++ [.non], rfl, fun b o e hb => ?_, ?_, upd_same, ?_⟩
            · rw [upd_ne (ne_of_none e hl0')]
              exact k3 _ _ e hb
            · rw [upd_ne npl]
              exact hp3
            · refine pr_app (Paired.mono (fun _ _ z => z.same fun b o rb e => ?_) P3) (.cons rfl .nil)
              rw [upd_ne rb.2.1]
              exact e
          | some bs =>
            obtain ⟨b, rfl, hb⟩ := hy
            have hb3 := seqk k3 hb
            refine ⟨_, rfl, rfl, _, rfl, iteT ?_⟩
            refine ⟨_, rfl, b, _, rfl, .inl (SqL.of hb3), fun nw hnw => ?_⟩
            have nwl : nw ≠ l := (ne_of_none hl3 hnw).symm
            have nwp : nw ≠ p := (ne_of_none hp3 hnw).symm
            have hnwH : H nw = none := by
              cases e : H nw with
              | none => rfl
              | some o =>
                have z := k3 _ _ e nwp
                rw [hnw] at z
                cases z
            refine ⟨_, rfl, p, C, dx, _, _, rfl, (upd_ne nwp.symm).trans hp3, TD.cl, TD.nR, dF_rows l, .inl ⟨rfl, acc, SqL.of ((upd_ne nwl.symm).trans hl3)⟩, _, rfl, l, acc, _, rfl, rfl, (upd_ne nwl.symm).trans hl3, small (by omega), ?_⟩
            refine ⟨some (.ref nw), acc ++ [.ref nw], rfl, fun c o e hc => ?_, ?_, upd_same, ?_⟩
            · rw [upd_ne (ne_of_none e hl0'), upd_ne (ne_of_none e hnwH)]
              exact k3 _ _ e hc
            · rw [upd_ne npl, upd_ne nwp.symm]
              exact hp3
            · refine pr_app (Paired.mono (fun _ _ z => z.same fun c o rc e => ?_) P3) (.cons ⟨nw, rfl, ⟨hnwH, nwl, nwp⟩, ?_⟩ .nil)
              · rw [upd_ne nwl, upd_same]
              · rw [upd_ne rc.2.1, upd_ne (ne_of_none e hnw)]
                exact e
        · rintro σ H3 ⟨x3, acc, rfl, k3, hp3, hl3, P3⟩
          have el : bl.length = rows.length := Paired.length hB
          rw [el, List.take_length] at P3
          refine q H3 k3 ⟨⟨dx, l, acc, hp3, hl3, .inr hl0', Paired.mono (fun _ _ z => z.weak fun b rb => .inr rb.1) P3⟩, .inl rfl, hF, hlen, hone⟩
end
end Dw
namespace Dw
open PySem PySem.Spec PyProof.Rows L2
/-! ### rules that the layer lacks: len of an own instance, != by an own __eq__, xs[i] by values, sorted(d, reverse=True) -/
section
variable {prog : Program} {w : World} {A : Around} {E : Value → Shared → Prop} {s : Shared} {K : PySem.W.Frag} {x y C f L : Addr} {h₀ : Heap} {m : Str → Option Value} {ox oy : Obj} {od od' : Option Obj}
theorem ifBound_B {M : Model} {id : String} {name : Str} {args : List Value} {Q : Option Value → Shared → Prop} (X : K.In s.heap) (I : PySem.W.InstAt s.heap x ox C od) (hs : PySem.W.findIn K (.ref C) name = some (some (.builtin id)))
    (hb : bindSpecial (.builtin id) (.ref x) = pure (.builtin id, [.ref x])) (h : wpAny M A (call (.builtin id) (.ref x :: args)) (fun v => Q (some v)) E s) : wpAny M A (callSpecialIfBound? (.ref x) name args) Q E s := by
  simp only [callSpecialIfBound?, bindSpecialIfBound?]
  refine wpAny_holding (wpAny_bind (wpAny_bind (wpAny_bind (I.type.here ((PySem.W.looks_findIn X hs).here ?_)))))
  simp only [hb]
  refine wpAny_bind (wpAny_askSetting (wpAny_ite ?_))
  have fin : wpAny M A (call (.builtin id) ([.ref x] ++ args) >>= fun v => pure (some v)) Q E s := wpAny_bind (wpAny_mono h (fun v s' h' => wpAny_pure h') fun _ _ h' => h')
  split
  · exact wpAny_bind (wpAny_pure (wpAny_pure fin))
  · exact wpAny_tryCatch (wpAny_bind (wpAny_pure (wpAny_pure fin)))
theorem ne_builtin {Q : Fin → Shared → Prop} (hu : A.units < cLine) (X : K.In s.heap) (I : PySem.W.InstAt s.heap x ox C od) (hs : PySem.W.findIn K (.ref C) "__eq__" = some (some (.ref f))) (hf : PySem.W.isFn K (.ref f) = true)
    (h : wpAny (model prog w) A (call (.ref f) [.ref x, .ref y]) (fun v s' => ∃ b, v = .bool b ∧ Q (.done (.ret (.bool (!b)))) s') E s) : wpAny (model prog w) A (Builtin.«object.__ne__» ⟨[.ref x, .ref y], []⟩) Q E s := by
  unfold Builtin.«object.__ne__»
  refine wpAny_bind (wpAny_pure ?_)
  refine wpAny_bind (wpAny_cRoomFor hu ?_)
  refine wpAny_bind (m := callSpecialIfBound? (.ref x) (Str.ofString "__eq__") [.ref y]) (PySem.W.ifBound_K X I hs hf (wpAny_mono h (fun r s' hr => ?_) fun _ _ e => e))
  obtain ⟨b, rfl, hq⟩ := hr
  refine wpAny_bind (m := truthy (.bool b)) (wpAny_truthy_bool ?_)
  exact wpAny_pure hq
theorem ne_own {Q : Value → Shared → Prop} (hu : A.units + 1 < cLine) (X : K.In s.heap) (I : PySem.W.InstAt s.heap x ox C od) (I' : PySem.W.InstAt s.heap y oy C od') (hs : PySem.W.findIn K (.ref C) "__eq__" = some (some (.ref f))) (hf : PySem.W.isFn K (.ref f) = true)
    (hn : PySem.W.findIn K (.ref C) "__ne__" = some (some (.builtin "object.__ne__"))) (hm : PySem.W.mroIn K C (.type "object") = some true)
    (h : wpAny (model prog w) A.in1 (call (.ref f) [.ref x, .ref y]) (fun v s' => ∃ b, v = .bool b ∧ Q (.bool (!b)) s') E s) : wpAny (model prog w) A (richCompare .NotEq (.ref x) (.ref y)) Q E s := by
  have sub : PySem.W.Looks (model prog w) s.heap (isInstance (.ref x) (.type "object")) true := I.type.andThen (PySem.W.looks_mroIn X hm)
  have S := PySem.F.slot_object_ne
  have one : wpAny (model prog w) A (tryCompare (.ref x) (cmpInfo .NotEq).2.1 (.ref y)) (fun r s' => ∃ v, r = some v ∧ Q v s') E s := by
    unfold tryCompare
    refine wpAny_bind (ifBound_B X I hn (S.bind _) (wpAny_call (codeAny_call_builtin S.plain PySem.F.cmpEntry_ne
      (@PySem.W.check_slot (model prog w) _ _ _ "object.__ne__" "object" "__ne__" (.ref x) [.ref y] [] _ (by decide +kernel) (by decide +kernel) sub (PySem.F.cmpArgs_ne _ _)
        (ne_builtin (A := A.in1) (by show A.units + 1 < cLine; exact hu) X I hs hf (wpAny_mono h (fun v s' hv => ?_) fun _ _ e => e))))))
    obtain ⟨b, rfl, hq⟩ := hv
    first | exact ⟨b, rfl, wpAny_pure ⟨_, rfl, hq⟩⟩ | exact ⟨b, rfl, wpAny_pure (wpAny_pure ⟨_, rfl, hq⟩)⟩ | exact ⟨b, rfl, ⟨_, rfl, hq⟩⟩
  unfold richCompare
  simp only [oneThing_ref]
  refine wpAny_holding (wpAny_bind (wpAny_cRoomFor (Nat.lt_of_succ_lt hu) ?_))
  refine wpAny_bind (I.type.here (wpAny_bind (I'.type.here ?_)))
  rw [if_neg (by simp)]
  refine wpAny_bind (wpAny_pure ?_)
  simp only [Bool.false_eq_true, if_false]
  refine wpAny_bind (wpAny_mono one (fun r s' z => ?_) fun _ _ e => e)
  obtain ⟨v, rfl, hq⟩ := z
  exact wpAny_pure hq
end
section
variable {X : Cx} {C : Addr} {k : Nat} {sp : Sp}
/-- len(o), o an instance with an own __len__ -/
def rLenOwn (C : Addr) (sp : Sp) : List V → Hp → VK → Prop := fun xs H Q => ∃ a dx fs, xs = [.ref a] ∧ H a = some (.ins C dx fs) ∧ sp [.ref a] H (fun z H' => ∃ n : Nat, z = nV n ∧ n ≤ 100000 ∧ Q z H') C8.E0
theorem call_lenOwn {j : Nat} (c : C8.Met X.prog X.w X.K X.mg X.base k C "__len__" sp []) (hr : Room j X.A) (hk : k + 1 ≤ j) : CallR X (.builtin "len") (rLenOwn C sp) := by
  obtain ⟨f, fd, ps, ds, hc, hm, F, b, d⟩ := c.ex
  intro pins s σ H xs us Q I r h
  obtain ⟨a, dx, fs, rfl, ha, q⟩ := h
  obtain ⟨u, rfl, ru⟩ := vals1 r
  cases ru
  obtain ⟨mA, J, _⟩ := ins_get I.hok ha
  obtain ⟨od, J, _⟩ := J.look
  obtain ⟨m, hF⟩ := I.fr
  have hr1 : Room k X.A.in1 := (hr.mono hk).in1
  refine PySem.W.len_K hF I.ok.mod.kin J hm.at_ hm.fn ?_
  have hl := F.len _ _ _ _ q
  cases d
  refine wpAny_call (codeAny_mono (F.run X.A.in1 X.stack s H ⟨[.ref a], []⟩ [.ref a] [.ref a] _ C8.E0 hr1 I.env0.in1 (by
    have z := b s [.ref a] I.kIn (by simpa using hl)
    simpa using z) (.cons rfl .nil) q) fun r s' hq => ?_)
  cases r with
  | error e => exact False.elim hq
  | ok fl =>
    cases fl with
    | ret w =>
      obtain ⟨z, H', I', rz, n, ez, hn, qz⟩ := I.after hq
      subst ez
      obtain ⟨t, rfl⟩ := rz
      refine ⟨⟨by omega, by omega⟩, ?_⟩
      exact ⟨nV n, H', I'.tok _, ⟨_, rfl⟩, qz⟩
    | next => exact False.elim hq
    | brk => exact False.elim hq
    | cont => exact False.elim hq
/-- x != y of two instances of a class with an own __eq__ and no own __ne__ -/
def rNeOwn (C : Addr) (sp : Sp) : R2 := fun x y H Q => ∃ a b dx dy fs gs, x = .ref a ∧ y = .ref b ∧ H a = some (.ins C dx fs) ∧ H b = some (.ins C dy gs) ∧ sp [.ref a, .ref b] H (fun z H' => ∃ t, z = .bl t ∧ Q (.bl (!t)) H') C8.E0
theorem op_neOwn {j : Nat} (c : C8.Met X.prog X.w X.K X.mg X.base k C "__eq__" sp []) (hr : Room j X.A) (hk : k + 1 ≤ j) (hn : PySem.W.findIn X.K (.ref C) "__ne__" = some (some (.builtin "object.__ne__"))) (hm : PySem.W.mroIn X.K C (.type "object") = some true) :
    OpR X (compareOp .NotEq) (rNeOwn C sp) := by
  obtain ⟨f, fd, ps, ds, hc, hm', F, b, d⟩ := c.ex
  intro pins s σ H x y v u Q I rx ry h
  obtain ⟨a, a', dx, dy, fs, gs, rfl, rfl, ha, hb, q⟩ := h
  cases rx
  cases ry
  obtain ⟨mA, J, _⟩ := ins_get I.hok ha
  obtain ⟨od, J, _⟩ := J.look
  obtain ⟨mB, J', _⟩ := ins_get I.hok hb
  obtain ⟨od', J', _⟩ := J'.look
  have hr1 : Room k X.A.in1 := (hr.mono hk).in1
  have hl := F.len _ _ _ _ q
  cases d
  show wpAny (model X.prog X.w) X.A (richCompare .NotEq (.ref a) (.ref a')) (EP X pins σ Q) X.xe s
  refine ne_own (hu_of hr) I.kIn J J' hm'.at_ hm'.fn hn hm ?_
  refine wpAny_call (codeAny_mono (F.run X.A.in1 X.stack s H ⟨[.ref a, .ref a'], []⟩ [.ref a, .ref a'] [.ref a, .ref a'] _ C8.E0 hr1 I.env0.in1 (by
    have z := b s [.ref a, .ref a'] I.kIn (by simpa using hl)
    simpa using z) (.cons rfl (.cons rfl .nil)) q) fun r s' hq => ?_)
  cases r with
  | error e => exact False.elim hq
  | ok fl =>
    cases fl with
    | ret w =>
      obtain ⟨z, H', I', rz, t, ez, qz⟩ := I.after hq
      subst ez
      cases rz
      exact ⟨t, rfl, .bl (!t), H', I', rfl, qz⟩
    | next => exact False.elim hq
    | brk => exact False.elim hq
    | cont => exact False.elim hq
/-- xs[i], by values -/
theorem get_list : PGet X (rIxL X.K) := by
  intro pins s σ H x y v u Q I rx ry h
  obtain ⟨p, xs, i, z, rfl, rfl, hq, he, q⟩ := h
  cases rx
  obtain ⟨t, rfl⟩ := ry
  obtain ⟨its, r, pl, hz⟩ := I.list hq
  obtain ⟨j, h1, h2, h3, h4, h5⟩ := atI_get he
  obtain ⟨w, ew, rw'⟩ := r.get h2
  have hl := r.length
  have hn := line63
  have fin : EP X pins σ Q w s := ⟨z, H, I, rw', q⟩
  by_cases h0 : 0 ≤ i
  · have hj : i.toNat = j := by
      rw [seqIndex_of h0 h5] at h1
      exact Option.some.inj h1
    exact wpAny_getItem_list pl.isList h0 (by omega) (by rw [hj]; simpa using ew) fin
  · have hj : (i + (its.toArray.size : Int)).toNat = j := by
      rw [seqIndex_neg (by omega) h4] at h1
      rw [List.size_toArray, ← hl]
      exact Option.some.inj h1
    exact wpAny_getItem_list_neg pl.isList (by omega) (by rw [List.size_toArray] <;> omega) (by omega) (by rw [hj]; simpa using ew) fin
/-- sorted(d, reverse=True) of a dict with int keys -/
def rSortDR : List V → List V → Hp → VK → Prop := fun vs zs H Q => ∃ (a : Addr) (kvs : List (Key × V)) (ks : List Int), vs = [V.ref a] ∧ zs = [.bl true] ∧ Rd H a (.dK kvs) ∧ kvs.map (·.1) = ks.map Sum.inl ∧ ks.length < 64 ∧
  ∀ (ys : List Int) (p : Addr), ys.Perm ks → ys.Pairwise (· ≥ ·) → H p = none → Q (.ref p) (upd H p (.lst (ys.map V.int)))
theorem cr_sortDR (hcalm : X.calm = true) : CallRK X (.builtin "sorted") [Str.ofString "reverse"] rSortDR := by
  intro pins s σ H xs zs us ws Q I r rz q
  obtain ⟨a, kvs, ks, ex, ezs, hd, hks, h64, q⟩ := q
  subst ex ezs
  obtain ⟨u, eu, rx⟩ := vals1 r
  subst eu
  cases rx
  obtain ⟨w1, rfl, e1⟩ := vals1 rz
  obtain rfl : w1 = Value.bool true := e1
  obtain ⟨z, lo, vs, rel, dd⟩ := dk_rd I.hok hd
  obtain ⟨ep, hat⟩ := dd.dictAt
  have hkeys : vs.map (·.1) = ks.map Sum.inl := rel.keys.symm.trans hks
  have hl : vs.length = ks.length := by
    have e := congrArg List.length hkeys
    rw [List.length_map, List.length_map] at e
    exact e
  have h16 : vs.length ≤ sizeLine := by rw [hl, sizeLine_eq]; omega
  refine call_function_entry_kw kind_sorted plain_sorted entry_sorted (PyProof.Rows.args_sorted_rev _ _) ?_
  unfold Builtin.«sorted»
  refine wpAny_bind (m := checkCount "sorted" 1 1 _) (wpAny_pure ?_)
  refine wpAny_bind (PySem.W.kdu_collect (A := X.A.in1) (PySem.W.kdl_dict (knd := mixKind X.prog X.w) (kvs := vs) (ep := ep) lo) (I.ok.hd hcalm) hat h16 fun h' tk acc hk hacc => ?_)
  have hal : acc.toList.length = ks.length := by rw [Array.length_toList, hacc.1, hl]
  have hS : IntsAre acc.toList ks := ints_each hal fun j v e => by
    obtain ⟨k, x, e1, e2⟩ := hacc.2 j v (by rw [← Array.getElem?_toList]; exact e)
    have e3 : (vs.map (·.1))[j]? = some k := by rw [List.getElem?_map, e1]; rfl
    rw [hkeys, List.getElem?_map] at e3
    cases e4 : ks[j]? with
    | none => rw [e4] at e3; cases e3
    | some y =>
      rw [e4] at e3
      have e5 : Sum.inl y = k := Option.some.inj e3
      subst e5
      rcases keyIs_shape (show keyIs (Sum.inl y) v = true from e2) with ⟨i, t, ek, ev⟩ | ⟨z, t, ek, ev⟩
      · cases ek
        exact ⟨y, t, rfl, ev⟩
      · cases ek
  have I1 : Inv X pins σ H { s with heap := h', toks := tk } := I.kept hk
  refine wpAny_bind (wpAny_newList ?_ (by rw [hal, sizeLine_eq]; omega))
  have hoL : (h'.push (seqObj "list" acc.toList.toArray 0)).get? h'.objs.size = some (seqObj "list" acc.toList.toArray 0) := Heap.get?_push_size _ rfl
  show wpAny _ _ _ _ _ { s with heap := h'.push (seqObj "list" acc.toList.toArray 0), toks := tk }
  refine wpAny_bind (wpAny_holding (wpAny_call_entry_kw slot_list_sort ⟨_, hoL, rfl⟩ entry_list_sort
    (SrtR.list_sort_ordR (b := true) (s := { s with heap := h'.push (seqObj "list" acc.toList.toArray 0), toks := tk }) SrtO.swo_int hoL (by rw [hal, sizeLine_eq]; omega) (fun h2 => SrtO.ints_sortable hS h2) fun out g1 g2 => ⟨_, rfl, ?_⟩) (PyProof.Rows.args_list_sort_rev _ _)))
  obtain ⟨ns', k1, k2, k3⟩ := SrtR.ints_outR hS g1 g2
  obtain ⟨e', he'⟩ := PyProof.Rows.sortedHeap_at (vs := acc.toList) (out := if true = true then out.toArray.reverse else out.toArray) hoL
  have hlen : (ns'.map V.int).length ≤ sizeLine := by
    rw [List.length_map, k2.length_eq]
    exact Nat.le_trans (Nat.le_of_lt h64) (by decide)
  refine wpAny_pure ⟨_, rfl, .ref h'.objs.size, upd H h'.objs.size (.lst (ns'.map V.int)), I1.laid (t' := tk) (fun b u e => ?_) (Nat.le_refl _)
    (show ObjOk X.prog X.w _ _ _ (.lst (ns'.map V.int)) from ⟨hlen, (if true = true then out.toArray.reverse else out.toArray).toList, e', vals_of_ints k1, by rw [Array.toArray_toList]; exact he'⟩), rfl, q ns' _ k2 k3 (I1.hok.fresh (Nat.le_refl _))⟩
  have hb : b < h'.objs.size := Heap.lt_size e
  rw [PyProof.Rows.sortedHeap_old (Nat.ne_of_lt hb) (by rw [size_push']; exact Nat.lt_succ_of_lt hb)]
  exact Heap.get?_push_of_some _ e
end
end Dw
namespace Dw
open PySem PySem.Spec PyProof.Rows L2
/-! ### data -/
def intsD (l : List Nat) : List PyData := l.map fun (n : Nat) => PyData.int (n : Int)
def rowD : Row → PyData
  | none => .none
  | some l => .list (intsD l)
theorem lay_ints : ∀ l : List Nat, PyData.canLayAll0 (intsD l) = true
  | [] => by simp only [intsD, List.map_nil, PyData.canLayAll0]
  | n :: l => by
    have ih := lay_ints l
    show PyData.canLayAll0 (.int n :: intsD l) = true
    rw [PyData.canLayAll0, ih]
    rfl
theorem dep_ints : ∀ l : List Nat, PyData.depthAll (intsD l) = 0
  | [] => by simp only [intsD, List.map_nil, PyData.depthAll]
  | n :: l => by
    have ih := dep_ints l
    show PyData.depthAll (.int n :: intsD l) = 0
    rw [PyData.depthAll, ih]
    simp [PyData.depth]
theorem sh_ints (l : List Nat) : SeqAt.shaped (.list (intsD l)) = true := by
  show (PyData.canLay0 (.list (intsD l)) && decide (PyData.depth (.list (intsD l)) ≤ 64)) = true
  rw [PyData.canLay0, lay_ints, PyData.depth, dep_ints]
  decide
theorem lay_rows : ∀ rows : List Row, PyData.canLayAll0 (rows.map rowD) = true
  | [] => by simp only [List.map_nil, PyData.canLayAll0]
  | r :: rows => by
    have ih := lay_rows rows
    show PyData.canLayAll0 (rowD r :: rows.map rowD) = true
    rw [PyData.canLayAll0, ih]
    cases r with
    | none => rfl
    | some l =>
      show (PyData.canLay0 (.list (intsD l)) && true) = true
      rw [PyData.canLay0, lay_ints]
      rfl
theorem dep_rows : ∀ rows : List Row, PyData.depthAll (rows.map rowD) ≤ 1
  | [] => by simp only [List.map_nil, PyData.depthAll]; exact Nat.zero_le _
  | r :: rows => by
    have ih := dep_rows rows
    show PyData.depthAll (rowD r :: rows.map rowD) ≤ 1
    rw [PyData.depthAll]
    refine Nat.max_le.mpr ⟨?_, ih⟩
    cases r with
    | none => simp [rowD, PyData.depth]
    | some l =>
      show PyData.depth (.list (intsD l)) ≤ 1
      rw [PyData.depth, dep_ints]
      exact Nat.le_refl _
theorem sh_rows (rows : List Row) : SeqAt.shaped (.list (rows.map rowD)) = true := by
  show (PyData.canLay0 (.list (rows.map rowD)) && decide (PyData.depth (.list (rows.map rowD)) ≤ 64)) = true
  have h := dep_rows rows
  rw [PyData.canLay0, lay_rows, PyData.depth, decide_eq_true (by omega)]
  rfl
theorem eqv_self {d : PyData} (h : SeqAt.shaped d = true) : PyData.eqv d d = true := SeqAt.eqv_refl d (SeqAt.canLay_of_shaped h)
theorem dpA_ints {K : PySem.W.Frag} {H : Hp} : ∀ l : List Nat, DpAll K H (nVs l) (intsD l)
  | [] => .nil
  | n :: l => .cons (.int _) (dpA_ints l)
theorem dp_ints {K : PySem.W.Frag} {H : Hp} {a : Addr} {l : List Nat} (h : SqL K H a (nVs l)) : Dp K H (.ref a) (.list (intsD l)) := .lst h (dpA_ints l)
theorem dpA_rows {K : PySem.W.Frag} {R : Addr → Prop} {H : Hp} : ∀ {as : List V} {rows : List Row}, Paired (RowAt R H) as rows → DpAll K H as (rows.map rowD)
  | _, _, .nil => .nil
  | v :: vs, none :: rs, .cons r t => by
    have e : v = .non := r
    subst e
    exact .cons .non (dpA_rows t)
  | v :: vs, some l :: rs, .cons r t => by
    obtain ⟨b, rfl, _, hb⟩ := r
    exact .cons (dp_ints (SqL.of hb)) (dpA_rows t)
/-! ### slices -/
theorem cut_take {xs : List V} {i : Nat} (h : i ≤ xs.length) : cutV xs none (some (i : Int)) = xs.take i := by
  unfold cutV
  rw [HT.sIx_nat, HT.sIx_none, List.drop_zero, Nat.sub_zero, Nat.min_eq_left h]
theorem cut_drop {xs : List V} {i : Nat} (h : i ≤ xs.length) : cutV xs (some (i : Int)) none = xs.drop i := by
  unfold cutV
  rw [HT.sIx_nat, HT.sIx_none, Nat.min_eq_left h]
  refine List.take_of_length_le ?_
  rw [List.length_drop]
  exact Nat.le_refl _
theorem set_cut {α : Type} {l : List α} {i : Nat} {a : α} (h : i < l.length) : l.set i a = l.take i ++ [a] ++ l.drop (i + 1) := by
  rw [List.set_eq_take_append_cons_drop, if_pos h, List.append_assoc]
  rfl
/-! ### which rows are missing -/
def isMiss (rows : List Row) (i : Nat) : Bool := decide (rows[i]? = some none)
def missAll (rows : List Row) : List Nat := (List.range rows.length).filter (isMiss rows)
abbrev Disc0 (C : Addr) : Hp → Addr → List Row → Prop := Disc C fun _ => True
theorem Disc.all {C : Addr} {R : Addr → Prop} {H : Hp} {d : Addr} {rows : List Row} (h : Disc C R H d rows) : Disc0 C H d rows := h.weak fun _ _ => trivial
theorem Disc0.same {C : Addr} {H H' : Hp} {d : Addr} {rows : List Row} (s : Same H H') (h : Disc0 C H d rows) : Disc0 C H' d rows := Disc.same (fun b o _ e => s b o e) h
section
variable {P : Program} {w : World} {K : PySem.W.Frag} {mg : Str → Option Value} {base : Heap} {f C : Addr} {fd : FuncData}
/-! ### __len__ -/
def spLen (C : Addr) : Sp := fun vs H Q _ => ∃ (d : Addr) (rows : List Row), vs = [.ref d] ∧ Disc0 C H d rows ∧ Q (nV rows.length) H
theorem sc_dlen : FnScope ["self"] ["self"] (C8.fnScope s_dlen) := C8.fnScope_by (by decide +kernel)
theorem c_dlen (me : Meth K C "__len__" f) (F : C8.Fun K "__len__" "BlockDisc.__len__" s_dlen f fd) (b : Binds K fd ["self"] []) (T : Tx K mg) (TD : TC K mg C) : C8.Met P w K mg base 1 C "__len__" (spLen C) [] := by
  refine C8.met0 TD.cl me F b sc_dlen (fun vs H Q E h => ?_) (fun cdv A outer s H vs Q E hr h => ?_)
  · obtain ⟨d, rows, rfl, _⟩ := h
    rfl
  · obtain ⟨d, rows, rfl, hd, q⟩ := h
    obtain ⟨dx, l, as, h1, h2, _, hp⟩ := hd.ex
    refine ⟨_, pss_one (ps_ret (pe_len K T.len (pe_fld (pv 0) rfl))), ?_⟩
    refine ⟨_, rfl, d, C, dx, _, _, rfl, h1, TD.cl, TD.nR, dF_rows l, l, _, rfl, .inl (SqL.of h2), ?_⟩
    rw [Paired.length hp]
    exact q
/-! ### __eq__ -/
def spEq2 (C : Addr) : Sp := fun vs H Q _ => ∃ (d e : Addr) (rows : List Row), vs = [.ref d, .ref e] ∧ Disc0 C H d rows ∧ Disc0 C H e rows ∧ Q (.bl true) H
theorem sc_deq : FnScope ["self", "other"] ["self", "other"] (C8.fnScope s_deq) := C8.fnScope_by (by decide +kernel)
theorem c_deq (me : Meth K C "__eq__" f) (hm : mg "BlockDisc" = some (.ref C)) (IC : C8.InsC K C) (F : C8.Fun K "__eq__" "BlockDisc.__eq__" s_deq f fd) (b : Binds K fd ["self", "other"] []) (T : Tx K mg) (TD : TC K mg C) : C8.Met P w K mg base 1 C "__eq__" (spEq2 C) [] := by
  refine C8.met0 TD.cl me F b sc_deq (fun vs H Q E h => ?_) (fun cdv A outer s H vs Q E hr h => ?_)
  · obtain ⟨d, e, rows, rfl, _⟩ := h
    rfl
  · obtain ⟨d, e, rows, rfl, hd, he, q⟩ := h
    obtain ⟨dx, l, as, h1, h2, _, hp⟩ := hd.ex
    obtain ⟨dx', l', as', h1', h2', _, hp'⟩ := he.ex
    refine ⟨_, pss_one (ps_ret (pe_and (pe_callB (C8.call_isC IC) (by rfl) T.isinst (by decide +kernel) (pa_cons (pv 1) (pa_cons (C8.pe_gc (v := .ref C) (by rfl) ⟨_, hm, rfl⟩) pa_nil)))
      (pe_one (pe_cmpR (op_eqD hr.units) (pe_fld (pv 0) rfl) (pe_fld (pv 1) rfl) (nomark _))))), ?_⟩
    refine ⟨_, rfl, e, dx', _, rfl, h1', true, rfl, iteT ?_⟩
    refine ⟨_, rfl, d, C, dx, _, _, rfl, h1, TD.cl, TD.nR, dF_rows l, _, rfl, e, C, dx', _, _, rfl, h1', TD.cl, TD.nR, dF_rows l', ?_⟩
    refine ⟨_, _, .lst (SqL.of h2) (dpA_rows hp), .lst (SqL.of h2') (dpA_rows hp'), sh_rows _, sh_rows _, ?_⟩
    rw [eqv_self (sh_rows _)]
    exact q
/-! ### block -/
def spBlock (C : Addr) : Sp := fun vs H Q _ => ∃ (d : Addr) (rows : List Row) (i : Nat) (r : Row), vs = [.ref d, nV i] ∧ Disc0 C H d rows ∧ rows[i]? = some r ∧ ∀ v H', Same H H' → RowAt (fun b => H b = none) H' v r → Q v H'
theorem sc_block : FnScope ["self", "index"] ["self", "index"] (C8.fnScope s_block) := C8.fnScope_by (by decide +kernel)
theorem c_block (me : Meth K C "block" f) (F : C8.Fun K "block" "BlockDisc.block" s_block f fd) (b : Binds K fd ["self", "index"] []) (T : Tx K mg) (TD : TC K mg C) : C8.Met P w K mg base 1 C "block" (spBlock C) [] := by
  refine C8.met0 TD.cl me F b sc_block (fun vs H Q E h => ?_) (fun cdv A outer s H vs Q E hr h => ?_)
  · obtain ⟨d, rows, i, r, rfl, _⟩ := h
    rfl
  · obtain ⟨d, rows, i, r, rfl, hd, hi, q⟩ := h
    obtain ⟨dx, l, as, h1, h2, _, hp⟩ := hd.ex
    obtain ⟨v, hv, rv⟩ := pr_R hp hi
    refine ⟨_, pss_cons (ps_if (pt_cmpR op_isN (pe_il K (pe_fld (pv 0) rfl) (pv 1)) pe_non (nomark _)) (pss_one (ps_ret pe_non)) pss_nil)
      (pss_one (ps_ret (pe_callTy call_list_of (by rfl) T.list (by decide +kernel) (pa_cons (pe_il K (pe_fld (pv 0) rfl) (pv 1)) pa_nil)))), ?_⟩
    refine ⟨_, rfl, d, C, dx, _, _, rfl, h1, TD.cl, TD.nR, dF_rows l, _, rfl, l, as, i, v, rfl, rfl, SqL.of h2, atI_nat hv, rfl, _, rfl, ?_⟩
    cases r with
    | none =>
      have e : v = .non := rv
      subst e
      exact iteT (q .non H (Same.refl _) rfl)
    | some bs =>
      obtain ⟨b, rfl, _, hb⟩ := rv
      refine iteF ?_
      refine ⟨_, rfl, d, C, dx, _, _, rfl, h1, TD.cl, TD.nR, dF_rows l, _, rfl, l, as, i, _, rfl, rfl, SqL.of h2, atI_nat hv, b, _, rfl, .inl (SqL.of hb), fun p hp => ?_⟩
      exact q _ _ (Same.new hp) ⟨p, rfl, hp, upd_same⟩
/-! ### missing -/
def spMiss (C : Addr) : Sp := fun vs H Q _ => ∃ (d : Addr) (rows : List Row), vs = [.ref d] ∧ Disc0 C H d rows ∧ ∀ H' p, Same H H' → H p = none → H' p = some (.lst (nVs (missAll rows))) → Q (.ref p) H'
theorem sc_missing : FnScope ["self", "index"] ["self"] (C8.fnScope s_missing) := C8.fnScope_by (by decide +kernel)
theorem c_missing (me : Meth K C "missing" f) (F : C8.Fun K "missing" "BlockDisc.missing" s_missing f fd) (b : Binds K fd ["self"] []) (T : Tx K mg) (TD : TC K mg C) : C8.Met P w K mg base 1 C "missing" (spMiss C) [] := by
  refine C8.met0 TD.cl me F b sc_missing (fun vs H Q E h => ?_) (fun cdv A outer s H vs Q E hr h => ?_)
  · obtain ⟨d, rows, rfl, _⟩ := h
    rfl
  · obtain ⟨d, rows, rfl, hd, q⟩ := h
    obtain ⟨dx, l, as, h1, h2, _, hp⟩ := hd.ex
    have el : as.length = rows.length := Paired.length hp
    refine ⟨_, pss_one (ps_ret (pe_lc (own := [("index", 1)]) (g := gName 1) rfl sc_missing.nd (pi_range1 (by rfl) T.range (pa_cons (pe_len K T.len (pe_fld (pv 0) rfl)) pa_nil))
      (blkOk_by (N := ["self", "index"]) (sc := C8.fnScope s_missing) (by decide +kernel)) (fun _ _ _ _ _ => pg_name (i := 1) sc_missing.nd rfl (Or.inl rfl))
      (fun _ _ _ _ _ => pts_one (pt_cmpR op_isN (pe_il K (pe_fl K (pv 0)) (pv 1)) pe_non (nomark _))) (fun _ _ _ _ _ => pv 1))), ?_⟩
    have hlen := hd.len
    refine ⟨_, rfl, d, C, dx, _, _, rfl, h1, TD.cl, TD.nR, dF_rows l, l, _, rfl, .inl (SqL.of h2), _, rfl, by omega, by omega, fun D hD => ?_⟩
    have e2 : ((as.length : Nat) : Int).toNat = rows.length := by rw [Int.toNat_natCast, el]
    rw [e2]
    refine lc_pureR (kN (isMiss rows)) (fun x => x) hD (by omega) (fun i H' hi sm Nx Kp k => ?_) (fun H' sm h' => ?_)
    · obtain ⟨v, hv, rv⟩ := pr_R hp (List.getElem?_eq_getElem hi)
      refine ⟨rfl, ?_⟩
      have k' := k H' (Same.refl _)
      have e0 : V.int (0 + (i : Int)) = nV i := by show V.int _ = V.int _; rw [Int.zero_add]
      refine ⟨_, rfl, d, C, dx, _, _, rfl, sm _ _ h1, TD.cl, TD.nR, dF_rows l, _, rfl, l, as, 0 + (i : Int), v, rfl, rfl, sm.seq (SqL.of h2), at_of (Int.zero_add _) hv, rfl, _, rfl, ?_⟩
      have ek : kN (isMiss rows) (nV i) = decide (v = .non) := by
        show isMiss rows i = _
        unfold isMiss
        rw [List.getElem?_eq_getElem hi]
        cases e : rows[i] with
        | none =>
          rw [e] at rv
          have ev : v = .non := rv
          rw [ev]
          rfl
        | some bs =>
          rw [e] at rv
          obtain ⟨b, ev, _⟩ := rv
          rw [ev]
          rfl
      rw [ek] at k'
      cases e : decide (v = .non) with
      | true =>
        rw [e, if_pos rfl] at k'
        refine iteT ⟨_, rfl, ?_⟩
        rw [e0]
        exact k'
      | false =>
        rw [e, if_neg Bool.false_ne_true] at k'
        exact iteF k'
    · rw [map_self, filter_kN] at h'
      exact q H' D sm hD h'
/-! ### with_block -/
def spWith (C : Addr) : Sp := fun vs H Q _ => ∃ (d : Addr) (rows : List Row) (i : Nat) (v : V) (r : Row), vs = [.ref d, nV i, v] ∧ Disc0 C H d rows ∧ i < rows.length ∧ RdRow H v r ∧ (∀ bs, r = some bs → Blk bs) ∧ (∃ bs, some bs ∈ rows.set i r) ∧
  ∀ H' q, Same H H' → Disc C (fun x => H x = none) H' q (rows.set i r) → Q (.ref q) H'
theorem sc_with : FnScope ["self", "index", "values"] ["self", "index", "values"] (C8.fnScope s_with_block) := C8.fnScope_by (by decide +kernel)
theorem c_with (me : Meth K C "with_block" f) (F : C8.Fun K "with_block" "BlockDisc.with_block" s_with_block f fd) (b : Binds K fd ["self", "index", "values"] []) (T : Tx K mg) (TD : TC K mg C) (cM : C8.Mak P w K mg base 2 "BlockDisc" C (spInit C) []) :
    C8.Met P w K mg base 4 C "with_block" (spWith C) [] := by
  refine C8.met0 TD.cl me F b sc_with (fun vs H Q E h => ?_) (fun cdv A outer s H vs Q E hr h => ?_)
  · obtain ⟨d, rows, i, v, r, rfl, _⟩ := h
    rfl
  · obtain ⟨d, rows, i, v, r, rfl, hd, hi, hv, hB, hone, q⟩ := h
    obtain ⟨dx, l, as, h1, h2, _, hp⟩ := hd.ex
    have el : as.length = rows.length := Paired.length hp
    have hlen := hd.len
    refine ⟨_, pss_cons (ps_if (PW.pt (pw_and (pt_cmpR op_notN (pv 2) pe_non (nomark _)) (pw_and1 (pt_cmpR op_ne (pe_len K T.len (pv 2)) (pe_fld (pv 0) rfl) (nomark _))))) pss_never pss_nil)
      (pss_one (ps_ret (C8.pe_mk cM hr (Nat.le_refl _) (by rfl) (pa_cons (pe_op op_cat (pe_op op_cat (pe_slice sl_list (pe_fld (pv 0) rfl) po_none (po_some (pv 1))) (pe_lst (pa_cons (pv 2) pa_nil)))
        (pe_slice sl_list (pe_fld (pv 0) rfl) (po_some (pe_op op_add (pv 1) pe_int)) po_none)) pa_nil)))), ?_⟩
    -- from here on: the value, whatever it is
    have go : ∀ Q' : Prop, ((∀ p1, H p1 = none → ∀ p2, (upd H p1 (.lst (cutV as none (some (i : Int))))) p2 = none → True) → Q') → Q' := fun Q' z => z fun _ _ _ _ => trivial
    have fin : (tMake C (spInit C) [] C8.E0 (tCons (tOp rCat (tOp rCat (tSl (rSlL K) (tFld K (tVar 0) "rows") tNoPart (tPart (tVar 1))) (tLst (tCons (tVar 2) tNil))) (tSl (rSlL K) (tFld K (tVar 0) "rows") (tPart (tOp (rI0 fun i j => .int (i + j)) (tVar 1) (tC (.int 1)))) tNoPart)) tNil)) (start ["self", "index", "values"] [.ref d, nV i, v]) H Q := by
      refine ⟨_, rfl, d, C, dx, _, _, rfl, h1, TD.cl, TD.nR, dF_rows l, _, rfl, (i : Int), rfl, l, as, rfl, SqL.of h2, fun p1 n1 => ?_⟩
      have s1 : Same H (upd H p1 (.lst (cutV as none (some (i : Int))))) := Same.new n1
      refine ⟨_, rfl, by show 1 ≤ sizeLine; decide, fun p2 n2 => ?_⟩
      have s2 := s1.trans (Same.new (o := .lst [v]) n2)
      have e1 : (upd (upd H p1 (.lst (cutV as none (some (i : Int))))) p2 (.lst [v])) p1 = some (.lst (cutV as none (some (i : Int)))) := Same.new n2 _ _ upd_same
      rw [cut_take (by omega)] at e1 s2 n2 ⊢
      have hz1 : (as.take i).length ≤ 2000 := Nat.le_trans (List.length_take_le' _ _) (by omega)
      refine ⟨p1, p2, as.take i, [v], rfl, rfl, e1, upd_same, small' (by show (as.take i).length + 1 ≤ 100000; omega), fun p3 n3 => ?_⟩
      have s3 := s2.trans (Same.new (o := .lst (as.take i ++ [v])) n3)
      refine ⟨_, rfl, d, C, dx, _, _, rfl, s3 _ _ h1, TD.cl, TD.nR, dF_rows l, _, rfl, _, _, rfl, rfl, ((i + 1 : Nat) : Int), rfl, l, as, rfl, SqL.of (s3 _ _ h2), fun p4 n4 => ?_⟩
      have s4 := s3.trans (Same.new (o := .lst (cutV as (some ((i + 1 : Nat) : Int)) none)) n4)
      have e3 := Same.new (o := .lst (cutV as (some ((i + 1 : Nat) : Int)) none)) n4 _ _ (upd_same (H := upd (upd H p1 (.lst (as.take i))) p2 (.lst [v])) (a := p3) (o := .lst (as.take i ++ [v])))
      rw [cut_drop (by omega)] at e3 s4 ⊢
      have hz2 : (as.drop (i + 1)).length ≤ 2000 := by rw [List.length_drop]; omega
      refine ⟨p3, p4, as.take i ++ [v], as.drop (i + 1), rfl, rfl, e3, upd_same, small' (by rw [List.length_append]; show (as.take i).length + 1 + _ ≤ 100000; omega), fun p5 n5 => ?_⟩
      have s5 := s4.trans (Same.new (o := .lst (as.take i ++ [v] ++ as.drop (i + 1))) n5)
      intro x dn nx nd ne
      have s6 : Same H (upd (upd (upd (upd (upd (upd (upd H p1 (.lst (as.take i))) p2 (.lst [v])) p3 (.lst (as.take i ++ [v]))) p4 (.lst (as.drop (i + 1)))) p5 (.lst (as.take i ++ [v] ++ as.drop (i + 1)))) dn (.own x)) x (.ins C dn [])) := by
        refine s5.trans ((Same.new nd).trans (Same.new ?_))
        rw [upd_ne (Ne.symm ne)]
        exact nx
      have e5 := (Same.new (o := .own x) nd).trans (Same.new (o := .ins C dn []) (by rw [upd_ne (Ne.symm ne)]; exact nx)) _ _ (upd_same (H := upd (upd (upd (upd H p1 (.lst (as.take i))) p2 (.lst [v])) p3 (.lst (as.take i ++ [v]))) p4 (.lst (as.drop (i + 1)))) (a := p5) (o := .lst (as.take i ++ [v] ++ as.drop (i + 1))))
      have hxH : H x = none := s5.free nx
      refine ⟨x, dn, p5, as.take i ++ [v] ++ as.drop (i + 1), rows.set i r, rfl, upd_same, e5, ?_, ?_, by rw [List.length_set]; exact hlen, hone, fun H' k' D' => ⟨rfl, ?_⟩⟩
      · rw [set_cut hi]
        refine pr_app (pr_app (Paired.mono (fun _ _ z => (z.same fun b o _ e => s6 b o e).rd) (pr_take i hp)) (.cons (hv.same s6) .nil)) (Paired.mono (fun _ _ z => (z.same fun b o _ e => s6 b o e).rd) (pr_drop (i + 1) hp))
      · intro bs hbs
        rcases List.mem_or_eq_of_mem_set hbs with m | m
        · exact hd.fine bs m
        · exact hB bs m.symm
      · refine q H' x (fun b o e => k' b o (s6 _ _ e) (ne_of_none e hxH)) (D'.weak fun b hb => ?_)
        rcases hb with rfl | hb
        · exact hxH
        · exact s6.free hb
    cases r with
    | none =>
      have e : v = .non := hv
      subst e
      refine ⟨_, rfl, rfl, _, rfl, iteF ?_⟩
      exact iteF fin
    | some bs =>
      obtain ⟨b, rfl, hb⟩ := hv
      refine ⟨_, rfl, rfl, _, rfl, iteT ?_⟩
      refine ⟨_, rfl, b, _, rfl, .inl (SqL.of hb), _, rfl, d, C, dx, _, _, rfl, h1, TD.cl, TD.nS, dF_size l, rfl, _, rfl, ?_⟩
      have z := (hB bs rfl).1
      have ed : (!decide (V.int (((nVs bs).length : Nat) : Int) = V.int 16)) = false := by
        rw [nVs_len, z]
        rfl
      rw [ed]
      exact iteF fin
end
end Dw
namespace Dw
open PySem PySem.Spec PyProof.Rows L2
/-! ### more comprehensions -/
section
variable {K : PySem.W.Frag} {a : Addr} {xs : List V} {g : TG} {tt : TT} {te : TE} {vs : List Nat} {σ : L2.St} {H1 : Hp} {D : Addr} {Qd : Hp → Prop}
theorem lc_pureLo {lo n : Nat} (f : Nat → V) (hD : H1 D = none) (hz : n ≤ 100000)
    (hs : ∀ (i : Nat) (H : Hp), i < n → Same H1 H → TurnOk g tt te vs σ H (.int ((lo : Int) + (i : Int))) true (f i))
    (hd : ∀ H, Same H1 H → H D = some (.lst ((List.range n).map f)) → Qd H) :
    ∃ W : Nat → Nat → Hp → Prop, (∃ m, W 0 m (upd H1 D (.lst []))) ∧ ∀ i m H, W i m H →
      ((Itr (lo : Int) n).stop i H ∧ Qd H) ∨ ((Itr (lo : Int) n).go i H ∧ ∃ Nx : Hp → Prop, (∀ H', Nx H' → ∃ m', m' < m ∧ W (i + 1) m' H') ∧ ∀ x H', (Itr (lo : Int) n).yld i H x H' → g x (wipe σ vs) H' fun σ2 H2 => wipe σ2 vs = wipe σ vs ∧ tt σ2 H2 fun b H3 =>
        if b = true then te σ2 H3 fun y H4 => ∃ acc, H4 D = some (.lst acc) ∧ acc.length < sizeLine ∧ Nx (upd H4 D (.lst (acc ++ [y]))) else Nx H3) := by
  refine lc_range (lo := (lo : Int)) (n := n) (fun i H => Same H1 H ∧ i ≤ n ∧ H D = some (.lst ((List.range i).map f))) ⟨Same.new hD, Nat.zero_le _, upd_same⟩ (fun i H hi p => ?_) (fun H p => hd H p.1 p.2.2)
  obtain ⟨s, hn, hd'⟩ := p
  refine hs i H hi s _ _ fun H' s' => ?_
  rw [if_pos rfl]
  refine ⟨_, s' _ _ hd', ?_, (s.trans s').grow hD, hi, ?_⟩
  · refine small (Nat.le_trans ?_ (Nat.le_trans hn hz))
    rw [List.length_map, List.length_range]
    exact Nat.le_refl _
  · rw [upd_same, List.range_succ, List.map_append]
    rfl
/-- over a tuple, each kept item's element is a new list of numbers -/
theorem lc_blocksT (keep : V → Bool) (L : V → List Nat) (hS : SqT K H1 a xs) (hD : H1 D = none) (hz : xs.length ≤ 100000)
    (hs : ∀ (i : Nat) (x : V) (H : Hp), xs[i]? = some x → Same H1 H → ∀ (Nx : Hp → Prop) (Kp : V → Hp → Prop), (∀ b H', keep x = true → Same H H' → H b = none → H' b = some (.lst (nVs (L x))) → Kp (.ref b) H') → (∀ H', keep x = false → Same H H' → Nx H') →
      g x (wipe σ vs) H fun σ2 H2 => wipe σ2 vs = wipe σ vs ∧ tt σ2 H2 fun b H3 => if b = true then te σ2 H3 Kp else Nx H3)
    (hd : ∀ H ys, Same H1 H → H D = some (.lst ys) → Paired (fun y x => ∃ b, y = V.ref b ∧ H b = some (.lst (nVs (L x)))) ys (xs.filter keep) → Qd H) :
    ∃ W : Nat → Nat → Hp → Prop, (∃ m, W 0 m (upd H1 D (.lst []))) ∧ ∀ i m H, W i m H →
      ((Itt K a).stop i H ∧ Qd H) ∨ ((Itt K a).go i H ∧ ∃ Nx : Hp → Prop, (∀ H', Nx H' → ∃ m', m' < m ∧ W (i + 1) m' H') ∧ ∀ x H', (Itt K a).yld i H x H' → g x (wipe σ vs) H' fun σ2 H2 => wipe σ2 vs = wipe σ vs ∧ tt σ2 H2 fun b H3 =>
        if b = true then te σ2 H3 fun y H4 => ∃ acc, H4 D = some (.lst acc) ∧ acc.length < sizeLine ∧ Nx (upd H4 D (.lst (acc ++ [y]))) else Nx H3) := by
  refine lc_tup (K := K) (a := a) (xs := xs) (fun i H => Same H1 H ∧ ∃ ys, H D = some (.lst ys) ∧ Paired (fun y x => ∃ b, y = V.ref b ∧ b ≠ D ∧ H b = some (.lst (nVs (L x)))) ys ((xs.take i).filter keep)) ⟨Same.new hD, [], upd_same, .nil⟩ (fun i H _ p => Same.tup p.1 hS) (fun i x H hx p => ?_) (fun H p => ?_)
  · obtain ⟨s, ys, hd', hp⟩ := p
    have ylen : ys.length ≤ 100000 := by
      rw [Paired.length hp]
      exact Nat.le_trans (List.length_filter_le _ _) (Nat.le_trans (List.length_take_le' _ _) hz)
    refine hs i x H hx s _ _ (fun b H' kx s' nb hb => ?_) (fun H' kx s' => ?_)
    · have bD : b ≠ D := (ne_of_none hd' nb).symm
      refine ⟨_, s' _ _ hd', small ylen, (s.trans s').grow hD, ys ++ [.ref b], upd_same, ?_⟩
      rw [take_snoc hx, List.filter_append]
      have e : List.filter keep [x] = [x] := by simp [List.filter, kx]
      rw [e]
      refine pr_app (Paired.mono (fun y x z => ?_) hp) (.cons ⟨b, rfl, bD, by rw [upd_ne bD]; exact hb⟩ .nil)
      obtain ⟨c, e1, e2, e3⟩ := z
      exact ⟨c, e1, e2, by rw [upd_ne e2]; exact s' _ _ e3⟩
    · refine ⟨s.trans s', ys, s' _ _ hd', ?_⟩
      rw [take_snoc hx, List.filter_append]
      have e : List.filter keep [x] = [] := by simp [List.filter, kx]
      rw [e, List.append_nil]
      refine Paired.mono (fun y x z => ?_) hp
      obtain ⟨c, e1, e2, e3⟩ := z
      exact ⟨c, e1, e2, s' _ _ e3⟩
  · obtain ⟨s, ys, h, hp⟩ := p
    rw [List.take_length] at hp
    exact hd H ys s h (Paired.mono (fun y x z => let ⟨b, e1, _, e3⟩ := z; ⟨b, e1, e3⟩) hp)
end
/-! ### plans -/
def GrAt (H : Hp) (v : V) (g : List Nat) : Prop := ∃ t, v = .ref t ∧ H t = some (.tup (nVs g))
theorem GrAt.same {H H' : Hp} {v : V} {g : List Nat} (s : Same H H') (h : GrAt H v g) : GrAt H' v g := let ⟨t, e, h⟩ := h; ⟨t, e, s _ _ h⟩
structure GOk (n : Nat) (g : List Nat) : Prop where
  two : 2 ≤ g.length
  lt : ∀ i ∈ g, i < n
  asc : ∀ (k x y : Nat), g[k]? = some x → g[k + 1]? = some y → x < y
  len : g.length ≤ 2000
def missOf (rows : List Row) (g : List Nat) : List Nat := g.filter (isMiss rows)
def PlanAt (H : Hp) (a : Addr) (plan : List (List Nat)) : Prop := ∃ gs, H a = some (.lst gs) ∧ Paired (GrAt H) gs plan
theorem PlanAt.same {H H' : Hp} {a : Addr} {plan : List (List Nat)} (s : Same H H') (h : PlanAt H a plan) : PlanAt H' a plan := by
  obtain ⟨gs, h1, h2⟩ := h
  exact ⟨gs, s _ _ h1, Paired.mono (fun _ _ z => z.same s) h2⟩
theorem isMiss_row {rows : List Row} {R : Addr → Prop} {H : Hp} {i : Nat} {r : Row} {v : V} (hi : rows[i]? = some r) (rv : RowAt R H v r) : isMiss rows i = decide (v = .non) := by
  unfold isMiss
  rw [hi]
  cases r with
  | none =>
    have ev : v = .non := rv
    rw [ev]
    rfl
  | some bs =>
    obtain ⟨b, ev, _⟩ := rv
    rw [ev]
    rfl
theorem rep_trueR {n : Nat} : ((List.range n).map fun _ => V.bl true) = (List.replicate n true).map V.bl := by
  rw [List.map_replicate]
  refine List.ext_getElem (by simp) fun i h1 h2 => ?_
  simp
section
variable {P : Program} {w : World} {K : PySem.W.Frag} {mg : Str → Option Value} {base : Heap} {f C : Addr} {fd : FuncData}
/-! ### is_group -/
def spIsG (C : Addr) : Sp := fun vs H Q _ => ∃ (d t : Addr) (rows : List Row) (g : List Nat), vs = [.ref d, .ref t] ∧ Disc0 C H d rows ∧ H t = some (.tup (nVs g)) ∧ GOk rows.length g ∧ ∀ H', Same H H' → Q (.bl true) H'
theorem sc_isg : FnScope ["disc", "group", "index", "at"] ["disc", "group"] (C8.fnScope s_is_group) := C8.fnScope_by (by decide +kernel)
theorem c_isg (F : C8.Def K mg "is_group" s_is_group f fd) (b : Binds K fd ["disc", "group"] []) (T : Tx K mg) (cL : C8.Met P w K mg base 1 C "__len__" (spLen C) []) : C8.Cal P w K mg base 3 "is_group" (spIsG C) [] := by
  refine C8.cal0 F b .nil sc_isg (fun vs H Q E h => ?_) (fun cdv A outer s H vs Q E hr h => ?_)
  · obtain ⟨d, t, rows, g, rfl, _⟩ := h
    rfl
  · obtain ⟨d, t, rows, g, rfl, hd, ht, hg, q⟩ := h
    refine ⟨_, pss_cons (ps_if (PW.pt (pw_or (pt_cmpR op_lt (pe_len K T.len (pv 1)) pe_int (nomark _)) (pw_or1 (pt_nall K T.all rfl (pe_lc (own := [("index", 2)]) (g := gName 2) (tt := tYes) rfl sc_isg.nd (pi_tup (pv 1))
        (blkOk_by (N := ["disc", "group", "index", "at"]) (sc := C8.fnScope s_is_group) (by decide +kernel)) (fun _ _ _ _ _ => pg_name (i := 2) sc_isg.nd rfl (Or.inl rfl)) (fun _ _ _ _ _ => pts_nil)
        (fun _ _ _ _ _ => pe_chain op_le op_lt pe_int (pv 2) (pe_callB (call_lenOwn cL hr (Nat.le_refl _)) (by rfl) T.len PySem.boot_len (pa_cons (pv 0) pa_nil)))))))) pss_never pss_nil)
      (pss_one (ps_ret (pe_all K T.all rfl (pe_lc (own := [("at", 3)]) (g := gName 3) (tt := tYes) rfl sc_isg.nd (pi_range2 (by rfl) T.range (pa_cons pe_int (pa_cons (pe_len K T.len (pv 1)) pa_nil)))
        (blkOk_by (N := ["disc", "group", "index", "at"]) (sc := C8.fnScope s_is_group) (by decide +kernel)) (fun _ _ _ _ _ => pg_name (i := 3) sc_isg.nd rfl (Or.inl rfl)) (fun _ _ _ _ _ => pts_nil)
        (fun _ _ _ _ _ => pe_cmpR op_lt (pe_it K (pv 1) (pe_op op_sub (pv 3) pe_int)) (pe_it K (pv 1) (pv 3)) (nomark _)))))), ?_⟩
    obtain ⟨dx, l, as, h1, h2, _, hp⟩ := hd.ex
    have hz := hg.len
    have h2' := hg.two
    refine ⟨_, rfl, t, _, rfl, .inr (SqT.of ht), _, _, rfl, rfl, _, rfl, ?_⟩
    rw [nVs_len]
    have e1 : decide (((g.length : Nat) : Int) < 2) = false := decide_eq_false (by omega)
    rw [e1]
    refine iteF ?_
    refine ⟨_, rfl, t, rfl, ⟨_, SqT.of ht⟩, fun D hD => ?_⟩
    refine lc_pureT (fun _ => true) (fun _ => .bl true) (SqT.of ht) hD (by rw [nVs_len]; omega) (fun i x H' hx sm Nx Kp k => ?_) (fun H1 s1 hd1 => ?_)
    · obtain ⟨n, en, rfl⟩ := nVs_at hx
      have hn := hg.lt n (List.mem_of_getElem? en)
      have hl := hd.len
      refine ⟨rfl, tt_yes ?_⟩
      have k' := k_yes k H' (Same.refl _)
      refine ⟨_, rfl, _, _, rfl, rfl, true, ?_, iteT ?_⟩
      · show V.bl (decide ((0 : Int) ≤ (n : Int))) = _
        rw [decide_eq_true (by omega : (0 : Int) ≤ (n : Int))]
      · refine ⟨_, rfl, d, dx, _, rfl, sm _ _ h1, d, rows, rfl, Disc0.same sm hd, rows.length, rfl, by omega, _, _, rfl, rfl, ?_⟩
        show Kp (V.bl (decide ((n : Int) < (rows.length : Int)))) H'
        rw [decide_eq_true (by omega : (n : Int) < (rows.length : Int))]
        exact k'
    · rw [rep_true] at hd1
      refine ⟨D, _, rfl, SqL.of hd1, _, rfl, ?_⟩
      rw [all_rep]
      refine iteF ?_
      have ht1 := s1 _ _ ht
      refine ⟨_, rfl, t, _, rfl, .inr (SqT.of ht1), ?_⟩
      rw [nVs_len]
      refine ⟨1, _, rfl, ⟨by decide, by decide, by omega, by omega⟩, fun D2 hD2 => ?_⟩
      have e3 : ((g.length : Nat) : Int) - 1 = ((g.length - 1 : Nat) : Int) := by omega
      rw [e3, Int.toNat_natCast]
      refine lc_pureLo (lo := 1) (fun _ => .bl true) hD2 (by omega) (fun i H' hi sm Nx Kp k => ?_) (fun H2 s2 hd2 => ?_)
      · refine ⟨rfl, tt_yes ?_⟩
        have k' := k_yes k H' (Same.refl _)
        have a0 : g[i]? = some g[i] := List.getElem?_eq_getElem (by omega)
        have a1 : g[i + 1]? = some g[i + 1] := List.getElem?_eq_getElem (by omega)
        have lt := hg.asc i _ _ a0 a1
        have htm := sm _ _ ht1
        refine ⟨_, rfl, _, rfl, _, _, rfl, rfl, t, _, ((1 : Nat) : Int) + (i : Int) - 1, _, rfl, rfl, SqT.of htm, at_of (by omega) (at_nVs a0), _, rfl, _, rfl, t, _, ((1 : Nat) : Int) + (i : Int), _, rfl, rfl, SqT.of htm, at_of (by omega) (at_nVs a1), _, _, rfl, rfl, ?_⟩
        show Kp (V.bl (decide ((g[i] : Int) < (g[i + 1] : Int)))) H'
        rw [decide_eq_true (by omega : (g[i] : Int) < (g[i + 1] : Int))]
        exact k'
      · rw [rep_trueR] at hd2
        refine ⟨D2, _, rfl, SqL.of hd2, ?_⟩
        rw [all_rep]
        exact q H2 (s1.trans s2)
/-! ### demand_plan -/
def spDem (C : Addr) : Sp := fun vs H Q _ => ∃ (d a : Addr) (rows : List Row) (plan : List (List Nat)), vs = [.ref d, .ref a] ∧ Disc0 C H d rows ∧ PlanAt H a plan ∧ (∀ g ∈ plan, GOk rows.length g) ∧ plan.length ≤ 2000 ∧ ∀ H', Same H H' → Q .non H'
theorem sc_dem : FnScope ["disc", "plan", "group"] ["disc", "plan"] (C8.fnScope s_demand_plan) := C8.fnScope_by (by decide +kernel)
theorem c_dem (F : C8.Def K mg "demand_plan" s_demand_plan f fd) (b : Binds K fd ["disc", "plan"] []) (T : Tx K mg) (cG : C8.Cal P w K mg base 3 "is_group" (spIsG C) []) : C8.Cal P w K mg base 4 "demand_plan" (spDem C) [] := by
  refine C8.cal0 F b .nil sc_dem (fun vs H Q E h => ?_) (fun cdv A outer s H vs Q E hr h => ?_)
  · obtain ⟨d, a, rows, plan, rfl, _⟩ := h
    rfl
  · obtain ⟨d, a, rows, plan, rfl, hd, ⟨gs, ha, hp⟩, hg, hz, q⟩ := h
    refine ⟨_, pss_one (ps_if (pt_nall K T.all rfl (pe_lc (own := [("group", 2)]) (g := gName 2) (tt := tYes) rfl sc_dem.nd (pi_list (pv 1))
        (blkOk_by (N := ["disc", "plan", "group"]) (sc := C8.fnScope s_demand_plan) (by decide +kernel)) (fun _ _ _ _ _ => pg_name (i := 2) sc_dem.nd rfl (Or.inl rfl)) (fun _ _ _ _ _ => pts_nil)
        (fun _ _ _ _ _ => C8.pe_c cG hr (Nat.le_refl _) (by rfl) (pa_cons (pv 0) (pa_cons (pv 2) pa_nil))))) pss_never pss_nil), ?_⟩
    have gl : gs.length = plan.length := Paired.length hp
    refine ⟨_, rfl, a, rfl, ⟨_, SqL.of ha⟩, fun D hD => ?_⟩
    refine lc_pure (fun _ => true) (fun _ => .bl true) (SqL.of ha) hD (by omega) (fun i x H' hx sm Nx Kp k => ?_) (fun H1 s1 hd1 => ?_)
    · obtain ⟨g, eg, t, rfl, ht⟩ := pr_L hp hx
      refine ⟨rfl, tt_yes ?_⟩
      exact ⟨_, rfl, _, rfl, d, t, rows, g, rfl, Disc0.same sm hd, sm _ _ ht, hg g (List.mem_of_getElem? eg), fun H2 s2 => k_yes k H2 s2⟩
    · rw [rep_true] at hd1
      refine ⟨D, _, rfl, SqL.of hd1, _, rfl, ?_⟩
      rw [all_rep]
      exact iteF (q H1 s1)
/-! ### missing_of -/
def spMissOf (C : Addr) : Sp := fun vs H Q _ => ∃ (d t : Addr) (rows : List Row) (g : List Nat), vs = [.ref d, .ref t] ∧ Disc0 C H d rows ∧ H t = some (.tup (nVs g)) ∧ (∀ i ∈ g, i < rows.length) ∧ g.length ≤ 2000 ∧
  ∀ H' p, Same H H' → H p = none → H' p = some (.lst (nVs (missOf rows g))) → Q (.ref p) H'
theorem sc_mo : FnScope ["disc", "group", "index"] ["disc", "group"] (C8.fnScope s_missing_of) := C8.fnScope_by (by decide +kernel)
theorem c_mo (F : C8.Def K mg "missing_of" s_missing_of f fd) (b : Binds K fd ["disc", "group"] []) (cB : C8.Met P w K mg base 1 C "block" (spBlock C) []) : C8.Cal P w K mg base 2 "missing_of" (spMissOf C) [] := by
  refine C8.cal0 F b .nil sc_mo (fun vs H Q E h => ?_) (fun cdv A outer s H vs Q E hr h => ?_)
  · obtain ⟨d, t, rows, g, rfl, _⟩ := h
    rfl
  · obtain ⟨d, t, rows, g, rfl, hd, ht, hg, hz, q⟩ := h
    obtain ⟨dx, l, as, h1, h2, _, hp⟩ := hd.ex
    refine ⟨_, pss_one (ps_ret (pe_lc (own := [("index", 2)]) (g := gName 2) rfl sc_mo.nd (pi_tup (pv 1))
        (blkOk_by (N := ["disc", "group", "index"]) (sc := C8.fnScope s_missing_of) (by decide +kernel)) (fun _ _ _ _ _ => pg_name (i := 2) sc_mo.nd rfl (Or.inl rfl))
        (fun _ _ _ _ _ => pts_one (pt_cmpR op_isN (C8.pe_mt cB hr (Nat.le_refl _) (pv 0) (pa_cons (pv 2) pa_nil)) pe_non (nomark _))) (fun _ _ _ _ _ => pv 2))), ?_⟩
    refine ⟨_, rfl, t, rfl, ⟨_, SqT.of ht⟩, fun D hD => ?_⟩
    refine lc_pureT (kN (isMiss rows)) (fun x => x) (SqT.of ht) hD (by rw [nVs_len]; omega) (fun i x H' hx sm Nx Kp k => ?_) (fun H1 s1 hd1 => ?_)
    · obtain ⟨n, en, rfl⟩ := nVs_at hx
      have hn := hg n (List.mem_of_getElem? en)
      have er : rows[n]? = some rows[n] := List.getElem?_eq_getElem hn
      refine ⟨rfl, ?_⟩
      refine ⟨_, rfl, d, dx, _, rfl, sm _ _ h1, dF_no l (by decide +kernel) (by decide +kernel), _, rfl, d, rows, n, _, rfl, Disc0.same sm hd, er, fun v H2 s2 rv => ⟨rfl, _, rfl, ?_⟩⟩
      have k' := k H2 s2
      have ek : kN (isMiss rows) (nV n) = decide (v = .non) := isMiss_row er rv
      rw [ek] at k'
      cases e : decide (v = .non) with
      | true =>
        rw [e, if_pos rfl] at k'
        exact iteT ⟨_, rfl, k'⟩
      | false =>
        rw [e, if_neg Bool.false_ne_true] at k'
        exact iteF k'
    · rw [map_self, filter_kN] at hd1
      exact q H1 D s1 hD hd1
end
end Dw
namespace Dw
open PySem PySem.Spec PyProof.Rows L2
/-! ### the truth behind the rows -/
abbrev Tr := List (List Nat)
def tg (tr : Tr) (i : Nat) : List Nat := tr.getD i []
def blocksOf (tr : Tr) (g : List Nat) : List (List Nat) := g.map (tg tr)
structure Agree (rows : List Row) (tr : Tr) : Prop where
  len : rows.length = tr.length
  at_ : ∀ (i : Nat) (bs : List Nat), rows[i]? = some (some bs) → tr[i]? = some bs
def AllBlk (tr : Tr) : Prop := ∀ l ∈ tr, Blk l
theorem tg_of {tr : Tr} {i : Nat} {l : List Nat} (h : tr[i]? = some l) : tg tr i = l := by
  unfold tg
  rw [List.getD_eq_getElem?_getD, h]
  rfl
theorem tg_blk {tr : Tr} (h : AllBlk tr) {i : Nat} (hi : i < tr.length) : Blk (tg tr i) := by
  have e : tr[i]? = some tr[i] := List.getElem?_eq_getElem hi
  rw [tg_of e]
  exact h _ (List.mem_of_getElem? e)
theorem there {rows : List Row} {tr : Tr} (A : Agree rows tr) {i : Nat} (hi : i < rows.length) (h : isMiss rows i = false) : rows[i]? = some (some (tg tr i)) := by
  have e : rows[i]? = some rows[i] := List.getElem?_eq_getElem hi
  cases q : rows[i] with
  | none =>
    rw [q] at e
    unfold isMiss at h
    rw [e] at h
    exact absurd h (by decide)
  | some bs =>
    rw [q] at e
    rw [tg_of (A.at_ i bs e)]
    exact e
theorem isMiss_set {rows : List Row} {m i : Nat} {b : List Nat} (hm : m < rows.length) : isMiss (rows.set m (some b)) i = (isMiss rows i && decide (i ≠ m)) := by
  unfold isMiss
  by_cases e : i = m
  · subst e
    rw [List.getElem?_set_self hm]
    simp
  · rw [List.getElem?_set_ne (Ne.symm e)]
    simp [e]
theorem missAll_set {rows : List Row} {m : Nat} {b : List Nat} (hm : m < rows.length) : missAll (rows.set m (some b)) = (missAll rows).filter fun i => decide (i ≠ m) := by
  unfold missAll
  rw [List.length_set, List.filter_filter]
  refine List.filter_congr fun i _ => ?_
  rw [isMiss_set hm, Bool.and_comm]
theorem missAll_nodup (rows : List Row) : (missAll rows).Nodup := List.Nodup.sublist List.filter_sublist List.nodup_range
theorem missAll_mem {rows : List Row} {i : Nat} : i ∈ missAll rows ↔ i < rows.length ∧ isMiss rows i = true := by
  unfold missAll
  rw [List.mem_filter, List.mem_range]
theorem missAll_perm {rows : List Row} {m : Nat} {b : List Nat} (h : m ∈ missAll rows) : (missAll rows).Perm (m :: missAll (rows.set m (some b))) := by
  have hm := missAll_mem.mp h
  rw [missAll_set hm.1]
  refine (List.perm_cons_erase h).trans (List.Perm.cons _ ?_)
  rw [(missAll_nodup rows).erase_eq_filter]
  refine List.Perm.of_eq (List.filter_congr fun i _ => ?_)
  by_cases e : i = m
  · subst e
    simp
  · simp [e]
structure GLaw (tr : Tr) (g : List Nat) : Prop where
  ok : ∀ m ∈ g, parN (blocksOf tr (g.filter fun i => decide (i ≠ m))) = tg tr m
theorem agree_set {rows : List Row} {tr : Tr} (A : Agree rows tr) {m : Nat} (hm : m < rows.length) : Agree (rows.set m (some (tg tr m))) tr := by
  refine ⟨by rw [List.length_set]; exact A.len, fun i bs e => ?_⟩
  by_cases q : i = m
  · subst q
    rw [List.getElem?_set_self hm] at e
    have e2 : tg tr i = bs := Option.some.inj (Option.some.inj e)
    have h3 : i < tr.length := by rw [← A.len]; exact hm
    have e3 : tr[i]? = some tr[i] := List.getElem?_eq_getElem h3
    rw [← e2, tg_of e3]
    exact e3
  · rw [List.getElem?_set_ne (Ne.symm q)] at e
    exact A.at_ i bs e
/-- one block is missing of the group: which, and that the others are there -/
theorem one_miss {rows : List Row} {g : List Nat} {m : Nat} (h : missOf rows g = [m]) : m ∈ g ∧ isMiss rows m = true ∧ ∀ i ∈ g, i ≠ m → isMiss rows i = false := by
  have hm : m ∈ missOf rows g := by rw [h]; exact List.mem_singleton.mpr rfl
  obtain ⟨h1, h2⟩ := List.mem_filter.mp hm
  refine ⟨h1, h2, fun i hi ne => ?_⟩
  cases e : isMiss rows i with
  | false => rfl
  | true =>
    have z : i ∈ missOf rows g := List.mem_filter.mpr ⟨hi, e⟩
    rw [h] at z
    exact absurd (List.mem_singleton.mp z) ne
/-- a list of blocks by numbers -/
def trL (tr : Tr) : V → List Nat
  | .int i => tg tr i.toNat
  | _ => []
theorem ls_blocks {K : PySem.W.Frag} {H : Hp} {tr : Tr} : ∀ {g : List Nat} {ys : List V}, Paired (fun y x => ∃ b, y = V.ref b ∧ H b = some (.lst (nVs (trL tr x)))) ys (nVs g) → LsAt K H ys (blocksOf tr g) := fun {g ys} h => by
  refine ⟨?_, fun i l e => ?_⟩
  · rw [Paired.length h, nVs_len]
    unfold blocksOf
    rw [List.length_map]
  · unfold blocksOf at e
    rw [List.getElem?_map] at e
    cases q : g[i]? with
    | none => rw [q] at e; cases e
    | some n =>
      rw [q] at e
      have e2 : tg tr n = l := Option.some.inj e
      obtain ⟨y, h1, b, rfl, h2⟩ := pr_R h (at_nVs q)
      refine ⟨b, h1, SqL.of ?_⟩
      rw [← e2]
      exact h2
theorem blocks_len {tr : Tr} (h : AllBlk tr) {g : List Nat} (hg : ∀ i ∈ g, i < tr.length) : ∀ l ∈ blocksOf tr g, l.length = 16 := fun l hl => by
  obtain ⟨i, hi, rfl⟩ := List.mem_map.mp hl
  exact (tg_blk h (hg i hi)).1
/-! ### tuples cut at the end -/
theorem snoc_of {g : List Nat} (h : 1 ≤ g.length) : ∃ z, g = g.dropLast ++ [z] := by
  cases g with
  | nil => simp at h
  | cons a r => exact ⟨_, (List.dropLast_concat_getLast (List.cons_ne_nil a r)).symm⟩
theorem cut_last {g : List Nat} (h : 1 ≤ g.length) : cutV (nVs g) none (some (-1)) = nVs g.dropLast := by
  unfold cutV
  rw [HT.sIx_none, List.drop_zero, Nat.sub_zero]
  have e : HT.sIx (nVs g).length (nVs g).length (some (-1)) = g.length - 1 := by
    rw [nVs_len]
    show (if (-1 : Int) < 0 then ((-1 : Int) + (g.length : Int)).toNat else min (-1 : Int).toNat g.length) = _
    rw [if_pos (by decide)]
    omega
  rw [e]
  unfold nVs
  rw [List.dropLast_eq_take, List.map_take]
theorem cut_not {g : List Nat} (h : 1 ≤ g.length) : ¬ (HT.sIx (nVs g).length 0 none = 0 ∧ HT.sIx (nVs g).length (nVs g).length (some (-1)) = (nVs g).length) := fun z => by
  have e : HT.sIx (nVs g).length (nVs g).length (some (-1)) = g.length - 1 := by
    rw [nVs_len]
    show (if (-1 : Int) < 0 then ((-1 : Int) + (g.length : Int)).toNat else min (-1 : Int).toNat g.length) = _
    rw [if_pos (by decide)]
    omega
  rw [e, nVs_len] at z
  omega
theorem at_last {g : List Nat} {z : Nat} : atI (nVs (g ++ [z])) (-1) = some (nV z) := by
  rw [nVs_app]
  exact atI_last _ _
section
variable {P : Program} {w : World} {K : PySem.W.Frag} {mg : Str → Option Value} {base : Heap} {f C : Addr} {fd : FuncData}
/-! ### holds -/
def spHolds (C : Addr) : Sp := fun vs H Q _ => ∃ (d t : Addr) (rows : List Row) (tr : Tr) (g : List Nat) (z : Nat), vs = [.ref d, .ref t] ∧ Disc0 C H d rows ∧ H t = some (.tup (nVs (g ++ [z]))) ∧ GOk rows.length (g ++ [z]) ∧ Agree rows tr ∧ AllBlk tr ∧
  (∀ i ∈ g ++ [z], isMiss rows i = false) ∧ parN (blocksOf tr g) = tg tr z ∧ ∀ H', Same H H' → Q (.bl true) H'
theorem sc_holds : FnScope ["disc", "group", "index"] ["disc", "group"] (C8.fnScope s_holds) := C8.fnScope_by (by decide +kernel)
theorem c_holds (F : C8.Def K mg "holds" s_holds f fd) (b : Binds K fd ["disc", "group"] []) (T : Tx K mg) (cD : C8.Cal P w K mg base 4 "demand_plan" (spDem C) []) (cM : C8.Cal P w K mg base 2 "missing_of" (spMissOf C) []) (cP : C8.Cal P w K mg base 2 "parity" (spParity K) [])
    (cB : C8.Met P w K mg base 1 C "block" (spBlock C) []) : C8.Cal P w K mg base 5 "holds" (spHolds C) [] := by
  refine C8.cal0 F b .nil sc_holds (fun vs H Q E h => ?_) (fun cdv A outer s H vs Q E hr h => ?_)
  · obtain ⟨d, t, rows, tr, g, z, rfl, _⟩ := h
    rfl
  · obtain ⟨d, t, rows, tr, g, z, rfl, hd, ht, hg, A', hB, hm, hpar, q⟩ := h
    refine ⟨_, pss_cons (ps_expr (C8.pe_c cD hr (Nat.le_refl _) (by rfl) (pa_cons (pv 0) (pa_cons (pe_lst (pa_cons (pv 1) pa_nil)) pa_nil))))
      (pss_cons (ps_if (pt_cmpR op_gt (pe_len K T.len (C8.pe_c cM hr (by decide) (by rfl) (pa_cons (pv 0) (pa_cons (pv 1) pa_nil)))) pe_int (nomark _)) (pss_one (ps_ret pe_bl)) pss_nil)
      (pss_one (ps_ret (pe_cmpR (op_eqD hr.units) (C8.pe_c cP hr (by decide) (by rfl) (pa_cons (pe_lc (own := [("index", 2)]) (g := gName 2) (tt := tYes) rfl sc_holds.nd (pi_tup (pe_slice sl_tup (pv 1) po_none (po_some (pe_un un_neg pe_int))))
        (blkOk_by (N := ["disc", "group", "index"]) (sc := C8.fnScope s_holds) (by decide +kernel)) (fun _ _ _ _ _ => pg_name (i := 2) sc_holds.nd rfl (Or.inl rfl)) (fun _ _ _ _ _ => pts_nil)
        (fun _ _ _ _ _ => C8.pe_mt cB hr (by decide) (pv 0) (pa_cons (pv 2) pa_nil))) pa_nil)) (C8.pe_mt cB hr (by decide) (pv 0) (pa_cons (pe_it K (pv 1) (pe_un un_neg pe_int)) pa_nil)) (nomark _))))), ?_⟩
    have hz := hg.len
    have h2 := hg.two
    have hlt := hg.lt
    have htl : rows.length = tr.length := A'.len
    -- demand_plan(disc, [group])
    refine ⟨_, rfl, _, rfl, by show 1 ≤ sizeLine; decide, fun p0 n0 => ?_⟩
    have s0 : Same H (upd H p0 (.lst [.ref t])) := Same.new n0
    refine ⟨d, p0, rows, [g ++ [z]], rfl, Disc0.same s0 hd, ⟨[.ref t], upd_same, .cons ⟨t, rfl, s0 _ _ ht⟩ .nil⟩, fun g' hg' => by rw [List.mem_singleton.mp hg']; exact hg, by show 1 ≤ 2000; decide, fun H1 s1' => ?_⟩
    have s1 := s0.trans s1'
    -- missing_of
    refine ⟨_, rfl, _, rfl, d, t, rows, g ++ [z], rfl, Disc0.same s1 hd, s1 _ _ ht, hlt, hz, fun H2 p s2' n2 hp2 => ?_⟩
    have s2 := s1.trans s2'
    have em : missOf rows (g ++ [z]) = [] := List.filter_eq_nil_iff.mpr fun i hi => by rw [hm i hi]; exact Bool.false_ne_true
    rw [em] at hp2
    refine ⟨p, _, rfl, .inl (SqL.of hp2), _, _, rfl, rfl, _, rfl, iteF ?_⟩
    -- parity
    refine ⟨_, rfl, 1, rfl, _, rfl, t, _, rfl, SqT.of (s2 _ _ ht), cut_not (by omega), fun p3 n3 => ?_⟩
    rw [cut_last (by omega), List.dropLast_concat]
    have s3 := s2.trans (Same.new (o := .tup (nVs g)) n3)
    have hp3 : (upd H2 p3 (.tup (nVs g))) p3 = some (.tup (nVs g)) := upd_same
    generalize upd H2 p3 (.tup (nVs g)) = H3 at s3 hp3
    refine ⟨p3, rfl, ⟨_, SqT.of hp3⟩, fun D hD => ?_⟩
    have hg1 : ∀ i ∈ g, i < rows.length := fun i hi => hlt i (List.mem_append_left _ hi)
    have gl : g.length + 1 ≤ 2000 := by rw [List.length_append] at hz; exact hz
    refine lc_blocksT (fun _ => true) (trL tr) (SqT.of hp3) hD (by rw [nVs_len]; omega) (fun i x H' hx sm Nx Kp kt kf => ?_) (fun H4 ys s4' hd4 hys => ?_)
    · obtain ⟨n, en, rfl⟩ := nVs_at hx
      have hn : n ∈ g := List.mem_of_getElem? en
      refine ⟨rfl, tt_yes ?_⟩
      obtain ⟨dx, l, as, h1, h2, _, hp⟩ := hd.ex
      have sA := s3.trans sm
      refine ⟨_, rfl, d, dx, _, rfl, sA _ _ h1, dF_no l (by decide +kernel) (by decide +kernel), _, rfl, d, rows, n, _, rfl, Disc0.same sA hd, there A' (hg1 n hn) (hm n (List.mem_append_left _ hn)), fun v H2 sb rv => ?_⟩
      obtain ⟨b, rfl, nb, hb⟩ := rv
      exact kt b H2 rfl sb nb hb
    · rw [all_true] at hys
      have s4 := s3.trans s4'
      have hL : LsAt K H4 ys (blocksOf tr g) := ls_blocks hys
      have bne : blocksOf tr g ≠ [] := fun e => by
        have e2 := congrArg List.length e
        unfold blocksOf at e2
        rw [List.length_map] at e2
        rw [List.length_append] at h2
        simp at e2 h2
        rw [e2] at h2
        simp at h2
      refine ⟨D, ys, _, rfl, SqL.of hd4, hL, bne, by unfold blocksOf; rw [List.length_map]; omega, blocks_len hB (fun i hi => by rw [← htl]; exact hg1 i hi), fun H5 pp s5' n5 hp5 => ?_⟩
      have s5 := s4.trans s5'
      -- disc.block(group[-1])
      obtain ⟨dx, l, as, h1, h2', _, hp⟩ := hd.ex
      have hzm : z ∈ g ++ [z] := List.mem_append_right _ (List.mem_singleton.mpr rfl)
      refine ⟨_, rfl, d, dx, _, rfl, s5 _ _ h1, dF_no l (by decide +kernel) (by decide +kernel), _, rfl, 1, rfl, t, _, -1, _, rfl, rfl, SqT.of (s5 _ _ ht), at_last, d, rows, z, _, rfl, Disc0.same s5 hd, there A' (hlt z hzm) (hm z hzm), fun v H6 s6 rv => ?_⟩
      obtain ⟨b, rfl, nb, hb⟩ := rv
      rw [hpar] at hp5
      refine ⟨_, _, dp_ints (SqL.of (s6 _ _ hp5)), dp_ints (SqL.of hb), sh_ints _, sh_ints _, ?_⟩
      rw [eqv_self (sh_ints _)]
      exact q H6 (s5.trans s6)
/-! ### parity_without -/
def spPw (C : Addr) : Sp := fun vs H Q _ => ∃ (d t : Addr) (rows : List Row) (tr : Tr) (g : List Nat) (m : Nat), vs = [.ref d, .ref t, nV m] ∧ Disc0 C H d rows ∧ H t = some (.tup (nVs g)) ∧ GOk rows.length g ∧ Agree rows tr ∧ AllBlk tr ∧ m ∈ g ∧
  (∀ i ∈ g, i ≠ m → isMiss rows i = false) ∧ ∀ H' p, Same H H' → H p = none → H' p = some (.lst (nVs (parN (blocksOf tr (g.filter fun i => decide (i ≠ m)))))) → Q (.ref p) H'
theorem sc_pw : FnScope ["disc", "group", "missing", "index"] ["disc", "group", "missing"] (C8.fnScope s_parity_without) := C8.fnScope_by (by decide +kernel)
theorem other_in {n : Nat} {g : List Nat} (hg : GOk n g) (m : Nat) : (g.filter fun i => decide (i ≠ m)) ≠ [] := by
  have h2 := hg.two
  have a0 : g[0]? = some g[0] := List.getElem?_eq_getElem (by omega)
  have a1 : g[1]? = some g[1] := List.getElem?_eq_getElem (by omega)
  have lt := hg.asc 0 _ _ a0 a1
  intro e
  have z := List.filter_eq_nil_iff.mp e
  have z0 := z _ (List.mem_of_getElem? a0)
  have z1 := z _ (List.mem_of_getElem? a1)
  simp at z0 z1
  omega
theorem c_pw (F : C8.Def K mg "parity_without" s_parity_without f fd) (b : Binds K fd ["disc", "group", "missing"] []) (cP : C8.Cal P w K mg base 2 "parity" (spParity K) []) (cB : C8.Met P w K mg base 1 C "block" (spBlock C) []) : C8.Cal P w K mg base 3 "parity_without" (spPw C) [] := by
  refine C8.cal0 F b .nil sc_pw (fun vs H Q E h => ?_) (fun cdv A outer s H vs Q E hr h => ?_)
  · obtain ⟨d, t, rows, tr, g, m, rfl, _⟩ := h
    rfl
  · obtain ⟨d, t, rows, tr, g, m, rfl, hd, ht, hg, A', hB, hmg, hm, q⟩ := h
    refine ⟨_, pss_one (ps_ret (C8.pe_c cP hr (by decide) (by rfl) (pa_cons (pe_lc (own := [("index", 3)]) (g := gName 3) rfl sc_pw.nd (pi_tup (pv 1))
        (blkOk_by (N := ["disc", "group", "missing", "index"]) (sc := C8.fnScope s_parity_without) (by decide +kernel)) (fun _ _ _ _ _ => pg_name (i := 3) sc_pw.nd rfl (Or.inl rfl)) (fun _ _ _ _ _ => pts_one (pt_cmpR op_ne (pv 3) (pv 2) (nomark _)))
        (fun _ _ _ _ _ => C8.pe_mt cB hr (by decide) (pv 0) (pa_cons (pv 3) pa_nil))) pa_nil))), ?_⟩
    have hz := hg.len
    have htl : rows.length = tr.length := A'.len
    refine ⟨_, rfl, t, rfl, ⟨_, SqT.of ht⟩, fun D hD => ?_⟩
    refine lc_blocksT (kN fun i => decide (i ≠ m)) (trL tr) (SqT.of ht) hD (by rw [nVs_len]; omega) (fun i x H' hx sm Nx Kp kt kf => ?_) (fun H4 ys s4 hd4 hys => ?_)
    · obtain ⟨n, en, rfl⟩ := nVs_at hx
      have hn : n ∈ g := List.mem_of_getElem? en
      refine ⟨rfl, ?_⟩
      refine ⟨_, rfl, _, rfl, rfl, _, rfl, ?_⟩
      by_cases e : n = m
      · have ed : (!decide (nV n = nV m)) = false := by rw [e]; simp
        rw [ed]
        exact iteF (kf H' (by show decide (n ≠ m) = false; simp [e]) (Same.refl _))
      · have ed : (!decide (nV n = nV m)) = true := by
          have z : nV n ≠ nV m := fun z => e (Int.ofNat.inj (V.int.inj z))
          rw [decide_eq_false z]
          rfl
        rw [ed]
        refine iteT ?_
        obtain ⟨dx, l, as, h1, h2, _, hp⟩ := hd.ex
        refine ⟨_, rfl, d, dx, _, rfl, sm _ _ h1, dF_no l (by decide +kernel) (by decide +kernel), _, rfl, d, rows, n, _, rfl, Disc0.same sm hd, there A' (hg.lt n hn) (hm n hn e), fun v H2 sb rv => ?_⟩
        obtain ⟨b, rfl, nb, hb⟩ := rv
        exact kt b H2 (by show decide (n ≠ m) = true; simp [e]) sb nb hb
    · rw [filter_kN] at hys
      have hL : LsAt K H4 ys (blocksOf tr (g.filter fun i => decide (i ≠ m))) := ls_blocks hys
      refine ⟨D, ys, _, rfl, SqL.of hd4, hL, ?_, ?_, blocks_len hB (fun i hi => by rw [← htl]; exact hg.lt i (List.mem_filter.mp hi).1), fun H5 pp s5' n5 hp5 => q H5 pp (s4.trans s5') (s4.free n5) hp5⟩
      · intro e
        refine other_in hg m ?_
        unfold blocksOf at e
        exact List.map_eq_nil_iff.mp e
      · unfold blocksOf
        rw [List.length_map]
        exact Nat.le_trans (List.length_filter_le _ _) hz
/-! ### next_group -/
def spNext (C : Addr) : Sp := fun vs H Q _ => ∃ (d a : Addr) (rows : List Row) (plan : List (List Nat)), vs = [.ref d, .ref a] ∧ Disc0 C H d rows ∧ PlanAt H a plan ∧ (∀ g ∈ plan, GOk rows.length g) ∧
  ∀ v H', Same H H' → ((v = .non ∧ ∀ g ∈ plan, (missOf rows g).length ≠ 1) ∨ (∃ g ∈ plan, GrAt H' v g ∧ (missOf rows g).length = 1)) → Q v H'
theorem sc_next : FnScope ["disc", "plan", "group"] ["disc", "plan"] (C8.fnScope s_next_group) := C8.fnScope_by (by decide +kernel)
theorem c_next (F : C8.Def K mg "next_group" s_next_group f fd) (b : Binds K fd ["disc", "plan"] []) (T : Tx K mg) (cM : C8.Cal P w K mg base 2 "missing_of" (spMissOf C) []) : C8.Cal P w K mg base 3 "next_group" (spNext C) [] := by
  refine C8.cal0 F b .nil sc_next (fun vs H Q E h => ?_) (fun cdv A outer s H vs Q E hr h => ?_)
  · obtain ⟨d, a, rows, plan, rfl, _⟩ := h
    rfl
  · obtain ⟨d, a, rows, plan, rfl, hd, ⟨gs, ha, hp⟩, hg, q⟩ := h
    refine ⟨_, pss_cons (ps_for PassesOwn.never rfl (pi_list (pv 1)) (pg_name (i := 2) sc_next.nd rfl (Or.inl rfl))
        (pss_one (ps_if (pt_cmpR op_eq (pe_len K T.len (C8.pe_c cM hr (by decide) (by rfl) (pa_cons (pv 0) (pa_cons (pv 2) pa_nil)))) pe_int (nomark _)) (pss_one (ps_ret (pv 2))) pss_nil)))
      (pss_one (ps_ret pe_non)), ?_⟩
    refine ⟨_, rfl, a, rfl, ⟨_, SqL.of ha⟩, for_list (K := K) (a := a) (xs := gs) (fun i σ H' => ∃ x2, σ = [some (.ref d), some (.ref a), x2] ∧ Same H H' ∧ ∀ g ∈ plan.take i, (missOf rows g).length ≠ 1)
      ⟨none, rfl, Same.refl _, fun g hg => by simp at hg⟩ (fun i σ H' _ ⟨_, _, sm, _⟩ => sm.seq (SqL.of ha)) ?_ ?_⟩
    · rintro i y σ H1 hi ⟨x2, rfl, s1, hno⟩
      obtain ⟨g, eg, t, rfl, ht⟩ := pr_L hp hi
      have gm := List.mem_of_getElem? eg
      refine ⟨_, rfl, _, rfl, d, t, rows, g, rfl, Disc0.same s1 hd, s1 _ _ ht, (hg g gm).lt, (hg g gm).len, fun H2 p s2' n2 hp2 => ?_⟩
      have s2 := s1.trans s2'
      refine ⟨p, _, rfl, .inl (SqL.of hp2), rfl, _, rfl, ?_⟩
      rw [nVs_len]
      by_cases e : (missOf rows g).length = 1
      · have ed : decide (V.int (((missOf rows g).length : Nat) : Int) = V.int 1) = true := decide_eq_true (by rw [e]; rfl)
        rw [ed]
        exact iteT ⟨_, rfl, q _ H2 s2 (.inr ⟨g, gm, ⟨t, rfl, s2 _ _ ht⟩, e⟩)⟩
      · have ed : decide (V.int (((missOf rows g).length : Nat) : Int) = V.int 1) = false := decide_eq_false fun z => e (by have z2 := V.int.inj z; omega)
        rw [ed]
        refine iteF ⟨some (.ref t), rfl, s2, fun g' hg' => ?_⟩
        rw [take_snoc eg] at hg'
        rcases List.mem_append.mp hg' with m | m
        · exact hno g' m
        · rw [List.mem_singleton.mp m]
          exact e
    · rintro σ H1 ⟨x2, rfl, s1, hno⟩
      have gl : gs.length = plan.length := Paired.length hp
      rw [gl, List.take_length] at hno
      exact q _ H1 s1 (.inl ⟨rfl, hno⟩)
end
end Dw
namespace Dw
open PySem PySem.Spec PyProof.Rows L2
/-- a new address is no part of a disc -/
theorem Disc0.avoid {C : Addr} {H : Hp} {d q : Addr} {rows : List Row} (h : Disc0 C H d rows) (hq : H q = none) : Disc C (fun b => b ≠ q) H d rows := by
  obtain ⟨dx, l, as, h1, h2, _, h4⟩ := h.ex
  refine ⟨⟨dx, l, as, h1, h2, ne_of_none h2 hq, Paired.mono (fun v r z => ?_) h4⟩, ne_of_none h1 hq, h.fine, h.len, h.one⟩
  cases r with
  | none => exact z
  | some bs =>
    obtain ⟨b, e, _, hb⟩ := z
    exact ⟨b, e, ne_of_none hb hq, hb⟩
theorem one_len {l : List Nat} (h : l.length = 1) : ∃ m, l = [m] := by
  match l, h with
  | [m], _ => exact ⟨m, rfl⟩
section
variable {P : Program} {w : World} {K : PySem.W.Frag} {mg : Str → Option Value} {base : Heap} {f C : Addr} {fd : FuncData}
/-! ### mended_by_parity -/
def spMend (C : Addr) : Sp := fun vs H Q _ => ∃ (d a : Addr) (rows : List Row) (tr : Tr) (plan : List (List Nat)), vs = [.ref d, .ref a] ∧ Disc0 C H d rows ∧ PlanAt H a plan ∧ (∀ g ∈ plan, GOk rows.length g) ∧ plan.length ≤ 2000 ∧ Agree rows tr ∧ AllBlk tr ∧ (∀ g ∈ plan, GLaw tr g) ∧
  ∀ H' t d' ml rows' made, Same H H' → H' t = some (.tup [.ref d', .ref ml]) → H' ml = some (.lst (nVs made)) → Disc0 C H' d' rows' → Agree rows' tr → (missAll rows).Perm (made ++ missAll rows') → (∀ g ∈ plan, (missOf rows' g).length ≠ 1) → Q (.ref t) H'
theorem sc_mend : FnScope ["disc", "plan", "made", "group", "missing"] ["disc", "plan"] (C8.fnScope s_mended_by_parity) := C8.fnScope_by (by decide +kernel)
theorem c_mend (F : C8.Def K mg "mended_by_parity" s_mended_by_parity f fd) (b : Binds K fd ["disc", "plan"] []) (cD : C8.Cal P w K mg base 4 "demand_plan" (spDem C) []) (cM : C8.Cal P w K mg base 2 "missing_of" (spMissOf C) []) (cN : C8.Cal P w K mg base 3 "next_group" (spNext C) [])
    (cW : C8.Met P w K mg base 4 C "with_block" (spWith C) []) (cP : C8.Cal P w K mg base 3 "parity_without" (spPw C) []) : C8.Cal P w K mg base 5 "mended_by_parity" (spMend C) [] := by
  refine C8.cal0 F b .nil sc_mend (fun vs H Q E h => ?_) (fun cdv A outer s H vs Q E hr h => ?_)
  · obtain ⟨d, a, rows, tr, plan, rfl, _⟩ := h
    rfl
  · obtain ⟨d, a, rows, tr, plan, rfl, hd, hpl, hg, hpz, A0, hB, hL, q⟩ := h
    refine ⟨_, pss_cons (ps_expr (C8.pe_c cD hr (Nat.le_refl _) (by rfl) (pa_cons (pv 0) (pa_cons (pv 1) pa_nil))))
      (pss_cons (ps_set (i := 2) sc_mend.nd rfl (Or.inl rfl) (pe_lst pa_nil))
      (pss_cons (ps_set (i := 3) sc_mend.nd rfl (Or.inl rfl) (C8.pe_c cN hr (by decide) (by rfl) (pa_cons (pv 0) (pa_cons (pv 1) pa_nil))))
      (pss_cons (ps_while PassesOwn.never (pt_cmpR op_notN (pv 3) pe_non (nomark _))
        (pss_cons (ps_set (i := 4) sc_mend.nd rfl (Or.inl rfl) (pe_il K (C8.pe_c cM hr (by decide) (by rfl) (pa_cons (pv 0) (pa_cons (pv 3) pa_nil))) pe_int))
        (pss_cons (ps_set (i := 0) sc_mend.nd rfl (Or.inl rfl) (C8.pe_mt cW hr (by decide) (pv 0) (pa_cons (pv 4) (pa_cons (C8.pe_c cP hr (by decide) (by rfl) (pa_cons (pv 0) (pa_cons (pv 3) (pa_cons (pv 4) pa_nil)))) pa_nil))))
        (pss_cons (ps_expr (pe_bm PySem.F.plainAttrs_list PySem.F.slot_list_append PySem.F.type_list_append mt_append (pv 2) (pa_cons (pv 4) pa_nil)))
        (pss_one (ps_set (i := 3) sc_mend.nd rfl (Or.inl rfl) (C8.pe_c cN hr (by decide) (by rfl) (pa_cons (pv 0) (pa_cons (pv 1) pa_nil)))))))))
      (pss_one (ps_ret (pe_tup (pa_cons (pv 0) (pa_cons (pv 2) pa_nil)))))))), ?_⟩
    refine ⟨_, rfl, _, rfl, d, a, rows, plan, rfl, hd, hpl, hg, hpz, fun H1 s1 => ?_⟩
    refine ⟨Nat.zero_le _, fun ml nml => ?_⟩
    have nmlH : H ml = none := s1.free nml
    have s2 : Same H (upd H1 ml (.lst [])) := s1.trans (Same.new nml)
    have D2 : Disc C (fun b => b ≠ ml) (upd H1 ml (.lst [])) d rows := Disc.same (fun b o hb e => by rw [upd_ne hb]; exact e) ((Disc0.same s1 hd).avoid nml)
    refine ⟨_, rfl, _, rfl, d, a, rows, plan, rfl, D2.all, hpl.same s2, hg, fun v H3 s3' hv => ?_⟩
    have s3 := s2.trans s3'
    have lenE : ∀ {rows' : List Row}, Agree rows' tr → rows'.length = rows.length := fun A => A.len.trans A0.len.symm
    refine ⟨fun m σ H' => ∃ (d' : Addr) (rows' : List Row) (made : List Nat) (gv : V) (x4 : Option V), σ = [some (.ref d'), some (.ref a), some (.ref ml), some gv, x4] ∧ Same H H' ∧ H' ml = some (.lst (nVs made)) ∧ Disc C (fun b => b ≠ ml) H' d' rows' ∧ Agree rows' tr ∧
        (missAll rows).Perm (made ++ missAll rows') ∧ ((gv = .non ∧ ∀ g ∈ plan, (missOf rows' g).length ≠ 1) ∨ (∃ g ∈ plan, GrAt H' gv g ∧ (missOf rows' g).length = 1)) ∧ m = (missAll rows').length,
      ⟨_, d, rows, [], v, none, rfl, s3, s3' _ _ upd_same, Disc.same (fun b o _ e => s3' b o e) D2, A0, List.Perm.refl _, hv, rfl⟩, ?_⟩
    rintro m σ H4 ⟨d', rows', made, gv, x4, rfl, s4, hml, D4, A4, P4, hg4, rfl⟩
    refine ⟨_, rfl, rfl, _, rfl, ?_⟩
    rcases hg4 with ⟨rfl, hno⟩ | ⟨g, gm, ⟨t, rfl, ht⟩, h1⟩
    · -- the end
      refine iteF ?_
      refine ⟨_, rfl, _, rfl, by show 2 ≤ sizeLine; decide, fun t nt => ?_⟩
      have st : Same H4 (upd H4 t (.tup [.ref d', .ref ml])) := Same.new nt
      exact q _ t d' ml rows' made (s4.trans st) upd_same (st _ _ hml) (Disc0.same st D4.all) A4 P4 hno
    · refine iteT ?_
      have hlen := lenE A4
      obtain ⟨mm, em⟩ := one_len h1
      obtain ⟨mg1, mg2, mg3⟩ := one_miss em
      have gok : GOk rows'.length g := by rw [hlen]; exact hg g gm
      have hmlt : mm < rows'.length := gok.lt mm mg1
      have mall : mm ∈ missAll rows' := missAll_mem.mpr ⟨hmlt, mg2⟩
      have par := (hL g gm).ok mm mg1
      have madel : made.length ≤ 2000 := by
        have e := P4.length_eq
        rw [List.length_append] at e
        have e2 : (missAll rows).length ≤ rows.length := by
          have z := List.length_filter_le (isMiss rows) (List.range rows.length)
          rw [List.length_range] at z
          exact z
        have e3 := hd.len
        omega
      refine ⟨_, fun _ _ n => n, ?_⟩
      -- missing = missing_of(disc, group)[0]
      refine ⟨_, rfl, _, rfl, d', t, rows', g, rfl, D4.all, ht, gok.lt, gok.len, fun H5 p s5' n5 hp5 => ?_⟩
      rw [em] at hp5
      refine ⟨p, _, 0, _, rfl, rfl, SqL.of hp5, atI_nat (j := 0) rfl, ?_⟩
      have s5 := s4.trans s5'
      have D5 : Disc C (fun b => b ≠ ml) H5 d' rows' := Disc.same (fun b o _ e => s5' b o e) D4
      -- disc = disc.with_block(..)
      obtain ⟨dx, l, as, e1, e2, _, _⟩ := D5.ex
      refine ⟨_, rfl, d', dx, _, rfl, e1, dF_no l (by decide +kernel) (by decide +kernel), _, rfl, _, rfl, _, rfl, _, rfl, d', t, rows', tr, g, mm, rfl, D5.all, s5' _ _ ht, gok, A4, hB, mg1, mg3, fun H6 p6 s6' n6 hp6 => ?_⟩
      rw [par] at hp6
      have hblk : Blk (tg tr mm) := tg_blk hB (by rw [← A4.len]; exact hmlt)
      refine ⟨d', rows', mm, .ref p6, some (tg tr mm), rfl, Disc0.same s6' D5.all, hmlt, ⟨p6, rfl, hp6⟩, fun bs e => by rw [← Option.some.inj e]; exact hblk, ⟨tg tr mm, List.mem_iff_getElem?.mpr ⟨mm, List.getElem?_set_self hmlt⟩⟩, fun H7 d7 s7' D7 => ?_⟩
      have s7 := (s5.trans s6').trans s7'
      have hml6 := s6' _ _ (s5' _ _ hml)
      have hml7 := s7' _ _ hml6
      have D7' : Disc C (fun b => b ≠ ml) H7 d7 (rows'.set mm (some (tg tr mm))) := D7.weak fun b hb => (ne_of_none hml6 hb).symm
      -- made.append(missing)
      refine ⟨_, rfl, .inl ⟨rfl, _, SqL.of hml7⟩, _, rfl, ml, _, _, rfl, rfl, hml7, small (by rw [nVs_len]; omega), ?_⟩
      have D8 : Disc C (fun b => b ≠ ml) (upd H7 ml (.lst (nVs made ++ [nV mm]))) d7 (rows'.set mm (some (tg tr mm))) := Disc.same (fun b o hb e => by rw [upd_ne hb]; exact e) D7'
      have s8 : Same H (upd H7 ml (.lst (nVs made ++ [nV mm]))) := fun b o e => by
        rw [upd_ne (ne_of_none e nmlH)]
        exact s7 _ _ e
      have A8 := agree_set A4 hmlt
      -- group = next_group(disc, plan)
      refine ⟨_, rfl, _, rfl, d7, a, rows'.set mm (some (tg tr mm)), plan, rfl, D8.all, hpl.same s8, fun g' hg' => by rw [lenE A8]; exact hg g' hg', fun v9 H9 s9 hv9 => ?_⟩
      have pm := missAll_perm (b := tg tr mm) mall
      refine ⟨(missAll (rows'.set mm (some (tg tr mm)))).length, ?_, d7, _, made ++ [mm], v9, _, rfl, s8.trans s9, ?_, Disc.same (fun b o _ e => s9 b o e) D8, A8, ?_, hv9, rfl⟩
      · have e := pm.length_eq
        rw [List.length_cons] at e
        omega
      · rw [s9 _ _ upd_same, nVs_app]
        rfl
      · rw [List.append_assoc]
        exact P4.trans (List.Perm.append_left _ pm)
/-! ### broken_groups -/
def spBrok (C : Addr) : Sp := fun vs H Q _ => ∃ (d a : Addr) (rows : List Row) (tr : Tr) (plan : List (List Nat)), vs = [.ref d, .ref a] ∧ Disc0 C H d rows ∧ PlanAt H a plan ∧ (∀ g ∈ plan, GOk rows.length g) ∧ plan.length ≤ 2000 ∧ Agree rows tr ∧ AllBlk tr ∧ (∀ i, i < rows.length → isMiss rows i = false) ∧
  (∀ g ∈ plan, ∀ g' z, g = g' ++ [z] → parN (blocksOf tr g') = tg tr z) ∧ ∀ H' p, Same H H' → H p = none → H' p = some (.lst []) → Q (.ref p) H'
theorem sc_brok : FnScope ["disc", "plan", "found", "index", "group"] ["disc", "plan"] (C8.fnScope s_broken_groups) := C8.fnScope_by (by decide +kernel)
theorem c_brok (F : C8.Def K mg "broken_groups" s_broken_groups f fd) (b : Binds K fd ["disc", "plan"] []) (T : Tx K mg) (cD : C8.Cal P w K mg base 4 "demand_plan" (spDem C) []) (cM : C8.Cal P w K mg base 2 "missing_of" (spMissOf C) []) (cH : C8.Cal P w K mg base 5 "holds" (spHolds C) []) : C8.Cal P w K mg base 6 "broken_groups" (spBrok C) [] := by
  refine C8.cal0 F b .nil sc_brok (fun vs H Q E h => ?_) (fun cdv A outer s H vs Q E hr h => ?_)
  · obtain ⟨d, a, rows, tr, plan, rfl, _⟩ := h
    rfl
  · obtain ⟨d, a, rows, tr, plan, rfl, hd, ⟨gs, ha, hp⟩, hg, hpz, A0, hB, hm, hpar, q⟩ := h
    refine ⟨_, pss_cons (ps_expr (C8.pe_c cD hr (by decide) (by rfl) (pa_cons (pv 0) (pa_cons (pv 1) pa_nil))))
      (pss_cons (ps_set (i := 2) sc_brok.nd rfl (Or.inl rfl) (pe_lst pa_nil))
      (pss_cons (ps_for PassesOwn.never rfl (pi_enum (by rfl) T.enumr (pa_cons (pv 1) pa_nil)) (pg_tup rfl (pgs_cons (pg_name (i := 3) sc_brok.nd rfl (Or.inl rfl)) (pgs_cons (pg_name (i := 4) sc_brok.nd rfl (Or.inl rfl)) pgs_nil)))
        (pss_one (ps_if (PW.pt (pw_and (pt_cmpR op_eq (pe_len K T.len (C8.pe_c cM hr (by decide) (by rfl) (pa_cons (pv 0) (pa_cons (pv 4) pa_nil)))) pe_int (nomark _)) (pw_and1 (pt_not (pt_val (C8.pe_c cH hr (by decide) (by rfl) (pa_cons (pv 0) (pa_cons (pv 4) pa_nil))))))))
          pss_never pss_nil)))
      (pss_one (ps_ret (pv 2))))), ?_⟩
    have gl : gs.length = plan.length := Paired.length hp
    refine ⟨_, rfl, _, rfl, d, a, rows, plan, rfl, hd, ⟨gs, ha, hp⟩, hg, hpz, fun H1 s1 => ?_⟩
    refine ⟨Nat.zero_le _, fun fl nfl => ?_⟩
    have s2 : Same H (upd H1 fl (.lst [])) := s1.trans (Same.new nfl)
    have nflH := s1.free nfl
    refine ⟨_, rfl, a, gs, rfl, SqL.of (s2 _ _ ha), ?_⟩
    refine ⟨fun i m σ H' => ∃ x3 x4, σ = [some (.ref d), some (.ref a), some (.ref fl), x3, x4] ∧ Same H H' ∧ H' fl = some (.lst []) ∧ i + m = gs.length, ⟨gs.length, none, none, rfl, s2, upd_same, Nat.zero_add _⟩, ?_⟩
    rintro i m σ H3 ⟨x3, x4, rfl, s3, hfl, em⟩
    have hA3 : SqL K H3 a gs := SqL.of (s3 _ _ ha)
    by_cases hi : i < gs.length
    · have gx : gs[i]? = some gs[i] := List.getElem?_eq_getElem hi
      refine .inr ⟨⟨gs, _, hA3, gx⟩, fun σ' H' => ∃ x3 x4, σ' = [some (.ref d), some (.ref a), some (.ref fl), x3, x4] ∧ Same H H' ∧ H' fl = some (.lst []), fun σ' H' ⟨x3, x4, e, sm, hf⟩ => ⟨m - 1, by omega, x3, x4, e, sm, hf, by omega⟩, fun v H' hy => ?_⟩
      obtain ⟨TT, x, rfl, nT, rfl, fx⟩ := hy
      have ex := fx gs hA3
      obtain ⟨g, eg, t, rfl, ht⟩ := pr_L hp ex
      have gm := List.mem_of_getElem? eg
      have s4 : Same H (upd H3 TT (.tup [.int (i : Nat), .ref t])) := s3.trans (Same.new nT)
      have hfl4 := Same.new (o := .tup [.int (i : Nat), .ref t]) nT _ _ hfl
      refine ⟨TT, _, rfl, SqT.of upd_same, rfl, _, _, rfl, _, _, rfl, rfl, ?_⟩
      refine ⟨_, rfl, _, rfl, d, t, rows, g, rfl, Disc0.same s4 hd, s4 _ _ ht, (hg g gm).lt, (hg g gm).len, fun H5 p s5' n5 hp5 => ?_⟩
      have emp : missOf rows g = [] := List.filter_eq_nil_iff.mpr fun j hj => by rw [hm j ((hg g gm).lt j hj)]; exact Bool.false_ne_true
      rw [emp] at hp5
      have s5 := s4.trans s5'
      refine ⟨p, _, rfl, .inl (SqL.of hp5), rfl, _, rfl, iteT ?_⟩
      obtain ⟨z, ez⟩ := snoc_of (g := g) (by have := (hg g gm).two; omega)
      refine ⟨_, rfl, _, rfl, d, t, rows, tr, g.dropLast, z, rfl, Disc0.same s5 hd, by rw [← ez]; exact s5 _ _ ht, by rw [← ez]; exact hg g gm, A0, hB, fun j hj => hm j ((hg g gm).lt j (by rw [ez]; exact hj)), hpar g gm _ z ez, fun H6 s6 => ⟨_, rfl, iteF ?_⟩⟩
      exact ⟨_, _, rfl, s5.trans s6, s6 _ _ (s5' _ _ hfl4)⟩
    · refine .inl ⟨⟨gs, hA3, by omega⟩, ?_⟩
      exact ⟨_, rfl, q H3 fl s3 nflH hfl⟩
/-! ### with_parity -/
def setP (tr : Tr) (g : List Nat) : Tr := tr.set (g.getLastD 0) (parN (blocksOf tr g.dropLast))
def wpar (tr : Tr) (plan : List (List Nat)) : Tr := plan.foldl setP tr
theorem setP_len (tr : Tr) (g : List Nat) : (setP tr g).length = tr.length := List.length_set
theorem wpar_len : ∀ (plan : List (List Nat)) (tr : Tr), (wpar tr plan).length = tr.length
  | [], _ => rfl
  | g :: plan, tr => (wpar_len plan (setP tr g)).trans (setP_len tr g)
theorem vxor_blk {a b : List Nat} (ha : Blk a) (hb : Blk b) : Blk (vxor a b) := by
  refine ⟨vxor_len ha.1 hb.1, fun x hx => ?_⟩
  unfold vxor at hx
  obtain ⟨i, hi, e⟩ := List.mem_iff_getElem.mp hx
  rw [List.getElem_zipWith] at e
  rw [← e]
  exact Nat.xor_lt_two_pow (n := 8) (ha.2 _ (List.getElem_mem _)) (hb.2 _ (List.getElem_mem _))
theorem zeros_blk : Blk zeros := ⟨rfl, fun x hx => by rw [(List.mem_replicate.mp hx).2]; decide⟩
theorem parN_blk {ls : List (List Nat)} (h : ∀ l ∈ ls, Blk l) : Blk (parN ls) := by
  have go : ∀ (ls : List (List Nat)) (a : List Nat), Blk a → (∀ l ∈ ls, Blk l) → Blk (ls.foldl vxor a) := by
    intro ls
    induction ls with
    | nil => exact fun a ha _ => ha
    | cons l ls ih => exact fun a ha h => ih _ (vxor_blk ha (h l List.mem_cons_self)) fun l' hl' => h l' (List.mem_cons_of_mem _ hl')
  exact go ls zeros zeros_blk h
theorem blocks_blk {tr : Tr} (h : AllBlk tr) {g : List Nat} (hg : ∀ i ∈ g, i < tr.length) : ∀ l ∈ blocksOf tr g, Blk l := fun l hl => by
  obtain ⟨i, hi, rfl⟩ := List.mem_map.mp hl
  exact tg_blk h (hg i hi)
theorem setP_blk {tr : Tr} (h : AllBlk tr) {g : List Nat} (hg : ∀ i ∈ g, i < tr.length) : AllBlk (setP tr g) := fun l hl => by
  rcases List.mem_or_eq_of_mem_set hl with m | m
  · exact h l m
  · rw [m]
    exact parN_blk (blocks_blk h fun i hi => hg i (List.dropLast_subset g hi))
def spWp (C : Addr) : Sp := fun vs H Q _ => ∃ (d a : Addr) (tr : Tr) (plan : List (List Nat)), vs = [.ref d, .ref a] ∧ Disc0 C H d (tr.map some) ∧ PlanAt H a plan ∧ (∀ g ∈ plan, GOk tr.length g) ∧ plan.length ≤ 2000 ∧ AllBlk tr ∧ plan ≠ [] ∧
  ∀ H' d', Same H H' → Disc C (fun b => H b = none) H' d' ((wpar tr plan).map some) → AllBlk (wpar tr plan) → Q (.ref d') H'
theorem sc_wp : FnScope ["disc", "plan", "group", "index"] ["disc", "plan"] (C8.fnScope s_with_parity) := C8.fnScope_by (by decide +kernel)
theorem agree_self (tr : Tr) : Agree (tr.map some) tr := ⟨List.length_map _, fun i bs e => by
  rw [List.getElem?_map] at e
  cases q : tr[i]? with
  | none => rw [q] at e; cases e
  | some l =>
    rw [q] at e
    rw [Option.some.inj (Option.some.inj e)]⟩
theorem noMiss (tr : Tr) (i : Nat) : isMiss (tr.map some) i = false := by
  unfold isMiss
  rw [List.getElem?_map]
  cases tr[i]? with
  | none => rfl
  | some l => rfl
theorem c_wp (F : C8.Def K mg "with_parity" s_with_parity f fd) (b : Binds K fd ["disc", "plan"] []) (T : Tx K mg) (cD : C8.Cal P w K mg base 4 "demand_plan" (spDem C) []) (cM : C8.Cal P w K mg base 2 "missing_of" (spMissOf C) []) (cP : C8.Cal P w K mg base 2 "parity" (spParity K) [])
    (cB : C8.Met P w K mg base 1 C "block" (spBlock C) []) (cW : C8.Met P w K mg base 4 C "with_block" (spWith C) []) : C8.Cal P w K mg base 5 "with_parity" (spWp C) [] := by
  refine C8.cal0 F b .nil sc_wp (fun vs H Q E h => ?_) (fun cdv A outer s H vs Q E hr h => ?_)
  · obtain ⟨d, a, tr, plan, rfl, _⟩ := h
    rfl
  · obtain ⟨d, a, tr, plan, rfl, hd, hPl, hg, hpz, hB, hne, q⟩ := h
    obtain ⟨gs, ha, hp⟩ := id hPl
    refine ⟨_, pss_cons (ps_expr (C8.pe_c cD hr (by decide) (by rfl) (pa_cons (pv 0) (pa_cons (pv 1) pa_nil))))
      (pss_cons (ps_for PassesOwn.never rfl (pi_list (pv 1)) (pg_name (i := 2) sc_wp.nd rfl (Or.inl rfl))
        (pss_cons (ps_if (pt_cmpR op_gt (pe_len K T.len (C8.pe_c cM hr (by decide) (by rfl) (pa_cons (pv 0) (pa_cons (pe_slice sl_tup (pv 2) po_none (po_some (pe_un un_neg pe_int))) pa_nil)))) pe_int (nomark _)) pss_never pss_nil)
        (pss_one (ps_set (i := 0) sc_wp.nd rfl (Or.inr rfl) (C8.pe_mt cW hr (by decide) (pv 0) (pa_cons (pe_it K (pv 2) (pe_un un_neg pe_int)) (pa_cons (C8.pe_c cP hr (by decide) (by rfl) (pa_cons (pe_lc (own := [("index", 3)]) (g := gName 3) (tt := tYes) rfl sc_wp.nd (pi_tup (pe_slice sl_tup (pv 2) po_none (po_some (pe_un un_neg pe_int))))
          (blkOk_by (N := ["disc", "plan", "group", "index"]) (sc := C8.fnScope s_with_parity) (by decide +kernel)) (fun _ _ _ _ _ => pg_name (i := 3) sc_wp.nd rfl (Or.inl rfl)) (fun _ _ _ _ _ => pts_nil)
          (fun _ _ _ _ _ => C8.pe_mt cB hr (by decide) (pv 0) (pa_cons (pv 3) pa_nil))) pa_nil)) pa_nil)))))))
      (pss_one (ps_ret (pv 0)))), ?_⟩
    have gl : gs.length = plan.length := Paired.length hp
    have tl : (tr.map some : List Row).length = tr.length := List.length_map _
    refine ⟨_, rfl, _, rfl, d, a, tr.map some, plan, rfl, hd, hPl, fun g hg' => by rw [tl]; exact hg g hg', hpz, fun H1 s1 => ?_⟩
    refine ⟨_, rfl, a, rfl, ⟨_, SqL.of (s1 _ _ ha)⟩, for_list (K := K) (a := a) (xs := gs) (fun i σ H' => ∃ (d' : Addr) (x2 : Option V), σ = [some (.ref d'), some (.ref a), x2, none] ∧ Same H H' ∧ Disc0 C H' d' ((wpar tr (plan.take i)).map some) ∧ AllBlk (wpar tr (plan.take i)) ∧ (0 < i → Disc C (fun b => H b = none) H' d' ((wpar tr (plan.take i)).map some)))
      ⟨d, none, rfl, s1, Disc0.same s1 hd, hB, fun z => absurd z (Nat.lt_irrefl _)⟩ (fun i σ H' _ ⟨_, _, _, sm, _⟩ => sm.seq (SqL.of ha)) ?_ ?_⟩
    · rintro i y σ H2 hi ⟨d', x2, rfl, s2, D2, B2, _⟩
      obtain ⟨g, eg, t, rfl, ht⟩ := pr_L hp hi
      have gm := List.mem_of_getElem? eg
      have el : (wpar tr (plan.take i)).length = tr.length := wpar_len _ _
      have ew : wpar tr (plan.take (i + 1)) = setP (wpar tr (plan.take i)) g := by
        rw [take_snoc eg]
        unfold wpar
        rw [List.foldl_append]
        rfl
      rw [ew]
      generalize wpar tr (plan.take i) = tr2 at D2 B2 el ⊢
      have gok : GOk tr2.length g := by rw [el]; exact hg g gm
      have h2 := gok.two
      have hz := gok.len
      obtain ⟨z, ez⟩ := snoc_of (g := g) (by omega)
      have elz : g.getLastD 0 = z := by
        rw [ez]
        simp
      have hdl : ∀ j ∈ g.dropLast, j < tr2.length := fun j hj => gok.lt j (List.dropLast_subset g hj)
      have zlt : z < tr2.length := gok.lt z (by rw [ez]; exact List.mem_append_right _ (List.mem_singleton.mpr rfl))
      have tl2 : (tr2.map some : List Row).length = tr2.length := List.length_map _
      have dll : g.dropLast.length ≤ 2000 := by rw [List.length_dropLast]; omega
      -- the test
      refine ⟨_, rfl, _, rfl, 1, rfl, _, rfl, t, _, rfl, SqT.of (s2 _ _ ht), cut_not (by omega), fun p3 n3 => ?_⟩
      rw [cut_last (by omega)]
      have s3 := s2.trans (Same.new (o := .tup (nVs g.dropLast)) n3)
      have D3 : Disc0 C (upd H2 p3 (.tup (nVs g.dropLast))) d' (tr2.map some) := Disc0.same (Same.new n3) D2
      have hp3 : (upd H2 p3 (.tup (nVs g.dropLast))) p3 = some (.tup (nVs g.dropLast)) := upd_same
      generalize upd H2 p3 (.tup (nVs g.dropLast)) = H3 at s3 hp3 D3
      refine ⟨d', p3, _, g.dropLast, rfl, D3, hp3, fun j hj => by rw [tl2]; exact hdl j hj, dll, fun H4 p4 s4' n4 hp4 => ?_⟩
      have emp : missOf (tr2.map some) g.dropLast = [] := List.filter_eq_nil_iff.mpr fun j _ => by rw [noMiss]; exact Bool.false_ne_true
      rw [emp] at hp4
      have s4 := s3.trans s4'
      have D4 : Disc0 C H4 d' (tr2.map some) := Disc0.same s4' D3
      refine ⟨p4, _, rfl, .inl (SqL.of hp4), _, _, rfl, rfl, _, rfl, iteF ?_⟩
      -- with_block
      obtain ⟨dx, l, as, e1, e2, _, _⟩ := id D4.ex
      have hg4 := s4 _ _ ht
      refine ⟨_, rfl, d', dx, _, rfl, e1, dF_no l (by decide +kernel) (by decide +kernel), _, rfl, 1, rfl, t, _, -1, nV z, rfl, rfl, SqT.of hg4, by rw [ez]; exact at_last, ?_⟩
      refine ⟨_, rfl, 1, rfl, _, rfl, t, _, rfl, SqT.of hg4, cut_not (by omega), fun p5 n5 => ?_⟩
      rw [cut_last (by omega)]
      have s5 := s4.trans (Same.new (o := .tup (nVs g.dropLast)) n5)
      have D5 : Disc0 C (upd H4 p5 (.tup (nVs g.dropLast))) d' (tr2.map some) := Disc0.same (Same.new n5) D4
      have hp5 : (upd H4 p5 (.tup (nVs g.dropLast))) p5 = some (.tup (nVs g.dropLast)) := upd_same
      generalize upd H4 p5 (.tup (nVs g.dropLast)) = H5 at s5 hp5 D5
      refine ⟨p5, rfl, ⟨_, SqT.of hp5⟩, fun D hD => ?_⟩
      refine lc_blocksT (fun _ => true) (trL tr2) (SqT.of hp5) hD (by rw [nVs_len]; omega) (fun j x H' hx sm Nx Kp kt kf => ?_) (fun H6 ys s6' hd6 hys => ?_)
      · obtain ⟨n, en, rfl⟩ := nVs_at hx
        have hn : n ∈ g.dropLast := List.mem_of_getElem? en
        refine ⟨rfl, tt_yes ?_⟩
        obtain ⟨dx, l, as, h1, h2, _, hp⟩ := id D5.ex
        refine ⟨_, rfl, d', dx, _, rfl, sm _ _ h1, dF_no l (by decide +kernel) (by decide +kernel), _, rfl, d', _, n, _, rfl, Disc0.same sm D5, there (agree_self tr2) (by rw [tl2]; exact hdl n hn) (noMiss _ _), fun v H2 sb rv => ?_⟩
        obtain ⟨b, rfl, nb, hb⟩ := rv
        exact kt b H2 rfl sb nb hb
      · rw [all_true] at hys
        have s6 := s5.trans s6'
        have hL : LsAt K H6 ys (blocksOf tr2 g.dropLast) := ls_blocks hys
        have bne : blocksOf tr2 g.dropLast ≠ [] := fun e => by
          have e2 := congrArg List.length e
          unfold blocksOf at e2
          rw [List.length_map, List.length_dropLast] at e2
          simp at e2
          omega
        refine ⟨D, ys, _, rfl, SqL.of hd6, hL, bne, by unfold blocksOf; rw [List.length_map]; exact dll, blocks_len B2 hdl, fun H7 pp s7' n7 hp7 => ?_⟩
        have s7 := s6.trans s7'
        have D7 : Disc0 C H7 d' (tr2.map some) := Disc0.same (s6'.trans s7') D5
        have esm : (tr2.map some : List Row).set z (some (parN (blocksOf tr2 g.dropLast))) = (setP tr2 g).map some := by
          unfold setP
          rw [elz, List.map_set]
        refine ⟨d', _, z, .ref pp, some (parN (blocksOf tr2 g.dropLast)), rfl, D7, by rw [tl2]; exact zlt, ⟨pp, rfl, hp7⟩, fun bs e => by rw [← Option.some.inj e]; exact parN_blk (blocks_blk B2 hdl), ⟨_, List.mem_iff_getElem?.mpr ⟨z, List.getElem?_set_self (by rw [tl2]; exact zlt)⟩⟩, fun H8 d8 s8' D8 => ?_⟩
        rw [esm] at D8
        refine ⟨d8, _, rfl, s7.trans s8', D8.all, setP_blk B2 gok.lt, fun _ => D8.weak fun b hb => s7.free hb⟩
    · rintro σ H2 ⟨d', x2, rfl, s2, D2, B2, D2'⟩
      have pl : 0 < gs.length := by
        rw [gl]
        cases plan with
        | nil => exact absurd rfl hne
        | cons g r => exact Nat.succ_pos _
      have D3 := D2' pl
      rw [gl, List.take_length] at D3 B2
      exact ⟨_, rfl, q H2 d' s2 D3 B2⟩
end
end Dw
/-! The span of the changes of unknown bits. Plain Lean. -/
namespace Dw
/-! ### sums of changes -/
def X (c : Nat → Nat) (P : List Nat) : Nat := P.foldr (fun p a => c p ^^^ a) 0
theorem X_nil (c : Nat → Nat) : X c [] = 0 := rfl
theorem X_cons (c : Nat → Nat) (p : Nat) (P : List Nat) : X c (p :: P) = c p ^^^ X c P := rfl
theorem X_app (c : Nat → Nat) : ∀ P M : List Nat, X c (P ++ M) = X c P ^^^ X c M
  | [], M => by rw [List.nil_append, X_nil, Nat.zero_xor]
  | p :: P, M => by
    rw [List.cons_append, X_cons, X_cons, X_app c P M, Nat.xor_assoc]
theorem X_perm {c : Nat → Nat} {P M : List Nat} (h : P.Perm M) : X c P = X c M := by
  induction h with
  | nil => rfl
  | cons x _ ih => rw [X_cons, X_cons, ih]
  | swap x y l => rw [X_cons, X_cons, X_cons, X_cons, ← Nat.xor_assoc, Nat.xor_comm (c y), Nat.xor_assoc]
  | trans _ _ i1 i2 => exact i1.trans i2
theorem X_split (c : Nat → Nat) (q : Nat → Bool) : ∀ P : List Nat, X c P = X c (P.filter q) ^^^ X c (P.filter fun p => !q p)
  | [] => (Nat.xor_self 0).symm
  | p :: P => by
    rw [X_cons, X_split c q P, List.filter_cons, List.filter_cons]
    cases q p with
    | true =>
      simp only [if_true, Bool.not_true, Bool.false_eq_true, if_false]
      rw [X_cons, Nat.xor_assoc]
    | false =>
      simp only [Bool.false_eq_true, if_false, Bool.not_false, if_true]
      rw [X_cons, ← Nat.xor_assoc, Nat.xor_comm (c p), Nat.xor_assoc]
/-- the places in one list alone -/
def sd (P M : List Nat) : List Nat := P.filter (fun p => !decide (p ∈ M)) ++ M.filter (fun p => !decide (p ∈ P))
theorem same_both {P M : List Nat} (hP : P.Nodup) (hM : M.Nodup) : (P.filter fun p => decide (p ∈ M)).Perm (M.filter fun p => decide (p ∈ P)) := by
  refine (List.perm_ext_iff_of_nodup (hP.sublist List.filter_sublist) (hM.sublist List.filter_sublist)).mpr fun a => ?_
  simp only [List.mem_filter, decide_eq_true_eq]
  exact ⟨fun h => ⟨h.2, h.1⟩, fun h => ⟨h.2, h.1⟩⟩
theorem X_sd {c : Nat → Nat} {P M : List Nat} (hP : P.Nodup) (hM : M.Nodup) : X c (sd P M) = X c P ^^^ X c M := by
  unfold sd
  rw [X_app]
  have e1 := X_split c (fun p => decide (p ∈ M)) P
  have e2 := X_split c (fun p => decide (p ∈ P)) M
  have e3 := X_perm (c := c) (same_both hP hM)
  rw [e1, e2, e3, xor_ac, Nat.xor_self, Nat.zero_xor]
theorem sd_nodup {P M : List Nat} (hP : P.Nodup) (hM : M.Nodup) : (sd P M).Nodup := by
  unfold sd
  refine List.nodup_append.mpr ⟨hP.sublist List.filter_sublist, hM.sublist List.filter_sublist, fun a h1 b h2 e => ?_⟩
  subst e
  have z := (List.mem_filter.mp h2).2
  have z1 := (List.mem_filter.mp h1).1
  simp [z1] at z
theorem mem_sd {P M : List Nat} {a : Nat} (h : a ∈ sd P M) : a ∈ P ∨ a ∈ M := by
  rcases List.mem_append.mp h with h | h
  · exact .inl (List.mem_filter.mp h).1
  · exact .inr (List.mem_filter.mp h).1
theorem sd_keep {P M : List Nat} {a : Nat} (h : a ∈ P) (n : a ∉ M) : a ∈ sd P M :=
  List.mem_append_left _ (List.mem_filter.mpr ⟨h, by simp [n]⟩)
theorem sd_nil {P M : List Nat} (h : sd P M = []) : ∀ a, a ∈ P ↔ a ∈ M := by
  obtain ⟨h1, h2⟩ := List.append_eq_nil_iff.mp h
  intro a
  constructor
  · intro ha
    have z := List.filter_eq_nil_iff.mp h1 a ha
    simpa using z
  · intro ha
    have z := List.filter_eq_nil_iff.mp h2 a ha
    simpa using z
/-! ### binary digits -/
theorem bit_iff {n d : Nat} : n / 2 ^ d % 2 = 1 ↔ n.testBit d = true := by
  rw [Nat.testBit_eq_decide_div_mod_eq, decide_eq_true_eq]
theorem log_bit {r : Nat} (h : 0 < r) : r.testBit r.log2 = true := by
  have h1 : 2 ^ r.log2 ≤ r := Nat.log2_self_le (by omega)
  have h2 : r < 2 ^ (r.log2 + 1) := Nat.lt_log2_self
  rw [Nat.pow_succ] at h2
  refine bit_iff.mp ?_
  have h3 : r / 2 ^ r.log2 = 1 := by
    have hp : 0 < 2 ^ r.log2 := Nat.two_pow_pos _
    refine Nat.div_eq_of_lt_le (by omega) (by omega)
  rw [h3]
theorem log_above {r D : Nat} (h : r.log2 < D) : r.testBit D = false := by
  have h2 : r < 2 ^ (r.log2 + 1) := Nat.lt_log2_self
  refine Nat.testBit_lt_two_pow (Nat.lt_of_lt_of_le h2 (Nat.pow_le_pow_right (by decide) h))
theorem log_eq {x D : Nat} (h1 : x.testBit D = true) (h2 : x < 2 ^ (D + 1)) : x ≠ 0 ∧ x.log2 = D := by
  have hge : 2 ^ D ≤ x := Nat.ge_two_pow_of_testBit h1
  have hp : 0 < 2 ^ D := Nat.two_pow_pos _
  have hx : x ≠ 0 := by omega
  exact ⟨hx, (Nat.log2_eq_iff hx).mpr ⟨hge, h2⟩⟩
theorem log_xor_lt {a b : Nat} (hb : 0 < b) (h : a.log2 < b.log2) : a ^^^ b ≠ 0 ∧ (a ^^^ b).log2 = b.log2 := by
  have ha2 : a < 2 ^ (b.log2 + 1) := Nat.lt_of_lt_of_le (Nat.lt_log2_self) (Nat.pow_le_pow_right (by decide) (by omega))
  refine log_eq ?_ (Nat.xor_lt_two_pow ha2 Nat.lt_log2_self)
  rw [Nat.testBit_xor, log_above h, log_bit hb]
  rfl
/-! ### what is spanned -/
inductive InSp (R : List Nat) : Nat → Prop
  | zero : InSp R 0
  | add {r x : Nat} : r ∈ R → InSp R x → InSp R (r ^^^ x)
theorem InSp.xor {R : List Nat} {x y : Nat} (hx : InSp R x) (hy : InSp R y) : InSp R (x ^^^ y) := by
  induction hx with
  | zero => rw [Nat.zero_xor]; exact hy
  | add hr _ ih => rw [Nat.xor_assoc]; exact .add hr ih
theorem InSp.mono {R R' : List Nat} (h : ∀ r ∈ R, r ∈ R') {x : Nat} (hx : InSp R x) : InSp R' x := by
  induction hx with
  | zero => exact .zero
  | add hr _ ih => exact .add (h _ hr) ih
theorem InSp.one {R : List Nat} {r : Nat} (h : r ∈ R) : InSp R r := by
  have z := InSp.add h (InSp.zero (R := R))
  rw [Nat.xor_zero] at z
  exact z
theorem InSp.cons {R : List Nat} {r x : Nat} (h : InSp (r :: R) x) : InSp R x ∨ InSp R (r ^^^ x) := by
  induction h with
  | zero => exact .inl .zero
  | add hr _ ih =>
    rename_i a y _
    rcases List.mem_cons.mp hr with e | m
    · subst e
      rcases ih with ih | ih
      · refine .inr ?_
        rw [xor_self_l]
        exact ih
      · exact .inl ih
    · rcases ih with ih | ih
      · exact .inl (.add m ih)
      · refine .inr ?_
        rw [← Nat.xor_assoc, Nat.xor_comm r, Nat.xor_assoc]
        exact .add m ih
theorem InSp.X {R : List Nat} {c : Nat → Nat} : ∀ {P : List Nat}, (∀ p ∈ P, InSp R (c p)) → InSp R (X c P)
  | [], _ => .zero
  | p :: P, h => (h p List.mem_cons_self).xor (InSp.X fun q hq => h q (List.mem_cons_of_mem _ hq))
/-- the highest digit of what is spanned by numbers with different highest digits is one of theirs -/
theorem top_in : ∀ {R : List Nat}, (R.map Nat.log2).Nodup → (∀ r ∈ R, 0 < r) → ∀ {x : Nat}, InSp R x → x ≠ 0 → x.log2 ∈ R.map Nat.log2
  | [], _, _, x, h, hx => by
    have e : x = 0 := by
      cases h with
      | zero => rfl
      | add hr _ => cases hr
    exact absurd e hx
  | r :: R, hn, hp, x, h, hx => by
    have hn' : (R.map Nat.log2).Nodup := (List.nodup_cons.mp hn).2
    have hr : r.log2 ∉ R.map Nat.log2 := (List.nodup_cons.mp hn).1
    have hp' : ∀ r ∈ R, 0 < r := fun a ha => hp a (List.mem_cons_of_mem _ ha)
    have h0 : 0 < r := hp r List.mem_cons_self
    rcases h.cons with h | h
    · exact List.mem_cons_of_mem _ (top_in hn' hp' h hx)
    · by_cases e : r ^^^ x = 0
      · have e2 : x = r := by
          have z := xor_self_l r x
          rw [e, Nat.xor_zero] at z
          exact z.symm
        rw [e2]
        exact List.mem_cons_self
      · have t := top_in hn' hp' h e
        have ne : (r ^^^ x).log2 ≠ r.log2 := fun z => hr (z ▸ t)
        have ex : x = r ^^^ (r ^^^ x) := (xor_self_l r x).symm
        rcases Nat.lt_or_ge (r ^^^ x).log2 r.log2 with lt | ge
        · have z := (log_xor_lt h0 lt).2
          rw [Nat.xor_comm, ← ex] at z
          rw [z]
          exact List.mem_cons_self
        · have lt : r.log2 < (r ^^^ x).log2 := by omega
          have z := (log_xor_lt (Nat.pos_of_ne_zero e) lt).2
          rw [← ex] at z
          rw [z]
          exact List.mem_cons_of_mem _ t
/-! ### the reduction -/
abbrev Ent := Nat × Nat × List Nat
def redStep (kept : List Ent) (s : Nat × List Nat) (d : Nat) : Nat × List Nat := if s.1 / 2 ^ d % 2 = 1 then (match kept.find? fun e => decide (e.1 = d) with
  | some e => (s.1 ^^^ e.2.1, sd s.2 e.2.2)
  | none => s) else s
def red (kept : List Ent) (ds : List Nat) (n : Nat) (P : List Nat) : Nat × List Nat := ds.foldl (redStep kept) (n, P)
structure KInv (c : Nat → Nat) (us : List Nat) (kept : List Ent) : Prop where
  nd : (kept.map (·.1)).Nodup
  pos : ∀ e ∈ kept, 0 < e.2.1
  lt : ∀ e ∈ kept, e.2.1 < 65536
  dig : ∀ e ∈ kept, e.1 = e.2.1.log2
  ndp : ∀ e ∈ kept, e.2.2.Nodup
  sub : ∀ e ∈ kept, ∀ p ∈ e.2.2, p ∈ us
  sum : ∀ e ∈ kept, X c e.2.2 = e.2.1
  sp : ∀ p ∈ us, InSp (kept.map (·.2.1)) (c p)
  len : kept.length = us.length
structure RInv (c : Nat → Nat) (us : List Nat) (kept : List Ent) (n : Nat) (P : List Nat) (s : Nat × List Nat) : Prop where
  const : s.1 ^^^ X c s.2 = n ^^^ X c P
  nd : s.2.Nodup
  sub : ∀ p ∈ s.2, p ∈ P ∨ p ∈ us
  stay : ∀ p ∈ P, p ∉ us → p ∈ s.2
  sp : InSp (kept.map (·.2.1)) (n ^^^ s.1)
  lt : s.1 < 65536
theorem find_ent {kept : List Ent} {d : Nat} (h : d ∈ kept.map (·.1)) : ∃ e, kept.find? (fun e => decide (e.1 = d)) = some e ∧ e ∈ kept ∧ e.1 = d := by
  obtain ⟨e0, m, q⟩ := List.mem_map.mp h
  cases z : kept.find? (fun e => decide (e.1 = d)) with
  | none =>
    have z2 := List.find?_eq_none.mp z e0 m
    simp [q] at z2
  | some e => exact ⟨e, rfl, List.mem_of_find?_eq_some z, by simpa using List.find?_some z⟩
theorem red_step {c : Nat → Nat} {us : List Nat} {kept : List Ent} {n : Nat} {P : List Nat} {s : Nat × List Nat} {d : Nat} (K : KInv c us kept) (I : RInv c us kept n P s) (hd : d ∈ kept.map (·.1)) :
    RInv c us kept n P (redStep kept s d) ∧ (redStep kept s d).1.testBit d = false ∧ ∀ D, d < D → (redStep kept s d).1.testBit D = s.1.testBit D := by
  unfold redStep
  by_cases hb : s.1 / 2 ^ d % 2 = 1
  · rw [if_pos hb]
    obtain ⟨e, he, hm, hed⟩ := find_ent hd
    rw [he]
    have hdig : e.2.1.log2 = d := (K.dig e hm).symm.trans hed
    refine ⟨⟨?_, sd_nodup I.nd (K.ndp e hm), fun p hp => ?_, fun p hp hn => sd_keep (I.stay p hp hn) fun z => hn (K.sub e hm p z), ?_, xor_lt16 I.lt (K.lt e hm)⟩, ?_, fun D hD => ?_⟩
    · show (s.1 ^^^ e.2.1) ^^^ X c (sd s.2 e.2.2) = _
      rw [X_sd I.nd (K.ndp e hm), K.sum e hm, xor_ac, Nat.xor_self, Nat.xor_zero]
      exact I.const
    · rcases mem_sd hp with h | h
      · exact I.sub p h
      · exact .inr (K.sub e hm p h)
    · show InSp _ (n ^^^ (s.1 ^^^ e.2.1))
      rw [← Nat.xor_assoc]
      exact I.sp.xor (.one (List.mem_map.mpr ⟨e, hm, rfl⟩))
    · show (s.1 ^^^ e.2.1).testBit d = false
      rw [Nat.testBit_xor, bit_iff.mp hb, ← hdig, log_bit (K.pos e hm)]
      rfl
    · show (s.1 ^^^ e.2.1).testBit D = _
      rw [Nat.testBit_xor, log_above (by omega : e.2.1.log2 < D), Bool.xor_false]
  · rw [if_neg hb]
    refine ⟨I, ?_, fun _ _ => rfl⟩
    cases z : s.1.testBit d with
    | false => rfl
    | true => exact absurd (bit_iff.mpr z) hb
theorem red_go {c : Nat → Nat} {us : List Nat} {kept : List Ent} {n : Nat} {P : List Nat} (K : KInv c us kept) : ∀ (ds : List Nat) (s : Nat × List Nat), ds.Pairwise (· > ·) → (∀ d ∈ ds, d ∈ kept.map (·.1)) → RInv c us kept n P s →
    RInv c us kept n P (ds.foldl (redStep kept) s) ∧ (∀ d ∈ ds, (ds.foldl (redStep kept) s).1.testBit d = false) ∧ ∀ D, (∀ d ∈ ds, d < D) → (ds.foldl (redStep kept) s).1.testBit D = s.1.testBit D
  | [], s, _, _, I => ⟨I, fun _ h => (by cases h), fun _ _ => rfl⟩
  | d :: ds, s, hp, hk, I => by
    obtain ⟨h1, h2⟩ := List.pairwise_cons.mp hp
    obtain ⟨I1, b1, u1⟩ := red_step K I (hk d List.mem_cons_self)
    obtain ⟨I2, b2, u2⟩ := red_go K ds (redStep kept s d) h2 (fun a ha => hk a (List.mem_cons_of_mem _ ha)) I1
    refine ⟨I2, fun a ha => ?_, fun D hD => ?_⟩
    · rcases List.mem_cons.mp ha with e | m
      · subst e
        rw [List.foldl_cons, u2 a fun b hb => h1 b hb]
        exact b1
      · exact b2 a m
    · rw [List.foldl_cons, u2 D fun b hb => hD b (List.mem_cons_of_mem _ hb), u1 D (hD d List.mem_cons_self)]
/-- sorted downwards without equals -/
theorem strict_of {ds : List Nat} (h1 : ds.Pairwise (· ≥ ·)) (h2 : ds.Nodup) : ds.Pairwise (· > ·) := by
  have z := List.pairwise_and_iff.mpr ⟨h1, h2⟩
  refine z.imp fun {a b} h => ?_
  have h3 := h.1
  have h4 := h.2
  omega
theorem red_inv {c : Nat → Nat} {us : List Nat} {kept : List Ent} {n : Nat} {P ds : List Nat} (K : KInv c us kept) (hds : ds.Perm (kept.map (·.1))) (hs : ds.Pairwise (· ≥ ·)) (hn : n < 65536) (hP : P.Nodup) :
    RInv c us kept n P (red kept ds n P) ∧ ∀ d ∈ kept.map (·.1), (red kept ds n P).1.testBit d = false := by
  have z := red_go (n := n) (P := P) K ds (n, P) (strict_of hs (hds.nodup_iff.mpr K.nd)) (fun d hd => hds.mem_iff.mp hd) ⟨rfl, hP, fun p hp => .inl hp, fun p hp _ => hp, by show InSp _ (n ^^^ n); rw [Nat.xor_self]; exact .zero, hn⟩
  exact ⟨z.1, fun d hd => z.2.1 d (hds.mem_iff.mpr hd)⟩
theorem dig_eq {c : Nat → Nat} {us : List Nat} {kept : List Ent} (K : KInv c us kept) : (kept.map (·.2.1)).map Nat.log2 = kept.map (·.1) := by
  rw [List.map_map]
  refine List.map_congr_left fun e he => ?_
  exact (K.dig e he).symm
/-- no sum of the changes of some places is nothing -/
def Ind (c : Nat → Nat) (us : List Nat) : Prop := ∀ P : List Nat, P.Nodup → (∀ p ∈ P, p ∈ us) → X c P = 0 → P = []
theorem add_inv {c : Nat → Nat} {us : List Nat} {kept : List Ent} {p : Nat} {ds : List Nat} (K : KInv c us kept) (hds : ds.Perm (kept.map (·.1))) (hs : ds.Pairwise (· ≥ ·)) (hc : c p < 65536) (hp : p ∉ us) (hI : Ind c (us ++ [p])) :
    0 < (red kept ds (c p) [p]).1 ∧ (red kept ds (c p) [p]).1 < 65536 ∧ (red kept ds (c p) [p]).1.log2 ∉ kept.map (·.1) ∧ (red kept ds (c p) [p]).2.Nodup ∧ (∀ q ∈ (red kept ds (c p) [p]).2, q ∈ us ++ [p]) ∧
    KInv c (us ++ [p]) (kept ++ [((red kept ds (c p) [p]).1.log2, (red kept ds (c p) [p]).1, (red kept ds (c p) [p]).2)]) := by
  obtain ⟨I, hb⟩ := red_inv (P := [p]) K hds hs hc (List.nodup_cons.mpr ⟨by simp, List.nodup_nil⟩)
  generalize red kept ds (c p) [p] = s at I hb
  have e1 : X c s.2 = s.1 := by
    have z := I.const
    rw [X_cons, X_nil, Nat.xor_zero, Nat.xor_self] at z
    have z2 := xor_self_l s.1 (X c s.2)
    rw [z, Nat.xor_zero] at z2
    exact z2.symm
  have hmem : p ∈ s.2 := I.stay p (List.mem_singleton.mpr rfl) hp
  have hsub : ∀ q ∈ s.2, q ∈ us ++ [p] := fun q hq => by
    rcases I.sub q hq with h | h
    · exact List.mem_append_right _ h
    · exact List.mem_append_left _ h
  have hne : s.1 ≠ 0 := fun z => by
    have z2 := hI s.2 I.nd hsub (e1.trans z)
    rw [z2] at hmem
    cases hmem
  have hpos : 0 < s.1 := Nat.pos_of_ne_zero hne
  have hlog : s.1.log2 ∉ kept.map (·.1) := fun z => by
    have z2 := hb _ z
    rw [log_bit hpos] at z2
    cases z2
  refine ⟨hpos, I.lt, hlog, I.nd, hsub, ?_⟩
  have mem : ∀ {e : Ent}, e ∈ kept ++ [(s.1.log2, s.1, s.2)] → e ∈ kept ∨ e = (s.1.log2, s.1, s.2) := fun {e} h => by
    rcases List.mem_append.mp h with h | h
    · exact .inl h
    · exact .inr (List.mem_singleton.mp h)
  refine ⟨?_, fun e he => ?_, fun e he => ?_, fun e he => ?_, fun e he => ?_, fun e he => ?_, fun e he => ?_, fun q hq => ?_, ?_⟩
  · rw [List.map_append]
    refine List.nodup_append.mpr ⟨K.nd, by simp, fun a ha b hb e => ?_⟩
    have eb : b = s.1.log2 := by simpa using hb
    subst e
    rw [eb] at ha
    exact hlog ha
  · rcases mem he with h | h
    · exact K.pos e h
    · rw [h]; exact hpos
  · rcases mem he with h | h
    · exact K.lt e h
    · rw [h]; exact I.lt
  · rcases mem he with h | h
    · exact K.dig e h
    · rw [h]
  · rcases mem he with h | h
    · exact K.ndp e h
    · rw [h]; exact I.nd
  · rcases mem he with h | h
    · exact fun q hq => List.mem_append_left _ (K.sub e h q hq)
    · rw [h]; exact hsub
  · rcases mem he with h | h
    · exact K.sum e h
    · rw [h]; exact e1
  · rw [List.map_append]
    have mono : ∀ {x : Nat}, InSp (kept.map (·.2.1)) x → InSp (kept.map (·.2.1) ++ [s.1]) x := fun h => h.mono fun r hr => List.mem_append_left _ hr
    rcases List.mem_append.mp hq with h | h
    · exact mono (K.sp q h)
    · have e : q = p := List.mem_singleton.mp h
      subst e
      have z := (mono I.sp).xor (InSp.one (R := kept.map (·.2.1) ++ [s.1]) (r := s.1) (List.mem_append_right _ (List.mem_singleton.mpr rfl)))
      rw [Nat.xor_assoc, Nat.xor_self, Nat.xor_zero] at z
      exact z
  · rw [List.length_append, List.length_append, K.len]
    rfl
theorem kinv_nil (c : Nat → Nat) : KInv c [] [] := ⟨List.nodup_nil, fun _ h => (by cases h), fun _ h => (by cases h), fun _ h => (by cases h), fun _ h => (by cases h), fun _ h => (by cases h), fun _ h => (by cases h), fun _ h => (by cases h), rfl⟩
/-- a sum of changes of some of the places is solved by just these places -/
theorem solve {c : Nat → Nat} {us : List Nat} {kept : List Ent} {S ds : List Nat} (K : KInv c us kept) (hds : ds.Perm (kept.map (·.1))) (hs : ds.Pairwise (· ≥ ·)) (hI : Ind c us) (hS : S.Nodup) (hsub : ∀ p ∈ S, p ∈ us) (hn : X c S < 65536) :
    (red kept ds (X c S) []).1 = 0 ∧ (red kept ds (X c S) []).2.Nodup ∧ ∀ a, a ∈ (red kept ds (X c S) []).2 ↔ a ∈ S := by
  obtain ⟨I, hb⟩ := red_inv (P := []) K hds hs hn List.nodup_nil
  generalize red kept ds (X c S) [] = s at I hb
  have hin : InSp (kept.map (·.2.1)) s.1 := by
    have z := (InSp.X (c := c) (P := S) fun p hp => K.sp p (hsub p hp)).xor I.sp
    rw [xor_self_l] at z
    exact z
  have h0 : s.1 = 0 := by
    refine Decidable.byContradiction fun ne => ?_
    have t := top_in (R := kept.map (·.2.1)) (by rw [dig_eq K]; exact K.nd) (fun r hr => by obtain ⟨e, he, q⟩ := List.mem_map.mp hr; rw [← q]; exact K.pos e he) hin ne
    rw [dig_eq K] at t
    have z := hb _ t
    rw [log_bit (Nat.pos_of_ne_zero ne)] at z
    cases z
  have hsub2 : ∀ p ∈ s.2, p ∈ us := fun p hp => by
    rcases I.sub p hp with h | h
    · cases h
    · exact h
  have hX : X c s.2 = X c S := by
    have z := I.const
    rw [h0, X_nil, Nat.zero_xor, Nat.xor_zero] at z
    exact z
  refine ⟨h0, I.nd, ?_⟩
  refine sd_nil (hI _ (sd_nodup I.nd hS) (fun p hp => ?_) ?_)
  · rcases mem_sd hp with h | h
    · exact hsub2 p h
    · exact hsub p h
  · rw [X_sd I.nd hS, hX, Nat.xor_self]
end Dw
/-! Bits of bytes, what a bit does to the checksum, blocks with unknown bits. Plain Lean. -/
namespace Dw
/-! ### one byte -/
def wt (j : Nat) : Nat := WTS.getD j 0
def newB (x j b : Nat) : Nat := x + b * wt j - x / wt j % 2 * wt j
theorem newB_lt : ∀ x < 256, ∀ j < 8, ∀ b < 2, newB x j b < 256 := by decide +kernel
theorem newB_bit : ∀ x < 256, ∀ j < 8, ∀ b < 2, ∀ i < 8, newB x j b / wt i % 2 = if i = j then b else x / wt i % 2 := by decide +kernel
def byteOf (l : List Nat) : Nat := l.foldl (fun a b => 2 * a + b) 0
theorem byte_bits : ∀ x < 256, byteOf ((List.range 8).map fun i => x / wt i % 2) = x := by decide +kernel
theorem byte_ext {x y : Nat} (hx : x < 256) (hy : y < 256) (h : ∀ i < 8, x / wt i % 2 = y / wt i % 2) : x = y := by
  rw [← byte_bits x hx, ← byte_bits y hy]
  congr 1
  exact List.map_congr_left fun i hi => h i (List.mem_range.mp hi)
theorem setB_eq : ∀ x < 256, ∀ j < 8, (x ||| 128 >>> j) - 128 >>> j = newB x j 0 := by decide +kernel
theorem wt_shift : ∀ j < 8, 128 >>> j = wt j := by decide +kernel
theorem wt_pos : ∀ j < 8, 0 < wt j ∧ wt j ≤ 128 := by decide +kernel
/-! ### bits of a list of bytes -/
def Byts (l : List Nat) : Prop := ∀ x ∈ l, x < 256
def getBit (l : List Nat) (p : Nat) : Nat := l.getD (p / 8) 0 / wt (p % 8) % 2
def withBit (l : List Nat) (p b : Nat) : List Nat := l.set (p / 8) (newB (l.getD (p / 8) 0) (p % 8) b)
theorem getD_lt {l : List Nat} (h : Byts l) (i : Nat) : l.getD i 0 < 256 := by
  rw [List.getD_eq_getElem?_getD]
  cases e : l[i]? with
  | none => decide
  | some x => exact h x (List.mem_of_getElem? e)
theorem withBit_len (l : List Nat) (p b : Nat) : (withBit l p b).length = l.length := List.length_set
theorem withBit_byts {l : List Nat} (h : Byts l) (p : Nat) {b : Nat} (hb : b < 2) : Byts (withBit l p b) := fun x hx => by
  rcases List.mem_or_eq_of_mem_set hx with m | m
  · exact h x m
  · rw [m]
    exact newB_lt _ (getD_lt h _) _ (Nat.mod_lt _ (by decide)) _ hb
theorem getBit_lt (l : List Nat) (p : Nat) : getBit l p < 2 := Nat.mod_lt _ (by decide)
theorem getBit_with {l : List Nat} (h : Byts l) {p b : Nat} (hp : p < 8 * l.length) (hb : b < 2) (q : Nat) : getBit (withBit l p b) q = if q = p then b else getBit l q := by
  unfold getBit withBit
  have hp' : p / 8 < l.length := by omega
  by_cases e : q / 8 = p / 8
  · rw [e, List.getD_eq_getElem?_getD, List.getElem?_set_self hp']
    show newB (l.getD (p / 8) 0) (p % 8) b / wt (q % 8) % 2 = _
    rw [newB_bit _ (getD_lt h _) _ (Nat.mod_lt _ (by decide)) _ hb _ (Nat.mod_lt _ (by decide))]
    by_cases e2 : q % 8 = p % 8
    · rw [if_pos e2, if_pos (by omega)]
    · rw [if_neg e2, if_neg (by omega)]
  · rw [List.getD_eq_getElem?_getD, List.getElem?_set_ne (Ne.symm e), ← List.getD_eq_getElem?_getD, if_neg (by omega)]
theorem bits_ext {l m : List Nat} (hl : Byts l) (hm : Byts m) (hz : l.length = m.length) (h : ∀ p < 8 * l.length, getBit l p = getBit m p) : l = m := by
  refine List.ext_getElem hz fun i h1 h2 => ?_
  refine byte_ext (hl _ (List.getElem_mem _)) (hm _ (List.getElem_mem _)) fun j hj => ?_
  have z := h (8 * i + j) (by omega)
  unfold getBit at z
  have e1 : (8 * i + j) / 8 = i := by omega
  have e2 : (8 * i + j) % 8 = j := by omega
  rw [e1, e2, List.getD_eq_getElem?_getD, List.getD_eq_getElem?_getD, List.getElem?_eq_getElem h1, List.getElem?_eq_getElem h2] at z
  exact z
/-! ### the checksum of bits -/
def allBits (l : List Nat) : List Nat := l.flatMap bitsOf
theorem bitsOf_len (v : Nat) : (bitsOf v).length = 8 := rfl
theorem bitsOf_at {v i : Nat} (h : i < 8) : (bitsOf v)[i]? = some (v / wt i % 2) := by
  unfold bitsOf wt
  have e : WTS[i]? = some (WTS.getD i 0) := by
    rw [List.getD_eq_getElem?_getD, List.getElem?_eq_getElem h]
    rfl
  rw [List.getElem?_map, e]
  rfl
theorem allBits_len : ∀ l : List Nat, (allBits l).length = 8 * l.length
  | [] => rfl
  | v :: l => by
    show (bitsOf v ++ allBits l).length = 8 * (l.length + 1)
    rw [List.length_append, bitsOf_len, allBits_len l]
    omega
theorem allBits_at : ∀ (l : List Nat) (p : Nat), p < 8 * l.length → (allBits l)[p]? = some (getBit l p)
  | [], _, h => absurd h (by simp)
  | v :: l, p, h => by
    show (bitsOf v ++ allBits l)[p]? = _
    by_cases hp : p < 8
    · rw [List.getElem?_append_left (by rw [bitsOf_len]; exact hp), bitsOf_at hp]
      unfold getBit
      have e1 : p / 8 = 0 := by omega
      have e2 : p % 8 = p := by omega
      rw [e1, e2]
      rfl
    · rw [List.getElem?_append_right (by rw [bitsOf_len]; omega), bitsOf_len, allBits_at l (p - 8) (by simp only [List.length_cons] at h; omega)]
      unfold getBit
      have e1 : p / 8 = (p - 8) / 8 + 1 := by omega
      have e2 : (p - 8) % 8 = p % 8 := by omega
      rw [e1, e2]
      rfl
theorem crc_bits (l : List Nat) : crcN l = foldB 65535 (allBits l) := by
  have go : ∀ (l : List Nat) (n : Nat), l.foldl stepB n = foldB n (allBits l) := by
    intro l
    induction l with
    | nil => exact fun n => rfl
    | cons v l ih =>
      intro n
      show l.foldl stepB (stepB n v) = foldB n (bitsOf v ++ allBits l)
      rw [ih]
      unfold foldB
      rw [List.foldl_append]
      rfl
  exact go l 65535
theorem allBits_with {l : List Nat} (h : Byts l) {p : Nat} (hp : p < 8 * l.length) : allBits (withBit l p 1) = (allBits l).set p 1 := by
  refine List.ext_getElem? fun q => ?_
  by_cases hq : q < 8 * l.length
  · rw [allBits_at _ _ (by rw [withBit_len]; exact hq), getBit_with h hp (by decide)]
    by_cases e : q = p
    · subst e
      rw [if_pos rfl, List.getElem?_set_self (by rw [allBits_len]; exact hq)]
    · rw [if_neg e, List.getElem?_set_ne (Ne.symm e), allBits_at _ _ hq]
  · rw [List.getElem?_eq_none (by rw [allBits_len, withBit_len]; omega), List.getElem?_eq_none (by rw [List.length_set, allBits_len]; omega)]
theorem allBits_lt {l : List Nat} {b : Nat} (h : b ∈ allBits l) : b < 2 := by
  obtain ⟨v, _, hb⟩ := List.mem_flatMap.mp h
  exact bitsOf_lt hb
/-- what a bit does to the checksum of n bytes -/
def cP (n p : Nat) : Nat := Tn (8 * n - 1 - p) 4129
theorem cP_lt (n p : Nat) : cP n p < 65536 := Tn_lt _ (by decide)
theorem crc_flip {l : List Nat} (h : Byts l) {p : Nat} (hp : p < 8 * l.length) (h0 : getBit l p = 0) : crcN (withBit l p 1) = crcN l ^^^ cP l.length p := by
  rw [crc_bits, crc_bits, allBits_with h hp, foldB_set _ (fun b hb => allBits_lt hb) (by decide) (by rw [allBits_at _ _ hp, h0]), allBits_len]
  rfl
def crcCh (n p : Nat) : Nat := crcN (List.replicate n 0) ^^^ crcN (withBit (List.replicate n 0) p 1)
theorem zero_byts (n : Nat) : Byts (List.replicate n 0) := fun x hx => by
  rw [(List.mem_replicate.mp hx).2]
  decide
theorem zero_bit (n p : Nat) : getBit (List.replicate n 0) p = 0 := by
  unfold getBit
  have e : (List.replicate n 0).getD (p / 8) 0 = 0 := by
    rw [List.getD_eq_getElem?_getD]
    cases q : (List.replicate n 0)[p / 8]? with
    | none => rfl
    | some x => exact (List.mem_replicate.mp (List.mem_of_getElem? q)).2
  rw [e, Nat.zero_div]
theorem crcCh_eq {n p : Nat} (hp : p < 8 * n) : crcCh n p = cP n p := by
  unfold crcCh
  rw [crc_flip (zero_byts n) (by rw [List.length_replicate]; exact hp) (zero_bit n p), xor_self_l, List.length_replicate]
/-! ### bits set and cleared -/
def setAll (l : List Nat) (S : List Nat) : List Nat := S.foldl (fun b p => withBit b p 1) l
def clr (l : List Nat) (us : List Nat) : List Nat := us.foldl (fun b p => withBit b p 0) l
theorem setAll_len : ∀ (S l : List Nat), (setAll l S).length = l.length
  | [], _ => rfl
  | p :: S, l => (setAll_len S (withBit l p 1)).trans (withBit_len l p 1)
theorem clr_len : ∀ (S l : List Nat), (clr l S).length = l.length
  | [], _ => rfl
  | p :: S, l => (clr_len S (withBit l p 0)).trans (withBit_len l p 0)
theorem setAll_byts : ∀ (S : List Nat) {l : List Nat}, Byts l → Byts (setAll l S)
  | [], _, h => h
  | p :: S, _, h => setAll_byts S (withBit_byts h p (by decide))
theorem clr_byts : ∀ (S : List Nat) {l : List Nat}, Byts l → Byts (clr l S)
  | [], _, h => h
  | p :: S, _, h => clr_byts S (withBit_byts h p (by decide))
theorem setAll_bit : ∀ (S : List Nat) {l : List Nat}, Byts l → (∀ p ∈ S, p < 8 * l.length) → ∀ q, getBit (setAll l S) q = if q ∈ S then 1 else getBit l q
  | [], _, _, _, q => by simp [setAll]
  | p :: S, l, h, hS, q => by
    have hp := hS p List.mem_cons_self
    show getBit (setAll (withBit l p 1) S) q = _
    rw [setAll_bit S (withBit_byts h p (by decide)) (fun r hr => by rw [withBit_len]; exact hS r (List.mem_cons_of_mem _ hr)) q, getBit_with h hp (by decide)]
    by_cases e : q = p
    · subst e
      simp
    · simp [e]
theorem clr_bit : ∀ (S : List Nat) {l : List Nat}, Byts l → (∀ p ∈ S, p < 8 * l.length) → ∀ q, getBit (clr l S) q = if q ∈ S then 0 else getBit l q
  | [], _, _, _, q => by simp [clr]
  | p :: S, l, h, hS, q => by
    have hp := hS p List.mem_cons_self
    show getBit (clr (withBit l p 0) S) q = _
    rw [clr_bit S (withBit_byts h p (by decide)) (fun r hr => by rw [withBit_len]; exact hS r (List.mem_cons_of_mem _ hr)) q, getBit_with h hp (by decide)]
    by_cases e : q = p
    · subst e
      simp
    · simp [e]
theorem crc_setAll : ∀ (S : List Nat) {l : List Nat}, Byts l → S.Nodup → (∀ p ∈ S, p < 8 * l.length ∧ getBit l p = 0) → crcN (setAll l S) = crcN l ^^^ X (cP l.length) S
  | [], l, _, _, _ => by
    show crcN l = _
    rw [X_nil, Nat.xor_zero]
  | p :: S, l, h, hn, hS => by
    obtain ⟨hp, h0⟩ := hS p List.mem_cons_self
    obtain ⟨n1, n2⟩ := List.nodup_cons.mp hn
    show crcN (setAll (withBit l p 1) S) = _
    rw [crc_setAll S (withBit_byts h p (by decide)) n2 (fun r hr => ?_), withBit_len, crc_flip h hp h0, X_cons, Nat.xor_assoc]
    refine ⟨by rw [withBit_len]; exact (hS r (List.mem_cons_of_mem _ hr)).1, ?_⟩
    have ne : r ≠ p := fun e => n1 (by rw [← e]; exact hr)
    rw [getBit_with h hp (by decide), if_neg ne]
    exact (hS r (List.mem_cons_of_mem _ hr)).2
/-- the unknown places whose true bit is 1 -/
def ones (B us : List Nat) : List Nat := us.filter fun p => decide (getBit B p = 1)
theorem back {B us S : List Nat} (h : Byts B) (hu : ∀ p ∈ us, p < 8 * B.length) (hS : ∀ a, a ∈ S ↔ a ∈ ones B us) : setAll (clr B us) S = B := by
  have hS' : ∀ p ∈ S, p < 8 * B.length := fun p hp => hu p (List.mem_filter.mp ((hS p).mp hp)).1
  refine bits_ext (setAll_byts S (clr_byts us h)) h (by rw [setAll_len, clr_len]) fun q hq => ?_
  rw [setAll_bit S (clr_byts us h) (fun p hp => by rw [clr_len]; exact hS' p hp), clr_bit us h hu]
  by_cases e : q ∈ S
  · rw [if_pos e]
    have z := (List.mem_filter.mp ((hS q).mp e)).2
    exact (of_decide_eq_true z).symm
  · rw [if_neg e]
    by_cases e2 : q ∈ us
    · rw [if_pos e2]
      have z : getBit B q ≠ 1 := fun z => e ((hS q).mpr (List.mem_filter.mpr ⟨e2, decide_eq_true z⟩))
      have z2 := getBit_lt B q
      omega
    · rw [if_neg e2]
theorem crc_true {B us : List Nat} (h : Byts B) (hn : us.Nodup) (hu : ∀ p ∈ us, p < 8 * B.length) : crcN (clr B us) ^^^ crcN B = X (cP B.length) (ones B us) := by
  have e : setAll (clr B us) (ones B us) = B := back h hu fun a => Iff.rfl
  have z := crc_setAll (ones B us) (l := clr B us) (clr_byts us h) (hn.sublist List.filter_sublist) fun p hp => by
    have m := (List.mem_filter.mp hp).1
    refine ⟨by rw [clr_len]; exact hu p m, ?_⟩
    rw [clr_bit us h hu, if_pos m]
  rw [e, clr_len] at z
  rw [z, xor_self_l]
theorem clr_clr {B us : List Nat} (h : Byts B) (hu : ∀ p ∈ us, p < 8 * B.length) : clr (clr B us) us = clr B us := by
  refine bits_ext (clr_byts us (clr_byts us h)) (clr_byts us h) (clr_len _ _) fun q hq => ?_
  rw [clr_bit us (clr_byts us h) (fun p hp => by rw [clr_len]; exact hu p hp), clr_bit us h hu]
  by_cases e : q ∈ us
  · simp [e]
  · simp [e]
/-! ### eight places side by side -/
def sel (b : Nat → Bool) (c : Nat → Nat) : Nat := (List.range 8).foldr (fun i a => (if b i = true then c i else 0) ^^^ a) 0
set_option synthInstance.maxSize 4096 in
set_option synthInstance.maxHeartbeats 0 in
theorem eight : ∀ b0 b1 b2 b3 b4 b5 b6 b7 : Bool,
    ((if b0 = true then Tn 7 4129 else 0) ^^^ ((if b1 = true then Tn 6 4129 else 0) ^^^ ((if b2 = true then Tn 5 4129 else 0) ^^^ ((if b3 = true then Tn 4 4129 else 0) ^^^ ((if b4 = true then Tn 3 4129 else 0) ^^^ ((if b5 = true then Tn 2 4129 else 0) ^^^ ((if b6 = true then Tn 1 4129 else 0) ^^^ ((if b7 = true then Tn 0 4129 else 0) ^^^ 0)))))))) = 0 →
    b0 = false ∧ b1 = false ∧ b2 = false ∧ b3 = false ∧ b4 = false ∧ b5 = false ∧ b6 = false ∧ b7 = false := by decide +kernel
theorem sel_zero {b : Nat → Bool} (h : sel b (fun i => Tn (7 - i) 4129) = 0) : ∀ i < 8, b i = false := by
  have z := eight (b 0) (b 1) (b 2) (b 3) (b 4) (b 5) (b 6) (b 7) h
  obtain ⟨z0, z1, z2, z3, z4, z5, z6, z7⟩ := z
  intro i hi
  match i, hi with
  | 0, _ => exact z0
  | 1, _ => exact z1
  | 2, _ => exact z2
  | 3, _ => exact z3
  | 4, _ => exact z4
  | 5, _ => exact z5
  | 6, _ => exact z6
  | 7, _ => exact z7
/-- over any list of places: a nodup list's sum, place by place -/
theorem X_sel (c : Nat → Nat) : ∀ (R : List Nat), R.Nodup → ∀ (P : List Nat), P.Nodup → (∀ p ∈ P, p ∈ R) → X c P = R.foldr (fun i a => (if decide (i ∈ P) = true then c i else 0) ^^^ a) 0
  | [], _, P, _, h => by
    cases P with
    | nil => rfl
    | cons p P => exact absurd (h p List.mem_cons_self) (by simp)
  | r :: R, hR, P, hP, h => by
    obtain ⟨r1, r2⟩ := List.nodup_cons.mp hR
    have hP' : (P.filter fun p => decide (p ≠ r)).Nodup := hP.sublist List.filter_sublist
    have ih := X_sel c R r2 (P.filter fun p => decide (p ≠ r)) hP' (fun p hp => by
      obtain ⟨h1, h2⟩ := List.mem_filter.mp hp
      have h3 : p ≠ r := of_decide_eq_true h2
      rcases List.mem_cons.mp (h p h1) with e | m
      · exact absurd e h3
      · exact m)
    have e1 : R.foldr (fun i a => (if decide (i ∈ P.filter fun p => decide (p ≠ r)) = true then c i else 0) ^^^ a) 0 = R.foldr (fun i a => (if decide (i ∈ P) = true then c i else 0) ^^^ a) 0 := by
      have go : ∀ L : List Nat, (∀ i ∈ L, i ≠ r) → L.foldr (fun i a => (if decide (i ∈ P.filter fun p => decide (p ≠ r)) = true then c i else 0) ^^^ a) 0 = L.foldr (fun i a => (if decide (i ∈ P) = true then c i else 0) ^^^ a) 0 := by
        intro L
        induction L with
        | nil => exact fun _ => rfl
        | cons i L ih =>
          intro hL
          rw [List.foldr_cons, List.foldr_cons, ih fun j hj => hL j (List.mem_cons_of_mem _ hj)]
          have hi := hL i List.mem_cons_self
          have e : decide (i ∈ P.filter fun p => decide (p ≠ r)) = decide (i ∈ P) := by
            refine decide_eq_decide.mpr ⟨fun z => (List.mem_filter.mp z).1, fun z => List.mem_filter.mpr ⟨z, decide_eq_true hi⟩⟩
          rw [e]
      exact go R fun i hi e => r1 (e ▸ hi)
    rw [List.foldr_cons, ← e1, ← ih]
    by_cases m : r ∈ P
    · have pp : P.Perm (r :: P.filter fun p => decide (p ≠ r)) := by
        refine (List.perm_cons_erase m).trans (List.Perm.cons _ ?_)
        rw [hP.erase_eq_filter]
        refine List.Perm.of_eq (List.filter_congr fun i _ => ?_)
        by_cases e : i = r
        · subst e
          simp
        · simp [e]
      rw [X_perm pp, X_cons, if_pos (decide_eq_true m)]
    · have e : P.filter (fun p => decide (p ≠ r)) = P := List.filter_eq_self.mpr fun p hp => decide_eq_true fun z => m (z ▸ hp)
      rw [e, if_neg (by simp [m]), Nat.zero_xor]
theorem Tn_sel (k : Nat) : ∀ (R : List Nat) (b : Nat → Bool) (c : Nat → Nat), (∀ i, c i < 65536) → Tn k (R.foldr (fun i a => (if b i = true then c i else 0) ^^^ a) 0) = R.foldr (fun i a => (if b i = true then Tn k (c i) else 0) ^^^ a) 0 ∧ R.foldr (fun i a => (if b i = true then c i else 0) ^^^ a) 0 < 65536
  | [], _, _, _ => ⟨Tn_of_zero k, (by show (0 : Nat) < 65536; decide)⟩
  | r :: R, b, c, hc => by
    obtain ⟨ih1, ih2⟩ := Tn_sel k R b c hc
    rw [List.foldr_cons, List.foldr_cons]
    have hx : (if b r = true then c r else 0) < 65536 := by
      split
      · exact hc r
      · decide
    refine ⟨?_, xor_lt16 hx ih2⟩
    rw [Tn_xor k hx ih2, ih1]
    congr 1
    by_cases e : b r = true
    · rw [if_pos e, if_pos e]
    · rw [if_neg e, if_neg e]
      exact Tn_of_zero k
theorem ind_win {first : Nat} {us : List Nat} (hf : first + 8 ≤ 128) (hu : ∀ p ∈ us, first ≤ p ∧ p < first + 8) : Ind (cP 16) us := by
  intro P hP hsub hX
  have hW : ∀ p ∈ P, p ∈ (List.range 8).map fun i => first + i := fun p hp => by
    obtain ⟨h1, h2⟩ := hu p (hsub p hp)
    exact List.mem_map.mpr ⟨p - first, List.mem_range.mpr (by omega), by omega⟩
  have hWn : ((List.range 8).map fun i => first + i).Nodup := List.pairwise_map.mpr (List.nodup_range.imp fun h e => h (by omega))
  rw [X_sel (cP 16) _ hWn P hP hW, List.foldr_map] at hX
  have e1 : (List.range 8).foldr (fun i a => (if decide (first + i ∈ P) = true then cP 16 (first + i) else 0) ^^^ a) 0 = Tn (120 - first) (sel (fun i => decide (first + i ∈ P)) fun i => Tn (7 - i) 4129) := by
    unfold sel
    rw [(Tn_sel (120 - first) (List.range 8) (fun i => decide (first + i ∈ P)) (fun i => Tn (7 - i) 4129) fun i => Tn_lt _ (by decide)).1]
    have go : ∀ L : List Nat, (∀ i ∈ L, i < 8) → L.foldr (fun i a => (if decide (first + i ∈ P) = true then cP 16 (first + i) else 0) ^^^ a) 0 = L.foldr (fun i a => (if decide (first + i ∈ P) = true then Tn (120 - first) (Tn (7 - i) 4129) else 0) ^^^ a) 0 := by
      intro L
      induction L with
      | nil => exact fun _ => rfl
      | cons i L ih =>
        intro hL
        have hi := hL i List.mem_cons_self
        rw [List.foldr_cons, List.foldr_cons, ih fun j hj => hL j (List.mem_cons_of_mem _ hj)]
        have e : cP 16 (first + i) = Tn (120 - first) (Tn (7 - i) 4129) := by
          unfold cP
          rw [Tn_add]
          congr 1
          omega
        rw [e]
    exact go _ fun i hi => List.mem_range.mp hi
  rw [e1] at hX
  have h0 := Tn_zero _ (Tn_sel 0 (List.range 8) (fun i => decide (first + i ∈ P)) (fun i => Tn (7 - i) 4129) fun i => Tn_lt _ (by decide)).2 hX
  have z := sel_zero h0
  cases P with
  | nil => rfl
  | cons p P =>
    exfalso
    obtain ⟨h1, h2⟩ := hu p (hsub p List.mem_cons_self)
    have z2 := z (p - first) (by omega)
    have e : first + (p - first) = p := by omega
    rw [e] at z2
    simp at z2
end Dw
namespace Dw
open PySem PySem.Spec PyProof.Rows L2
theorem rep_zeros (n : Nat) : (List.replicate n ([V.int 0] : List V)).flatten = nVs (List.replicate n 0) := by
  induction n with
  | zero => rfl
  | succ n ih =>
    rw [List.replicate_succ, List.flatten_cons, ih, List.replicate_succ]
    rfl
theorem newB_int {x j b : Nat} (hx : x < 256) : (x : Int) + ((b : Int) - ((x / wt j % 2 : Nat) : Int)) * (wt j : Int) = ((newB x j b : Nat) : Int) := by
  unfold newB
  have h : x / wt j % 2 * wt j ≤ x + b * wt j := by
    have h1 : x / wt j % 2 * wt j ≤ x / wt j * wt j := Nat.mul_le_mul_right _ (Nat.mod_le _ _)
    have h2 : x / wt j * wt j ≤ x := Nat.div_mul_le_self _ _
    omega
  rw [Int.ofNat_sub h, Int.sub_mul]
  push_cast
  omega
section
variable {P : Program} {w : World} {K : PySem.W.Frag} {mg : Str → Option Value} {base : Heap} {f C : Addr} {fd : FuncData}
/-! ### with_bit -/
def spWbit (K : PySem.W.Frag) : Sp := fun vs H Q _ => ∃ (a : Addr) (bs : List Nat) (p b : Nat), vs = [.ref a, nV p, nV b] ∧ SqL K H a (nVs bs) ∧ Byts bs ∧ p < 8 * bs.length ∧ b < 2 ∧
  ∀ H' q, Same H H' → H q = none → H' q = some (.lst (nVs (withBit bs p b))) → Q (.ref q) H'
theorem sc_wbit : FnScope ["values", "place", "bit", "found", "weight", "old"] ["values", "place", "bit"] (C8.fnScope s_with_bit) := C8.fnScope_by (by decide +kernel)
theorem c_wbit (F : C8.Def K mg "with_bit" s_with_bit f fd) (b : Binds K fd ["values", "place", "bit"] []) (T : Tx K mg) : C8.Cal P w K mg base 1 "with_bit" (spWbit K) [] := by
  refine C8.cal0 F b .nil sc_wbit (fun vs H Q E h => ?_) (fun cdv A outer s H vs Q E hr h => ?_)
  · obtain ⟨a, bs, p, b, rfl, _⟩ := h
    rfl
  · obtain ⟨a, bs, p, b, rfl, hS, hB, hp, hb, q⟩ := h
    obtain ⟨wa, mw, sw⟩ := T.wts
    refine ⟨_, pss_cons (ps_set (i := 3) sc_wbit.nd rfl (Or.inl rfl) (pe_callTy call_list_of (by rfl) T.list (by decide +kernel) (pa_cons (pv 0) pa_nil)))
      (pss_cons (ps_set (i := 4) sc_wbit.nd rfl (Or.inl rfl) (pe_it K (C8.pe_gc (v := .ref wa) (by rfl) ⟨_, mw, rfl⟩) (pe_op op_mod (pv 1) pe_int)))
      (pss_cons (ps_set (i := 5) sc_wbit.nd rfl (Or.inl rfl) (pe_op op_mod (pe_op op_fdiv (pe_il K (pv 3) (pe_op op_fdiv (pv 1) pe_int)) (pv 4)) pe_int))
      (pss_cons (ps_augS (pv 3) (pe_op op_fdiv (pv 1) pe_int) get_list (pe_op op_mul (pe_op op_sub (pv 2) (pv 5)) (pv 4)) ip_add set_list)
      (pss_one (ps_ret (pv 3)))))), ?_⟩
    -- found = list(values)
    refine ⟨_, rfl, a, _, rfl, .inl hS, fun l hl => ?_⟩
    have hl1 : (upd H l (.lst (nVs bs))) l = some (.lst (nVs bs)) := upd_same
    have s1 : Same H (upd H l (.lst (nVs bs))) := Same.new hl
    -- weight
    have hj : p % 8 < 8 := Nat.mod_lt _ (by decide)
    have ew : WTS[p % 8]? = some (wt (p % 8)) := by
      unfold wt
      rw [List.getD_eq_getElem?_getD, List.getElem?_eq_getElem (show p % 8 < WTS.length from hj)]
      rfl
    have hi : p / 8 < bs.length := by omega
    have ex : bs[p / 8]? = some (bs.getD (p / 8) 0) := by
      rw [List.getD_eq_getElem?_getD, List.getElem?_eq_getElem hi]
      rfl
    have hx := getD_lt hB (p / 8)
    obtain ⟨w0, w1⟩ := wt_pos _ hj
    have ei : ((p : Int) / 8) = ((p / 8 : Nat) : Int) := by omega
    refine ⟨_, rfl, _, _, rfl, rfl, (by show (0 : Int) < 8; decide), wa, _, _, _, rfl, rfl, sw _, at_of (by omega : ((p : Int) % 8) = ((p % 8 : Nat) : Int)) (at_nVs ew), ?_⟩
    generalize hx0 : bs.getD (p / 8) 0 = x at ex hx
    generalize hw0 : wt (p % 8) = wj at w0 w1
    -- old
    refine ⟨_, rfl, _, rfl, _, _, rfl, rfl, ⟨by decide, by decide⟩, l, _, _, _, rfl, rfl, SqL.of hl1, at_of ei (at_nVs ex), _, rfl, _, _, rfl, rfl, ⟨by show (0 : Int) < (wj : Int); omega, by show (wj : Int) < 1073741824; omega⟩, _, _, rfl, rfl, (by show (0 : Int) < 2; decide), ?_⟩
    -- found[place // 8] += ..
    refine ⟨_, rfl, _, rfl, _, _, rfl, rfl, ⟨by decide, by decide⟩, l, _, _, _, rfl, rfl, SqL.of hl1, at_of ei (at_nVs ex), ?_⟩
    refine ⟨_, rfl, _, rfl, _, _, rfl, rfl, _, rfl, _, _, rfl, rfl, .inr ⟨by show -(2 ^ 64) < (wj : Int); omega, by show (wj : Int) < 2 ^ 64; omega⟩, ?_⟩
    refine ⟨_, _, rfl, rfl, l, _, _, p / 8, rfl, rfl, hl1, ?_, ?_⟩
    · unfold ixN
      rw [if_pos (by omega), if_pos (by rw [nVs_len]; omega)]
      congr 1
    · refine ⟨_, rfl, q _ l (fun b' o e => by rw [upd_ne (ne_of_none e hl)]; exact s1 _ _ e) hl ?_⟩
      rw [upd_same]
      congr 2
      unfold withBit nVs
      rw [List.map_set, hx0, ← hw0]
      congr 1
      have z := newB_int (j := p % 8) (b := b) hx
      show V.int ((x : Int) + ((b : Int) - (x : Int) / (wt (p % 8) : Int) % 2) * (wt (p % 8) : Int)) = V.int ((newB x (p % 8) b : Nat) : Int)
      rw [← z]
      push_cast
      rfl
/-! ### crc_change -/
def spCch : Sp := fun vs H Q _ => ∃ n p : Nat, vs = [nV n, nV p] ∧ n ≤ 1000 ∧ p < 8 * n ∧ ∀ H', Same H H' → Q (nV (crcCh n p)) H'
theorem sc_cch : FnScope ["length", "place", "plain"] ["length", "place"] (C8.fnScope s_crc_change) := C8.fnScope_by (by decide +kernel)
theorem c_cch (F : C8.Def K mg "crc_change" s_crc_change f fd) (b : Binds K fd ["length", "place"] []) (cX : C8.Cal P w K mg base 1 "exclusive" spExcl []) (cC : C8.Cal P w K mg base 3 "crc" (spCrc K) []) (cW : C8.Cal P w K mg base 1 "with_bit" (spWbit K) []) : C8.Cal P w K mg base 4 "crc_change" spCch [] := by
  refine C8.cal0 F b .nil sc_cch (fun vs H Q E h => ?_) (fun cdv A outer s H vs Q E hr h => ?_)
  · obtain ⟨n, p, rfl, _⟩ := h
    rfl
  · obtain ⟨n, p, rfl, hn, hp, q⟩ := h
    refine ⟨_, pss_cons (ps_set (i := 2) sc_cch.nd rfl (Or.inl rfl) (pe_op op_rep (pe_lst (pa_cons pe_int pa_nil)) (pv 0)))
      (pss_one (ps_ret (C8.pe_c cX hr (by decide) (by rfl) (pa_cons (C8.pe_c cC hr (by decide) (by rfl) (pa_cons (pv 2) pa_nil)) (pa_cons (C8.pe_c cC hr (by decide) (by rfl) (pa_cons (C8.pe_c cW hr (by decide) (by rfl) (pa_cons (pv 2) (pa_cons (pv 1) (pa_cons pe_int pa_nil)))) pa_nil)) pa_nil))))), ?_⟩
    refine ⟨by show 1 ≤ sizeLine; decide, fun p1 n1 => ?_⟩
    refine ⟨_, rfl, p1, (n : Int), _, rfl, rfl, upd_same, by omega, by omega, ?_, fun p2 n2 => ?_⟩
    · rw [Int.toNat_natCast]
      exact small' (by show 1 * n ≤ 100000; omega)
    · rw [Int.toNat_natCast, rep_zeros]
      have s2 : Same H (upd (upd H p1 (.lst [.int 0])) p2 (.lst (nVs (List.replicate n 0)))) := (Same.new n1).trans (Same.new n2)
      have h2 : (upd (upd H p1 (.lst [.int 0])) p2 (.lst (nVs (List.replicate n 0)))) p2 = some (.lst (nVs (List.replicate n 0))) := upd_same
      generalize upd (upd H p1 (.lst [.int 0])) p2 (.lst (nVs (List.replicate n 0))) = H2 at s2 h2
      refine ⟨_, rfl, p2, _, rfl, SqL.of h2, fun H3 s3 => ?_⟩
      refine ⟨_, rfl, _, rfl, p2, List.replicate n 0, p, 1, rfl, SqL.of (s3 _ _ h2), zero_byts n, by rw [List.length_replicate]; exact hp, by decide, fun H4 q4 s4 n4 h4 => ?_⟩
      refine ⟨q4, _, rfl, SqL.of h4, fun H5 s5 => ?_⟩
      exact ⟨_, _, rfl, q H5 (((s2.trans s3).trans s4).trans s5)⟩
/-! ### demand_unknown -/
structure UOk (n : Nat) (us : List Nat) : Prop where
  len : us.length ≤ 24
  lt : ∀ p ∈ us, p < 8 * n
  asc : ∀ (k x y : Nat), us[k]? = some x → us[k + 1]? = some y → x < y
def spDu : Sp := fun vs H Q _ => ∃ (a u : Addr) (bs us : List Nat), vs = [.ref a, .ref u] ∧ H a = some (.lst (nVs bs)) ∧ H u = some (.lst (nVs us)) ∧ UOk bs.length us ∧ bs.length ≤ 1000 ∧ ∀ H', Same H H' → Q .non H'
theorem sc_du : FnScope ["values", "unknown", "place", "at"] ["values", "unknown"] (C8.fnScope s_demand_unknown) := C8.fnScope_by (by decide +kernel)
theorem c_du (F : C8.Def K mg "demand_unknown" s_demand_unknown f fd) (b : Binds K fd ["values", "unknown"] []) (T : Tx K mg) : C8.Cal P w K mg base 1 "demand_unknown" spDu [] := by
  refine C8.cal0 F b .nil sc_du (fun vs H Q E h => ?_) (fun cdv A outer s H vs Q E hr h => ?_)
  · obtain ⟨a, u, bs, us, rfl, _⟩ := h
    rfl
  · obtain ⟨a, u, bs, us, rfl, ha, hu, hU, hz, q⟩ := h
    refine ⟨_, pss_cons (ps_if (PW.pt (pw_or (pt_cmpR op_gt (pe_len K T.len (pv 1)) (C8.pe_gc (by rfl) (gi T.mostU)) (nomark _)) (pw_or1 (pt_nall K T.all rfl (pe_lc (own := [("place", 2)]) (g := gName 2) (tt := tYes) rfl sc_du.nd (pi_list (pv 1))
        (blkOk_by (N := ["values", "unknown", "place", "at"]) (sc := C8.fnScope s_demand_unknown) (by decide +kernel)) (fun _ _ _ _ _ => pg_name (i := 2) sc_du.nd rfl (Or.inl rfl)) (fun _ _ _ _ _ => pts_nil)
        (fun _ _ _ _ _ => pe_chain op_le op_lt pe_int (pv 2) (pe_op op_mul pe_int (pe_len K T.len (pv 0))))))))) pss_never pss_nil)
      (pss_one (ps_if (pt_nall K T.all rfl (pe_lc (own := [("at", 3)]) (g := gName 3) (tt := tYes) rfl sc_du.nd (pi_range2 (by rfl) T.range (pa_cons pe_int (pa_cons (pe_len K T.len (pv 1)) pa_nil)))
        (blkOk_by (N := ["values", "unknown", "place", "at"]) (sc := C8.fnScope s_demand_unknown) (by decide +kernel)) (fun _ _ _ _ _ => pg_name (i := 3) sc_du.nd rfl (Or.inl rfl)) (fun _ _ _ _ _ => pts_nil)
        (fun _ _ _ _ _ => pe_cmpR op_lt (pe_il K (pv 1) (pe_op op_sub (pv 3) pe_int)) (pe_il K (pv 1) (pv 3)) (nomark _)))) pss_never pss_nil)), ?_⟩
    have hl := hU.len
    refine ⟨_, rfl, u, _, rfl, .inl (SqL.of hu), _, _, rfl, rfl, _, rfl, ?_⟩
    rw [nVs_len, decide_eq_false (by omega : ¬ ((24 : Int) < ((us.length : Nat) : Int)))]
    refine iteF ?_
    refine ⟨_, rfl, u, rfl, ⟨_, SqL.of hu⟩, fun D hD => ?_⟩
    refine lc_pure (fun _ => true) (fun _ => .bl true) (SqL.of hu) hD (by rw [nVs_len]; omega) (fun i x H' hx sm Nx Kp k => ?_) (fun H1 s1 hd1 => ?_)
    · obtain ⟨n, en, rfl⟩ := nVs_at hx
      have hn := hU.lt n (List.mem_of_getElem? en)
      refine ⟨rfl, tt_yes ?_⟩
      have k' := k_yes k H' (Same.refl _)
      refine ⟨_, rfl, _, _, rfl, rfl, true, ?_, iteT ?_⟩
      · show V.bl (decide ((0 : Int) ≤ (n : Int))) = _
        rw [decide_eq_true (by omega : (0 : Int) ≤ (n : Int))]
      · refine ⟨_, rfl, a, _, rfl, .inl (SqL.of (sm _ _ ha)), _, _, rfl, rfl, .inl ⟨by decide, by decide⟩, _, _, rfl, rfl, ?_⟩
        rw [nVs_len]
        show Kp (V.bl (decide ((n : Int) < 8 * ((bs.length : Nat) : Int)))) H'
        rw [decide_eq_true (by omega : (n : Int) < 8 * ((bs.length : Nat) : Int))]
        exact k'
    · rw [rep_true] at hd1
      refine ⟨D, _, rfl, SqL.of hd1, _, rfl, ?_⟩
      rw [all_rep]
      refine iteF ?_
      have hu1 := s1 _ _ hu
      refine ⟨_, rfl, u, _, rfl, .inl (SqL.of hu1), ?_⟩
      rw [nVs_len]
      refine ⟨1, _, rfl, ⟨by decide, by decide, by omega, by omega⟩, fun D2 hD2 => ?_⟩
      have e3 : (((us.length : Nat) : Int) - 1).toNat = us.length - 1 := by omega
      rw [e3]
      refine lc_pureLo (lo := 1) (fun _ => .bl true) hD2 (by omega) (fun i H' hi sm Nx Kp k => ?_) (fun H2 s2 hd2 => ?_)
      · refine ⟨rfl, tt_yes ?_⟩
        have k' := k_yes k H' (Same.refl _)
        have a0 : us[i]? = some us[i] := List.getElem?_eq_getElem (by omega)
        have a1 : us[i + 1]? = some us[i + 1] := List.getElem?_eq_getElem (by omega)
        have lt := hU.asc i _ _ a0 a1
        have htm := sm _ _ hu1
        refine ⟨_, rfl, _, rfl, _, _, rfl, rfl, u, _, ((1 : Nat) : Int) + (i : Int) - 1, _, rfl, rfl, SqL.of htm, at_of (by omega) (at_nVs a0), _, rfl, _, rfl, u, _, ((1 : Nat) : Int) + (i : Int), _, rfl, rfl, SqL.of htm, at_of (by omega) (at_nVs a1), _, _, rfl, rfl, ?_⟩
        show Kp (V.bl (decide ((us[i] : Int) < (us[i + 1] : Int)))) H'
        rw [decide_eq_true (by omega : (us[i] : Int) < (us[i + 1] : Int))]
        exact k'
      · rw [rep_trueR] at hd2
        refine ⟨D2, _, rfl, SqL.of hd2, _, rfl, ?_⟩
        rw [all_rep]
        exact iteF (q H2 (s1.trans s2))
end
end Dw
namespace Dw
open PySem PySem.Spec PyProof.Rows L2
/-! ### a span -/
def kF (k : Addr) : List (Str × V) := [("kept", .ref k)]
theorem kF_kept (k : Addr) : (kF k).lookup ("kept" : Str) = some (.ref k) := by
  have e : (("kept" : Str) == "kept") = true := beq_self_eq_true _
  unfold kF
  simp only [List.lookup, e]
theorem kF_no (k : Addr) {m : Str} (h1 : (m == "kept") = false) : (kF k).lookup m = none := by
  unfold kF
  simp only [List.lookup, h1]
def EntAt (H : Hp) (kv : Key × V) (e : Ent) : Prop := kv.1 = Sum.inl (e.1 : Int) ∧ ∃ t m, kv.2 = .ref t ∧ H t = some (.tup [nV e.2.1, .ref m]) ∧ H m = some (.lst (nVs e.2.2))
def SpanAt (S : Addr) (H : Hp) (s k : Addr) (kept : List Ent) : Prop := ∃ dx kvs, H s = some (.ins S dx (kF k)) ∧ H k = some (.dK kvs) ∧ Paired (EntAt H) kvs kept
theorem EntAt.same {H H' : Hp} {kv : Key × V} {e : Ent} (s : ∀ b o, (∃ xs, o = .tup xs ∨ o = .lst xs) → H b = some o → H' b = some o) (h : EntAt H kv e) : EntAt H' kv e := by
  obtain ⟨h1, t, m, h2, h3, h4⟩ := h
  exact ⟨h1, t, m, h2, s _ _ ⟨_, .inl rfl⟩ h3, s _ _ ⟨_, .inr rfl⟩ h4⟩
theorem SpanAt.same {S : Addr} {H H' : Hp} {s k : Addr} {kept : List Ent} (sm : Same H H') (h : SpanAt S H s k kept) : SpanAt S H' s k kept := by
  obtain ⟨dx, kvs, h1, h2, h3⟩ := h
  exact ⟨dx, kvs, sm _ _ h1, sm _ _ h2, Paired.mono (fun _ _ z => z.same fun b o _ e => sm b o e) h3⟩
theorem find_pair {H : Hp} : ∀ {kvs : List (Key × V)} {kept : List Ent} {d : Nat} {e : Ent}, Paired (EntAt H) kvs kept → kept.find? (fun e => decide (e.1 = d)) = some e → ∃ v, valV kvs (Sum.inl (d : Int)) = some v ∧ ∃ t m, v = .ref t ∧ H t = some (.tup [nV e.2.1, .ref m]) ∧ H m = some (.lst (nVs e.2.2))
  | _, _, _, _, .nil, h => by cases h
  | kv :: kvs, e0 :: kept, d, e, .cons r t, h => by
    obtain ⟨h1, tt, m, h2, h3, h4⟩ := r
    rw [List.find?_cons] at h
    by_cases q : e0.1 = d
    · rw [decide_eq_true q] at h
      have ee : e0 = e := Option.some.inj h
      subst ee
      exact ⟨kv.2, valV_pos (by rw [h1, q]), tt, m, h2, h3, h4⟩
    · rw [decide_eq_false q] at h
      obtain ⟨v, hv, z⟩ := find_pair t h
      refine ⟨v, ?_, z⟩
      rw [valV_neg (by rw [h1]; intro c; exact q (Int.ofNat.inj (Sum.inl.inj c)))]
      exact hv
theorem keys_of {H : Hp} : ∀ {kvs : List (Key × V)} {kept : List Ent}, Paired (EntAt H) kvs kept → kvs.map (·.1) = ((kept.map (·.1)).map fun n : Nat => (n : Int)).map Sum.inl
  | _, _, .nil => rfl
  | kv :: kvs, e :: kept, .cons r t => by
    rw [List.map_cons, keys_of t, r.1]
    rfl
theorem noKey {H : Hp} {kvs : List (Key × V)} {kept : List Ent} {d : Nat} (h : Paired (EntAt H) kvs kept) (hd : d ∉ kept.map (·.1)) : (kvs.any fun kv => decide (kv.1 = (Sum.inl (d : Int) : Key))) = false := by
  rw [List.any_eq_false]
  intro kv hkv
  obtain ⟨i, hi⟩ := List.mem_iff_getElem?.mp hkv
  obtain ⟨e, he, r⟩ := pr_L h hi
  simp only [decide_eq_true_eq]
  intro c
  rw [r.1] at c
  exact hd (List.mem_map.mpr ⟨e, List.mem_of_getElem? he, Int.ofNat.inj (Sum.inl.inj c)⟩)
/-- what the class is -/
structure TS (K : PySem.W.Frag) (S : Addr) : Prop where
  cl : Cls K S
  nK : NoAttr K S "kept"
theorem pows_at : ∀ d < 25, POWS[d]? = some (2 ^ d) := by decide
theorem nats_of {ys : List Int} {l : List Nat} (h : ys.Perm (l.map fun n : Nat => (n : Int))) : (ys.map Int.toNat).Perm l ∧ nVs (ys.map Int.toNat) = ys.map V.int := by
  refine ⟨?_, ?_⟩
  · have z := h.map Int.toNat
    rw [List.map_map] at z
    have e : l.map (Int.toNat ∘ fun n : Nat => (n : Int)) = l := by
      refine (List.map_congr_left fun n _ => ?_).trans (List.map_id l)
      exact Int.toNat_natCast n
    rw [e] at z
    exact z
  · unfold nVs
    rw [List.map_map]
    refine List.map_congr_left fun y hy => ?_
    obtain ⟨n, _, e⟩ := List.mem_map.mp (h.mem_iff.mp hy)
    show nV y.toNat = V.int y
    rw [← e]
    rfl
theorem inV_nVs (p : Nat) (M : List Nat) : inV (nV p) (nVs M) = decide (p ∈ M) := by
  unfold inV nVs
  rw [List.any_map]
  induction M with
  | nil => rfl
  | cons m M ih =>
    rw [List.any_cons, ih]
    show (((m : Int) == (p : Int)) || decide (p ∈ M)) = _
    by_cases e : p = m
    · subst e
      simp
    · have e2 : ((m : Int) == (p : Int)) = false := beq_eq_false_iff_ne.mpr fun z => e (Int.ofNat.inj z).symm
      rw [e2]
      simp [e]
theorem flat_nVs (M : List Nat) : (nVs M).all flatV = true := by
  unfold nVs
  rw [List.all_map, List.all_eq_true]
  exact fun _ _ => rfl
section
variable {X : Cx} {k j : Nat} {C : Addr} {x : Str} {sp : Sp} {dvs : List V} {p pos : Pos}
theorem pe_mk0 (c : C8.Mak X.prog X.w X.K X.mg X.base k x C sp dvs) (hr : Room j X.A) (hk : k + 1 ≤ j) (hg : Gl X x) (hdb : (x == ("__debug__" : Str)) = false := by decide) : PE X (.Call (.Name x p) [] [] pos) (tMake C sp dvs C8.E0 tNil) := by
  obtain ⟨f, fd, ps, ds, M, F, hm, b, d⟩ := c.ex
  exact pe_make0 M F (hr.mono hk) hg hm b d C8.pass0 hdb
end
section
variable {P : Program} {w : World} {K : PySem.W.Frag} {mg : Str → Option Value} {base : Heap} {f S : Addr} {fd : FuncData}
/-! ### Span.__init__ -/
def spSinit (S : Addr) : Sp := fun vs H Q _ => ∃ (p dx : Addr), vs = [.ref p] ∧ H p = some (.ins S dx []) ∧ ∀ H' k, (∀ b o, H b = some o → b ≠ p → H' b = some o) → H k = none → SpanAt S H' p k [] → Q .non H'
theorem sc_sinit : FnScope ["self"] ["self"] (C8.fnScope s_sinit) := C8.fnScope_by (by decide +kernel)
theorem c_sinit (M : Mk K S f) (hm : mg "Span" = some (.ref S)) (F : C8.Fun K "__init__" "Span.__init__" s_sinit f fd) (b : Binds K fd ["self"] []) (TD : TS K S) : C8.Mak P w K mg base 1 "Span" S (spSinit S) [] := by
  refine C8.mak0 M hm F b .nil sc_sinit (fun vs H Q E h => ?_) (fun cdv A outer s H vs Q E hr h => ?_)
  · obtain ⟨p, dx, rfl, _⟩ := h
    rfl
  · obtain ⟨p, dx, rfl, hp, q⟩ := h
    refine ⟨_, pss_one (ps_fld (pv 0) pe_dnewK rfl), ?_⟩
    intro k hk
    have npk : p ≠ k := ne_of_none hp hk
    refine ⟨_, rfl, p, S, dx, [], rfl, (upd_ne npk).trans hp, TD.cl, TD.nK, (by show 0 < 1000; decide), ?_⟩
    refine q _ k (fun b o e hb => by rw [upd_ne hb, upd_ne (ne_of_none e hk)]; exact e) hk ⟨dx, [], upd_same, ?_, .nil⟩
    rw [upd_ne npk.symm, upd_same]
/-! ### Span.reduced -/
def Small (kept : List Ent) : Prop := kept.length ≤ 30 ∧ ∀ e ∈ kept, e.1 < 16 ∧ e.2.1 < 65536 ∧ e.2.2.length ≤ 100
def spRed (S : Addr) : Sp := fun vs H Q _ => ∃ (s k pl : Addr) (kept : List Ent) (n : Nat) (P : List Nat), vs = [.ref s, nV n, .ref pl] ∧ SpanAt S H s k kept ∧ Small kept ∧ n < 65536 ∧ H pl = some (.lst (nVs P)) ∧ P.length ≤ 100 ∧
  ∀ ds H' t pl', ds.Perm (kept.map (·.1)) → ds.Pairwise (· ≥ ·) → Same H H' → H' t = some (.tup [nV (red kept ds n P).1, .ref pl']) → H' pl' = some (.lst (nVs (red kept ds n P).2)) → Q (.ref t) H'
theorem sc_red : FnScope ["self", "number", "places", "digit", "other", "more", "kept", "place"] ["self", "number", "places"] (C8.fnScope s_reduced) := C8.fnScope_by (by decide +kernel)
theorem sd_len (P M : List Nat) : (sd P M).length ≤ P.length + M.length := by
  unfold sd
  rw [List.length_append]
  exact Nat.add_le_add (List.length_filter_le _ _) (List.length_filter_le _ _)
theorem c_red (me : Meth K S "reduced" f) (F : C8.Fun K "reduced" "Span.reduced" s_reduced f fd) (b : Binds K fd ["self", "number", "places"] []) (T : Tx K mg) (TD : TS K S) (cX : C8.Cal P w K mg base 1 "exclusive" spExcl []) : C8.Met P w K mg base 2 S "reduced" (spRed S) [] := by
  refine C8.met0 TD.cl me F b sc_red (fun vs H Q E h => ?_) (fun cdv A outer s H vs Q E hr h => ?_)
  · obtain ⟨s, k, pl, kept, n, P, rfl, _⟩ := h
    rfl
  · obtain ⟨sa, k, pl, kept, n, P, rfl, hs, hsm, hn, hpl, hP, q⟩ := h
    obtain ⟨pa, mp, sp⟩ := T.pows
    obtain ⟨dx, kvs, h1, h2, h3⟩ := id hs
    refine ⟨_, pss_cons (ps_for PassesOwn.never rfl (pi_list (pe_callBK (cr_sortDR rfl) (by rfl) T.sorted (by decide +kernel) (pa_cons (pe_fld (pv 0) rfl) pa_nil) (pk_cons pe_bl pk_nil))) (pg_name (i := 3) sc_red.nd rfl (Or.inl rfl))
        (pss_one (ps_if (pt_cmpR op_eq (pe_op op_mod (pe_op op_fdiv (pv 1) (pe_it K (C8.pe_gc (v := .ref pa) (by rfl) ⟨_, mp, rfl⟩) (pv 3))) pe_int) pe_int (nomark _))
          (pss_cons (ps_asg (pe_dget (hu_of hr) (pe_fld (pv 0) rfl) (pv 3) (fun _ _ => rfl)) (pg_tup rfl (pgs_cons (pg_name (i := 4) sc_red.nd rfl (Or.inl rfl)) (pgs_cons (pg_name (i := 5) sc_red.nd rfl (Or.inr rfl)) pgs_nil))))
          (pss_cons (ps_set (i := 1) sc_red.nd rfl (Or.inl rfl) (C8.pe_c cX hr (by decide) (by rfl) (pa_cons (pv 1) (pa_cons (pv 4) pa_nil))))
          (pss_cons (ps_setLc (i := 6) (own := [("place", 7)]) (g := gName 7) rfl sc_red.nd rfl rfl (sw_true rfl rfl rfl (by decide +kernel)) (pi_list (pv 2))
            (blkOk_by (N := ["self", "number", "places", "digit", "other", "more", "kept", "place"]) (sc := C8.fnScope s_reduced) (by decide +kernel)) (fun _ _ _ _ _ => pg_name (i := 7) sc_red.nd rfl (Or.inl rfl)) (fun _ _ _ _ _ => pts_one (pt_notInK K (pv 7) (pv 5)))
            (fun _ _ _ _ _ => pv 7))
          (pss_one (ps_set (i := 2) sc_red.nd rfl (Or.inr rfl) (pe_op op_cat (pv 6) (pe_lc (own := [("place", 7)]) (g := gName 7) rfl sc_red.nd (pi_list (pv 5))
            (blkOk_by (N := ["self", "number", "places", "digit", "other", "more", "kept", "place"]) (sc := C8.fnScope s_reduced) (by decide +kernel)) (fun _ _ _ _ _ => pg_name (i := 7) sc_red.nd rfl (Or.inl rfl)) (fun _ _ _ _ _ => pts_one (pt_notInK K (pv 7) (pv 2)))
            (fun _ _ _ _ _ => pv 7)))))))) pss_nil)))
      (pss_one (ps_ret (pe_tup (pa_cons (pv 1) (pa_cons (pv 2) pa_nil))))), ?_⟩
    have hkl : (kept.map (·.1)).length ≤ 30 := by rw [List.length_map]; exact hsm.1
    refine ⟨_, rfl, sa, S, dx, _, _, rfl, h1, TD.cl, TD.nK, kF_kept k, k, kvs, _, rfl, rfl, .inl h2, keys_of h3, by rw [List.length_map, List.length_map]; have := hsm.1; omega, fun ys sl hperm hsorted nsl => ?_⟩
    obtain ⟨dperm, deq⟩ := nats_of hperm
    have dsort : (ys.map Int.toNat).Pairwise (· ≥ ·) := List.pairwise_map.mpr (hsorted.imp fun {a b} h => by omega)
    rw [← deq]
    generalize ys.map Int.toNat = ds at dperm dsort
    have dlen : ds.length ≤ 30 := by rw [dperm.length_eq]; exact hkl
    have s1 : Same H (upd H sl (.lst (nVs ds))) := Same.new nsl
    have hsl : (upd H sl (.lst (nVs ds))) sl = some (.lst (nVs ds)) := upd_same
    generalize upd H sl (.lst (nVs ds)) = H1 at s1 hsl
    refine ⟨sl, rfl, ⟨_, SqL.of hsl⟩, for_list (K := K) (a := sl) (xs := nVs ds) (fun i σ H' => ∃ (r : Nat × List Nat) (x3 x4 x5 x6 : Option V) (pl' : Addr), σ = [some (.ref sa), some (nV r.1), some (.ref pl'), x3, x4, x5, x6, none] ∧ Same H1 H' ∧ r = (ds.take i).foldl (redStep kept) (n, P) ∧ H' pl' = some (.lst (nVs r.2)) ∧ r.1 < 65536 ∧ r.2.length ≤ 100 + 100 * i ∧ i ≤ ds.length)
      ⟨(n, P), none, none, none, none, pl, rfl, Same.refl _, rfl, s1 _ _ hpl, hn, by show P.length ≤ _; omega, Nat.zero_le _⟩ (fun i σ H' _ ⟨_, _, _, _, _, _, _, sm, _⟩ => sm.seq (SqL.of hsl)) ?_ ?_⟩
    · rintro i y σ H2 hi ⟨r, x3, x4, x5, x6, pl', rfl, s2, er, hp', hr1, hr2, hil⟩
      obtain ⟨d, ed, rfl⟩ := nVs_at hi
      have dm := List.mem_of_getElem? ed
      have il : i < ds.length := (List.getElem?_eq_some_iff.mp ed).1
      have dk : d ∈ kept.map (·.1) := dperm.mem_iff.mp dm
      obtain ⟨e, fe, em, ee⟩ := find_ent dk
      obtain ⟨d16, r16, m100⟩ := hsm.2 e em
      rw [ee] at d16
      have s02 := s1.trans s2
      rw [take_snoc ed, List.foldl_append, ← er]
      have hpow : (2 : Nat) ^ d ≤ 2 ^ 16 := Nat.pow_le_pow_right (by decide) (by omega)
      have hpow0 : 0 < (2 : Nat) ^ d := Nat.two_pow_pos d
      refine ⟨_, rfl, _, rfl, pa, _, _, _, rfl, rfl, sp _, atI_nat (at_nVs (pows_at d (by omega))), _, _, rfl, rfl, ⟨by show (0 : Int) < ((2 ^ d : Nat) : Int); omega, by show ((2 ^ d : Nat) : Int) < 1073741824; omega⟩, _, _, rfl, rfl, (by show (0 : Int) < 2; decide), rfl, _, rfl, ?_⟩
      have et : decide (V.int ((r.1 : Int) / ((2 ^ d : Nat) : Int) % 2) = V.int 1) = decide (r.1 / 2 ^ d % 2 = 1) := by
        refine decide_eq_decide.mpr ⟨fun z => ?_, fun z => ?_⟩
        · have z2 := V.int.inj z
          have z3 : ((r.1 / 2 ^ d % 2 : Nat) : Int) = 1 := by rw [← z2]; push_cast; rfl
          omega
        · have z3 : ((r.1 / 2 ^ d % 2 : Nat) : Int) = 1 := by omega
          rw [← z3]
          push_cast
          rfl
      show if decide (V.int ((r.1 : Int) / ((2 ^ d : Nat) : Int) % 2) = V.int 1) = true then _ else _
      rw [et]
      by_cases c : r.1 / 2 ^ d % 2 = 1
      · rw [decide_eq_true c]
        refine iteT ?_
        have estep : redStep kept r d = (r.1 ^^^ e.2.1, sd r.2 e.2.2) := by
          unfold redStep
          rw [if_pos c, fe]
        rw [List.foldl_cons, List.foldl_nil, estep]
        -- other, more = self.kept[digit]
        have h3' : Paired (EntAt H2) kvs kept := Paired.mono (fun _ _ z => z.same fun b o _ e => s02 b o e) h3
        obtain ⟨v, hv, t, m, rfl, ht, hm⟩ := find_pair h3' fe
        refine ⟨_, rfl, sa, S, dx, _, _, rfl, s02 _ _ h1, TD.cl, TD.nK, kF_kept k, _, rfl, k, .ref t, rfl, by rw [← hv]; exact DGet.k (k := Sum.inl (d : Int)) (s02 _ _ h2), ?_⟩
        refine ⟨t, _, rfl, SqT.of ht, rfl, _, _, rfl, _, _, rfl, rfl, ?_⟩
        -- number = exclusive(number, other)
        refine ⟨_, rfl, _, rfl, r.1, e.2.1, rfl, ?_⟩
        -- kept = [..]
        refine ⟨_, rfl, pl', rfl, ⟨_, SqL.of hp'⟩, fun D hD => ?_⟩
        have rl : r.2.length ≤ 100000 := by omega
        refine lc_pure (kN fun p => !decide (p ∈ e.2.2)) (fun x => x) (SqL.of hp') hD (by rw [nVs_len]; exact rl) (fun j x H' hx sm Nx Kp kk => ?_) (fun H3 s3 hd3 => ?_)
        · obtain ⟨p, _, rfl⟩ := nVs_at hx
          refine ⟨rfl, ?_⟩
          have k' := kk H' (Same.refl _)
          refine ⟨_, rfl, _, rfl, m, _, rfl, .inl (SqL.of (sm _ _ hm)), rfl, flat_nVs _, _, rfl, ?_⟩
          have ek : (if true = true then !inV (nV p) (nVs e.2.2) else inV (nV p) (nVs e.2.2)) = kN (fun p => !decide (p ∈ e.2.2)) (nV p) := by
            rw [if_pos rfl, inV_nVs]
            rfl
          rw [ek]
          cases z : kN (fun p => !decide (p ∈ e.2.2)) (nV p) with
          | true =>
            rw [z, if_pos rfl] at k'
            exact iteT ⟨_, rfl, k'⟩
          | false =>
            rw [z, if_neg Bool.false_ne_true] at k'
            exact iteF k'
        · rw [map_self, filter_kN] at hd3
          have nD : H2 D = none := hD
          -- places = kept + [..]
          refine ⟨_, rfl, _, rfl, m, rfl, ⟨_, SqL.of (s3 _ _ hm)⟩, fun D2 hD2 => ?_⟩
          refine lc_pure (kN fun p => !decide (p ∈ r.2)) (fun x => x) (SqL.of (s3 _ _ hm)) hD2 (by rw [nVs_len]; omega) (fun j x H' hx sm Nx Kp kk => ?_) (fun H4 s4 hd4 => ?_)
          · obtain ⟨p, _, rfl⟩ := nVs_at hx
            refine ⟨rfl, ?_⟩
            have k' := kk H' (Same.refl _)
            refine ⟨_, rfl, _, rfl, pl', _, rfl, .inl (SqL.of (sm _ _ (s3 _ _ hp'))), rfl, flat_nVs _, _, rfl, ?_⟩
            have ek : (if true = true then !inV (nV p) (nVs r.2) else inV (nV p) (nVs r.2)) = kN (fun p => !decide (p ∈ r.2)) (nV p) := by
              rw [if_pos rfl, inV_nVs]
              rfl
            rw [ek]
            cases z : kN (fun p => !decide (p ∈ r.2)) (nV p) with
            | true =>
              rw [z, if_pos rfl] at k'
              exact iteT ⟨_, rfl, k'⟩
            | false =>
              rw [z, if_neg Bool.false_ne_true] at k'
              exact iteF k'
          · rw [map_self, filter_kN] at hd4
            have lsd := sd_len r.2 e.2.2
            refine ⟨D, D2, _, _, rfl, rfl, s4 _ _ hd3, hd4, ?_, fun D3 hD3 => ?_⟩
            · rw [← List.length_append, ← nVs_app, nVs_len]
              exact small' (by unfold sd at lsd; omega)
            · rw [← nVs_app]
              refine ⟨(r.1 ^^^ e.2.1, sd r.2 e.2.2), _, _, _, _, D3, rfl, (s2.trans (s3.trans s4)).trans (Same.new hD3), rfl, upd_same, xor_lt16 hr1 r16, ?_, il⟩
              show (sd r.2 e.2.2).length ≤ _
              omega
      · rw [decide_eq_false c]
        refine iteF ?_
        have estep : redStep kept r d = r := by
          unfold redStep
          rw [if_neg c]
        rw [List.foldl_cons, List.foldl_nil, estep]
        exact ⟨r, _, _, _, _, pl', rfl, s2, rfl, hp', hr1, by omega, il⟩
    · rintro σ H2 ⟨r, x3, x4, x5, x6, pl', rfl, s2, er, hp', hr1, hr2, hil⟩
      rw [nVs_len, List.take_length] at er
      refine ⟨_, rfl, _, rfl, by show 2 ≤ sizeLine; decide, fun t nt => ?_⟩
      have e2 : red kept ds n P = r := er.symm
      refine q ds _ t pl' dperm dsort ((s1.trans s2).trans (Same.new nt)) ?_ ?_
      · rw [e2]
        exact upd_same
      · rw [e2]
        exact Same.new nt _ _ hp'
end
end Dw
namespace Dw
open PySem PySem.Spec PyProof.Rows L2
def bitList (r : Nat) : List Nat := (List.range 16).filter fun a => decide (r / 2 ^ a % 2 = 1)
theorem log_16 {r : Nat} (h0 : 0 < r) (h : r < 65536) : r.log2 < 16 := (Nat.log2_lt (by omega)).mpr h
theorem log_mem {r : Nat} (h0 : 0 < r) (h : r < 65536) : r.log2 ∈ bitList r := List.mem_filter.mpr ⟨List.mem_range.mpr (log_16 h0 h), decide_eq_true (bit_iff.mpr (log_bit h0))⟩
theorem max_log {r : Nat} (h0 : 0 < r) (h : r < 65536) {m : Int} (hm : m ∈ (bitList r).map fun n : Nat => (n : Int)) (hx : ∀ y ∈ (bitList r).map fun n : Nat => (n : Int), y ≤ m) : m = (r.log2 : Int) := by
  obtain ⟨n, hn, rfl⟩ := List.mem_map.mp hm
  have h1 := hx _ (List.mem_map.mpr ⟨_, log_mem h0 h, rfl⟩)
  have h2 := of_decide_eq_true (List.mem_filter.mp hn).2
  have h3 : ¬ r.log2 < n := fun z => by
    have z2 := log_above z
    rw [bit_iff.mp h2] at z2
    cases z2
  omega
theorem sub_len : ∀ {l m : List Nat}, l.Nodup → (∀ a ∈ l, a ∈ m) → l.length ≤ m.length
  | [], _, _, _ => Nat.zero_le _
  | a :: l, m, h, s => by
    have ha : a ∈ m := s a (.head _)
    have z := sub_len (l := l) (m := m.erase a) (List.nodup_cons.1 h).2 (fun b hb => (List.mem_erase_of_ne (fun (e : b = a) => (List.nodup_cons.1 h).1 (e ▸ hb))).2 (s b (.tail _ hb)))
    have e := List.length_erase_of_mem ha
    have q : 0 < m.length := List.length_pos_of_mem ha
    simp only [List.length_cons]
    omega
theorem small_of {c : Nat → Nat} {us : List Nat} {kept : List Ent} (K : KInv c us kept) (h : us.length ≤ 24) : Small kept := by
  refine ⟨by rw [K.len]; omega, fun e he => ⟨?_, K.lt e he, ?_⟩⟩
  · rw [K.dig e he]
    exact log_16 (K.pos e he) (K.lt e he)
  · have z := sub_len (K.ndp e he) (K.sub e he)
    omega
section
variable {P : Program} {w : World} {K : PySem.W.Frag} {mg : Str → Option Value} {base : Heap} {f S : Addr} {fd : FuncData}
/-! ### Span.add -/
def spAdd (S : Addr) : Sp := fun vs H Q _ => ∃ (s k : Addr) (kept : List Ent) (n p : Nat), vs = [.ref s, nV n, nV p] ∧ SpanAt S H s k kept ∧ Small kept ∧ n < 65536 ∧
  (∀ ds : List Nat, ds.Perm (kept.map (·.1)) → ds.Pairwise (· ≥ ·) → 0 < (red kept ds n [p]).1 ∧ (red kept ds n [p]).1 < 65536 ∧ (red kept ds n [p]).1.log2 ∉ kept.map (·.1)) ∧
  ∀ ds H', ds.Perm (kept.map (·.1)) → ds.Pairwise (· ≥ ·) → (∀ b o, H b = some o → b ≠ k → H' b = some o) → SpanAt S H' s k (kept ++ [((red kept ds n [p]).1.log2, (red kept ds n [p]).1, (red kept ds n [p]).2)]) → Q .non H'
theorem sc_add : FnScope ["self", "number", "place", "rest", "places", "digit", "at"] ["self", "number", "place"] (C8.fnScope s_add) := C8.fnScope_by (by decide +kernel)
theorem c_add (me : Meth K S "add" f) (F : C8.Fun K "add" "Span.add" s_add f fd) (b : Binds K fd ["self", "number", "place"] []) (T : Tx K mg) (TD : TS K S) (cR : C8.Met P w K mg base 2 S "reduced" (spRed S) []) : C8.Met P w K mg base 3 S "add" (spAdd S) [] := by
  refine C8.met0 TD.cl me F b sc_add (fun vs H Q E h => ?_) (fun cdv A outer s H vs Q E hr h => ?_)
  · obtain ⟨s, k, kept, n, p, rfl, _⟩ := h
    rfl
  · obtain ⟨sa, k, kept, n, p, rfl, hs, hsm, hn, hpre, q⟩ := h
    obtain ⟨pa, mp, sp⟩ := T.pows
    obtain ⟨dx, kvs, h1, h2, h3⟩ := id hs
    refine ⟨_, pss_cons (ps_asg (C8.pe_mt cR hr (by decide) (pv 0) (pa_cons (pv 1) (pa_cons (pe_lst (pa_cons (pv 2) pa_nil)) pa_nil))) (pg_tup rfl (pgs_cons (pg_name (i := 3) sc_add.nd rfl (Or.inr rfl)) (pgs_cons (pg_name (i := 4) sc_add.nd rfl (Or.inl rfl)) pgs_nil))))
      (pss_one (ps_if (pt_cmpR op_gt (pv 3) pe_int (nomark _))
        (pss_cons (ps_set (i := 5) sc_add.nd rfl (Or.inl rfl) (pe_callB (cr_max rfl) (by rfl) T.max (by decide +kernel) (pa_cons (pe_lc (own := [("at", 6)]) (g := gName 6) rfl sc_add.nd (pi_range1 (by rfl) T.range (pa_cons pe_int pa_nil))
          (blkOk_by (N := ["self", "number", "place", "rest", "places", "digit", "at"]) (sc := C8.fnScope s_add) (by decide +kernel)) (fun _ _ _ _ _ => pg_name (i := 6) sc_add.nd rfl (Or.inl rfl))
          (fun _ _ _ _ _ => pts_one (pt_cmpR op_eq (pe_op op_mod (pe_op op_fdiv (pv 3) (pe_it K (C8.pe_gc (v := .ref pa) (by rfl) ⟨_, mp, rfl⟩) (pv 6))) pe_int) pe_int (nomark _))) (fun _ _ _ _ _ => pv 6)) pa_nil)))
        (pss_one (ps_dput (hu_of hr) (pe_fld (pv 0) rfl) (pv 5) (pe_tup (pa_cons (pv 3) (pa_cons (pv 4) pa_nil))) rfl))) pss_nil)), ?_⟩
    -- rest, places = self.reduced(number, [place])
    refine ⟨_, rfl, sa, dx, _, rfl, h1, kF_no k (by decide +kernel), _, rfl, _, rfl, by show 1 ≤ sizeLine; decide, fun p1 n1 => ?_⟩
    have s1 : Same H (upd H p1 (.lst [nV p])) := Same.new n1
    refine ⟨sa, k, p1, kept, n, [p], rfl, hs.same s1, hsm, hn, upd_same, by show 1 ≤ 100; decide, fun ds H2 t pl dperm dsort s2' ht hpl => ?_⟩
    have s2 := s1.trans s2'
    obtain ⟨r0, r16, rno⟩ := hpre ds dperm dsort
    have fin := q ds
    generalize red kept ds n [p] = r at r0 r16 rno ht hpl fin
    refine ⟨t, _, rfl, SqT.of ht, rfl, _, _, rfl, _, _, rfl, rfl, ?_⟩
    -- rest > 0
    refine ⟨_, rfl, _, _, rfl, rfl, _, rfl, ?_⟩
    rw [decide_eq_true (by omega : (0 : Int) < ((r.1 : Nat) : Int))]
    refine iteT ?_
    -- digit = max([..])
    refine ⟨_, rfl, by decide, by decide, fun D hD => ?_⟩
    refine lc_pureR (n := 16) (kN fun a => decide (r.1 / 2 ^ a % 2 = 1)) (fun x => x) hD (by decide) (fun i H' hi sm Nx Kp k => ?_) (fun H3 s3' hd3 => ?_)
    · refine ⟨rfl, ?_⟩
      have k' := k H' (Same.refl _)
      have hpow : (2 : Nat) ^ i ≤ 2 ^ 16 := Nat.pow_le_pow_right (by decide) (by omega)
      have hpow0 : 0 < (2 : Nat) ^ i := Nat.two_pow_pos i
      refine ⟨_, rfl, _, rfl, pa, _, (0 + (i : Int)), _, rfl, rfl, sp _, at_of (Int.zero_add _) (at_nVs (pows_at i (by omega))), _, _, rfl, rfl, ⟨by show (0 : Int) < ((2 ^ i : Nat) : Int); omega, by show ((2 ^ i : Nat) : Int) < 1073741824; omega⟩, _, _, rfl, rfl, (by show (0 : Int) < 2; decide), rfl, _, rfl, ?_⟩
      have et : decide (V.int ((r.1 : Int) / ((2 ^ i : Nat) : Int) % 2) = V.int 1) = kN (fun a => decide (r.1 / 2 ^ a % 2 = 1)) (nV i) := by
        refine decide_eq_decide.mpr ⟨fun z => ?_, fun z => ?_⟩
        · have z2 := V.int.inj z
          have z3 : ((r.1 / 2 ^ i % 2 : Nat) : Int) = 1 := by rw [← z2]; push_cast; rfl
          show r.1 / 2 ^ i % 2 = 1
          omega
        · have z' : r.1 / 2 ^ i % 2 = 1 := z
          have z3 : ((r.1 / 2 ^ i % 2 : Nat) : Int) = 1 := by omega
          rw [← z3]
          push_cast
          rfl
      show if decide (V.int ((r.1 : Int) / ((2 ^ i : Nat) : Int) % 2) = V.int 1) = true then _ else _
      rw [et]
      have e0 : V.int (0 + (i : Int)) = nV i := by show V.int _ = V.int _; rw [Int.zero_add]
      cases z : kN (fun a => decide (r.1 / 2 ^ a % 2 = 1)) (nV i) with
      | true =>
        rw [z, if_pos rfl] at k'
        refine iteT ⟨_, rfl, ?_⟩
        rw [e0]
        exact k'
      | false =>
        rw [z, if_neg Bool.false_ne_true] at k'
        exact iteF k'
    · rw [map_self, filter_kN] at hd3
      have hd3' : H3 D = some (.lst (((bitList r.1).map fun n : Nat => (n : Int)).map V.int)) := by
        rw [hd3, ← nVs_ints]
        rfl
      have s3 := s2.trans s3'
      refine ⟨D, _, rfl, SqL.of hd3', ?_, fun m hm hmax => ?_⟩
      · rw [List.length_map]
        exact List.length_pos_of_mem (log_mem r0 r16)
      have em := max_log r0 r16 hm hmax
      subst em
      -- self.kept[digit] = (rest, places)
      refine ⟨_, rfl, _, rfl, by show 2 ≤ sizeLine; decide, fun t2 nt2 => ?_⟩
      have s4 := s3.trans (Same.new (o := .tup [nV r.1, .ref pl]) nt2)
      have hpl4 := Same.new (o := .tup [nV r.1, .ref pl]) nt2 _ _ (s3' _ _ hpl)
      have ht4 : (upd H3 t2 (.tup [nV r.1, .ref pl])) t2 = some (.tup [nV r.1, .ref pl]) := upd_same
      generalize upd H3 t2 (.tup [nV r.1, .ref pl]) = H4 at s4 hpl4 ht4
      have hk4 := s4 _ _ h2
      have hs4 := s4 _ _ h1
      have h34 : Paired (EntAt H4) kvs kept := Paired.mono (fun _ _ z => z.same fun b o _ e => s4 b o e) h3
      have klen : kvs.length ≤ 30 := by rw [Paired.length h3]; exact hsm.1
      have hput : putK kvs (Sum.inl (r.1.log2 : Int) : Key) (.ref t2) = kvs ++ [(Sum.inl (r.1.log2 : Int), .ref t2)] := by
        unfold putK
        rw [noKey h34 rno, if_neg Bool.false_ne_true]
      refine ⟨_, rfl, sa, S, dx, _, _, rfl, hs4, TD.cl, TD.nK, kF_kept k, _, rfl, k, _, rfl, DPut.k (k := Sum.inl (r.1.log2 : Int)) hk4 (small (by omega)), ?_⟩
      rw [hput]
      have nk : ∀ {b : Addr} {o : HO}, H4 b = some o → (∃ xs, o = .tup xs ∨ o = .lst xs) → b ≠ k := fun {b o} e ho => ne_of e hk4 (by
        obtain ⟨xs, rfl | rfl⟩ := ho
        · intro z; cases z
        · intro z; cases z)
      refine fin _ dperm dsort (fun b o e hb => by rw [upd_ne hb]; exact s4 _ _ e) ⟨dx, _, ?_, upd_same, pr_app (Paired.mono (fun _ _ z => z.same fun b o ho e => by rw [upd_ne (nk e ho)]; exact e) h34) (.cons ⟨rfl, t2, pl, rfl, ?_, ?_⟩ .nil)⟩
      · rw [upd_ne (ne_of hs4 hk4 (by intro z; cases z))]
        exact hs4
      · rw [upd_ne (nk ht4 ⟨_, .inl rfl⟩)]
        exact ht4
      · rw [upd_ne (nk hpl4 ⟨_, .inr rfl⟩)]
        exact hpl4
/-! ### span_of -/
theorem asc_lt {n : Nat} {us : List Nat} (h : UOk n us) : ∀ (j i x y : Nat), us[i]? = some x → us[i + (j + 1)]? = some y → x < y
  | 0, i, x, y, h1, h2 => h.asc i x y h1 h2
  | j + 1, i, x, y, h1, h2 => by
    have hl : i + (j + 1) < us.length := by
      have z := (List.getElem?_eq_some_iff.mp h2).1
      omega
    have e : us[i + (j + 1)]? = some us[i + (j + 1)] := List.getElem?_eq_getElem hl
    have z1 := asc_lt h j i x _ h1 e
    have z2 := h.asc (i + (j + 1)) _ y e h2
    omega
theorem uok_nodup {n : Nat} {us : List Nat} (h : UOk n us) : us.Nodup := by
  refine List.pairwise_iff_getElem.mpr fun i j hi hj hij e => ?_
  have z := asc_lt h (j - i - 1) i _ us[j] (List.getElem?_eq_getElem hi) (by
    have e2 : i + (j - i - 1 + 1) = j := by omega
    rw [e2]
    exact List.getElem?_eq_getElem hj)
  rw [e] at z
  exact Nat.lt_irrefl _ z
theorem Ind.mono {c : Nat → Nat} {us vs : List Nat} (h : Ind c us) (s : ∀ p ∈ vs, p ∈ us) : Ind c vs := fun P hn hs hx => h P hn (fun p hp => s p (hs p hp)) hx
def spSo (S : Addr) : Sp := fun vs H Q _ => ∃ (a u : Addr) (bs us : List Nat), vs = [.ref a, .ref u] ∧ H a = some (.lst (nVs bs)) ∧ H u = some (.lst (nVs us)) ∧ Byts bs ∧ bs.length = 16 ∧ UOk 16 us ∧ Ind (cP 16) us ∧
  ∀ H' t pl s k kept, Same H H' → H' t = some (.tup [.ref pl, .ref s]) → H' pl = some (.lst (nVs (clr bs us))) → SpanAt S H' s k kept → KInv (cP 16) us kept → Q (.ref t) H'
theorem sc_so : FnScope ["values", "unknown", "plain", "span", "place"] ["values", "unknown"] (C8.fnScope s_span_of) := C8.fnScope_by (by decide +kernel)
theorem clr_snoc (bs us : List Nat) (p : Nat) : clr bs (us ++ [p]) = withBit (clr bs us) p 0 := by
  unfold clr
  rw [List.foldl_append]
  rfl
theorem c_so (F : C8.Def K mg "span_of" s_span_of f fd) (b : Binds K fd ["values", "unknown"] []) (T : Tx K mg) (cS : C8.Mak P w K mg base 1 "Span" S (spSinit S) []) (cW : C8.Cal P w K mg base 1 "with_bit" (spWbit K) []) (cC : C8.Cal P w K mg base 4 "crc_change" spCch [])
    (cA : C8.Met P w K mg base 3 S "add" (spAdd S) []) : C8.Cal P w K mg base 5 "span_of" (spSo S) [] := by
  refine C8.cal0 F b .nil sc_so (fun vs H Q E h => ?_) (fun cdv A outer s H vs Q E hr h => ?_)
  · obtain ⟨a, u, bs, us, rfl, _⟩ := h
    rfl
  · obtain ⟨a, u, bs, us, rfl, ha, hu, hB, h16, hU, hI, q⟩ := h
    refine ⟨_, pss_cons (ps_set (i := 2) sc_so.nd rfl (Or.inl rfl) (pe_callTy call_list_of (by rfl) T.list (by decide +kernel) (pa_cons (pv 0) pa_nil)))
      (pss_cons (ps_set (i := 3) sc_so.nd rfl (Or.inl rfl) (pe_mk0 cS hr (by decide) (by rfl)))
      (pss_cons (ps_for PassesOwn.never rfl (pi_list (pv 1)) (pg_name (i := 4) sc_so.nd rfl (Or.inl rfl))
        (pss_cons (ps_set (i := 2) sc_so.nd rfl (Or.inl rfl) (C8.pe_c cW hr (by decide) (by rfl) (pa_cons (pv 2) (pa_cons (pv 4) (pa_cons pe_int pa_nil)))))
        (pss_one (ps_expr (C8.pe_mt cA hr (by decide) (pv 3) (pa_cons (C8.pe_c cC hr (by decide) (by rfl) (pa_cons (pe_len K T.len (pv 0)) (pa_cons (pv 4) pa_nil))) (pa_cons (pv 4) pa_nil)))))))
      (pss_one (ps_ret (pe_tup (pa_cons (pv 2) (pa_cons (pv 3) pa_nil))))))), ?_⟩
    have hul := hU.len
    -- plain = list(values)
    refine ⟨_, rfl, a, _, rfl, .inl (SqL.of ha), fun p1 n1 => ?_⟩
    have s1 : Same H (upd H p1 (.lst (nVs bs))) := Same.new n1
    have hp1 : (upd H p1 (.lst (nVs bs))) p1 = some (.lst (nVs bs)) := upd_same
    generalize upd H p1 (.lst (nVs bs)) = H1 at s1 hp1
    -- span = Span()
    intro x dn nx nd ne
    refine ⟨x, dn, rfl, upd_same, fun H2 k keep nk hsp => ⟨rfl, ?_⟩⟩
    have s2' : Same H1 H2 := Same.made nx nd keep
    have s2 := s1.trans s2'
    have nkH : H k = none := by
      refine (s1.trans ((Same.new (o := .own x) nd).trans (Same.new (o := .ins S dn []) ?_))).free nk
      rw [upd_ne (Ne.symm ne)]
      exact nx
    refine ⟨_, rfl, u, rfl, ⟨_, SqL.of (s2 _ _ hu)⟩, for_list (K := K) (a := u) (xs := nVs us) (fun i σ H' => ∃ (pl : Addr) (kept : List Ent) (x4 : Option V), σ = [some (.ref a), some (.ref u), some (.ref pl), some (.ref x), x4] ∧ Same H H' ∧ H' pl = some (.lst (nVs (clr bs (us.take i)))) ∧ SpanAt S H' x k kept ∧ KInv (cP 16) (us.take i) kept)
      ⟨p1, [], none, rfl, s2, s2' _ _ hp1, hsp, kinv_nil _⟩ (fun i σ H' _ ⟨_, _, _, _, sm, _⟩ => sm.seq (SqL.of hu)) ?_ ?_⟩
    · rintro i y σ H3 hi ⟨pl, kept, x4, rfl, s3, hpl, hsp3, KI⟩
      obtain ⟨p, ep, rfl⟩ := nVs_at hi
      have pm := List.mem_of_getElem? ep
      have plt := hU.lt p pm
      have il : i < us.length := (List.getElem?_eq_some_iff.mp ep).1
      have hlen : (clr bs (us.take i)).length = 16 := by rw [clr_len]; exact h16
      rw [take_snoc ep, clr_snoc]
      -- plain = with_bit(plain, place, 0)
      refine ⟨_, rfl, _, rfl, pl, _, p, 0, rfl, SqL.of hpl, clr_byts _ hB, by rw [hlen]; exact plt, by decide, fun H4 p4 s4' n4 hp4 => ?_⟩
      have s4 := s3.trans s4'
      have hsp4 := hsp3.same s4'
      obtain ⟨dx, kvs, e1, e2, _⟩ := id hsp4
      -- span.add(crc_change(len(values), place), place)
      refine ⟨_, rfl, x, dx, _, rfl, e1, kF_no k (by decide +kernel), _, rfl, a, _, rfl, .inl (SqL.of (s4 _ _ ha)), _, rfl, 16, p, ?_, by decide, plt, fun H5 s5' => ?_⟩
      · rw [nVs_len, h16]
        rfl
      have s5 := s4.trans s5'
      rw [crcCh_eq plt]
      have pno : p ∉ us.take i := fun z => by
        obtain ⟨j, hj⟩ := List.mem_iff_getElem?.mp z
        have jl : j < (us.take i).length := (List.getElem?_eq_some_iff.mp hj).1
        rw [List.length_take] at jl
        rw [List.getElem?_take] at hj
        have ji : j < i := by omega
        rw [if_pos ji] at hj
        have z2 := asc_lt hU (i - j - 1) j p p hj (by
          have e3 : j + (i - j - 1 + 1) = i := by omega
          rw [e3]
          exact ep)
        exact Nat.lt_irrefl _ z2
      have hI' : Ind (cP 16) (us.take i ++ [p]) := hI.mono fun r hr => by
        rcases List.mem_append.mp hr with h | h
        · exact List.mem_of_mem_take h
        · rw [List.mem_singleton.mp h]
          exact pm
      have tl : (us.take i).length ≤ 24 := Nat.le_trans (List.length_take_le' _ _) hul
      refine ⟨_, rfl, x, k, kept, cP 16 p, p, rfl, hsp4.same s5', small_of KI tl, cP_lt _ _, fun ds d1 d2 => ?_, fun ds H6 d1 d2 k6 hsp6 => ?_⟩
      · have z := add_inv KI d1 d2 (cP_lt 16 p) pno hI'
        exact ⟨z.1, z.2.1, z.2.2.1⟩
      · have z := add_inv KI d1 d2 (cP_lt 16 p) pno hI'
        have hk5 := s5' _ _ e2
        refine ⟨p4, _, _, rfl, fun b o e => k6 b o (s5 _ _ e) (ne_of_none e nkH), k6 _ _ (s5' _ _ hp4) (ne_of (s5' _ _ hp4) hk5 (by intro z; cases z)), hsp6, z.2.2.2.2.2⟩
    · rintro σ H3 ⟨pl, kept, x4, rfl, s3, hpl, hsp3, KI⟩
      rw [nVs_len, List.take_length] at hpl KI
      refine ⟨_, rfl, _, rfl, by show 2 ≤ sizeLine; decide, fun t nt => ?_⟩
      exact q _ t pl x k kept (s3.trans (Same.new nt)) upd_same (Same.new nt _ _ hpl) (hsp3.same (Same.new nt)) KI
/-! ### solution_count, solution -/
structure Sol (bs us B : List Nat) : Prop where
  byt : Byts bs
  len : bs.length = 16
  u : UOk 16 us
  ind : Ind (cP 16) us
  blk : Blk B
  same : clr bs us = clr B us
theorem Sol.num {bs us B : List Nat} (h : Sol bs us B) : crcN (clr bs us) ^^^ crcN B = X (cP 16) (ones B us) := by
  have z := crc_true (B := B) h.blk.2 (uok_nodup h.u) (fun p hp => by rw [h.blk.1]; exact h.u.lt p hp)
  rw [h.blk.1] at z
  rw [h.same]
  exact z
def spSc : Sp := fun vs H Q _ => ∃ (a u : Addr) (bs us B : List Nat), vs = [.ref a, .ref u, nV (crcN B)] ∧ H a = some (.lst (nVs bs)) ∧ H u = some (.lst (nVs us)) ∧ Sol bs us B ∧ ∀ H', Same H H' → Q (nV 1) H'
theorem sc_sc : FnScope ["values", "unknown", "wanted", "plain", "span", "rest", "places"] ["values", "unknown", "wanted"] (C8.fnScope s_solution_count) := C8.fnScope_by (by decide +kernel)
theorem ones_nodup {n : Nat} {us B : List Nat} (h : UOk n us) : (ones B us).Nodup := (uok_nodup h).sublist List.filter_sublist
theorem c_sc (F : C8.Def K mg "solution_count" s_solution_count f fd) (b : Binds K fd ["values", "unknown", "wanted"] []) (T : Tx K mg) (TD : TS K S) (cD : C8.Cal P w K mg base 1 "demand_unknown" spDu []) (cS : C8.Cal P w K mg base 5 "span_of" (spSo S) []) (cX : C8.Cal P w K mg base 1 "exclusive" spExcl [])
    (cC : C8.Cal P w K mg base 3 "crc" (spCrc K) []) (cR : C8.Met P w K mg base 2 S "reduced" (spRed S) []) : C8.Cal P w K mg base 6 "solution_count" spSc [] := by
  refine C8.cal0 F b .nil sc_sc (fun vs H Q E h => ?_) (fun cdv A outer s H vs Q E hr h => ?_)
  · obtain ⟨a, u, bs, us, B, rfl, _⟩ := h
    rfl
  · obtain ⟨a, u, bs, us, B, rfl, ha, hu, hS, q⟩ := h
    obtain ⟨pa, mp, sp⟩ := T.pows
    refine ⟨_, pss_cons (ps_expr (C8.pe_c cD hr (by decide) (by rfl) (pa_cons (pv 0) (pa_cons (pv 1) pa_nil))))
      (pss_cons (ps_asg (C8.pe_c cS hr (by decide) (by rfl) (pa_cons (pv 0) (pa_cons (pv 1) pa_nil))) (pg_tup rfl (pgs_cons (pg_name (i := 3) sc_sc.nd rfl (Or.inl rfl)) (pgs_cons (pg_name (i := 4) sc_sc.nd rfl (Or.inl rfl)) pgs_nil))))
      (pss_cons (ps_asg (C8.pe_mt cR hr (by decide) (pv 4) (pa_cons (C8.pe_c cX hr (by decide) (by rfl) (pa_cons (C8.pe_c cC hr (by decide) (by rfl) (pa_cons (pv 3) pa_nil)) (pa_cons (pv 2) pa_nil))) (pa_cons (pe_lst pa_nil) pa_nil))) (pg_tup rfl (pgs_cons (pg_name (i := 5) sc_sc.nd rfl (Or.inl rfl)) (pgs_cons (pg_name (i := 6) sc_sc.nd rfl (Or.inl rfl)) pgs_nil))))
      (pss_cons (ps_if (pt_cmpR op_gt (pv 5) pe_int (nomark _)) (pss_one (ps_ret pe_int)) pss_nil)
      (pss_one (ps_ret (pe_it K (C8.pe_gc (v := .ref pa) (by rfl) ⟨_, mp, rfl⟩) (pe_op op_sub (pe_len K T.len (pv 1)) (pe_callB call_lenD (by rfl) T.len PySem.boot_len (pa_cons (pe_fld (pv 4) rfl) pa_nil))))))))), ?_⟩
    have h16 := hS.len
    refine ⟨_, rfl, _, rfl, a, u, bs, us, rfl, ha, hu, by rw [h16]; exact hS.u, by omega, fun H1 s1 => ?_⟩
    refine ⟨_, rfl, _, rfl, a, u, bs, us, rfl, s1 _ _ ha, s1 _ _ hu, hS.byt, h16, hS.u, hS.ind, fun H2 t pl sa k kept s2' ht hpl hsp KI => ?_⟩
    have s2 := s1.trans s2'
    refine ⟨t, _, rfl, SqT.of ht, rfl, _, _, rfl, _, _, rfl, rfl, ?_⟩
    obtain ⟨dx, kvs, e1, e2, e3⟩ := id hsp
    refine ⟨_, rfl, sa, dx, _, rfl, e1, kF_no k (by decide +kernel), _, rfl, pl, _, rfl, SqL.of hpl, fun H3 s3' => ?_⟩
    refine ⟨_, rfl, crcN (clr bs us), crcN B, rfl, ?_⟩
    rw [hS.num]
    refine ⟨Nat.zero_le _, fun p3 n3 => ?_⟩
    have s3 := (s2.trans s3').trans (Same.new (o := .lst []) n3)
    have hx : X (cP 16) (ones B us) < 65536 := by rw [← hS.num]; exact xor_lt16 (crcN_lt _) (crcN_lt _)
    refine ⟨sa, k, p3, kept, _, [], rfl, (hsp.same s3').same (Same.new n3), small_of KI hS.u.len, hx, upd_same, by decide, fun ds H4 t4 pl4 d1 d2 s4' ht4 hpl4 => ?_⟩
    obtain ⟨z0, _, _⟩ := solve KI d1 d2 hS.ind (ones_nodup hS.u) (fun p hp => (List.mem_filter.mp hp).1) hx
    rw [z0] at ht4
    have s4 := s3.trans s4'
    have hsp4 := ((hsp.same s3').same (Same.new n3)).same s4'
    obtain ⟨dx4, kvs4, g1, g2, g3⟩ := id hsp4
    refine ⟨t4, _, rfl, SqT.of ht4, rfl, _, _, rfl, _, _, rfl, rfl, ?_⟩
    refine ⟨_, rfl, _, _, rfl, rfl, _, rfl, iteF ?_⟩
    have el : kvs4.length = us.length := by rw [Paired.length g3]; exact KI.len
    refine ⟨_, rfl, u, _, rfl, .inl (SqL.of (s4 _ _ hu)), _, rfl, sa, S, dx4, _, _, rfl, g1, TD.cl, TD.nK, kF_kept k, k, kvs4, rfl, g2, _, _, rfl, rfl, pa, _, _, nV 1, rfl, rfl, sp _, at_of (j := 0) ?_ rfl, q H4 s4⟩
    rw [nVs_len, el]
    omega
def spSol : Sp := fun vs H Q _ => ∃ (a u : Addr) (bs us B : List Nat), vs = [.ref a, .ref u, nV (crcN B)] ∧ H a = some (.lst (nVs bs)) ∧ H u = some (.lst (nVs us)) ∧ Sol bs us B ∧ ∀ H' p, Same H H' → H' p = some (.lst (nVs B)) → Q (.ref p) H'
theorem sc_sol : FnScope ["values", "unknown", "wanted", "plain", "span", "rest", "places", "place"] ["values", "unknown", "wanted"] (C8.fnScope s_solution) := C8.fnScope_by (by decide +kernel)
theorem setAll_snoc (bs us : List Nat) (p : Nat) : setAll bs (us ++ [p]) = withBit (setAll bs us) p 1 := by
  unfold setAll
  rw [List.foldl_append]
  rfl
theorem c_sol (F : C8.Def K mg "solution" s_solution f fd) (b : Binds K fd ["values", "unknown", "wanted"] []) (T : Tx K mg) (TD : TS K S) (cN : C8.Cal P w K mg base 6 "solution_count" spSc []) (cS : C8.Cal P w K mg base 5 "span_of" (spSo S) []) (cX : C8.Cal P w K mg base 1 "exclusive" spExcl [])
    (cC : C8.Cal P w K mg base 3 "crc" (spCrc K) []) (cR : C8.Met P w K mg base 2 S "reduced" (spRed S) []) (cW : C8.Cal P w K mg base 1 "with_bit" (spWbit K) []) : C8.Cal P w K mg base 7 "solution" spSol [] := by
  refine C8.cal0 F b .nil sc_sol (fun vs H Q E h => ?_) (fun cdv A outer s H vs Q E hr h => ?_)
  · obtain ⟨a, u, bs, us, B, rfl, _⟩ := h
    rfl
  · obtain ⟨a, u, bs, us, B, rfl, ha, hu, hS, q⟩ := h
    refine ⟨_, pss_cons (ps_if (pt_cmpR op_ne (C8.pe_c cN hr (by decide) (by rfl) (pa_cons (pv 0) (pa_cons (pv 1) (pa_cons (pv 2) pa_nil)))) pe_int (nomark _)) (pss_one (ps_ret pe_non)) pss_nil)
      (pss_cons (ps_asg (C8.pe_c cS hr (by decide) (by rfl) (pa_cons (pv 0) (pa_cons (pv 1) pa_nil))) (pg_tup rfl (pgs_cons (pg_name (i := 3) sc_sol.nd rfl (Or.inl rfl)) (pgs_cons (pg_name (i := 4) sc_sol.nd rfl (Or.inl rfl)) pgs_nil))))
      (pss_cons (ps_asg (C8.pe_mt cR hr (by decide) (pv 4) (pa_cons (C8.pe_c cX hr (by decide) (by rfl) (pa_cons (C8.pe_c cC hr (by decide) (by rfl) (pa_cons (pv 3) pa_nil)) (pa_cons (pv 2) pa_nil))) (pa_cons (pe_lst pa_nil) pa_nil))) (pg_tup rfl (pgs_cons (pg_name (i := 5) sc_sol.nd rfl (Or.inl rfl)) (pgs_cons (pg_name (i := 6) sc_sol.nd rfl (Or.inl rfl)) pgs_nil))))
      (pss_cons (ps_for PassesOwn.never rfl (pi_list (pv 6)) (pg_name (i := 7) sc_sol.nd rfl (Or.inl rfl)) (pss_one (ps_set (i := 3) sc_sol.nd rfl (Or.inl rfl) (C8.pe_c cW hr (by decide) (by rfl) (pa_cons (pv 3) (pa_cons (pv 7) (pa_cons pe_int pa_nil)))))))
      (pss_one (ps_ret (pv 3)))))), ?_⟩
    have h16 := hS.len
    refine ⟨_, rfl, _, rfl, _, rfl, a, u, bs, us, B, rfl, ha, hu, hS, fun H1 s1 => ⟨rfl, _, rfl, iteF ?_⟩⟩
    refine ⟨_, rfl, _, rfl, a, u, bs, us, rfl, s1 _ _ ha, s1 _ _ hu, hS.byt, h16, hS.u, hS.ind, fun H2 t pl sa k kept s2' ht hpl hsp KI => ?_⟩
    have s2 := s1.trans s2'
    refine ⟨t, _, rfl, SqT.of ht, rfl, _, _, rfl, _, _, rfl, rfl, ?_⟩
    obtain ⟨dx, kvs, e1, e2, e3⟩ := id hsp
    refine ⟨_, rfl, sa, dx, _, rfl, e1, kF_no k (by decide +kernel), _, rfl, pl, _, rfl, SqL.of hpl, fun H3 s3' => ?_⟩
    refine ⟨_, rfl, crcN (clr bs us), crcN B, rfl, ?_⟩
    rw [hS.num]
    refine ⟨Nat.zero_le _, fun p3 n3 => ?_⟩
    have s3 := (s2.trans s3').trans (Same.new (o := .lst []) n3)
    have hx : X (cP 16) (ones B us) < 65536 := by rw [← hS.num]; exact xor_lt16 (crcN_lt _) (crcN_lt _)
    refine ⟨sa, k, p3, kept, _, [], rfl, (hsp.same s3').same (Same.new n3), small_of KI hS.u.len, hx, upd_same, by decide, fun ds H4 t4 pl4 d1 d2 s4' ht4 hpl4 => ?_⟩
    obtain ⟨z0, z1, z2⟩ := solve KI d1 d2 hS.ind (ones_nodup hS.u) (fun p hp => (List.mem_filter.mp hp).1) hx
    generalize (red kept ds (X (cP 16) (ones B us)) []).2 = S' at ht4 hpl4 z1 z2
    have s4 := s3.trans s4'
    have hpl0 : H4 pl = some (.lst (nVs (clr bs us))) := s4' _ _ (Same.new n3 _ _ (s3' _ _ hpl))
    refine ⟨t4, _, rfl, SqT.of ht4, rfl, _, _, rfl, _, _, rfl, rfl, ?_⟩
    refine ⟨_, rfl, pl4, rfl, ⟨_, SqL.of hpl4⟩, for_list (K := K) (a := pl4) (xs := nVs S') (fun i σ H' => ∃ (pl' : Addr) (x5 x7 : Option V), σ = [some (.ref a), some (.ref u), some (nV (crcN B)), some (.ref pl'), some (.ref sa), x5, some (.ref pl4), x7] ∧ Same H4 H' ∧ H' pl' = some (.lst (nVs (setAll (clr bs us) (S'.take i)))))
      ⟨pl, _, none, rfl, Same.refl _, hpl0⟩ (fun i σ H' _ ⟨_, _, _, _, sm, _⟩ => sm.seq (SqL.of hpl4)) ?_ ?_⟩
    · rintro i y σ H5 hi ⟨pl', x5, x7, rfl, s5, hp5⟩
      obtain ⟨p, ep, rfl⟩ := nVs_at hi
      have pu : p ∈ us := (List.mem_filter.mp ((z2 p).mp (List.mem_of_getElem? ep))).1
      rw [take_snoc ep, setAll_snoc]
      refine ⟨_, rfl, _, rfl, pl', _, p, 1, rfl, SqL.of hp5, setAll_byts _ (clr_byts _ hS.byt), by rw [setAll_len, clr_len, h16]; exact hS.u.lt p pu, by decide, fun H6 p6 s6 n6 hp6 => ?_⟩
      exact ⟨p6, _, _, rfl, s5.trans s6, hp6⟩
    · rintro σ H5 ⟨pl', x5, x7, rfl, s5, hp5⟩
      rw [nVs_len, List.take_length, hS.same, back hS.blk.2 (fun p hp => by rw [hS.blk.1]; exact hS.u.lt p hp) z2] at hp5
      exact ⟨_, rfl, q H5 pl' (s4.trans s5) hp5⟩
end
end Dw
namespace Dw
open PySem PySem.Spec PyProof.Rows L2
/-- the pool of draws at q, its cells at lr -/
def PoolAt (H : Hp) (q lr : Addr) : Prop := ∃ (ns : List Int) (idx acc cnt salt : Int), H q = some (.lst [.ref lr, .int idx, .int acc, .int cnt, .int salt]) ∧ H lr = some (.lst (ns.map V.int)) ∧ 0 ≤ idx
/-- all but q stays -/
def But (q : Addr) (H H' : Hp) : Prop := ∀ b o, H b = some o → b ≠ q → H' b = some o
theorem But.refl {q : Addr} {H : Hp} : But q H H := fun _ _ e _ => e
theorem But.trans {q : Addr} {A B C : Hp} (h : But q A B) (k : But q B C) : But q A C := fun b o e n => k b o (h b o e n) n
theorem But.of {q : Addr} {A B : Hp} (h : Same A B) : But q A B := fun b o e _ => h b o e
theorem But.upd {q : Addr} {H : Hp} {o : HO} : But q H (upd H q o) := fun b x e n => by rw [upd_ne n]; exact e
theorem Pool.same {H H' : Hp} {q lr : Addr} (s : Same H H') (h : PoolAt H q lr) : PoolAt H' q lr :=
  let ⟨ns, i, a, c, t, h1, h2, h3⟩ := h; ⟨ns, i, a, c, t, s _ _ h1, s _ _ h2, h3⟩
theorem Pool.new {H : Hp} {q lr D : Addr} {o : HO} (h : PoolAt H q lr) (n1 : D ≠ q) (n2 : D ≠ lr) : PoolAt (upd H D o) q lr :=
  let ⟨ns, i, a, c, t, h1, h2, h3⟩ := h; ⟨ns, i, a, c, t, by rw [upd_ne n1.symm]; exact h1, by rw [upd_ne n2.symm]; exact h2, h3⟩
theorem Pool.ne {H : Hp} {q lr D : Addr} (h : PoolAt H q lr) (hD : H D = none) : D ≠ q ∧ D ≠ lr :=
  let ⟨_, _, _, _, _, h1, h2, _⟩ := h; ⟨(ne_of_none h1 hD).symm, (ne_of_none h2 hD).symm⟩
theorem pool_ne {H : Hp} {q lr : Addr} {xs : List V} {ns : List Int} (h1 : H q = some (.lst xs)) (h2 : H lr = some (.lst (ns.map V.int))) (h : xs[0]? = some (.ref lr)) : lr ≠ q := fun e => by
  rw [e, h1] at h2
  have z := congrArg (fun o : Option HO => match o with | some (.lst l) => l[0]? | _ => none) h2
  have z' : xs[0]? = (ns.map V.int)[0]? := z
  rw [h, List.getElem?_map] at z'
  cases k : ns[0]? with
  | none => rw [k] at z'; cases z'
  | some n => rw [k] at z'; cases z'
section
variable {P : Program} {w : World} {K : PySem.W.Frag} {mg : Str → Option Value} {base : Heap} {f C : Addr} {fd : FuncData}
/-! ### _law_pool -/
def spPool (K : PySem.W.Frag) : Sp := fun vs H Q _ => ∃ (a : Addr) (ns : List Int), vs = [.ref a] ∧ SqL K H a (ns.map V.int) ∧ ∀ H' q lr, Same H H' → H q = none → PoolAt H' q lr → Q (.ref q) H'
theorem sc_pool : FnScope ["_law_script", "_law_salt", "_law_cell"] ["_law_script"] (C8.fnScope s_pool) := C8.fnScope_by (by decide +kernel)
theorem ints_at {l : List Int} {i : Nat} {x : V} (h : (l.map V.int)[i]? = some x) : ∃ n, x = .int n := by
  rw [List.getElem?_map] at h
  cases e : l[i]? with
  | none => rw [e] at h; cases h
  | some n => rw [e] at h; exact ⟨n, (Option.some.inj h).symm⟩
theorem cut_any {xs : List V} {i : Nat} : cutV xs none (some (i : Int)) = xs.take i := by
  by_cases h : i ≤ xs.length
  · exact cut_take h
  · have e : xs.take i = xs := List.take_of_length_le (by omega)
    unfold cutV
    rw [HT.sIx_nat, HT.sIx_none, List.drop_zero, Nat.sub_zero, Nat.min_eq_right (by omega), e, List.take_length]
theorem cut_63 {xs : List V} : cutV xs none (some (63 : Int)) = xs.take 63 := cut_any (i := 63)
theorem c_pool (F : C8.Def K mg "_law_pool" s_pool f fd) (b : Binds K fd ["_law_script"] []) (T : Tx K mg) : C8.Cal P w K mg base 1 "_law_pool" (spPool K) [] := by
  refine C8.cal0 F b .nil sc_pool (fun vs H Q E h => ?_) (fun cdv A outer s H vs Q E hr h => ?_)
  · obtain ⟨a, ns, rfl, _⟩ := h
    rfl
  · obtain ⟨a, ns, rfl, hS, q⟩ := h
    refine ⟨_, pss_cons (ps_set (i := 1) sc_pool.nd rfl (Or.inl rfl) pe_int)
      (pss_cons (ps_for PassesOwn.never rfl (pi_list (pe_slice sl_list (pv 0) po_none (po_some pe_int))) (pg_name (i := 2) sc_pool.nd rfl (Or.inl rfl))
        (pss_one (ps_set (i := 1) sc_pool.nd rfl (Or.inl rfl) (pe_op op_mod (pe_callTy call_int1 (by rfl) T.int (by decide +kernel) (pa_cons (pe_op op_add (pe_op op_mul (pv 1) pe_int) (pv 2)) pa_nil)) pe_int))))
      (pss_one (ps_ret (pe_lst (pa_cons (pe_callTy call_list_of (by rfl) T.list (by decide +kernel) (pa_cons (pv 0) pa_nil)) (pa_cons pe_int (pa_cons pe_int (pa_cons pe_int (pa_cons (pv 1) pa_nil))))))))), ?_⟩
    refine ⟨_, rfl, _, rfl, a, _, rfl, hS, fun p np => ?_⟩
    rw [cut_63]
    have s1 : Same H (upd H p (.lst ((ns.map V.int).take 63))) := Same.new np
    have hp : (upd H p (.lst ((ns.map V.int).take 63))) p = some (.lst ((ns.map V.int).take 63)) := upd_same
    generalize upd H p (.lst ((ns.map V.int).take 63)) = H1 at s1 hp
    refine ⟨p, rfl, ⟨_, SqL.of hp⟩, for_list (K := K) (a := p) (xs := (ns.map V.int).take 63) (fun i σ H' => ∃ (t : Int) (x2 : Option V), σ = [some (.ref a), some (.int t), x2] ∧ H' = H1)
      ⟨7, none, rfl, rfl⟩ (fun i σ H' _ ⟨_, _, _, e⟩ => by rw [e]; exact SqL.of hp) ?_ ?_⟩
    · rintro i y σ H2 hi ⟨t, x2, rfl, rfl⟩
      rw [← List.map_take] at hi
      obtain ⟨n, rfl⟩ := ints_at hi
      exact ⟨_, rfl, _, _, rfl, rfl, .inr ⟨by decide, by decide⟩, _, rfl, _, _, rfl, rfl, .inl ⟨_, rfl, _, _, rfl, rfl, (show (0 : Int) < 1000003 by decide), _, _, rfl, rfl⟩⟩
    · rintro σ H2 ⟨t, x2, rfl, rfl⟩
      refine ⟨_, rfl, a, _, rfl, .inl (s1.seq hS), fun l hl => ?_⟩
      refine ⟨_, rfl, by show 5 ≤ sizeLine; decide, fun q' nq => ?_⟩
      have s2 : Same H2 (upd H2 l (.lst (ns.map V.int))) := Same.new hl
      have hl2 : (upd H2 l (.lst (ns.map V.int))) l = some (.lst (ns.map V.int)) := upd_same
      generalize upd H2 l (.lst (ns.map V.int)) = H3 at s2 hl2 nq
      exact q _ q' l ((s1.trans s2).trans (Same.new nq)) ((s1.trans s2).free nq) ⟨ns, 0, 0, 0, t, upd_same, Same.new nq _ _ hl2, by decide⟩
/-! ### _law_spread -/
def spSpread : Sp := fun vs H Q _ => ∃ i : Int, vs = [.int i] ∧ ∀ j, Q (.int j) H
theorem sc_spread : FnScope ["_law_cell", "_law_mixed", "_law_wide", "_law_k"] ["_law_cell"] (C8.fnScope s_spread) := C8.fnScope_by (by decide +kernel)
theorem c_spread (F : C8.Def K mg "_law_spread" s_spread f fd) (b : Binds K fd ["_law_cell"] []) (T : Tx K mg) : C8.Cal P w K mg base 1 "_law_spread" spSpread [] := by
  refine C8.cal0 F b .nil sc_spread (fun vs H Q E h => ?_) (fun cdv A outer s H vs Q E hr h => ?_)
  · obtain ⟨i, rfl, _⟩ := h
    rfl
  · obtain ⟨i, rfl, q⟩ := h
    refine ⟨_, pss_cons (ps_set (i := 1) sc_spread.nd rfl (Or.inl rfl) (pe_op op_mod (pe_callTy call_int1 (by rfl) T.int (by decide +kernel) (pa_cons (pv 0) pa_nil)) pe_int))
      (pss_cons (ps_set (i := 2) sc_spread.nd rfl (Or.inl rfl) pe_int)
      (pss_cons (ps_for PassesOwn.never rfl (pi_range1 (by rfl) T.range (pa_cons pe_int pa_nil)) (pg_name (i := 3) sc_spread.nd rfl (Or.inl rfl))
        (pss_cons (ps_set (i := 1) sc_spread.nd rfl (Or.inl rfl) (pe_op op_mod (pe_callTy call_int1 (by rfl) T.int (by decide +kernel) (pa_cons (pe_op op_add (pe_op op_add (pe_op op_mul (pv 1) pe_int) pe_int) (pv 3)) pa_nil)) pe_int))
        (pss_one (ps_set (i := 2) sc_spread.nd rfl (Or.inl rfl) (pe_op op_add (pe_op op_mul (pv 2) pe_int) (pv 1))))))
      (pss_one (ps_ret (pv 2))))), ?_⟩
    refine ⟨_, rfl, .inl ⟨_, rfl, _, _, rfl, rfl, (show (0 : Int) < 2147483647 by decide), ?_⟩⟩
    refine ⟨_, rfl, by decide, by decide, for_range (lo := 0) (n := 4) (fun _ σ H' => ∃ (m v : Int) (x3 : Option V), σ = [some (.int i), some (.int m), some (.int v), x3] ∧ H' = H) ⟨_, _, none, rfl, rfl⟩ ?_ ?_⟩
    · rintro k σ H2 hk ⟨m, v, x3, rfl, rfl⟩
      refine ⟨_, rfl, _, _, rfl, rfl, .inr ⟨by decide, by decide⟩, _, _, rfl, rfl, _, rfl, _, _, rfl, rfl, .inl ⟨_, rfl, _, _, rfl, rfl, (show (0 : Int) < 2147483647 by decide), ?_⟩⟩
      exact ⟨_, rfl, _, _, rfl, rfl, .inr ⟨by decide, by decide⟩, _, rfl, _, _, rfl, rfl, _, _, _, rfl, rfl⟩
    · rintro σ H2 ⟨m, v, x3, rfl, rfl⟩
      exact ⟨_, rfl, q v⟩
/-! ### _law_draw -/
theorem ite_dec {p : Prop} [Decidable p] {A B : Prop} (a : p → A) (b : ¬p → B) : if decide p = true then A else B := by
  by_cases h : p
  · rw [if_pos (decide_eq_true h)]
    exact a h
  · rw [if_neg (fun z => h (of_decide_eq_true z))]
    exact b h
def spDraw : Sp := fun vs H Q _ => ∃ (q lr : Addr) (n : Nat), vs = [.ref q, nV n] ∧ 0 < n ∧ n ≤ 1000 ∧ PoolAt H q lr ∧ ∀ r H', r < n → PoolAt H' q lr → But q H H' → Q (nV r) H'
theorem sc_draw : FnScope ["_law_pool_here", "_law_many", "_law_cell", "_law_mixed", "_law_value"] ["_law_pool_here", "_law_many"] (C8.fnScope s_draw) := C8.fnScope_by (by decide +kernel)
theorem mod_nV {i : Int} {n : Nat} (h : 0 < n) : ∃ r, r < n ∧ V.int (i % (n : Int)) = nV r := by
  have h1 := Int.emod_nonneg i (by omega : (n : Int) ≠ 0)
  have h2 := Int.emod_lt_of_pos i (by omega : (0 : Int) < (n : Int))
  refine ⟨(i % (n : Int)).toNat, by omega, ?_⟩
  unfold nV
  rw [Int.toNat_of_nonneg h1]
theorem hp_gen {A : Hp → Prop} {H2 : Hp} (Pm : Hp → Prop) (h : Pm H2) (k : ∀ H3, Pm H3 → A H3) : A H2 := k _ h
theorem val_gen2 {A : V → Hp → Prop} {v : V} {H : Hp} {n : Nat} (h : ∃ r, r < n ∧ v = nV r) (k : ∀ r, r < n → A (nV r) H) : A v H := by
  obtain ⟨r, h1, rfl⟩ := h
  exact k r h1
theorem c_draw (F : C8.Def K mg "_law_draw" s_draw f fd) (b : Binds K fd ["_law_pool_here", "_law_many"] []) (T : Tx K mg) (cS : C8.Cal P w K mg base 1 "_law_spread" spSpread []) : C8.Cal P w K mg base 2 "_law_draw" spDraw [] := by
  refine C8.cal0 F b .nil sc_draw (fun vs H Q E h => ?_) (fun cdv A outer s H vs Q E hr h => ?_)
  · obtain ⟨q, lr, n, rfl, _⟩ := h
    rfl
  · obtain ⟨q, lr, n, rfl, n0, n1, hP, k⟩ := h
    refine ⟨_, C8.pss_cut (ps_if (PW.pt (pw_and (pt_cmpR op_le (pe_il K (pv 0) pe_int) pe_int (nomark _)) (pw_and1 (pt_cmpR op_lt (pe_il K (pv 0) pe_int) (pe_len K T.len (pe_il K (pv 0) pe_int)) (nomark _)))))
        (pss_cons (ps_set (i := 2) sc_draw.nd rfl (Or.inl rfl) (pe_il K (pe_il K (pv 0) pe_int) (pe_il K (pv 0) pe_int)))
        (pss_cons (ps_asg (pe_op op_add (pe_il K (pv 0) pe_int) pe_int) (pg_sub (pv 0) pe_int set_list))
        (pss_cons (ps_asg (pv 2) (pg_sub (pv 0) pe_int set_list))
        (pss_one (ps_if (pt_cmpR op_lt (pv 2) pe_int (nomark _)) (pss_one (ps_asg (C8.pe_c cS hr (by decide) (by rfl) (pa_cons (pv 2) pa_nil)) (pg_sub (pv 0) pe_int set_list))) pss_nil)))))
        pss_nil)
      (pss_cons (ps_asg (pe_op op_add (pe_il K (pv 0) pe_int) pe_int) (pg_sub (pv 0) pe_int set_list))
      (pss_cons (ps_if (pt_cmpR op_le (pe_il K (pv 0) pe_int) pe_int (nomark _))
        (pss_cons (ps_set (i := 3) sc_draw.nd rfl (Or.inl rfl) (pe_op op_mod (pe_callTy call_int1 (by rfl) T.int (by decide +kernel) (pa_cons (pe_op op_add (pe_op op_add (pe_op op_mul (pe_il K (pv 0) pe_int) pe_int) (pe_op op_mul (pe_il K (pv 0) pe_int) pe_int)) pe_int) pa_nil)) pe_int))
        (pss_cons (ps_set (i := 3) sc_draw.nd rfl (Or.inl rfl) (pe_op op_mod (pe_callTy call_int1 (by rfl) T.int (by decide +kernel) (pa_cons (pe_op op_add (pe_op op_mul (pv 3) pe_int) (pe_il K (pv 0) pe_int)) pa_nil)) pe_int))
        (pss_one (ps_ret (pe_op op_mod (pe_op op_fdiv (pv 3) pe_int) (pv 1))))))
        pss_nil)
      (pss_cons (ps_set (i := 4) sc_draw.nd rfl (Or.inl rfl) (pe_op op_mod (pe_callTy call_int1 (by rfl) T.int (by decide +kernel) (pa_cons (pe_il K (pv 0) pe_int) pa_nil)) (pv 1)))
      (pss_cons (ps_asg (pe_op op_fdiv (pe_il K (pv 0) pe_int) (pv 1)) (pg_sub (pv 0) pe_int set_list))
      (pss_one (ps_ret (pv 4))))))), ?_⟩
    refine ⟨fun σ' H' => ∃ x2, σ' = [some (.ref q), some (nV n), x2, none, none] ∧ But q H H' ∧ PoolAt H' q lr, ?_, ?_⟩
    · obtain ⟨ns, idx, acc, cnt, salt, hq, hl, i0⟩ := id hP
      have hne : lr ≠ q := pool_ne hq hl rfl
      have hQ : SqL K H q [.ref lr, .int idx, .int acc, .int cnt, .int salt] := SqL.of hq
      refine ⟨_, rfl, q, _, 2, _, rfl, rfl, hQ, rfl, _, _, rfl, rfl, _, rfl, ite_dec (fun ha => ?_) (fun ha => iteF ⟨none, rfl, But.refl, hP⟩)⟩
      refine ⟨_, rfl, q, _, 1, _, rfl, rfl, hQ, rfl, _, rfl, q, _, 0, _, rfl, rfl, hQ, rfl, lr, _, rfl, .inl (SqL.of hl), _, _, rfl, rfl, _, rfl, ite_dec (fun hi => ?_) (fun hi => ⟨none, rfl, But.refl, hP⟩)⟩
      have hi' : idx.toNat < (ns.map V.int).length := by omega
      obtain ⟨c, ec⟩ := ints_at (List.getElem?_eq_getElem hi')
      have ec' : (ns.map V.int)[idx.toNat]? = some (.int c) := by rw [List.getElem?_eq_getElem hi', ec]
      refine ⟨_, rfl, q, _, 0, _, rfl, rfl, hQ, rfl, _, rfl, q, _, 1, _, rfl, rfl, hQ, rfl, lr, _, idx, _, rfl, rfl, SqL.of hl, at_of (by omega) ec', ?_⟩
      refine ⟨_, rfl, q, _, 1, _, rfl, rfl, hQ, rfl, _, _, rfl, rfl, _, rfl, q, _, 1, 1, rfl, rfl, hq, rfl, ?_⟩
      refine ⟨_, rfl, _, rfl, q, _, 2, 2, rfl, rfl, upd_same, rfl, ?_⟩
      refine ⟨_, rfl, _, _, rfl, rfl, _, rfl, ite_dec (fun hc => ?_) (fun hc => ?_)⟩
      · refine ⟨_, rfl, c, rfl, fun j => ⟨_, rfl, q, _, 2, 2, rfl, rfl, upd_same, rfl, ?_⟩⟩
        refine ⟨_, rfl, (But.upd.trans But.upd).trans But.upd, ns, idx + 1, j, cnt, salt, upd_same, ?_, by omega⟩
        rw [upd_ne hne, upd_ne hne, upd_ne hne]
        exact hl
      · refine ⟨_, rfl, But.upd.trans But.upd, ns, idx + 1, c, cnt, salt, upd_same, ?_, by omega⟩
        rw [upd_ne hne, upd_ne hne]
        exact hl
    · rintro σ' H1 ⟨x2, rfl, b1, ns, idx, acc, cnt, salt, hq, hl, i0⟩
      have hne : lr ≠ q := pool_ne hq hl rfl
      have hQ : SqL K H1 q [.ref lr, .int idx, .int acc, .int cnt, .int salt] := SqL.of hq
      refine ⟨_, rfl, q, _, 3, _, rfl, rfl, hQ, rfl, _, _, rfl, rfl, _, rfl, q, _, 3, 3, rfl, rfl, hq, rfl, ?_⟩
      refine hp_gen (fun H2 => H2 q = some (.lst [.ref lr, .int idx, .int acc, .int (cnt + 1), .int salt]) ∧ But q H H2 ∧ H2 lr = some (.lst (ns.map V.int))) ⟨upd_same, b1.trans But.upd, by rw [upd_ne hne]; exact hl⟩ ?_
      rintro H2 ⟨hq2, b2, hl2⟩
      have hQ2 : SqL K H2 q [.ref lr, .int idx, .int acc, .int (cnt + 1), .int salt] := SqL.of hq2
      refine ⟨_, rfl, q, _, 2, _, rfl, rfl, hQ2, rfl, _, _, rfl, rfl, _, rfl, ite_dec (fun ha => ?_) (fun ha => ?_)⟩
      · refine ⟨_, rfl, q, _, 4, _, rfl, rfl, hQ2, rfl, _, _, rfl, rfl, .inr ⟨by decide, by decide⟩, _, rfl, q, _, 3, _, rfl, rfl, hQ2, rfl, _, _, rfl, rfl, .inr ⟨by decide, by decide⟩, _, _, rfl, rfl, _, _, rfl, rfl, .inl ⟨_, rfl, _, _, rfl, rfl, (show (0 : Int) < 2147483647 by decide), ?_⟩⟩
        refine ⟨_, rfl, _, _, rfl, rfl, .inr ⟨by decide, by decide⟩, _, rfl, q, _, 3, _, rfl, rfl, hQ2, rfl, _, _, rfl, rfl, .inl ⟨_, rfl, _, _, rfl, rfl, (show (0 : Int) < 2147483629 by decide), ?_⟩⟩
        refine ⟨_, rfl, _, _, rfl, rfl, ⟨by decide, by decide⟩, _, rfl, _, _, rfl, rfl, (by show (0 : Int) < (n : Int); omega), ?_⟩
        refine val_gen2 (A := Q) (v := V.int (_ % (n : Int))) (mod_nV n0) fun r hr' => ?_
        exact k r H2 hr' ⟨ns, idx, acc, cnt + 1, salt, hq2, hl2, i0⟩ b2
      · refine ⟨_, rfl, q, _, 2, _, rfl, rfl, hQ2, rfl, .inl ⟨_, rfl, _, rfl, _, _, rfl, rfl, (by show (0 : Int) < (n : Int); omega), ?_⟩⟩
        obtain ⟨r, hr', er⟩ := mod_nV (i := acc) n0
        refine ⟨_, rfl, q, _, 2, _, rfl, rfl, hQ2, rfl, _, rfl, _, _, rfl, rfl, ⟨by show (0 : Int) < (n : Int); omega, by show (n : Int) < 1073741824; omega⟩, _, rfl, q, _, 2, 2, rfl, rfl, hq2, rfl, ?_⟩
        refine ⟨_, rfl, ?_⟩
        show Q (V.int (acc % (n : Int))) _
        rw [er]
        exact k r _ hr' ⟨ns, idx, acc / (n : Int), cnt + 1, salt, upd_same, by rw [upd_ne hne]; exact hl2, i0⟩ (b2.trans But.upd)
end
end Dw
namespace Dw
open PySem PySem.Spec PyProof.Rows L2
section
variable {P : Program} {w : World} {K : PySem.W.Frag} {mg : Str → Option Value} {base : Heap} {f C : Addr} {fd : FuncData}
theorem ite_b {c : Bool} {A B : Prop} (a : c = true → A) (b : c = false → B) : if c = true then A else B := by
  cases c with
  | true => rw [if_pos rfl]; exact a rfl
  | false => rw [if_neg Bool.false_ne_true]; exact b rfl
/-! ### _law_qblocks -/
def BlksAt (q : Addr) (H : Hp) (as : List V) (tr : List (List Nat)) : Prop := Paired (fun v l => ∃ b, v = V.ref b ∧ b ≠ q ∧ H b = some (.lst (nVs l))) as tr
def spQb : Sp := fun vs H Q _ => ∃ (q lr : Addr) (n : Nat), vs = [.ref q, nV n, nV 16] ∧ n ≤ 100 ∧ PoolAt H q lr ∧
  ∀ H' p as tr, But q H H' → PoolAt H' q lr → H p = none → H' p = some (.lst as) → tr.length = n → (∀ l ∈ tr, Blk l) → BlksAt q H' as tr → Q (.ref p) H'
theorem sc_qb : FnScope ["_law_pool_here", "_law_many", "_law_size", "_law_rows", "_law_j", "_law_k"] ["_law_pool_here", "_law_many", "_law_size"] (C8.fnScope s_qblocks) := C8.fnScope_by (by decide +kernel)
def qbSc : Scope := { kind := .function, names := [(".0", .local), ("_law_j", .local), ("_law_draw", .globalImplicit), ("range", .globalImplicit), ("_law_pool_here", .cell), ("_law_size", .cell)], isGenerator := false, isCoroutine := false }
theorem rep16 {r : Nat} : (List.replicate (16 : Int).toNat [nV r]).flatten = nVs (List.replicate 16 r) := by
  show (List.replicate 16 [nV r]).flatten = _
  unfold nVs
  rw [List.map_replicate]
  rfl
theorem c_qb (F : C8.Def K mg "_law_qblocks" s_qblocks f fd) (b : Binds K fd ["_law_pool_here", "_law_many", "_law_size"] []) (T : Tx K mg) (cD : C8.Cal P w K mg base 2 "_law_draw" spDraw []) : C8.Cal P w K mg base 3 "_law_qblocks" spQb [] := by
  refine C8.cal0 F b .nil sc_qb (fun vs H Q E h => ?_) (fun cdv A outer s H vs Q E hr h => ?_)
  · obtain ⟨q, lr, n, rfl, _⟩ := h
    rfl
  · obtain ⟨q, lr, n, rfl, n1, hP, k⟩ := h
    refine ⟨_, pss_cons (ps_setLc (i := 3) (own := [("_law_j", 4)]) (g := gName 4) (tt := tYes) rfl sc_qb.nd rfl rfl (sw_true rfl rfl rfl (by decide +kernel)) (pi_range1 (by rfl) T.range (pa_cons (pv 1) pa_nil))
        (blkOk_by (N := ["_law_pool_here", "_law_many", "_law_size", "_law_rows", "_law_j", "_law_k"]) (sc := C8.fnScope s_qblocks) (by decide +kernel)) (fun _ _ _ _ _ => pg_name (i := 4) sc_qb.nd rfl (Or.inl rfl)) (fun _ _ _ _ _ => pts_nil)
        (fun _ _ _ _ _ => pe_ifExp (pt_cmpR op_eq (C8.pe_c cD hr (by decide) (by rfl) (pa_cons (pv 0) (pa_cons pe_int pa_nil))) pe_int (nomark _))
          (pe_op op_rep (pe_lst (pa_cons (C8.pe_c cD hr (by decide) (by rfl) (pa_cons (pv 0) (pa_cons pe_int pa_nil))) pa_nil)) (pv 2))
          (pe_lc (own := [("_law_k", 5)]) (g := gName 5) (tt := tYes) rfl sc_qb.nd (pi_range1 (by rfl) T.range (pa_cons (pv 2) pa_nil))
            (blkOk_by (N := ["_law_pool_here", "_law_many", "_law_size", "_law_rows", "_law_j", "_law_k"]) (sc := qbSc) (by decide +kernel)) (fun _ _ _ _ _ => pg_name (i := 5) sc_qb.nd rfl (Or.inl rfl)) (fun _ _ _ _ _ => pts_nil)
            (fun _ _ _ _ _ => C8.pe_c cD hr (by decide) (by rfl) (pa_cons (pv 0) (pa_cons pe_int pa_nil))))))
      (pss_one (ps_ret (pv 3))), ?_⟩
    refine ⟨_, rfl, _, rfl, by show -(2 ^ 62) ≤ (n : Int); omega, by show (n : Int) < 2 ^ 62; omega, fun D hD => ?_⟩
    obtain ⟨Dq, Dl⟩ := Pool.ne hP hD
    refine lc_range (lo := 0) (n := n) (fun i H' => i ≤ n ∧ But q H H' ∧ PoolAt H' q lr ∧ ∃ as tr, H' D = some (.lst as) ∧ tr.length = i ∧ (∀ l ∈ tr, Blk l) ∧ Paired (fun v l => ∃ b, v = V.ref b ∧ b ≠ q ∧ b ≠ D ∧ H' b = some (.lst (nVs l))) as tr)
      ⟨Nat.zero_le _, But.of (Same.new hD), Pool.new hP Dq Dl, [], [], upd_same, rfl, fun l hl => absurd hl List.not_mem_nil, .nil⟩ ?_ ?_
    · rintro i H1 hi ⟨_, b1, P1, as, tr, h1, tl, tb, pr⟩
      refine ⟨rfl, tt_yes ?_⟩
      have asl : as.length = i := (Paired.length pr).trans tl
      -- what a finished element gives
      have fin : ∀ (H3 : Hp) (p : Addr) (l : List Nat), But q H1 H3 → PoolAt H3 q lr → p ≠ q → p ≠ D → H3 p = some (.lst (nVs l)) → Blk l →
          ∃ acc, H3 D = some (.lst acc) ∧ acc.length < sizeLine ∧ (i + 1 ≤ n ∧ But q H (upd H3 D (.lst (acc ++ [.ref p]))) ∧ PoolAt (upd H3 D (.lst (acc ++ [.ref p]))) q lr ∧ ∃ as tr, (upd H3 D (.lst (acc ++ [.ref p]))) D = some (.lst as) ∧ tr.length = i + 1 ∧ (∀ l ∈ tr, Blk l) ∧ Paired (fun v l => ∃ b, v = V.ref b ∧ b ≠ q ∧ b ≠ D ∧ (upd H3 D (.lst (acc ++ [.ref p]))) b = some (.lst (nVs l))) as tr) := by
        intro H3 p l b3 P3 pq pD hp bl
        refine ⟨as, b3 _ _ h1 Dq, small (by omega), hi, ?_, Pool.new P3 Dq Dl, as ++ [.ref p], tr ++ [l], upd_same, by rw [List.length_append, tl]; rfl, ?_, ?_⟩
        · intro b o e nb
          rw [upd_ne (ne_of_none e hD)]
          exact b3 _ _ (b1 _ _ e nb) nb
        · intro l' hl'
          rcases List.mem_append.mp hl' with m | m
          · exact tb l' m
          · rw [List.mem_singleton.mp m]; exact bl
        · refine pr_app (Paired.mono (fun v l z => ?_) pr) (.cons ⟨p, rfl, pq, pD, by rw [upd_ne pD]; exact hp⟩ .nil)
          obtain ⟨c, e1, e2, e3, e4⟩ := z
          exact ⟨c, e1, e2, e3, by rw [upd_ne e3]; exact b3 _ _ e4 e2⟩
      refine ⟨_, rfl, q, lr, 2, rfl, by decide, by decide, P1, fun r H2 hr2 P2 b2 => ?_⟩
      refine ⟨rfl, _, rfl, ite_b (fun _ => ?_) (fun _ => ?_)⟩
      · refine ⟨_, rfl, q, lr, 256, rfl, by decide, by decide, P2, fun r3 H3 hr3 P3 b3 => ?_⟩
        refine ⟨by show 1 ≤ sizeLine; decide, fun t nt => ?_⟩
        have P4 := Pool.new P3 (o := .lst [nV r3]) (Pool.ne P3 nt).1 (Pool.ne P3 nt).2
        have b4 : But q H1 (upd H3 t (.lst [nV r3])) := (b2.trans b3).trans (But.of (Same.new nt))
        have ht : (upd H3 t (.lst [nV r3])) t = some (.lst [nV r3]) := upd_same
        refine ⟨_, rfl, t, 16, _, rfl, rfl, ht, by decide, by decide, by show 1 * 16 ≤ sizeLine; decide, fun p np => ?_⟩
        rw [rep16]
        have hD4 := b4 _ _ h1 Dq
        exact fin _ p _ (b4.trans (But.of (Same.new np))) (Pool.new P4 (Pool.ne P4 np).1 (Pool.ne P4 np).2) (Pool.ne P4 np).1 (ne_of_none hD4 np).symm upd_same ⟨List.length_replicate, fun x hx => by rw [(List.mem_replicate.mp hx).2]; exact hr3⟩
      · refine ⟨_, rfl, 16, rfl, by decide, by decide, fun D2 hD2 => ?_⟩
        obtain ⟨D2q, D2l⟩ := Pool.ne P2 hD2
        have D2D : D2 ≠ D := (ne_of_none (b2 _ _ h1 Dq) hD2).symm
        refine lc_range (lo := 0) (n := 16) (fun j H' => But q H2 H' ∧ PoolAt H' q lr ∧ j ≤ 16 ∧ ∃ l, H' D2 = some (.lst (nVs l)) ∧ l.length = j ∧ ∀ x ∈ l, x < 256) ⟨But.of (Same.new hD2), Pool.new P2 D2q D2l, Nat.zero_le _, [], upd_same, rfl, fun x hx => absurd hx List.not_mem_nil⟩ ?_ ?_
        · rintro j H3 hj ⟨b3, P3, _, l, hl, ll, lb⟩
          refine ⟨rfl, tt_yes ?_⟩
          refine ⟨_, rfl, q, lr, 256, rfl, by decide, by decide, P3, fun r H4 hr4 P4 b4 => ?_⟩
          refine ⟨nVs l, b4 _ _ hl D2q, small (by rw [nVs_len]; omega), ?_, Pool.new P4 D2q D2l, hj, l ++ [r], by rw [upd_same, nVs_app]; rfl, by rw [List.length_append, ll]; rfl, ?_⟩
          · intro b o e nb
            rw [upd_ne (ne_of_none e hD2)]
            exact b4 _ _ (b3 _ _ e nb) nb
          · intro x hx
            rcases List.mem_append.mp hx with m | m
            · exact lb x m
            · rw [List.mem_singleton.mp m]; exact hr4
        · rintro H3 ⟨b3, P3, _, l, hl, ll, lb⟩
          exact fin H3 D2 l (b2.trans b3) P3 D2q D2D hl ⟨ll, lb⟩
    · rintro H1 ⟨_, b1, P1, as, tr, h1, tl, tb, pr⟩
      exact ⟨_, rfl, k H1 D as tr b1 P1 hD h1 tl tb (Paired.mono (fun v l z => let ⟨c, e1, e2, _, e4⟩ := z; ⟨c, e1, e2, e4⟩) pr)⟩
/-! ### _law_set_bit -/
def spSb (K : PySem.W.Frag) : Sp := fun vs H Q _ => ∃ (a : Addr) (bs : List Nat) (p : Nat), vs = [.ref a, nV p, nV 0] ∧ SqL K H a (nVs bs) ∧ Byts bs ∧ p < 8 * bs.length ∧
  ∀ H' q, Same H H' → H q = none → H' q = some (.lst (nVs (withBit bs p 0))) → Q (.ref q) H'
theorem sc_sb : FnScope ["_law_values", "_law_place", "_law_bit", "_law_found", "_law_weight"] ["_law_values", "_law_place", "_law_bit"] (C8.fnScope s_set_bit) := C8.fnScope_by (by decide +kernel)
theorem c_sb (F : C8.Def K mg "_law_set_bit" s_set_bit f fd) (b : Binds K fd ["_law_values", "_law_place", "_law_bit"] []) (T : Tx K mg) : C8.Cal P w K mg base 1 "_law_set_bit" (spSb K) [] := by
  refine C8.cal0 F b .nil sc_sb (fun vs H Q E h => ?_) (fun cdv A outer s H vs Q E hr h => ?_)
  · obtain ⟨a, bs, p, rfl, _⟩ := h
    rfl
  · obtain ⟨a, bs, p, rfl, hS, hB, hp, q⟩ := h
    refine ⟨_, pss_cons (ps_set (i := 3) sc_sb.nd rfl (Or.inl rfl) (pe_callTy call_list_of (by rfl) T.list (by decide +kernel) (pa_cons (pv 0) pa_nil)))
      (pss_cons (ps_set (i := 4) sc_sb.nd rfl (Or.inl rfl) (pe_op op_shr pe_int (pe_op op_and (pv 1) pe_int)))
      (pss_cons (ps_asg (pe_op op_sub (pe_op op_or (pe_il K (pv 3) (pe_op op_shr (pv 1) pe_int)) (pv 4)) (pe_op op_mul (pv 4) (pe_op op_sub pe_int (pv 2)))) (pg_sub (pv 3) (pe_op op_shr (pv 1) pe_int) set_list))
      (pss_one (ps_ret (pv 3))))), ?_⟩
    refine ⟨_, rfl, a, _, rfl, .inl hS, fun l hl => ?_⟩
    have hl1 : (upd H l (.lst (nVs bs))) l = some (.lst (nVs bs)) := upd_same
    have s1 : Same H (upd H l (.lst (nVs bs))) := Same.new hl
    have hj : p % 8 < 8 := Nat.mod_lt _ (by decide)
    have hi : p / 8 < bs.length := by omega
    have ex : bs[p / 8]? = some (bs.getD (p / 8) 0) := by
      rw [List.getD_eq_getElem?_getD, List.getElem?_eq_getElem hi]
      rfl
    have hx := getD_lt hB (p / 8)
    have ea : Builtin.bitAnd (p : Int) 7 = ((p % 8 : Nat) : Int) := by
      have z := Bits.bitAnd_mask (x := (p : Int)) 3 (by omega)
      show Builtin.bitAnd (p : Int) (2 ^ 3 - 1) = _
      rw [z]
      omega
    have es : (p : Int) / 2 ^ (3 : Int).toNat = ((p / 8 : Nat) : Int) := by
      show (p : Int) / 2 ^ 3 = _
      omega
    refine ⟨_, rfl, _, _, rfl, rfl, ?_⟩
    refine ⟨128, ((p % 8 : Nat) : Int), rfl, congrArg V.int ea, by show (0 : Int) ≤ ((p % 8 : Nat) : Int); omega, ?_⟩
    have ew : (128 : Int) / (2 : Int) ^ (((p % 8 : Nat) : Int)).toNat = ((128 >>> (p % 8) : Nat) : Int) := by
      rw [Int.toNat_natCast, Nat.shiftRight_eq_div_pow]
      push_cast
      rfl
    generalize hx0 : bs.getD (p / 8) 0 = x at ex hx
    refine ⟨_, rfl, _, rfl, _, _, rfl, rfl, (show (0 : Int) ≤ 3 by decide), l, _, _, _, rfl, rfl, SqL.of hl1, at_of es (at_nVs ex), _, rfl, _, _, rfl, rfl, ?_⟩
    refine ⟨_, rfl, _, rfl, _, _, rfl, rfl, _, _, rfl, rfl, .inr ⟨by decide, by decide⟩, _, _, rfl, rfl, ?_⟩
    refine ⟨_, rfl, _, rfl, _, _, rfl, rfl, (show (0 : Int) ≤ 3 by decide), l, _, _, p / 8, rfl, rfl, hl1, ?_, ?_⟩
    · unfold ixN
      rw [es, if_pos (by omega), if_pos (by rw [nVs_len]; omega)]
      congr 1
    · refine ⟨_, rfl, q _ l (fun b' o e => by rw [upd_ne (ne_of_none e hl)]; exact s1 _ _ e) hl ?_⟩
      rw [upd_same]
      congr 2
      unfold withBit nVs
      rw [List.map_set, hx0]
      congr 1
      show V.int (Builtin.bitOr (x : Int) ((128 : Int) / (2 : Int) ^ (((p % 8 : Nat) : Int)).toNat) - (128 : Int) / (2 : Int) ^ (((p % 8 : Nat) : Int)).toNat * (1 - 0)) = V.int ((newB x (p % 8) 0 : Nat) : Int)
      have ew' : (128 : Int) / (2 : Int) ^ (((p % 8 : Nat) : Int)).toNat = ((128 >>> (p % 8) : Nat) : Int) := ew
      rw [ew', Bits.bitOr_pp (Int.natCast_nonneg _) (Int.natCast_nonneg _), Int.toNat_natCast, Int.toNat_natCast, ← setB_eq x hx _ hj]
      have le : 128 >>> (p % 8) ≤ (x ||| 128 >>> (p % 8)) := Nat.right_le_or
      congr 1
      generalize 128 >>> (p % 8) = y at le ⊢
      generalize x ||| y = z at le ⊢
      omega
end
end Dw
namespace Dw
/-! ### parity, plain -/
theorem vxor_rc : ∀ a b c : List Nat, vxor (vxor a b) c = vxor (vxor a c) b
  | [], _, _ => by simp [vxor]
  | _ :: _, [], [] => by simp [vxor]
  | _ :: _, [], _ :: _ => by simp [vxor]
  | _ :: _, _ :: _, [] => by simp [vxor]
  | x :: a, y :: b, z :: c => by
    have ih := vxor_rc a b c
    unfold vxor at ih ⊢
    simp only [List.zipWith_cons_cons]
    rw [ih, xor_right]
theorem vxor_self : ∀ {a : List Nat} {n : Nat}, a.length = n → vxor a a = List.replicate n 0
  | [], n, h => by
    subst h
    rfl
  | x :: a, n, h => by
    subst h
    have ih := vxor_self (a := a) rfl
    unfold vxor at ih ⊢
    simp only [List.zipWith_cons_cons, Nat.xor_self, List.length_cons]
    rw [ih]
    rfl
theorem vxor_cancel : ∀ {a b : List Nat}, a.length = b.length → vxor a b = List.replicate a.length 0 → a = b
  | [], [], _, _ => rfl
  | x :: a, y :: b, h, e => by
    unfold vxor at e
    rw [List.zipWith_cons_cons, List.length_cons, List.replicate_succ] at e
    injection e with e1 e2
    rw [vxor_cancel (a := a) (b := b) (by simpa using h) e2]
    have : x = y := by
      have z : x ^^^ (x ^^^ y) = x ^^^ 0 := by rw [e1]
      rw [xor_self_l, Nat.xor_zero] at z
      exact z.symm
    rw [this]
  | [], _ :: _, h, _ => by simp at h
  | _ :: _, [], h, _ => by simp at h
theorem parN_perm {l m : List (List Nat)} (h : l.Perm m) : parN l = parN m := by
  unfold parN
  exact h.foldl_eq' (fun a _ b _ z => vxor_rc z a b) zeros
theorem parN_snoc (l : List (List Nat)) (x : List Nat) : parN (l ++ [x]) = vxor (parN l) x := by
  unfold parN
  rw [List.foldl_append]
  rfl
/-- a group holds: the parity of all but its last is its last -/
def Par (tr : Tr) (g : List Nat) : Prop := ∀ g' z, g = g' ++ [z] → parN (blocksOf tr g') = tg tr z
theorem glaw_of {tr : Tr} {g : List Nat} (hB : AllBlk tr) (hlt : ∀ i ∈ g, i < tr.length) (hn : g.Nodup) (h : Par tr g) : GLaw tr g := by
  refine ⟨fun m hm => ?_⟩
  have hne : 1 ≤ g.length := List.length_pos_of_mem hm
  obtain ⟨z, ez⟩ := snoc_of hne
  have hz := h _ z ez
  have bl : ∀ i ∈ g, (tg tr i).length = 16 := fun i hi => (tg_blk hB (hlt i hi)).1
  have hzg : z ∈ g := by rw [ez]; exact List.mem_append_right _ (List.mem_singleton.mpr rfl)
  have e1 : parN (blocksOf tr g) = zeros := by
    rw [ez]
    unfold blocksOf at hz ⊢
    rw [List.map_append, List.map_singleton, parN_snoc, hz]
    exact vxor_self (bl z hzg)
  have ef : (g.filter fun i => decide (i ≠ m)) = g.erase m := by
    rw [List.Nodup.erase_eq_filter hn]
    refine List.filter_congr fun i _ => ?_
    by_cases e : i = m <;> simp [e]
  have pm : g.Perm (g.erase m ++ [m]) := (List.perm_cons_erase hm).trans (List.perm_append_comm (l₁ := [m]))
  have e2 : parN (blocksOf tr g) = vxor (parN (blocksOf tr (g.erase m))) (tg tr m) := by
    have z := parN_perm (l := blocksOf tr g) (pm.map (tg tr))
    rw [z, List.map_append, List.map_singleton, parN_snoc]
    rfl
  rw [ef]
  have pl : (parN (blocksOf tr (g.erase m))).length = 16 := (parN_blk (blocks_blk hB fun i hi => hlt i (List.mem_of_mem_erase hi))).1
  refine vxor_cancel (by rw [pl, bl m hm]) ?_
  rw [← e2, e1, pl]
  rfl
theorem tg_set {tr : Tr} {z i : Nat} {b : List Nat} (hz : z < tr.length) : tg (tr.set z b) i = if i = z then b else tg tr i := by
  unfold tg
  rw [List.getD_eq_getElem?_getD, List.getD_eq_getElem?_getD, List.getElem?_set]
  by_cases e : z = i
  · subst e
    rw [if_pos rfl, if_pos hz, if_pos rfl]
    rfl
  · rw [if_neg e, if_neg (fun h => e h.symm)]
theorem blocks_set {tr : Tr} {z : Nat} {b : List Nat} {g : List Nat} (hz : z < tr.length) (h : z ∉ g) : blocksOf (tr.set z b) g = blocksOf tr g := by
  unfold blocksOf
  refine List.map_congr_left fun i hi => ?_
  rw [tg_set hz, if_neg (fun (e : i = z) => h (by rw [← e]; exact hi))]
theorem last_of {g' : List Nat} {z : Nat} : (g' ++ [z]).getLastD 0 = z := by simp
theorem setP_par {tr : Tr} {g : List Nat} (hn : g.Nodup) (hlt : ∀ i ∈ g, i < tr.length) : Par (setP tr g) g := by
  intro g' z e
  subst e
  have hz : z < tr.length := hlt z (List.mem_append_right _ (List.mem_singleton.mpr rfl))
  have hzn : z ∉ g' := fun m => (List.nodup_append.mp hn).2.2 z m z (List.mem_singleton.mpr rfl) rfl
  unfold setP
  rw [last_of, List.dropLast_concat, blocks_set hz hzn, tg_set hz, if_pos rfl]
theorem setP_keep {tr : Tr} {g h : List Nat} (hp : Par tr h) (hne : 1 ≤ g.length) (hlt : ∀ i ∈ g, i < tr.length) (hl : g.getLastD 0 ∉ h) : Par (setP tr g) h := by
  intro h' y e
  obtain ⟨z, ez⟩ := snoc_of hne
  have hz : z < tr.length := hlt z (by rw [ez]; exact List.mem_append_right _ (List.mem_singleton.mpr rfl))
  have el : g.getLastD 0 = z := by
    rw [ez]
    exact last_of
  rw [el] at hl
  unfold setP
  rw [el, blocks_set hz (fun m => hl (by rw [e]; exact List.mem_append_left _ m)), tg_set hz, if_neg (fun (m : y = z) => hl (by rw [e, ← m]; exact List.mem_append_right _ (List.mem_singleton.mpr rfl)))]
  exact hp _ _ e
/-! ### the law's plans -/
def grp (c k : Nat) : List Nat := (List.range k).map fun i => i + c
theorem grp_at {c k i x : Nat} (h : (grp c k)[i]? = some x) : i < k ∧ x = i + c := by
  unfold grp at h
  rw [List.getElem?_map] at h
  by_cases e : i < k
  · rw [List.getElem?_range e] at h
    exact ⟨e, (Option.some.inj h).symm⟩
  · rw [List.getElem?_eq_none (by rw [List.length_range]; omega)] at h
    cases h
theorem grp_mem {c k x : Nat} (h : x ∈ grp c k) : c ≤ x ∧ x < c + k := by
  obtain ⟨i, hi, rfl⟩ := List.mem_map.mp h
  have := List.mem_range.mp hi
  omega
theorem grp_len (c k : Nat) : (grp c k).length = k := by unfold grp; rw [List.length_map, List.length_range]
theorem grp_nd (c k : Nat) : (grp c k).Nodup := List.pairwise_map.mpr (List.nodup_range.imp fun h e => h (by omega))
theorem grp_ok {c k n : Nat} (h2 : 2 ≤ k) (hn : c + k ≤ n) (hk : k ≤ 2000) : GOk n (grp c k) := by
  refine ⟨by rw [grp_len]; exact h2, fun i hi => by have := grp_mem hi; omega, fun i x y hx hy => ?_, by rw [grp_len]; exact hk⟩
  have a := (grp_at hx).2
  have b := (grp_at hy).2
  omega
theorem grp_last {c k : Nat} : (grp c (k + 1)).getLastD 0 = k + c := by
  unfold grp
  rw [List.range_succ, List.map_append, List.map_singleton]
  exact last_of
def planL (n : Nat) (two : Bool) : List (List Nat) := if two = true then [grp 0 3, grp 1 (n - 1)] else [grp 0 3]
theorem plan_ok {n : Nat} (h1 : 4 ≤ n) (h2 : n ≤ 7) {two : Bool} {g : List Nat} (hg : g ∈ planL n two) : GOk n g ∧ g.Nodup := by
  have a : GOk n (grp 0 3) ∧ (grp 0 3).Nodup := ⟨grp_ok (by omega) (by omega) (by omega), grp_nd _ _⟩
  have b : GOk n (grp 1 (n - 1)) ∧ (grp 1 (n - 1)).Nodup := ⟨grp_ok (by omega) (by omega) (by omega), grp_nd _ _⟩
  cases two with
  | false =>
    rw [List.mem_singleton.mp hg]
    exact a
  | true =>
    rcases List.mem_cons.mp hg with e | e
    · rw [e]; exact a
    · rw [List.mem_singleton.mp e]; exact b
theorem plan_par {n : Nat} (h1 : 4 ≤ n) (h2 : n ≤ 7) {two : Bool} {tr : Tr} (ht : tr.length = n) : ∀ g ∈ planL n two, Par (wpar tr (planL n two)) g := by
  have a : ∀ i ∈ grp 0 3, i < tr.length := fun i hi => by have := grp_mem hi; omega
  have b : ∀ i ∈ grp 1 (n - 1), i < (setP tr (grp 0 3)).length := fun i hi => by have := grp_mem hi; rw [setP_len]; omega
  intro g hg
  cases two with
  | false =>
    rw [List.mem_singleton.mp hg]
    exact setP_par (grp_nd _ _) a
  | true =>
    show Par (setP (setP tr (grp 0 3)) (grp 1 (n - 1))) g
    rcases List.mem_cons.mp hg with e | e
    · rw [e]
      refine setP_keep (setP_par (grp_nd _ _) a) (by rw [grp_len]; omega) b ?_
      obtain ⟨m, rfl⟩ : ∃ m, n = m + 2 := ⟨n - 2, by omega⟩
      have e3 : m + 2 - 1 = m + 1 := by omega
      rw [e3, grp_last]
      intro z
      have := grp_mem z
      omega
    · rw [List.mem_singleton.mp e]
      exact setP_par (grp_nd _ _) b
end Dw
namespace Dw
open PySem PySem.Spec PyProof.Rows L2
/-! ### what a draw leaves alone -/
section
variable {C : Addr} {H H' : Hp} {q lr : Addr}
theorem lst_inj {a b : List V} (h : some (HO.lst a) = some (HO.lst b)) : a = b := by
  injection h with h
  injection h
theorem ints_notPool (h : PoolAt H q lr) {p : Addr} {l : List Nat} (hp : H p = some (.lst (nVs l))) : p ≠ q := by
  rintro rfl
  obtain ⟨ns, i, a, c, t, h1, _, _⟩ := h
  rw [h1] at hp
  have e := lst_inj hp
  cases l with
  | nil => cases e
  | cons n r =>
    unfold nVs nV at e
    injection e with e1 e2
    cases e1
theorem ints_but (h : PoolAt H q lr) (b : But q H H') {p : Addr} {l : List Nat} (hp : H p = some (.lst (nVs l))) : H' p = some (.lst (nVs l)) := b _ _ hp (ints_notPool h hp)
theorem Disc0.pool (h : PoolAt H q lr) {d : Addr} {rows : List Row} (hd : Disc0 C H d rows) : Disc C (fun b => b ≠ q) H d rows := by
  obtain ⟨dx, l, as, h1, h2, _, h4⟩ := hd.ex
  have h' := h
  obtain ⟨ns, i, a, c, t, hq, _, _⟩ := h'
  refine ⟨⟨dx, l, as, h1, h2, ?_, Paired.mono (fun v r z => ?_) h4⟩, ?_, hd.fine, hd.len, hd.one⟩
  · rintro rfl
    rw [hq] at h2
    have e := lst_inj h2
    subst e
    obtain ⟨r, e1, e2⟩ := pr_L (i := 1) h4 rfl
    cases r with
    | none => cases e2
    | some bs =>
      obtain ⟨b, e3, _⟩ := e2
      cases e3
  · cases r with
    | none => exact z
    | some bs =>
      obtain ⟨b, e, _, hb⟩ := z
      exact ⟨b, e, ints_notPool h hb, hb⟩
  · rintro rfl
    rw [hq] at h1
    cases h1
theorem Disc0.but (h : PoolAt H q lr) (b : But q H H') {d : Addr} {rows : List Row} (hd : Disc0 C H d rows) : Disc0 C H' d rows :=
  (Disc.same (fun a o n e => b a o e n) (Disc0.pool h hd)).all
theorem PlanAt.but (h : PoolAt H q lr) (b : But q H H') {a : Addr} {plan : List (List Nat)} (hp : PlanAt H a plan) : PlanAt H' a plan := by
  obtain ⟨gs, h1, h2⟩ := hp
  obtain ⟨ns, i, x, c, t, hq, _, _⟩ := h
  refine ⟨gs, b _ _ h1 ?_, Paired.mono (fun v g z => ?_) h2⟩
  · rintro rfl
    rw [hq] at h1
    have e := lst_inj h1
    subst e
    obtain ⟨g, e1, t, e2, _⟩ := pr_L (i := 1) h2 rfl
    cases e2
  · obtain ⟨t', e, ht⟩ := z
    refine ⟨t', e, b _ _ ht ?_⟩
    rintro rfl
    rw [hq] at ht
    cases ht
/-! ### the law's heap -/
structure LP (n : Nat) (two : Bool) (tr : Tr) : Prop where
  lo : 4 ≤ n
  hi : n ≤ 7
  len : tr.length = n
  blk : AllBlk tr
  par : ∀ g ∈ planL n two, Par tr g
structure LB (C : Addr) (H : Hp) (q lr pl dt n : Nat) (two : Bool) (tr : Tr) : Prop where
  pool : PoolAt H q lr
  plan : PlanAt H pl (planL n two)
  disc : Disc0 C H dt (tr.map some)
theorem LB.same {pl dt n : Nat} {two : Bool} {tr : Tr} (s : Same H H') (h : LB C H q lr pl dt n two tr) : LB C H' q lr pl dt n two tr :=
  ⟨Pool.same s h.pool, h.plan.same s, Disc0.same s h.disc⟩
theorem LB.but {pl dt n : Nat} {two : Bool} {tr : Tr} (b : But q H H') (hp : PoolAt H' q lr) (h : LB C H q lr pl dt n two tr) : LB C H' q lr pl dt n two tr :=
  ⟨hp, h.plan.but h.pool b, Disc0.but h.pool b h.disc⟩
end
theorem LP.gok {n : Nat} {two : Bool} {tr : Tr} (h : LP n two tr) : ∀ g ∈ planL n two, GOk n g := fun g hg => (plan_ok h.lo h.hi hg).1
theorem LP.glaw {n : Nat} {two : Bool} {tr : Tr} (h : LP n two tr) : ∀ g ∈ planL n two, GLaw tr g := fun g hg =>
  glaw_of h.blk (fun i hi => by rw [h.len]; exact (h.gok g hg).lt i hi) (plan_ok h.lo h.hi hg).2 (h.par g hg)
theorem plan_len (n : Nat) (two : Bool) : (planL n two).length ≤ 2000 := by
  cases two
  · show 1 ≤ 2000; omega
  · show 2 ≤ 2000; omega
theorem plan_ne (n : Nat) (two : Bool) : planL n two ≠ [] := by
  cases two
  · exact List.cons_ne_nil _ _
  · exact List.cons_ne_nil _ _
theorem plan_head (n : Nat) (two : Bool) : (planL n two)[0]? = some (grp 0 3) := by
  cases two <;> rfl
theorem LP.wpar {n : Nat} {two : Bool} {tr : Tr} (h1 : 4 ≤ n) (h2 : n ≤ 7) (h3 : tr.length = n) (h4 : AllBlk (wpar tr (planL n two))) : LP n two (wpar tr (planL n two)) :=
  ⟨h1, h2, by rw [wpar_len, h3], h4, plan_par h1 h2 h3⟩
/-! ### missing rows -/
theorem missAll_asc (rows : List Row) : (missAll rows).Pairwise (· < ·) := List.Pairwise.filter _ List.pairwise_lt_range
theorem still_one {rows : List Row} {i : Nat} (h : (missAll rows).length < rows.length - 1) : ∃ bs, some bs ∈ rows.set i none := by
  apply Classical.byContradiction
  intro hno
  have hm : ∀ j, j < rows.length → j ≠ i → isMiss rows j = true := fun j hj hji => by
    apply Classical.byContradiction
    intro hx
    have e : rows[j]? = some rows[j] := List.getElem?_eq_getElem hj
    unfold isMiss at hx
    rw [e] at hx
    cases er : rows[j] with
    | none =>
      rw [er] at hx
      exact hx (by simp)
    | some bs =>
      refine hno ⟨bs, List.mem_iff_getElem?.mpr ⟨j, ?_⟩⟩
      rw [List.getElem?_set_ne (fun z => hji z.symm), e, er]
  have hs : ((List.range rows.length).erase i).length ≤ (missAll rows).length := by
    refine sub_len (List.nodup_range.erase i) fun j hj => ?_
    have e := (List.Nodup.mem_erase_iff List.nodup_range).mp hj
    have lt := List.mem_range.mp e.2
    exact missAll_mem.mpr ⟨lt, hm j lt e.1⟩
  rw [List.length_erase, List.length_range] at hs
  split at hs <;> omega
theorem agree_hurt {rows : List Row} {tr : Tr} (A : Agree rows tr) {i : Nat} (hi : i < rows.length) : Agree (rows.set i none) tr := by
  refine ⟨by rw [List.length_set]; exact A.len, fun j bs e => ?_⟩
  rw [List.getElem?_set] at e
  by_cases z : i = j
  · rw [if_pos z, if_pos (z ▸ hi)] at e
    cases e
  · rw [if_neg z] at e
    exact A.at_ j bs e
theorem ints_map (l : List Nat) : nVs l = (l.map fun n : Nat => (n : Int)).map V.int := nVs_ints l
theorem sorted_miss {rows : List Row} {l : List Nat} {ns : List Int} (hp : ns.Perm (l.map fun n : Nat => (n : Int))) (hs : ns.Pairwise (· ≤ ·)) (h : (missAll rows).Perm l) : ns.map V.int = nVs (missAll rows) := by
  rw [nVs_ints]
  congr 1
  refine List.Perm.eq_of_pairwise (le := fun a b : Int => a ≤ b) (fun a b _ _ x y => Int.le_antisymm x y) hs ?_ (hp.trans (h.map _).symm)
  exact List.pairwise_map.mpr ((missAll_asc rows).imp fun {a b} z => by omega)
theorem missOf_all {rows : List Row} {g : List Nat} {m : Nat} (hn : g.Nodup) (h : missAll rows = [m]) (hm : m ∈ g) (hlt : m < rows.length) (hin : ∀ i ∈ g, i < rows.length) : (missOf rows g).length = 1 := by
  have e : missOf rows g = g.filter fun i => decide (i = m) := by
    unfold missOf
    refine List.filter_congr fun i hi => ?_
    have z : isMiss rows i = true ↔ i ∈ missAll rows := ⟨fun z => missAll_mem.mpr ⟨hin i hi, z⟩, fun z => (missAll_mem.mp z).2⟩
    rw [h] at z
    rw [Bool.eq_iff_iff, z]
    simp
  have pm : (g.filter fun i => decide (i = m)).Perm [m] := by
    refine (List.perm_ext_iff_of_nodup (hn.sublist List.filter_sublist) (List.nodup_cons.mpr ⟨List.not_mem_nil, List.nodup_nil⟩)).mpr fun a => ?_
    simp only [List.mem_filter, decide_eq_true_eq, List.mem_singleton]
    exact ⟨fun z => z.2, fun z => ⟨by rw [z]; exact hm, z⟩⟩
  rw [e, pm.length_eq]
  rfl
/-- nothing missing: the true rows -/
theorem whole {rows : List Row} {tr : Tr} (A : Agree rows tr) (h : missAll rows = []) : rows = tr.map some := by
  refine List.ext_getElem? fun i => ?_
  by_cases hi : i < rows.length
  · have nm : isMiss rows i = false := by
      cases e : isMiss rows i with
      | false => rfl
      | true =>
        have z := missAll_mem.mpr ⟨hi, e⟩
        rw [h] at z
        cases z
    have e := there A hi nm
    have e2 := A.at_ i _ e
    rw [e, List.getElem?_map, e2]
    rfl
  · rw [List.getElem?_eq_none (by omega), List.getElem?_eq_none (by rw [List.length_map, ← A.len]; omega)]
end Dw
namespace Dw
open PySem PySem.Spec PyProof.Rows L2
section
variable {P : Program} {w : World} {K : PySem.W.Frag} {mg : Str → Option Value} {base : Heap} {f C S : Addr} {fd : FuncData}
abbrev LN : List Str := ["_law_script", "_law_pool_here", "_law_many", "_law_plan", "_law_true", "_law_hurt", "_law_k", "_law_told", "_law_made", "_law_block", "_law_first", "_law_place", "_law_places", "_law_seen", "_law_found"]
def spLaw (K : PySem.W.Frag) : Sp := fun vs H Q _ => ∃ (a : Addr) (ns : List Int), vs = [.ref a] ∧ SqL K H a (ns.map V.int) ∧ ns.length ≤ 63 ∧ ∀ H', Q (.bl true) H'
theorem sc_law : FnScope LN ["_law_script"] (C8.fnScope s_law) := C8.fnScope_by (by decide +kernel)
theorem rg_nVs {n : Nat} : rgV 1 (n : Int) = nVs (grp 1 (n - 1)) := by
  unfold rgV nVs grp
  rw [List.map_map]
  have e : ((n : Int) - 1).toNat = n - 1 := by omega
  rw [e]
  refine List.map_congr_left fun i _ => ?_
  show V.int (1 + (i : Int)) = V.int ((i + 1 : Nat) : Int)
  congr 1
  omega
theorem decT {p : Prop} [Decidable p] (h : p) : decide p = true := decide_eq_true h
theorem c_law (F : C8.Def K mg "law" s_law f fd) (T : Tx K mg) (TD : TC K mg C)
    (hne : PySem.W.findIn K (.ref C) "__ne__" = some (some (.builtin "object.__ne__"))) (hmro : PySem.W.mroIn K C (.type "object") = some true)
    (cPo : C8.Cal P w K mg base 1 "_law_pool" (spPool K) []) (cD : C8.Cal P w K mg base 2 "_law_draw" spDraw []) (cQ : C8.Cal P w K mg base 3 "_law_qblocks" spQb []) (cSb : C8.Cal P w K mg base 1 "_law_set_bit" (spSb K) [])
    (cM : C8.Mak P w K mg base 2 "BlockDisc" C (spInit C) []) (cE : C8.Met P w K mg base 1 C "__eq__" (spEq2 C) []) (cB : C8.Met P w K mg base 1 C "block" (spBlock C) []) (cMs : C8.Met P w K mg base 1 C "missing" (spMiss C) []) (cW : C8.Met P w K mg base 4 C "with_block" (spWith C) [])
    (cWp : C8.Cal P w K mg base 5 "with_parity" (spWp C) []) (cBr : C8.Cal P w K mg base 6 "broken_groups" (spBrok C) []) (cMe : C8.Cal P w K mg base 5 "mended_by_parity" (spMend C) [])
    (cC : C8.Cal P w K mg base 3 "crc" (spCrc K) []) (cN : C8.Cal P w K mg base 6 "solution_count" spSc []) (cS : C8.Cal P w K mg base 7 "solution" spSol []) : FnOk P w K mg base C8.CX0 8 f fd ["_law_script"] (spLaw K) := by
  refine C8.fn0 F.fn sc_law (fun vs H Q E h => ?_) (fun cdv A outer s H vs Q E hr h => ?_)
  · obtain ⟨a, ns, rfl, _⟩ := h
    rfl
  · obtain ⟨a, ns, rfl, hS, hlen, k⟩ := h
    refine ⟨_, pss_cons (ps_set (i := 1) sc_law.nd rfl (Or.inr rfl) (C8.pe_c cPo hr (by decide) (by rfl) (pa_cons (pv 0) pa_nil)))
      (C8.pss_cut (ps_set (i := 2) sc_law.nd rfl (Or.inl rfl) (pe_op op_add pe_int (C8.pe_c cD hr (by decide) (by rfl) (pa_cons (pv 1) (pa_cons pe_int pa_nil)))))
      (C8.pss_cut (ps_set (i := 3) sc_law.nd rfl (Or.inl rfl) (pe_slice sl_list (pe_lst (pa_cons (pe_tup (pa_cons pe_int (pa_cons pe_int (pa_cons pe_int pa_nil)))) (pa_cons (pe_tupRg rfl (by rfl) T.tuple (prg_2 (by rfl) T.range pe_int (pv 2))) pa_nil))) po_none (po_some (pe_op op_add pe_int (C8.pe_c cD hr (by decide) (by rfl) (pa_cons (pv 1) (pa_cons pe_int pa_nil)))))))
      (C8.pss_cut (ps_set (i := 4) sc_law.nd rfl (Or.inl rfl) (C8.pe_c cWp hr (by decide) (by rfl) (pa_cons (C8.pe_mk cM hr (by decide) (by rfl) (pa_cons (C8.pe_c cQ hr (by decide) (by rfl) (pa_cons (pv 1) (pa_cons (pv 2) (pa_cons pe_int pa_nil)))) pa_nil)) (pa_cons (pv 3) pa_nil))))
      (C8.pss_cut (ps_if (pt_cmpR (op_neD hr.units) (C8.pe_c cBr hr (by decide) (by rfl) (pa_cons (pv 4) (pa_cons (pv 3) pa_nil))) (pe_lst pa_nil) (nomark _)) pss_never pss_nil)
      (pss_cons (ps_set (i := 5) sc_law.nd rfl (Or.inl rfl) (pv 4))
      (C8.pss_cut (ps_for PassesOwn.never rfl (pi_range1 (by rfl) T.range (pa_cons (C8.pe_c cD hr (by decide) (by rfl) (pa_cons (pv 1) (pa_cons pe_int pa_nil))) pa_nil)) (pg_name (i := 6) sc_law.nd rfl (Or.inl rfl))
        (pss_one (ps_set (i := 5) sc_law.nd rfl (Or.inl rfl) (pe_ifExp (pt_cmpR op_lt (pe_len K T.len (C8.pe_mt0 cMs hr (by decide) (pv 5))) (pe_op op_sub (pv 2) pe_int) (nomark _))
          (C8.pe_mt cW hr (by decide) (pv 5) (pa_cons (C8.pe_c cD hr (by decide) (by rfl) (pa_cons (pv 1) (pa_cons (pv 2) pa_nil))) (pa_cons pe_non pa_nil))) (pv 5)))))
      (pss_cons (ps_asg (C8.pe_c cMe hr (by decide) (by rfl) (pa_cons (pv 5) (pa_cons (pv 3) pa_nil))) (pg_tup rfl (pgs_cons (pg_name (i := 7) sc_law.nd rfl (Or.inl rfl)) (pgs_cons (pg_name (i := 8) sc_law.nd rfl (Or.inl rfl)) pgs_nil))))
      (C8.pss_cut (ps_for PassesOwn.never rfl (pi_range1 (by rfl) T.range (pa_cons (pv 2) pa_nil)) (pg_name (i := 6) sc_law.nd rfl (Or.inl rfl))
        (pss_one (ps_if (PW.pt (pw_and (pt_cmpR op_notN (C8.pe_mt cB hr (by decide) (pv 7) (pa_cons (pv 6) pa_nil)) pe_non (nomark _)) (pw_and1 (pt_cmpR (op_neD hr.units) (C8.pe_mt cB hr (by decide) (pv 7) (pa_cons (pv 6) pa_nil)) (C8.pe_mt cB hr (by decide) (pv 4) (pa_cons (pv 6) pa_nil)) (nomark _))))) pss_never pss_nil)))
      (C8.pss_cut (ps_if (pt_cmpR (op_neD hr.units) (pe_callB cr_sorted (by rfl) T.sorted (by decide +kernel) (pa_cons (pe_op op_cat (pv 8) (C8.pe_mt0 cMs hr (by decide) (pv 7))) pa_nil)) (C8.pe_mt0 cMs hr (by decide) (pv 5)) (nomark _)) pss_never pss_nil)
      (C8.pss_cut (ps_if (PW.pt (pw_and (pt_cmpR op_eq (pe_len K T.len (C8.pe_mt0 cMs hr (by decide) (pv 5))) pe_int (nomark _)) (pw_and (pt_inK K (pe_il K (C8.pe_mt0 cMs hr (by decide) (pv 5)) pe_int) (pe_il K (pv 3) pe_int)) (pw_and1 (pt_cmpR (op_neOwn cE hr (by decide) hne hmro) (pv 7) (pv 4) (nomark _)))))) pss_never pss_nil)
      (C8.pss_cut (ps_set (i := 9) sc_law.nd rfl (Or.inl rfl) (C8.pe_mt cB hr (by decide) (pv 4) (pa_cons (C8.pe_c cD hr (by decide) (by rfl) (pa_cons (pv 1) (pa_cons (pv 2) pa_nil))) pa_nil)))
      (C8.pss_cut (ps_set (i := 10) sc_law.nd rfl (Or.inl rfl) (C8.pe_c cD hr (by decide) (by rfl) (pa_cons (pv 1) (pa_cons pe_int pa_nil))))
      (C8.pss_cut (ps_setLc (i := 12) (own := [("_law_place", 11)]) (g := gName 11) rfl sc_law.nd rfl rfl (sw_true rfl rfl rfl (by decide +kernel)) (pi_range2 (by rfl) T.range (pa_cons (pv 10) (pa_cons (pe_op op_add (pv 10) pe_int) pa_nil)))
        (blkOk_by (N := LN) (sc := C8.fnScope s_law) (by decide +kernel)) (fun _ _ _ _ _ => pg_name (i := 11) sc_law.nd rfl (Or.inl rfl)) (fun _ _ _ _ _ => pts_one (pt_cmpR op_eq (C8.pe_c cD hr (by decide) (by rfl) (pa_cons (pv 1) (pa_cons pe_int pa_nil))) pe_int (nomark _))) (fun _ _ _ _ _ => pv 11))
      (pss_cons (ps_set (i := 13) sc_law.nd rfl (Or.inl rfl) (pe_callTy call_list_of (by rfl) T.list (by decide +kernel) (pa_cons (pv 9) pa_nil)))
      (C8.pss_cut (ps_for PassesOwn.never rfl (pi_list (pv 12)) (pg_name (i := 11) sc_law.nd rfl (Or.inl rfl)) (pss_one (ps_set (i := 13) sc_law.nd rfl (Or.inl rfl) (C8.pe_c cSb hr (by decide) (by rfl) (pa_cons (pv 13) (pa_cons (pv 11) (pa_cons pe_int pa_nil)))))))
      (pss_cons (ps_set (i := 14) sc_law.nd rfl (Or.inl rfl) (C8.pe_c cS hr (by decide) (by rfl) (pa_cons (pv 13) (pa_cons (pv 12) (pa_cons (C8.pe_c cC hr (by decide) (by rfl) (pa_cons (pv 9) pa_nil)) pa_nil)))))
      (pss_one (ps_ret (pe_and (pe_cmpR (op_eqD hr.units) (pv 14) (pv 9) (nomark _))
        (pe_one (pe_cmpR op_eq (C8.pe_c cN hr (by decide) (by rfl) (pa_cons (pv 13) (pa_cons (pv 12) (pa_cons (C8.pe_c cC hr (by decide) (by rfl) (pa_cons (pv 9) pa_nil)) pa_nil)))) pe_int (nomark _)))))))))))))))))))))), ?_⟩
    -- the pool; the number of blocks
    refine ⟨_, rfl, a, ns, rfl, hS, fun H1 q lr s1 nq hP1 => ?_⟩
    refine ⟨fun σ' H' => ∃ n, σ' = [some (.ref a), some (.ref q), some (nV n), none, none, none, none, none, none, none, none, none, none, none, none] ∧ PoolAt H' q lr ∧ 4 ≤ n ∧ n ≤ 7, ?_, ?_⟩
    · refine ⟨_, rfl, q, lr, 4, rfl, by decide, by decide, hP1, fun r H2 hr2 hP2 b2 => ?_⟩
      refine ⟨_, _, rfl, rfl, 4 + r, ?_, hP2, by omega, by omega⟩
      show [some (V.ref a), some (V.ref q), some (V.int (4 + (r : Int))), none, none, none, none, none, none, none, none, none, none, none, none] = _
      rfl
    rintro σ' H1 ⟨n, rfl, hP1, n1, n2⟩
    -- the plan
    refine ⟨fun σ' H' => ∃ pl two, σ' = [some (.ref a), some (.ref q), some (nV n), some (.ref pl), none, none, none, none, none, none, none, none, none, none, none] ∧ PoolAt H' q lr ∧ PlanAt H' pl (planL n two), ?_, ?_⟩
    · refine ⟨by show 3 ≤ sizeLine; decide, fun t nt => ?_⟩
      have P2 := Pool.new (o := .tup [V.int 0, V.int 1, V.int 2]) hP1 (Pool.ne hP1 nt).1 (Pool.ne hP1 nt).2
      have ht2 : (upd H1 t (.tup [V.int 0, V.int 1, V.int 2])) t = some (.tup [V.int 0, V.int 1, V.int 2]) := upd_same
      refine ⟨_, rfl, _, _, rfl, rfl, RgOk.of_le (by decide) (by show (n : Int) ≤ _; omega) (by decide) (by show 0 ≤ (n : Int); omega), fun t2 nt2 => ?_⟩
      have P3 := Pool.new (o := .tup (rgV 1 (n : Int))) P2 (Pool.ne P2 nt2).1 (Pool.ne P2 nt2).2
      have ht3 := Same.new (o := .tup (rgV 1 (n : Int))) nt2 _ _ ht2
      have hu3 : (upd (upd H1 t (.tup [V.int 0, V.int 1, V.int 2])) t2 (.tup (rgV 1 (n : Int)))) t2 = some (.tup (rgV 1 (n : Int))) := upd_same
      refine ⟨by show 2 ≤ sizeLine; decide, fun l nl => ?_⟩
      have P4 := Pool.new (o := .lst [V.ref t, V.ref t2]) P3 (Pool.ne P3 nl).1 (Pool.ne P3 nl).2
      have ht4 := Same.new (o := .lst [V.ref t, V.ref t2]) nl _ _ ht3
      have hu4 := Same.new (o := .lst [V.ref t, V.ref t2]) nl _ _ hu3
      have hl4 := upd_same (H := upd (upd H1 t (.tup [V.int 0, V.int 1, V.int 2])) t2 (.tup (rgV 1 (n : Int)))) (a := l) (o := .lst [V.ref t, V.ref t2])
      have lq : l ≠ q := by
        rintro rfl
        obtain ⟨ns', i, x, c, t', hq, _, _⟩ := P4
        rw [hq] at hl4
        have e := congrArg List.length (lst_inj hl4)
        cases e
      have tq : t ≠ q := by
        rintro rfl
        obtain ⟨ns', i, x, c, t', hq, _, _⟩ := P4
        rw [hq] at ht4
        cases ht4
      have uq : t2 ≠ q := by
        rintro rfl
        obtain ⟨ns', i, x, c, t', hq, _, _⟩ := P4
        rw [hq] at hu4
        cases hu4
      refine ⟨_, rfl, q, lr, 2, rfl, by decide, by decide, P4, fun r H5 hr5 P5 b5 => ?_⟩
      refine ⟨_, _, rfl, rfl, _, rfl, l, _, rfl, SqL.of (b5 _ _ hl4 lq), fun p np => ?_⟩
      have e1 : cutV [V.ref t, V.ref t2] none (some (1 + (r : Int))) = [V.ref t, V.ref t2].take (1 + r) := cut_any (i := 1 + r)
      have st := Same.new (o := .lst ([V.ref t, V.ref t2].take (1 + r))) np
      refine ⟨p, decide (r = 1), rfl, ?_, ?_⟩
      · exact Pool.new P5 (Pool.ne P5 np).1 (Pool.ne P5 np).2
      · show PlanAt (upd H5 p (.lst (cutV [V.ref t, V.ref t2] none (some (1 + (r : Int)))))) p _
        rw [e1]
        have g1 : GrAt (upd H5 p (.lst ([V.ref t, V.ref t2].take (1 + r)))) (.ref t) (grp 0 3) := ⟨t, rfl, st _ _ (b5 _ _ ht4 tq)⟩
        have g2 : GrAt (upd H5 p (.lst ([V.ref t, V.ref t2].take (1 + r)))) (.ref t2) (grp 1 (n - 1)) := ⟨t2, rfl, by rw [← rg_nVs]; exact st _ _ (b5 _ _ hu4 uq)⟩
        refine ⟨_, upd_same, ?_⟩
        have hr2 : r = 0 ∨ r = 1 := by omega
        rcases hr2 with rfl | rfl
        · exact .cons g1 .nil
        · exact .cons g1 (.cons g2 .nil)
    rintro σ' H1 ⟨pl, two, rfl, hP1, hpl⟩
    -- the true disc
    refine ⟨fun σ' H' => ∃ dt tr, σ' = [some (.ref a), some (.ref q), some (nV n), some (.ref pl), some (.ref dt), none, none, none, none, none, none, none, none, none, none] ∧ LP n two tr ∧ LB C H' q lr pl dt n two tr, ?_, ?_⟩
    · refine ⟨_, rfl, _, rfl, q, lr, n, rfl, by omega, hP1, fun H2 p as tr b2 P2 np hp tl tb hb => ?_⟩
      intro x dn nx nd ne
      have sx : Same H2 (upd (upd H2 dn (.own x)) x (.ins C dn [])) := (Same.new nd).trans (Same.new (by rw [upd_ne (Ne.symm ne)]; exact nx))
      have pr : Paired (RdRow H2) as (tr.map some) := by
        have go : ∀ {as : List V} {tr : List (List Nat)}, BlksAt q H2 as tr → Paired (RdRow H2) as (tr.map some) := by
          intro as tr h
          induction h with
          | nil => exact .nil
          | cons hh ht ih =>
            obtain ⟨b', e1, _, e3⟩ := hh
            exact .cons ⟨b', e1, e3⟩ ih
        exact go hb
      refine ⟨x, dn, p, as, tr.map some, rfl, upd_same, sx _ _ hp, Paired.mono (fun v r z => z.same sx) pr, ?_, by rw [List.length_map]; omega, ?_, fun H3 k3 D3 => ⟨rfl, ?_⟩⟩
      · intro bs hbs
        obtain ⟨l, hl, e⟩ := List.mem_map.mp hbs
        rw [← Option.some.inj e]
        exact tb l hl
      · have h0 : 0 < tr.length := by omega
        exact ⟨tr[0], List.mem_map.mpr ⟨tr[0], List.getElem_mem h0, rfl⟩⟩
      · have s3 : Same H2 H3 := fun b' o e => k3 b' o (sx _ _ e) (ne_of_none e nx)
        have hpl2 := hpl.but hP1 b2
        refine ⟨_, rfl, x, pl, tr, planL n two, rfl, D3.all, hpl2.same s3, fun g hg => by rw [tl]; exact (plan_ok n1 n2 hg).1, plan_len n two, tb, plan_ne n two, fun H4 d4 s4 D4 B4 => ?_⟩
        exact ⟨d4, _, rfl, LP.wpar n1 n2 tl B4, Pool.same (s3.trans s4) P2, hpl2.same (s3.trans s4), D4.all⟩
    rintro σ' H1 ⟨dt, tr, rfl, lp, lb⟩
    clear n1 n2 hP1 hpl
    have n1 := lp.lo
    have n2 := lp.hi
    have trl : (tr.map some : List Row).length = n := by rw [List.length_map, lp.len]
    -- no broken group
    refine ⟨fun σ' H' => σ' = [some (.ref a), some (.ref q), some (nV n), some (.ref pl), some (.ref dt), none, none, none, none, none, none, none, none, none, none] ∧ LB C H' q lr pl dt n two tr, ?_, ?_⟩
    · refine ⟨_, rfl, _, rfl, dt, pl, tr.map some, tr, planL n two, rfl, lb.disc, lb.plan, fun g hg => by rw [trl]; exact lp.gok g hg, plan_len n two, agree_self tr, lp.blk, fun i _ => noMiss tr i, fun g hg g' z e => lp.par g hg g' z e, fun H2 p s2 np hp => ?_⟩
      refine ⟨Nat.zero_le _, fun e ne => ⟨_, _, dp_ints (l := []) (SqL.of (Same.new ne _ _ hp)), dp_ints (l := []) (SqL.of upd_same), sh_ints _, sh_ints _, ?_⟩⟩
      rw [eqv_self (sh_ints [])]
      exact ⟨_, rfl, iteF ⟨rfl, (lb.same s2).same (Same.new ne)⟩⟩
    rintro σ' H1 ⟨rfl, lb1⟩
    clear lb
    -- hurt
    refine ⟨_, rfl, ?_⟩
    refine ⟨fun σ' H' => ∃ dh rows x6, σ' = [some (.ref a), some (.ref q), some (nV n), some (.ref pl), some (.ref dt), some (.ref dh), x6, none, none, none, none, none, none, none, none] ∧ LB C H' q lr pl dt n two tr ∧ Disc0 C H' dh rows ∧ Agree rows tr, ?_, ?_⟩
    · refine ⟨_, rfl, q, lr, 5, rfl, by decide, by decide, lb1.pool, fun r H2 hr2 P2 b2 => ?_⟩
      refine ⟨_, rfl, by show -(2 ^ 62) ≤ (r : Int); omega, by show (r : Int) < 2 ^ 62; omega, for_range (lo := 0) (n := r) (fun _ σ' H' => ∃ dh rows x6, σ' = [some (.ref a), some (.ref q), some (nV n), some (.ref pl), some (.ref dt), some (.ref dh), x6, none, none, none, none, none, none, none, none] ∧ LB C H' q lr pl dt n two tr ∧ Disc0 C H' dh rows ∧ Agree rows tr)
        ⟨dt, tr.map some, none, rfl, lb1.but b2 P2, (lb1.but b2 P2).disc, agree_self tr⟩ ?_ (fun σ' H' h => h)⟩
      rintro i σ' H3 hi ⟨dh, rows, x6, rfl, lb3, D3, A3⟩
      have rl : rows.length = n := by rw [A3.len, lp.len]
      obtain ⟨dx, l, as, e1, e2, _, _⟩ := id D3.ex
      refine ⟨_, rfl, dh, dx, _, rfl, e1, dF_no l (by decide +kernel) (by decide +kernel), dh, rows, rfl, D3, fun H4 p s4 np hp => ?_⟩
      have lb4 := lb3.same s4
      have D4 := Disc0.same s4 D3
      refine ⟨p, _, rfl, .inl (SqL.of hp), _, rfl, _, _, rfl, rfl, _, _, rfl, rfl, _, rfl, ite_dec (fun hc => ?_) (fun hc => ?_)⟩
      · refine ⟨_, rfl, dh, dx, _, rfl, s4 _ _ e1, dF_no l (by decide +kernel) (by decide +kernel), _, rfl, _, rfl, q, lr, n, rfl, by omega, by omega, lb4.pool, fun m H5 hm P5 b5 => ?_⟩
        have lb5 := lb4.but b5 P5
        have D5 := D4.but lb4.pool b5
        rw [nVs_len] at hc
        refine ⟨dh, rows, m, .non, none, rfl, D5, by rw [rl]; exact hm, rfl, (fun bs e => by cases e), still_one (by omega), fun H6 d6 s6 D6 => ?_⟩
        exact ⟨d6, rows.set m none, _, rfl, lb5.same s6, D6.all, agree_hurt A3 (by rw [rl]; exact hm)⟩
      · exact ⟨_, rfl, dh, rows, _, rfl, lb4, D4, A3⟩
    rintro σ' H1 ⟨dh, rows, x6, rfl, lb, dH, A⟩
    clear lb1
    have rl : rows.length = n := by rw [A.len, lp.len]
    -- told, made = mended_by_parity(hurt, plan)
    refine ⟨_, rfl, _, rfl, dh, pl, rows, tr, planL n two, rfl, dH, lb.plan, fun g hg => by rw [rl]; exact lp.gok g hg, plan_len n two, A, lp.blk, lp.glaw, fun H2 t d7 ml rows' made s2 ht hml D7 A7 P7 N7 => ?_⟩
    refine ⟨t, _, rfl, SqT.of ht, rfl, _, _, rfl, _, _, rfl, rfl, ?_⟩
    have lb2 := lb.same s2
    have dH2 := Disc0.same s2 dH
    have rl7 : rows'.length = n := by rw [A7.len, lp.len]
    have madel : made.length + (missAll rows').length = (missAll rows).length := by rw [P7.length_eq, List.length_append]
    have missl : (missAll rows).length ≤ n := by
      have z := List.length_filter_le (isMiss rows) (List.range rows.length)
      rw [List.length_range] at z
      exact Nat.le_trans z (by omega)
    clear ht dH lb
    -- every block there is the true one
    refine ⟨fun σ' H' => ∃ x6, σ' = [some (.ref a), some (.ref q), some (nV n), some (.ref pl), some (.ref dt), some (.ref dh), x6, some (.ref d7), some (.ref ml), none, none, none, none, none, none] ∧ Same H2 H', ?_, ?_⟩
    · refine ⟨_, rfl, _, rfl, by show -(2 ^ 62) ≤ (n : Int); omega, by show (n : Int) < 2 ^ 62; omega, for_range (lo := 0) (n := n) (fun _ σ' H' => ∃ x6, σ' = [some (.ref a), some (.ref q), some (nV n), some (.ref pl), some (.ref dt), some (.ref dh), x6, some (.ref d7), some (.ref ml), none, none, none, none, none, none] ∧ Same H2 H')
        ⟨_, rfl, Same.refl _⟩ ?_ (fun σ' H' h => h)⟩
      rintro i σ' H3 hi ⟨x6, rfl, s3⟩
      have e0 : V.int (0 + (i : Int)) = nV i := by rw [Int.zero_add]; rfl
      rw [e0]
      have D3 := Disc0.same s3 D7
      obtain ⟨dx, l, as, e1, e2, _, _⟩ := id D3.ex
      obtain ⟨r, er⟩ : ∃ r, rows'[i]? = some r := ⟨_, List.getElem?_eq_getElem (by rw [rl7]; exact hi)⟩
      refine ⟨_, rfl, d7, dx, _, rfl, e1, dF_no l (by decide +kernel) (by decide +kernel), _, rfl, d7, rows', i, r, rfl, D3, er, fun v H4 s4 rv => ?_⟩
      cases r with
      | none =>
        have ev : v = .non := rv
        subst ev
        exact ⟨rfl, _, rfl, iteF (iteF ⟨_, rfl, s3.trans s4⟩)⟩
      | some bs =>
        obtain ⟨b1, rfl, _, _⟩ := rv
        refine ⟨rfl, _, rfl, iteT ?_⟩
        have D4 := Disc0.same s4 D3
        refine ⟨_, rfl, d7, dx, _, rfl, s4 _ _ e1, dF_no l (by decide +kernel) (by decide +kernel), _, rfl, d7, rows', i, some bs, rfl, D4, er, fun v H5 s5 rv => ?_⟩
        obtain ⟨b2, rfl, _, hb2⟩ := rv
        have T5 := Disc0.same ((s3.trans s4).trans s5) lb2.disc
        obtain ⟨dx', l', as', f1, f2, _, _⟩ := id T5.ex
        have et : (tr.map some : List Row)[i]? = some (some bs) := by
          rw [List.getElem?_map, A7.at_ i bs er]
          rfl
        refine ⟨_, rfl, dt, dx', _, rfl, f1, dF_no l' (by decide +kernel) (by decide +kernel), _, rfl, dt, tr.map some, i, some bs, rfl, T5, et, fun v H6 s6 rv => ?_⟩
        obtain ⟨b3, rfl, _, hb3⟩ := rv
        refine ⟨_, _, dp_ints (l := bs) (SqL.of (s6 _ _ hb2)), dp_ints (l := bs) (SqL.of hb3), sh_ints _, sh_ints _, ?_⟩
        rw [eqv_self (sh_ints bs)]
        exact ⟨_, rfl, iteF ⟨_, rfl, ((s3.trans s4).trans s5).trans s6⟩⟩
    rintro σ' H3 ⟨x6, rfl, s3⟩
    -- sorted(made + told.missing()) is hurt.missing()
    refine ⟨fun σ' H' => σ' = [some (.ref a), some (.ref q), some (nV n), some (.ref pl), some (.ref dt), some (.ref dh), x6, some (.ref d7), some (.ref ml), none, none, none, none, none, none] ∧ Same H2 H', ?_, ?_⟩
    · have D3 := Disc0.same s3 D7
      obtain ⟨dx, l, as, e1, e2, _, _⟩ := id D3.ex
      refine ⟨_, rfl, _, rfl, d7, dx, _, rfl, e1, dF_no l (by decide +kernel) (by decide +kernel), d7, rows', rfl, D3, fun H4 p4 s4 n4 hp4 => ?_⟩
      refine ⟨ml, p4, _, _, rfl, rfl, s4 _ _ (s3 _ _ hml), hp4, small' (by rw [nVs_len, nVs_len]; omega), fun p5 n5 => ?_⟩
      rw [← nVs_app]
      refine ⟨p5, (made ++ missAll rows').map (fun m : Nat => (m : Int)), rfl, SqL.of (by rw [← nVs_ints]; exact upd_same), by rw [List.length_map, List.length_append]; omega, fun ns' p6 pm pw n6 => ?_⟩
      rw [sorted_miss pm pw P7]
      have s6 := ((s3.trans s4).trans (Same.new (o := .lst (nVs (made ++ missAll rows'))) n5)).trans (Same.new (o := .lst (nVs (missAll rows))) n6)
      have D6 := Disc0.same s6 dH2
      obtain ⟨dx', l', as', f1, f2, _, _⟩ := id D6.ex
      refine ⟨_, rfl, dh, dx', _, rfl, f1, dF_no l' (by decide +kernel) (by decide +kernel), dh, rows, rfl, D6, fun H7 p7 s7 n7 hp7 => ?_⟩
      refine ⟨_, _, dp_ints (l := missAll rows) (SqL.of (s7 _ _ upd_same)), dp_ints (l := missAll rows) (SqL.of hp7), sh_ints _, sh_ints _, ?_⟩
      rw [eqv_self (sh_ints (missAll rows))]
      exact ⟨_, rfl, iteF ⟨rfl, s6.trans s7⟩⟩
    rintro σ' H4 ⟨rfl, s4⟩
    clear s3 H3
    -- one missing block of the first group is mended
    refine ⟨fun σ' H' => σ' = [some (.ref a), some (.ref q), some (nV n), some (.ref pl), some (.ref dt), some (.ref dh), x6, some (.ref d7), some (.ref ml), none, none, none, none, none, none] ∧ Same H2 H', ?_, ?_⟩
    · have D4 := Disc0.same s4 dH2
      obtain ⟨dx, l, as, e1, e2, _, _⟩ := id D4.ex
      refine ⟨_, rfl, dh, dx, _, rfl, e1, dF_no l (by decide +kernel) (by decide +kernel), dh, rows, rfl, D4, fun H5 p5 s5 n5 hp5 => ?_⟩
      refine ⟨p5, _, rfl, .inl (SqL.of hp5), rfl, _, rfl, ite_dec (fun h1 => ?_) (fun _ => iteF ⟨rfl, s4.trans s5⟩)⟩
      have hl1 : (missAll rows).length = 1 := by
        have z : ((nVs (missAll rows)).length : Int) = 1 := by injection h1
        rw [nVs_len] at z
        omega
      obtain ⟨m, em⟩ := one_len hl1
      refine ⟨_, rfl, dh, dx, _, rfl, s5 _ _ e1, dF_no l (by decide +kernel) (by decide +kernel), dh, rows, rfl, Disc0.same s5 D4, fun H6 p6 s6 n6 hp6 => ?_⟩
      rw [em] at hp6
      have sm := (s4.trans s5).trans s6
      obtain ⟨gs, hg1, hg2⟩ := lb2.plan.same sm
      obtain ⟨g0, eg0, tg0, rfl, htg⟩ := pr_R hg2 (plan_head n two)
      refine ⟨p6, _, 0, _, rfl, rfl, SqL.of hp6, atI_nat (j := 0) rfl, _, rfl, pl, gs, 0, _, rfl, rfl, SqL.of hg1, atI_nat (j := 0) eg0, tg0, _, rfl, .inr (SqT.of htg), rfl, rfl, _, rfl, ite_b (fun hin => ?_) (fun _ => iteF ⟨rfl, sm⟩)⟩
      have hin' : inV (nV m) (nVs (grp 0 3)) = true := hin
      rw [inV_nVs, decide_eq_true_eq] at hin'
      have gm : grp 0 3 ∈ planL n two := List.mem_of_getElem? (plan_head n two)
      have none7 : missAll rows' = [] := by
        have z : (missAll rows').length = 0 ∨ (missAll rows').length = 1 := by omega
        rcases z with z | z
        · exact List.length_eq_zero_iff.mp z
        · exfalso
          obtain ⟨m', em'⟩ := one_len z
          have made0 : made = [] := List.length_eq_zero_iff.mp (by omega)
          rw [made0, em, em', List.nil_append] at P7
          have e3 : m = m' := by simpa using P7
          refine N7 _ gm (missOf_all (plan_ok n1 n2 gm).2 em' (by rw [← e3]; exact hin') ?_ fun i hi => by rw [rl7]; exact (lp.gok _ gm).lt i hi)
          rw [← e3, rl7]
          exact (lp.gok _ gm).lt m hin'
      have D7' := Disc0.same sm D7
      rw [whole A7 none7] at D7'
      have T7 := Disc0.same sm lb2.disc
      obtain ⟨dx1, l1, as1, f1, f2, _, _⟩ := id D7'.ex
      obtain ⟨dx2, l2, as2, g1, g2, _, _⟩ := id T7.ex
      exact ⟨_, rfl, _, rfl, d7, dt, dx1, dx2, _, _, rfl, rfl, f1, g1, d7, dt, _, rfl, D7', T7, true, rfl, _, rfl, iteF ⟨rfl, sm⟩⟩
    rintro σ' H5 ⟨rfl, s5⟩
    have lb5 := lb2.same s5
    clear s4 H4 s2 dH2 hml D7 lb2
    -- a block of the true disc
    refine ⟨fun σ' H' => ∃ bb B, σ' = [some (.ref a), some (.ref q), some (nV n), some (.ref pl), some (.ref dt), some (.ref dh), x6, some (.ref d7), some (.ref ml), some (.ref bb), none, none, none, none, none] ∧ PoolAt H' q lr ∧ H' bb = some (.lst (nVs B)) ∧ Blk B, ?_, ?_⟩
    · obtain ⟨dx, l, as, e1, e2, _, _⟩ := id lb5.disc.ex
      refine ⟨_, rfl, dt, dx, _, rfl, e1, dF_no l (by decide +kernel) (by decide +kernel), _, rfl, _, rfl, q, lr, n, rfl, by omega, by omega, lb5.pool, fun r H6 hr6 P6 b6 => ?_⟩
      have lb6 := lb5.but b6 P6
      have hrl : r < tr.length := by rw [lp.len]; exact hr6
      have et : (tr.map some : List Row)[r]? = some (some tr[r]) := by rw [List.getElem?_map, List.getElem?_eq_getElem hrl]; rfl
      refine ⟨dt, tr.map some, r, some tr[r], rfl, lb6.disc, et, fun v H7 s7 rv => ?_⟩
      obtain ⟨bb, rfl, _, hbb⟩ := rv
      exact ⟨bb, tr[r], rfl, Pool.same s7 P6, hbb, lp.blk _ (List.getElem_mem hrl)⟩
    rintro σ' H6 ⟨bb, B, rfl, P6, hbb, hB⟩
    clear lb5 s5 H5
    refine ⟨fun σ' H' => ∃ fi, σ' = [some (.ref a), some (.ref q), some (nV n), some (.ref pl), some (.ref dt), some (.ref dh), x6, some (.ref d7), some (.ref ml), some (.ref bb), some (nV fi), none, none, none, none] ∧ PoolAt H' q lr ∧ H' bb = some (.lst (nVs B)) ∧ fi < 120, ?_, ?_⟩
    · exact ⟨_, rfl, q, lr, 120, rfl, by decide, by decide, P6, fun r H7 hr7 P7' b7 => ⟨r, rfl, P7', ints_but P6 b7 hbb, hr7⟩⟩
    rintro σ' H7 ⟨fi, rfl, P7', hbb7, hfi⟩
    clear P6 hbb H6
    -- the places
    refine ⟨fun σ' H' => ∃ u us, σ' = [some (.ref a), some (.ref q), some (nV n), some (.ref pl), some (.ref dt), some (.ref dh), x6, some (.ref d7), some (.ref ml), some (.ref bb), some (nV fi), none, some (.ref u), none, none] ∧ H' bb = some (.lst (nVs B)) ∧ H' u = some (.lst (nVs us)) ∧ us.length ≤ 8 ∧ (∀ p ∈ us, fi ≤ p ∧ p < fi + 8) ∧ us.Pairwise (· < ·), ?_, ?_⟩
    · refine ⟨_, rfl, _, rfl, _, _, rfl, rfl, _, _, rfl, ⟨by show -(2 ^ 62) ≤ (fi : Int); omega, by show (fi : Int) < 2 ^ 62; omega, by show -(2 ^ 62) ≤ (fi : Int) + 8; omega, by show (fi : Int) + 8 < 2 ^ 62; omega⟩, fun D hD => ?_⟩
      have e8 : ((fi : Int) + 8 - (fi : Int)).toNat = 8 := by omega
      show ∃ W : Nat → Nat → Hp → Prop, _
      obtain ⟨Dq, Dl⟩ := Pool.ne P7' hD
      refine lc_range (lo := (fi : Int)) (n := ((fi : Int) + 8 - (fi : Int)).toNat) (fun i H' => i ≤ 8 ∧ But q H7 H' ∧ PoolAt H' q lr ∧ ∃ us, H' D = some (.lst (nVs us)) ∧ us.length ≤ i ∧ (∀ p ∈ us, fi ≤ p ∧ p < fi + i) ∧ us.Pairwise (· < ·))
        ⟨Nat.zero_le _, But.of (Same.new hD), Pool.new P7' Dq Dl, [], upd_same, Nat.zero_le _, fun p hp => absurd hp List.not_mem_nil, .nil⟩ ?_ ?_
      · rintro i H8 hi ⟨_, b8, P8, us, hus, ul, ub, ua⟩
        rw [e8] at hi
        refine ⟨rfl, ?_⟩
        refine ⟨_, rfl, q, lr, 2, rfl, by decide, by decide, P8, fun r H9 hr9 P9 b9 => ⟨rfl, _, rfl, ite_b (fun _ => ?_) (fun _ => ?_)⟩⟩
        · have hus9 := ints_but P8 b9 hus
          refine ⟨_, rfl, _, hus9, small (by rw [nVs_len]; omega), hi, ?_, Pool.new P9 Dq Dl, us ++ [fi + i], ?_, by rw [List.length_append]; show us.length + 1 ≤ i + 1; omega, ?_, ?_⟩
          · intro b' o e nb
            rw [upd_ne (ne_of_none e hD)]
            exact b9 _ _ (b8 _ _ e nb) nb
          · rw [upd_same, nVs_app]
            rfl
          · intro p hp
            rcases List.mem_append.mp hp with m | m
            · have := ub p m
              omega
            · rw [List.mem_singleton.mp m]
              omega
          · refine List.pairwise_append.mpr ⟨ua, List.pairwise_singleton _ _, fun x hx y hy => ?_⟩
            rw [List.mem_singleton.mp hy]
            exact (ub x hx).2
        · exact ⟨by omega, b8.trans b9, P9, us, ints_but P8 b9 hus, by omega, fun p hp => by have := ub p hp; omega, ua⟩
      · rintro H8 ⟨_, b8, P8, us, hus, ul, ub, ua⟩
        rw [e8] at ul ub
        exact ⟨D, us, rfl, ints_but P7' b8 hbb7, hus, ul, ub, ua⟩
    rintro σ' H8 ⟨u, us, rfl, hb8, hu8, ul, ub, ua⟩
    clear hbb7 P7' H7
    have uok : UOk 16 us := ⟨by omega, fun p hp => by have := ub p hp; omega, fun i x y hx hy => by
      obtain ⟨hi1, ei1⟩ := List.getElem?_eq_some_iff.mp hx
      obtain ⟨hi2, ei2⟩ := List.getElem?_eq_some_iff.mp hy
      rw [← ei1, ← ei2]
      exact List.pairwise_iff_getElem.mp ua i (i + 1) hi1 hi2 (by omega)⟩
    have ind : Ind (cP 16) us := ind_win (by omega) ub
    have ult : ∀ p ∈ us, p < 8 * B.length := fun p hp => by rw [hB.1]; exact uok.lt p hp
    -- their bits are cleared
    refine ⟨_, rfl, bb, _, rfl, .inl (SqL.of hb8), fun l hl => ?_⟩
    refine ⟨fun σ' H' => ∃ l' x11, σ' = [some (.ref a), some (.ref q), some (nV n), some (.ref pl), some (.ref dt), some (.ref dh), x6, some (.ref d7), some (.ref ml), some (.ref bb), some (nV fi), x11, some (.ref u), some (.ref l'), none] ∧ Same H8 H' ∧ H' l' = some (.lst (nVs (clr B us))), ?_, ?_⟩
    · refine ⟨_, rfl, u, rfl, ⟨_, SqL.of (Same.new hl _ _ hu8)⟩, for_list (K := K) (a := u) (xs := nVs us) (fun i σ' H' => ∃ l' x11, σ' = [some (.ref a), some (.ref q), some (nV n), some (.ref pl), some (.ref dt), some (.ref dh), x6, some (.ref d7), some (.ref ml), some (.ref bb), some (nV fi), x11, some (.ref u), some (.ref l'), none] ∧ Same H8 H' ∧ H' l' = some (.lst (nVs (clr B (us.take i)))))
        ⟨l, none, rfl, Same.new hl, upd_same⟩ (fun i σ' H' _ ⟨_, _, _, sm, _⟩ => sm.seq (SqL.of hu8)) ?_ ?_⟩
      · rintro i y σ' H9 hi ⟨l', x11, rfl, s9, hl9⟩
        obtain ⟨p, ep, rfl⟩ := nVs_at hi
        have pu : p ∈ us := List.mem_of_getElem? ep
        have es : clr B (us.take (i + 1)) = withBit (clr B (us.take i)) p 0 := by
          rw [take_snoc ep]
          unfold clr
          rw [List.foldl_append]
          rfl
        rw [es]
        refine ⟨_, rfl, _, rfl, l', _, p, rfl, SqL.of hl9, clr_byts _ hB.2, by rw [clr_len]; exact ult p pu, fun H10 p10 s10 n10 hp10 => ?_⟩
        exact ⟨p10, _, rfl, s9.trans s10, hp10⟩
      · rintro σ' H9 ⟨l', x11, rfl, s9, hl9⟩
        rw [nVs_len, List.take_length] at hl9
        exact ⟨l', x11, rfl, s9, hl9⟩
    rintro σ' H9 ⟨l', x11, rfl, s9, hl9⟩
    have sol : Sol (clr B us) us B := ⟨clr_byts us hB.2, by rw [clr_len]; exact hB.1, uok, ind, hB, clr_clr hB.2 ult⟩
    have hb9 := s9 _ _ hb8
    have hu9 := s9 _ _ hu8
    -- the block is found again, and it alone
    refine ⟨_, rfl, _, rfl, _, rfl, bb, B, rfl, SqL.of hb9, fun H10 s10 => ?_⟩
    refine ⟨l', u, clr B us, us, B, rfl, s10 _ _ hl9, s10 _ _ hu9, sol, fun H11 p11 s11 hp11 => ?_⟩
    have s911 := s10.trans s11
    refine ⟨_, rfl, _, rfl, _, _, dp_ints (l := B) (SqL.of hp11), dp_ints (l := B) (SqL.of (s911 _ _ hb9)), sh_ints _, sh_ints _, ?_⟩
    rw [eqv_self (sh_ints B)]
    refine ⟨_, rfl, iteT ?_⟩
    refine ⟨_, rfl, _, rfl, _, rfl, bb, B, rfl, SqL.of (s911 _ _ hb9), fun H12 s12 => ?_⟩
    have s912 := s911.trans s12
    exact ⟨l', u, clr B us, us, B, rfl, s912 _ _ hl9, s912 _ _ hu9, sol, fun H13 s13 => ⟨rfl, k H13⟩⟩
end
end Dw
namespace Dw
open PySem PySem.Spec PyProof.Rows L2
/-! ### what the top has written -/
/-- a function object at f -/
def FnAt (K : PySem.W.Frag) (x qual : Str) (st : Stmt) (f : Addr) : Prop := ∃ (oc kV doc pm cdv ct : Value) (od an : Option Addr) (sl : Array (Option Value)),
  K.lookup f = some ⟨oc, od, .func (PySem.W.fnOf x qual (C8.fnArgs st) (C8.fnBody st) (C8.fnScope st) .none kV doc pm an cdv ct), sl⟩ ∧ PySem.W.codeIn K cdv qual = true
structure DefA (K : PySem.W.Frag) (x : Str) (st : Stmt) : Prop where
  ex : ∃ f, PySem.W.nsIn K mainGlobals x = some (some (.ref f)) ∧ FnAt K x x st f ∧ PySem.W.keepIn K (.ref f) = true
structure MetA (K : PySem.W.Frag) (C : Addr) (m qual : Str) (st : Stmt) : Prop where
  ex : ∃ f, PySem.W.findIn K (.ref C) m = some (some (.ref f)) ∧ FnAt K m qual st f ∧ PySem.W.isFn K (.ref f) = true ∧ PySem.W.keepIn K (.ref f) = true
theorem DefA.of {K : PySem.W.Frag} {x : Str} {st : Stmt} {f : Addr} {oc kV doc pm cdv ct : Value} {od an : Option Addr} {sl : Array (Option Value)} (a : PySem.W.nsIn K mainGlobals x = some (some (.ref f)))
    (l : K.lookup f = some ⟨oc, od, .func (PySem.W.fnOf x x (C8.fnArgs st) (C8.fnBody st) (C8.fnScope st) .none kV doc pm an cdv ct), sl⟩) (c : PySem.W.codeIn K cdv x = true) (k : PySem.W.keepIn K (.ref f) = true) : DefA K x st :=
  ⟨f, a, ⟨oc, kV, doc, pm, cdv, ct, od, an, sl, l, c⟩, k⟩
theorem MetA.of {K : PySem.W.Frag} {C : Addr} {m qual : Str} {st : Stmt} {f : Addr} {oc kV doc pm cdv ct : Value} {od an : Option Addr} {sl : Array (Option Value)} (a : PySem.W.findIn K (.ref C) m = some (some (.ref f)))
    (l : K.lookup f = some ⟨oc, od, .func (PySem.W.fnOf m qual (C8.fnArgs st) (C8.fnBody st) (C8.fnScope st) .none kV doc pm an cdv ct), sl⟩) (c : PySem.W.codeIn K cdv qual = true) (i : PySem.W.isFn K (.ref f) = true) (k : PySem.W.keepIn K (.ref f) = true) : MetA K C m qual st :=
  ⟨f, a, ⟨oc, kV, doc, pm, cdv, ct, od, an, sl, l, c⟩, i, k⟩
structure ClsA (K : PySem.W.Frag) (x : Str) (C : Addr) : Prop where
  ns : PySem.W.nsIn K mainGlobals x = some (some (.ref C))
  pg : PySem.W.plainGet K C Str.empty = true
  hd : PySem.W.hasDictIn K C = true
  po : PySem.W.plainOver K C = true
  sa : PySem.W.findIn K (.ref C) "__setattr__" = some (some (.builtin "object.__setattr__"))
  mks : PySem.W.makesIn K C = true
  kc : PySem.W.keepIn K (.ref C) = true
structure TupA (K : PySem.W.Frag) (x : Str) (l : List Nat) : Prop where
  ex : ∃ (a : Addr) (od : Option Addr) (its : Array Value) (n : Nat) (sl : Array (Option Value)), PySem.W.nsIn K mainGlobals x = some (some (.ref a)) ∧ K.lookup a = some ⟨.type "tuple", od, .seq its n, sl⟩ ∧ its.size ≤ sizeLine ∧ Vals (nVs l) its.toList
theorem TupA.of {K : PySem.W.Frag} {x : Str} {l : List Nat} {a : Addr} {od : Option Addr} {its : Array Value} {n : Nat} {sl : Array (Option Value)} (e : PySem.W.nsIn K mainGlobals x = some (some (.ref a))) (o : K.lookup a = some ⟨.type "tuple", od, .seq its n, sl⟩)
    (z : its.size ≤ sizeLine) (v : Vals (nVs l) its.toList) : TupA K x l := ⟨a, od, its, n, sl, e, o, z, v⟩
section
variable {K : PySem.W.Frag} {h : Heap} {mg : Str → Option Value}
theorem FnAt.fn {x qual : Str} {st : Stmt} {f : Addr} (e : FnAt K x qual st f) {ps : List Str}
    (hb : ∀ (kV doc pm : Value) (an : Option Addr) (cdv ct : Value) (us : List Value), us.length = ps.length → bindArgs (PySem.W.fnOf x qual (C8.fnArgs st) (C8.fnBody st) (C8.fnScope st) .none kV doc pm an cdv ct) ⟨us, []⟩ = pure (ps.zip us)) : ∃ fd, C8.Fun K x qual st f fd ∧ Binds K fd ps [] := by
  obtain ⟨oc, kV, doc, pm, cdv, ct, od, an, sl, l, c⟩ := e
  have F : C8.Fun K x qual st f _ := ⟨oc, od, .none, kV, doc, pm, an, cdv, ct, sl, rfl, l, c⟩
  exact ⟨_, F, F.binds rfl hb⟩
theorem DefA.get (X : K.In h) (G : h.Ns mainGlobals mg) {x : Str} {st : Stmt} (d : DefA K x st) {ps : List Str}
    (hb : ∀ (kV doc pm : Value) (an : Option Addr) (cdv ct : Value) (us : List Value), us.length = ps.length → bindArgs (PySem.W.fnOf x x (C8.fnArgs st) (C8.fnBody st) (C8.fnScope st) .none kV doc pm an cdv ct) ⟨us, []⟩ = pure (ps.zip us)) : ∃ f fd, C8.Def K mg x st f fd ∧ Binds K fd ps [] := by
  obtain ⟨f, a, e, k⟩ := d.ex
  obtain ⟨fd, F, b⟩ := e.fn hb
  exact ⟨f, fd, ⟨F, PySem.W.mg_of X G a, k⟩, b⟩
theorem MetA.get {C : Addr} {m qual : Str} {st : Stmt} (d : MetA K C m qual st) {ps : List Str}
    (hb : ∀ (kV doc pm : Value) (an : Option Addr) (cdv ct : Value) (us : List Value), us.length = ps.length → bindArgs (PySem.W.fnOf m qual (C8.fnArgs st) (C8.fnBody st) (C8.fnScope st) .none kV doc pm an cdv ct) ⟨us, []⟩ = pure (ps.zip us)) :
    ∃ f fd, C8.Fun K m qual st f fd ∧ Binds K fd ps [] ∧ PySem.W.findIn K (.ref C) m = some (some (.ref f)) ∧ PySem.W.isFn K (.ref f) = true ∧ PySem.W.keepIn K (.ref f) = true := by
  obtain ⟨f, a, e, i, k⟩ := d.ex
  obtain ⟨fd, F, b⟩ := e.fn hb
  exact ⟨f, fd, F, b, a, i, k⟩
theorem TupA.get (X : K.In h) (G : h.Ns mainGlobals mg) {x : Str} {l : List Nat} (d : TupA K x l) : ∃ a, mg x = some (.ref a) ∧ ∀ H, SqT K H a (nVs l) := by
  obtain ⟨a, od, its, n, sl, e1, e2, e3, e4⟩ := d.ex
  exact ⟨a, PySem.W.mg_of X G e1, fun H => .inr ⟨_, its, n, e2, rfl, rfl, e3, e4⟩⟩
theorem kit_self (K : PySem.W.Frag) (C : Addr) : PySem.W.kitOne K (.ref C) (.ref C) = some true := by
  unfold PySem.W.kitOne
  rw [if_pos (beq_self_eq_true _)]
end

theorem all_mk {l : PySem.W.OpenLaw} {w : World} {K : PySem.W.Frag} {h : Heap} {mg : Str → Option Value} {fa C S fL : Addr} (X : K.In h) (G : h.Ns mainGlobals mg) (hfa : mg "law" = some (.ref fa))
    {oc kV doc pm cdv ct : Value} {od an : Option Addr} {sl : Array (Option Value)} {k_start k_mask k_word k_top k_mostB k_mostU : Tok}
    (a_law : PySem.W.nsIn K mainGlobals "law" = some (some (.ref fL))) (l_law : K.lookup fL = some ⟨oc, od, .func (PySem.W.fnOf "law" "law" (C8.fnArgs s_law) (C8.fnBody s_law) (C8.fnScope s_law) .none kV doc pm an cdv ct), sl⟩) (c_law : PySem.W.codeIn K cdv "law" = true) (k_law : PySem.W.keepIn K (.ref fL) = true)
    (d_byte_bits : DefA K "byte_bits" s_byte_bits)
    (d_exclusive : DefA K "exclusive" s_exclusive)
    (d_step : DefA K "step" s_step)
    (d_crc : DefA K "crc" s_crc)
    (d_parity : DefA K "parity" s_parity)
    (d_is_group : DefA K "is_group" s_is_group)
    (d_demand_plan : DefA K "demand_plan" s_demand_plan)
    (d_missing_of : DefA K "missing_of" s_missing_of)
    (d_holds : DefA K "holds" s_holds)
    (d_parity_without : DefA K "parity_without" s_parity_without)
    (d_mended_by_parity : DefA K "mended_by_parity" s_mended_by_parity)
    (d_next_group : DefA K "next_group" s_next_group)
    (d_broken_groups : DefA K "broken_groups" s_broken_groups)
    (d_with_parity : DefA K "with_parity" s_with_parity)
    (d_is_block : DefA K "is_block" s_is_block)
    (d_with_bit : DefA K "with_bit" s_with_bit)
    (d_crc_change : DefA K "crc_change" s_crc_change)
    (d_demand_unknown : DefA K "demand_unknown" s_demand_unknown)
    (d_span_of : DefA K "span_of" s_span_of)
    (d_solution_count : DefA K "solution_count" s_solution_count)
    (d_solution : DefA K "solution" s_solution)
    (d__law_pool : DefA K "_law_pool" s_pool)
    (d__law_spread : DefA K "_law_spread" s_spread)
    (d__law_draw : DefA K "_law_draw" s_draw)
    (d__law_qblocks : DefA K "_law_qblocks" s_qblocks)
    (d__law_set_bit : DefA K "_law_set_bit" s_set_bit)
    (m_s_init : MetA K C "__init__" "BlockDisc.__init__" s_init)
    (m_s_dlen : MetA K C "__len__" "BlockDisc.__len__" s_dlen)
    (m_s_deq : MetA K C "__eq__" "BlockDisc.__eq__" s_deq)
    (m_s_block : MetA K C "block" "BlockDisc.block" s_block)
    (m_s_missing : MetA K C "missing" "BlockDisc.missing" s_missing)
    (m_s_with_block : MetA K C "with_block" "BlockDisc.with_block" s_with_block)
    (m_s_sinit : MetA K S "__init__" "Span.__init__" s_sinit)
    (m_s_reduced : MetA K S "reduced" "Span.reduced" s_reduced)
    (m_s_add : MetA K S "add" "Span.add" s_add)
    (aC : ClsA K "BlockDisc" C) (aS : ClsA K "Span" S)
    (nS : NoAttr K C "size") (nR : NoAttr K C "rows") (nK : NoAttr K S "kept")
    (ne : PySem.W.findIn K (.ref C) "__ne__" = some (some (.builtin "object.__ne__"))) (mro : PySem.W.mroIn K C (.type "object") = some true)
    (ic : PySem.W.findIn K (.ref C) "__class__" = some (some (.builtin "object.__class__"))) (ig : PySem.W.specialIn K (.builtin "object.__class__") "__get__" = some (some (.builtin "getset_descriptor.__get__"))) (it : PySem.W.takesIn K (.builtin "object.__class__") = some true)
    (z_len : PySem.W.nsIn K mainGlobals "len" = some none)
    (z_all : PySem.W.nsIn K mainGlobals "all" = some none)
    (z_zip : PySem.W.nsIn K mainGlobals "zip" = some none)
    (z_list : PySem.W.nsIn K mainGlobals "list" = some none)
    (z_range : PySem.W.nsIn K mainGlobals "range" = some none)
    (z_max : PySem.W.nsIn K mainGlobals "max" = some none)
    (z_sorted : PySem.W.nsIn K mainGlobals "sorted" = some none)
    (z_isinst : PySem.W.nsIn K mainGlobals "isinstance" = some none)
    (z_int : PySem.W.nsIn K mainGlobals "int" = some none)
    (z_tuple : PySem.W.nsIn K mainGlobals "tuple" = some none)
    (z_enumr : PySem.W.nsIn K mainGlobals "enumerate" = some none)
    (t_wts : TupA K "BIT_WEIGHTS" WTS)
    (t_pows : TupA K "POWERS" POWS)
    (t_sizs : TupA K "SIZES" SIZS)
    (i_start : PySem.W.nsIn K mainGlobals "CRC_START" = some (some (.int 65535 k_start)))
    (i_mask : PySem.W.nsIn K mainGlobals "CRC_MASK" = some (some (.int 4129 k_mask)))
    (i_word : PySem.W.nsIn K mainGlobals "WORD" = some (some (.int 65536 k_word)))
    (i_top : PySem.W.nsIn K mainGlobals "TOP" = some (some (.int 32768 k_top)))
    (i_mostB : PySem.W.nsIn K mainGlobals "MOST_BLOCKS" = some (some (.int 2000 k_mostB)))
    (i_mostU : PySem.W.nsIn K mainGlobals "MOST_UNKNOWN" = some (some (.int 24 k_mostU)))
    : ∃ fd : FuncData, (∀ (s : Shared) (v : Value), BindsTo s fd ⟨[v], []⟩ [("_law_script", v)]) ∧ ∀ base : Heap, K.In base → base.Ns mainGlobals mg → FnOk l.prog w K mg base C8.CX0 8 fa fd ["_law_script"] (spLaw K) := by
  have e := hfa.symm.trans (PySem.W.mg_of X G a_law)
  cases e
  have T : Tx K mg := ⟨PySem.W.mg_none_of X G z_len, PySem.W.mg_none_of X G z_all, PySem.W.mg_none_of X G z_zip, PySem.W.mg_none_of X G z_list, PySem.W.mg_none_of X G z_range, PySem.W.mg_none_of X G z_max, PySem.W.mg_none_of X G z_sorted, PySem.W.mg_none_of X G z_isinst, PySem.W.mg_none_of X G z_int, PySem.W.mg_none_of X G z_tuple, PySem.W.mg_none_of X G z_enumr, t_wts.get X G, t_pows.get X G, t_sizs.get X G, ⟨_, PySem.W.mg_of X G i_start⟩, ⟨_, PySem.W.mg_of X G i_mask⟩, ⟨_, PySem.W.mg_of X G i_word⟩, ⟨_, PySem.W.mg_of X G i_top⟩, ⟨_, PySem.W.mg_of X G i_mostB⟩, ⟨_, PySem.W.mg_of X G i_mostU⟩⟩
  have clC : Cls K C := ⟨aC.pg, aC.hd, aC.po, aC.sa⟩
  have clS : Cls K S := ⟨aS.pg, aS.hd, aS.po, aS.sa⟩
  have TD : TC K mg C := ⟨clC, nS, nR⟩
  have TSp : TS K S := ⟨clS, nK⟩
  have hC := PySem.W.mg_of X G aC.ns
  have hS := PySem.W.mg_of X G aS.ns
  have IC : C8.InsC K C := ⟨clC, ic, ig, it, mro, kit_self K C⟩
  obtain ⟨f_byte_bits, fd_byte_bits, D_byte_bits, b_byte_bits⟩ := d_byte_bits.get X G (ps := ["value"]) (fun _ _ _ _ _ _ us hl => match us, hl with | [_], _ => rfl)
  obtain ⟨f_exclusive, fd_exclusive, D_exclusive, b_exclusive⟩ := d_exclusive.get X G (ps := ["first", "second"]) (fun _ _ _ _ _ _ us hl => match us, hl with | [_, _], _ => rfl)
  obtain ⟨f_step, fd_step, D_step, b_step⟩ := d_step.get X G (ps := ["number", "value"]) (fun _ _ _ _ _ _ us hl => match us, hl with | [_, _], _ => rfl)
  obtain ⟨f_crc, fd_crc, D_crc, b_crc⟩ := d_crc.get X G (ps := ["values"]) (fun _ _ _ _ _ _ us hl => match us, hl with | [_], _ => rfl)
  obtain ⟨f_parity, fd_parity, D_parity, b_parity⟩ := d_parity.get X G (ps := ["lists"]) (fun _ _ _ _ _ _ us hl => match us, hl with | [_], _ => rfl)
  obtain ⟨f_is_group, fd_is_group, D_is_group, b_is_group⟩ := d_is_group.get X G (ps := ["disc", "group"]) (fun _ _ _ _ _ _ us hl => match us, hl with | [_, _], _ => rfl)
  obtain ⟨f_demand_plan, fd_demand_plan, D_demand_plan, b_demand_plan⟩ := d_demand_plan.get X G (ps := ["disc", "plan"]) (fun _ _ _ _ _ _ us hl => match us, hl with | [_, _], _ => rfl)
  obtain ⟨f_missing_of, fd_missing_of, D_missing_of, b_missing_of⟩ := d_missing_of.get X G (ps := ["disc", "group"]) (fun _ _ _ _ _ _ us hl => match us, hl with | [_, _], _ => rfl)
  obtain ⟨f_holds, fd_holds, D_holds, b_holds⟩ := d_holds.get X G (ps := ["disc", "group"]) (fun _ _ _ _ _ _ us hl => match us, hl with | [_, _], _ => rfl)
  obtain ⟨f_parity_without, fd_parity_without, D_parity_without, b_parity_without⟩ := d_parity_without.get X G (ps := ["disc", "group", "missing"]) (fun _ _ _ _ _ _ us hl => match us, hl with | [_, _, _], _ => rfl)
  obtain ⟨f_mended_by_parity, fd_mended_by_parity, D_mended_by_parity, b_mended_by_parity⟩ := d_mended_by_parity.get X G (ps := ["disc", "plan"]) (fun _ _ _ _ _ _ us hl => match us, hl with | [_, _], _ => rfl)
  obtain ⟨f_next_group, fd_next_group, D_next_group, b_next_group⟩ := d_next_group.get X G (ps := ["disc", "plan"]) (fun _ _ _ _ _ _ us hl => match us, hl with | [_, _], _ => rfl)
  obtain ⟨f_broken_groups, fd_broken_groups, D_broken_groups, b_broken_groups⟩ := d_broken_groups.get X G (ps := ["disc", "plan"]) (fun _ _ _ _ _ _ us hl => match us, hl with | [_, _], _ => rfl)
  obtain ⟨f_with_parity, fd_with_parity, D_with_parity, b_with_parity⟩ := d_with_parity.get X G (ps := ["disc", "plan"]) (fun _ _ _ _ _ _ us hl => match us, hl with | [_, _], _ => rfl)
  obtain ⟨f_is_block, fd_is_block, D_is_block, b_is_block⟩ := d_is_block.get X G (ps := ["values"]) (fun _ _ _ _ _ _ us hl => match us, hl with | [_], _ => rfl)
  obtain ⟨f_with_bit, fd_with_bit, D_with_bit, b_with_bit⟩ := d_with_bit.get X G (ps := ["values", "place", "bit"]) (fun _ _ _ _ _ _ us hl => match us, hl with | [_, _, _], _ => rfl)
  obtain ⟨f_crc_change, fd_crc_change, D_crc_change, b_crc_change⟩ := d_crc_change.get X G (ps := ["length", "place"]) (fun _ _ _ _ _ _ us hl => match us, hl with | [_, _], _ => rfl)
  obtain ⟨f_demand_unknown, fd_demand_unknown, D_demand_unknown, b_demand_unknown⟩ := d_demand_unknown.get X G (ps := ["values", "unknown"]) (fun _ _ _ _ _ _ us hl => match us, hl with | [_, _], _ => rfl)
  obtain ⟨f_span_of, fd_span_of, D_span_of, b_span_of⟩ := d_span_of.get X G (ps := ["values", "unknown"]) (fun _ _ _ _ _ _ us hl => match us, hl with | [_, _], _ => rfl)
  obtain ⟨f_solution_count, fd_solution_count, D_solution_count, b_solution_count⟩ := d_solution_count.get X G (ps := ["values", "unknown", "wanted"]) (fun _ _ _ _ _ _ us hl => match us, hl with | [_, _, _], _ => rfl)
  obtain ⟨f_solution, fd_solution, D_solution, b_solution⟩ := d_solution.get X G (ps := ["values", "unknown", "wanted"]) (fun _ _ _ _ _ _ us hl => match us, hl with | [_, _, _], _ => rfl)
  obtain ⟨f__law_pool, fd__law_pool, D__law_pool, b__law_pool⟩ := d__law_pool.get X G (ps := ["_law_script"]) (fun _ _ _ _ _ _ us hl => match us, hl with | [_], _ => rfl)
  obtain ⟨f__law_spread, fd__law_spread, D__law_spread, b__law_spread⟩ := d__law_spread.get X G (ps := ["_law_cell"]) (fun _ _ _ _ _ _ us hl => match us, hl with | [_], _ => rfl)
  obtain ⟨f__law_draw, fd__law_draw, D__law_draw, b__law_draw⟩ := d__law_draw.get X G (ps := ["_law_pool_here", "_law_many"]) (fun _ _ _ _ _ _ us hl => match us, hl with | [_, _], _ => rfl)
  obtain ⟨f__law_qblocks, fd__law_qblocks, D__law_qblocks, b__law_qblocks⟩ := d__law_qblocks.get X G (ps := ["_law_pool_here", "_law_many", "_law_size"]) (fun _ _ _ _ _ _ us hl => match us, hl with | [_, _, _], _ => rfl)
  obtain ⟨f__law_set_bit, fd__law_set_bit, D__law_set_bit, b__law_set_bit⟩ := d__law_set_bit.get X G (ps := ["_law_values", "_law_place", "_law_bit"]) (fun _ _ _ _ _ _ us hl => match us, hl with | [_, _, _], _ => rfl)
  obtain ⟨f_s_init, fd_s_init, F_s_init, b_s_init, a_s_init, j_s_init, k_s_init⟩ := m_s_init.get (ps := ["self", "blocks"]) (fun _ _ _ _ _ _ us hl => match us, hl with | [_, _], _ => rfl)
  obtain ⟨f_s_dlen, fd_s_dlen, F_s_dlen, b_s_dlen, a_s_dlen, j_s_dlen, k_s_dlen⟩ := m_s_dlen.get (ps := ["self"]) (fun _ _ _ _ _ _ us hl => match us, hl with | [_], _ => rfl)
  obtain ⟨f_s_deq, fd_s_deq, F_s_deq, b_s_deq, a_s_deq, j_s_deq, k_s_deq⟩ := m_s_deq.get (ps := ["self", "other"]) (fun _ _ _ _ _ _ us hl => match us, hl with | [_, _], _ => rfl)
  obtain ⟨f_s_block, fd_s_block, F_s_block, b_s_block, a_s_block, j_s_block, k_s_block⟩ := m_s_block.get (ps := ["self", "index"]) (fun _ _ _ _ _ _ us hl => match us, hl with | [_, _], _ => rfl)
  obtain ⟨f_s_missing, fd_s_missing, F_s_missing, b_s_missing, a_s_missing, j_s_missing, k_s_missing⟩ := m_s_missing.get (ps := ["self"]) (fun _ _ _ _ _ _ us hl => match us, hl with | [_], _ => rfl)
  obtain ⟨f_s_with_block, fd_s_with_block, F_s_with_block, b_s_with_block, a_s_with_block, j_s_with_block, k_s_with_block⟩ := m_s_with_block.get (ps := ["self", "index", "values"]) (fun _ _ _ _ _ _ us hl => match us, hl with | [_, _, _], _ => rfl)
  obtain ⟨f_s_sinit, fd_s_sinit, F_s_sinit, b_s_sinit, a_s_sinit, j_s_sinit, k_s_sinit⟩ := m_s_sinit.get (ps := ["self"]) (fun _ _ _ _ _ _ us hl => match us, hl with | [_], _ => rfl)
  obtain ⟨f_s_reduced, fd_s_reduced, F_s_reduced, b_s_reduced, a_s_reduced, j_s_reduced, k_s_reduced⟩ := m_s_reduced.get (ps := ["self", "number", "places"]) (fun _ _ _ _ _ _ us hl => match us, hl with | [_, _, _], _ => rfl)
  obtain ⟨f_s_add, fd_s_add, F_s_add, b_s_add, a_s_add, j_s_add, k_s_add⟩ := m_s_add.get (ps := ["self", "number", "place"]) (fun _ _ _ _ _ _ us hl => match us, hl with | [_, _, _], _ => rfl)
  have DL : C8.Def K mg "law" s_law fa _ := ⟨⟨oc, od, .none, kV, doc, pm, an, cdv, ct, sl, rfl, l_law, c_law⟩, hfa, k_law⟩
  refine ⟨PySem.W.fnOf "law" "law" (C8.fnArgs s_law) (C8.fnBody s_law) (C8.fnScope s_law) .none kV doc pm an cdv ct, fun s v => .of_eq rfl, fun base _ _ => ?_⟩
  have e_bits := c_bits (P := l.prog) (w := w) (base := base) D_byte_bits b_byte_bits T
  have e_excl := c_excl (P := l.prog) (w := w) (base := base) D_exclusive b_exclusive
  have e_step := c_step D_step b_step T e_bits e_excl
  have e_crc := c_crc D_crc b_crc T e_step
  have e_par := c_par D_parity b_parity T e_excl
  have e_isb := c_isb (P := l.prog) (w := w) (base := base) D_is_block b_is_block T
  have e_init := c_init ⟨aC.mks, a_s_init, j_s_init, aC.kc⟩ hC F_s_init b_s_init T TD e_isb
  have e_len := c_dlen (P := l.prog) (w := w) (base := base) ⟨a_s_dlen, j_s_dlen, k_s_dlen⟩ F_s_dlen b_s_dlen T TD
  have e_eq := c_deq (P := l.prog) (w := w) (base := base) ⟨a_s_deq, j_s_deq, k_s_deq⟩ hC IC F_s_deq b_s_deq T TD
  have e_block := c_block (P := l.prog) (w := w) (base := base) ⟨a_s_block, j_s_block, k_s_block⟩ F_s_block b_s_block T TD
  have e_miss := c_missing (P := l.prog) (w := w) (base := base) ⟨a_s_missing, j_s_missing, k_s_missing⟩ F_s_missing b_s_missing T TD
  have e_with := c_with ⟨a_s_with_block, j_s_with_block, k_s_with_block⟩ F_s_with_block b_s_with_block T TD e_init
  have e_isg := c_isg D_is_group b_is_group T e_len
  have e_dem := c_dem D_demand_plan b_demand_plan T e_isg
  have e_mo := c_mo D_missing_of b_missing_of e_block
  have e_holds := c_holds D_holds b_holds T e_dem e_mo e_par e_block
  have e_pw := c_pw D_parity_without b_parity_without e_par e_block
  have e_next := c_next D_next_group b_next_group T e_mo
  have e_mend := c_mend D_mended_by_parity b_mended_by_parity e_dem e_mo e_next e_with e_pw
  have e_brok := c_brok D_broken_groups b_broken_groups T e_dem e_mo e_holds
  have e_wp := c_wp D_with_parity b_with_parity T e_dem e_mo e_par e_block e_with
  have e_wbit := c_wbit (P := l.prog) (w := w) (base := base) D_with_bit b_with_bit T
  have e_cch := c_cch D_crc_change b_crc_change e_excl e_crc e_wbit
  have e_du := c_du (P := l.prog) (w := w) (base := base) D_demand_unknown b_demand_unknown T
  have e_sinit := c_sinit (P := l.prog) (w := w) (base := base) ⟨aS.mks, a_s_sinit, j_s_sinit, aS.kc⟩ hS F_s_sinit b_s_sinit TSp
  have e_red := c_red ⟨a_s_reduced, j_s_reduced, k_s_reduced⟩ F_s_reduced b_s_reduced T TSp e_excl
  have e_add := c_add ⟨a_s_add, j_s_add, k_s_add⟩ F_s_add b_s_add T TSp e_red
  have e_so := c_so D_span_of b_span_of T e_sinit e_wbit e_cch e_add
  have e_sc := c_sc D_solution_count b_solution_count T TSp e_du e_so e_excl e_crc e_red
  have e_sol := c_sol D_solution b_solution T TSp e_sc e_so e_excl e_crc e_red e_wbit
  have e_pool := c_pool (P := l.prog) (w := w) (base := base) D__law_pool b__law_pool T
  have e_spread := c_spread (P := l.prog) (w := w) (base := base) D__law_spread b__law_spread T
  have e_draw := c_draw D__law_draw b__law_draw T e_spread
  have e_qb := c_qb D__law_qblocks b__law_qblocks T e_draw
  have e_sb := c_sb (P := l.prog) (w := w) (base := base) D__law_set_bit b__law_set_bit T
  exact Dw.c_law DL T TD ne mro e_pool e_draw e_qb e_sb e_init e_eq e_block e_miss e_with e_wp e_brok e_mend e_crc e_sc e_sol
theorem walk {l : PySem.W.OpenLaw} {q : Program} {loose : List Str} {XP : (Str → Option Value) → Heap → Prop} {YP : World → Heap → Prop} {d : DefRec} {K : Params → PySem.W.Frag} (hn : l.most = some 63) (hdf : d.params.defaults = [])
    (hY : ∀ (w : World) (h : Heap), YP w h → (K w.params).In h)
    (F : ∀ (w : World) (mg : Str → Option Value) (fa : Addr) (h : Heap), (K w.params).In h → h.Ns mainGlobals mg → mg d.name = some (.ref fa) →
      ∃ fd : FuncData, (∀ (s : Shared) (u : Value), BindsTo s fd ⟨[u], []⟩ [("_law_script", u)]) ∧ ∀ base : Heap, (K w.params).In base → base.Ns mainGlobals mg → FnOk l.prog w (K w.params) mg base C8.CX0 8 fa fd ["_law_script"] (spLaw (K w.params))) :
    PySem.W.WalkO q loose XP YP l.row.toRowW d [] (fun f vs => PySem.call f vs) :=
  L2.walk_of (n := 63) (k := 8) (x := "_law_script") (CX := fun _ => C8.CX0) (sp := fun w => spLaw (K w.params)) hn (by decide) hdf ⟨rfl, by decide, by decide⟩ hY F (fun _ _ a ns hl _ hS => ⟨a, ns, rfl, hS, hl, fun _ => rfl⟩) fun _ _ _ _ _ z => z
end Dw
open PySem PySem.W PyProof.Rows in
set_option maxRecDepth 100000 in
set_option maxHeartbeats 0 in
theorem PySem.Challenge.cw_discwright_k58_whole_parity_gives_true_b_holds : PySem.Challenge.rw_discwright_k58_whole_parity_gives_true_b.Holds := by
  w_on; o_law; k_head; (case hw => w_witness2)
  k_fill
  refine Dw.walk (l := PySem.Challenge.rw_discwright_k58_whole_parity_gives_true_b) rfl rfl (fun w h Y => PySem.W.kIn_of Y) ?F
  case F =>
    intro w mg fa h KX G hmg
    refine' Dw.all_mk KX G hmg ?a_law ?l_law ?c_law ?k_law ?d_byte_bits ?d_exclusive ?d_step ?d_crc ?d_parity ?d_is_group ?d_demand_plan ?d_missing_of ?d_holds ?d_parity_without ?d_mended_by_parity ?d_next_group ?d_broken_groups ?d_with_parity ?d_is_block ?d_with_bit ?d_crc_change ?d_demand_unknown ?d_span_of ?d_solution_count ?d_solution ?d__law_pool ?d__law_spread ?d__law_draw ?d__law_qblocks ?d__law_set_bit ?m_s_init ?m_s_dlen ?m_s_deq ?m_s_block ?m_s_missing ?m_s_with_block ?m_s_sinit ?m_s_reduced ?m_s_add ?aC ?aS ?nS ?nR ?nK ?ne ?mro ?ic ?ig ?it ?z_len ?z_all ?z_zip ?z_list ?z_range ?z_max ?z_sorted ?z_isinst ?z_int ?z_tuple ?z_enumr ?t_wts ?t_pows ?t_sizs ?i_start ?i_mask ?i_word ?i_top ?i_mostB ?i_mostU
    (case a_law => k_is)
    (case l_law => k_is)
    (case c_law => k_is)
    (case k_law => k_is)
    (case aC => refine' ⟨?ns, ?pg, ?hd, ?po, ?sa, ?mk, ?kc⟩; (case ns => k_is); (case pg => k_is); (case hd => k_is); (case po => k_is); (case sa => k_is); (case mk => k_is); (case kc => k_is))
    (case aS => refine' ⟨?ns, ?pg, ?hd, ?po, ?sa, ?mk, ?kc⟩; (case ns => k_is); (case pg => k_is); (case hd => k_is); (case po => k_is); (case sa => k_is); (case mk => k_is); (case kc => k_is))
    (case d_byte_bits => refine' Dw.DefA.of ?a ?l ?c ?k; (case a => k_is); (case l => k_is); (case c => k_is); (case k => k_is))
    (case d_exclusive => refine' Dw.DefA.of ?a ?l ?c ?k; (case a => k_is); (case l => k_is); (case c => k_is); (case k => k_is))
    (case d_step => refine' Dw.DefA.of ?a ?l ?c ?k; (case a => k_is); (case l => k_is); (case c => k_is); (case k => k_is))
    (case d_crc => refine' Dw.DefA.of ?a ?l ?c ?k; (case a => k_is); (case l => k_is); (case c => k_is); (case k => k_is))
    (case d_parity => refine' Dw.DefA.of ?a ?l ?c ?k; (case a => k_is); (case l => k_is); (case c => k_is); (case k => k_is))
    (case d_is_group => refine' Dw.DefA.of ?a ?l ?c ?k; (case a => k_is); (case l => k_is); (case c => k_is); (case k => k_is))
    (case d_demand_plan => refine' Dw.DefA.of ?a ?l ?c ?k; (case a => k_is); (case l => k_is); (case c => k_is); (case k => k_is))
    (case d_missing_of => refine' Dw.DefA.of ?a ?l ?c ?k; (case a => k_is); (case l => k_is); (case c => k_is); (case k => k_is))
    (case d_holds => refine' Dw.DefA.of ?a ?l ?c ?k; (case a => k_is); (case l => k_is); (case c => k_is); (case k => k_is))
    (case d_parity_without => refine' Dw.DefA.of ?a ?l ?c ?k; (case a => k_is); (case l => k_is); (case c => k_is); (case k => k_is))
    (case d_mended_by_parity => refine' Dw.DefA.of ?a ?l ?c ?k; (case a => k_is); (case l => k_is); (case c => k_is); (case k => k_is))
    (case d_next_group => refine' Dw.DefA.of ?a ?l ?c ?k; (case a => k_is); (case l => k_is); (case c => k_is); (case k => k_is))
    (case d_broken_groups => refine' Dw.DefA.of ?a ?l ?c ?k; (case a => k_is); (case l => k_is); (case c => k_is); (case k => k_is))
    (case d_with_parity => refine' Dw.DefA.of ?a ?l ?c ?k; (case a => k_is); (case l => k_is); (case c => k_is); (case k => k_is))
    (case d_is_block => refine' Dw.DefA.of ?a ?l ?c ?k; (case a => k_is); (case l => k_is); (case c => k_is); (case k => k_is))
    (case d_with_bit => refine' Dw.DefA.of ?a ?l ?c ?k; (case a => k_is); (case l => k_is); (case c => k_is); (case k => k_is))
    (case d_crc_change => refine' Dw.DefA.of ?a ?l ?c ?k; (case a => k_is); (case l => k_is); (case c => k_is); (case k => k_is))
    (case d_demand_unknown => refine' Dw.DefA.of ?a ?l ?c ?k; (case a => k_is); (case l => k_is); (case c => k_is); (case k => k_is))
    (case d_span_of => refine' Dw.DefA.of ?a ?l ?c ?k; (case a => k_is); (case l => k_is); (case c => k_is); (case k => k_is))
    (case d_solution_count => refine' Dw.DefA.of ?a ?l ?c ?k; (case a => k_is); (case l => k_is); (case c => k_is); (case k => k_is))
    (case d_solution => refine' Dw.DefA.of ?a ?l ?c ?k; (case a => k_is); (case l => k_is); (case c => k_is); (case k => k_is))
    (case d__law_pool => refine' Dw.DefA.of ?a ?l ?c ?k; (case a => k_is); (case l => k_is); (case c => k_is); (case k => k_is))
    (case d__law_spread => refine' Dw.DefA.of ?a ?l ?c ?k; (case a => k_is); (case l => k_is); (case c => k_is); (case k => k_is))
    (case d__law_draw => refine' Dw.DefA.of ?a ?l ?c ?k; (case a => k_is); (case l => k_is); (case c => k_is); (case k => k_is))
    (case d__law_qblocks => refine' Dw.DefA.of ?a ?l ?c ?k; (case a => k_is); (case l => k_is); (case c => k_is); (case k => k_is))
    (case d__law_set_bit => refine' Dw.DefA.of ?a ?l ?c ?k; (case a => k_is); (case l => k_is); (case c => k_is); (case k => k_is))
    (case m_s_init => refine' Dw.MetA.of ?a ?l ?c ?i ?k; (case a => k_is); (case l => k_is); (case c => k_is); (case i => k_is); (case k => k_is))
    (case m_s_dlen => refine' Dw.MetA.of ?a ?l ?c ?i ?k; (case a => k_is); (case l => k_is); (case c => k_is); (case i => k_is); (case k => k_is))
    (case m_s_deq => refine' Dw.MetA.of ?a ?l ?c ?i ?k; (case a => k_is); (case l => k_is); (case c => k_is); (case i => k_is); (case k => k_is))
    (case m_s_block => refine' Dw.MetA.of ?a ?l ?c ?i ?k; (case a => k_is); (case l => k_is); (case c => k_is); (case i => k_is); (case k => k_is))
    (case m_s_missing => refine' Dw.MetA.of ?a ?l ?c ?i ?k; (case a => k_is); (case l => k_is); (case c => k_is); (case i => k_is); (case k => k_is))
    (case m_s_with_block => refine' Dw.MetA.of ?a ?l ?c ?i ?k; (case a => k_is); (case l => k_is); (case c => k_is); (case i => k_is); (case k => k_is))
    (case m_s_sinit => refine' Dw.MetA.of ?a ?l ?c ?i ?k; (case a => k_is); (case l => k_is); (case c => k_is); (case i => k_is); (case k => k_is))
    (case m_s_reduced => refine' Dw.MetA.of ?a ?l ?c ?i ?k; (case a => k_is); (case l => k_is); (case c => k_is); (case i => k_is); (case k => k_is))
    (case m_s_add => refine' Dw.MetA.of ?a ?l ?c ?i ?k; (case a => k_is); (case l => k_is); (case c => k_is); (case i => k_is); (case k => k_is))
    (case nS => show PySem.W.findIn _ _ _ = _; k_is)
    (case nR => show PySem.W.findIn _ _ _ = _; k_is)
    (case nK => show PySem.W.findIn _ _ _ = _; k_is)
    (case ne => k_is)
    (case mro => k_is)
    (case ic => k_is)
    (case ig => k_is)
    (case it => k_is)
    (case z_len => k_is)
    (case z_all => k_is)
    (case z_zip => k_is)
    (case z_list => k_is)
    (case z_range => k_is)
    (case z_max => k_is)
    (case z_sorted => k_is)
    (case z_isinst => k_is)
    (case z_int => k_is)
    (case z_tuple => k_is)
    (case z_enumr => k_is)
    (case t_wts => refine' Dw.TupA.of ?a ?l ?z ?v; (case a => k_is); (case l => k_is); (case z => decide); (case v => repeat (first | exact .nil | refine .cons ⟨_, rfl⟩ ?_)))
    (case t_pows => refine' Dw.TupA.of ?a ?l ?z ?v; (case a => k_is); (case l => k_is); (case z => decide); (case v => repeat (first | exact .nil | refine .cons ⟨_, rfl⟩ ?_)))
    (case t_sizs => refine' Dw.TupA.of ?a ?l ?z ?v; (case a => k_is); (case l => k_is); (case z => decide); (case v => repeat (first | exact .nil | refine .cons ⟨_, rfl⟩ ?_)))
    (case i_start => k_is)
    (case i_mask => k_is)
    (case i_word => k_is)
    (case i_top => k_is)
    (case i_mostB => k_is)
    (case i_mostU => k_is)
