/-
  Proved: of two lists of bytes the sum of both together is known by theirs, and by how many the second one has. No condition.
-/
import Derived.Test.YtbnpalnmgeahpaaRows
import Derived.Test.YtbnpalnmgeahpaaSumsLaw
import Derived.Test.YtbnpalnmgeahpaaAlive
namespace Go.Proofs.Ytbnpalnmgeahpaa.sumsJoin
open Go.ChangeShapes Go.WideShapes Go.ChangeAt
open Go.RowKit Go.K
attribute [local irreducible] Exit.then Exit.inBlock bodyPost Code.wp Sx Rx Qx Ex Dx Op1 Pure1 Still1 K.Sub Calm SIx RIx Code.wpIn
attribute [local irreducible] onNat
set_option linter.unusedVariables false
theorem join_high (m t x y : Nat) (hx : x = (1 + t) % 65521) : (y + m * (x + 65520)) % 65521 = (y + m * t) % 65521 := by
  subst hx
  obtain ⟨q, hq⟩ : ∃ q, 1 + t = 65521 * q + (1 + t) % 65521 := ⟨(1 + t) / 65521, (Nat.div_add_mod _ _).symm⟩
  generalize (1 + t) % 65521 = r at *
  have h1 : m * (1 + t) = m * (65521 * q + r) := by rw [hq]
  have h2 : m * (65521 * q) = 65521 * (m * q) := Nat.mul_left_comm _ _ _
  simp only [Nat.mul_add, Nat.mul_one, h2] at h1 ⊢
  omega

/-- a fact that is not to be seen -/
structure Hold (p : Prop) : Prop where
  out : p
theorem join_eq (m x : Nat) : (m : Int) * ((x : Int) + 65521 - 1) = ((m * (x + 65520) : Nat) : Int) := by
  have h : (x : Int) + 65521 - 1 = ((x + 65520 : Nat) : Int) := by omega
  rw [h]
  exact (Int.natCast_mul _ _).symm
theorem join_le (m x q : Nat) (hm : m ≤ 20000) (hx : x < 65536) (hq : Hold (m * (x + 65520) = q)) : q ≤ 2621120000 := by
  have hp : m * (x + 65520) ≤ 20000 * 131056 := Nat.mul_le_mul hm (by omega)
  rw [hq.out] at hp
  omega
theorem join_mul (m x q : Nat) (hb : q ≤ 2621120000) (hq : Hold (m * (x + 65520) = q)) : IntKind.u64.wrap ((m : Int) * ((x : Int) + 65521 - 1)) = (q : Int) := by
  have he := join_eq m x
  rw [hq.out] at he
  rw [he]
  exact w_in_u64 (by omega)

theorem join_low {X Y Z S T : Nat} (l1 : X = (1 + S) % 65521) (l2 : Y = (1 + T) % 65521) (l3 : Z = (1 + (S + T)) % 65521) : (Z : Int) = (((X + Y : Nat) : Int) + 65521 - 1) % 65521 := by omega
theorem join_high2 {X Y Z m n U V p q : Nat} (g1 : X = (m + U) % 65521) (g2 : Y = (n + V) % 65521) (g3 : Z = (m + n + (U + p + V)) % 65521) (h : (X + Y + q) % 65521 = (X + Y + p) % 65521) : Z = (X + Y + q) % 65521 := by omega

theorem of_X {X : Nat} (A : Option Addr) (n c : Nat) (xs : List UInt8) (hX : Hold (onNat 1 xs = X)) (w : World) (hl : xs.length = n) (hrd : Reads w A n (bytesV xs)) (hnc : n ≤ c) (hcm : c ≤ maxLen) :
    Calls Try.prog 13 [.slice A n c].toArray w fun e w' => e = .returned (.int .u32 (X : Int)) ∧ Below w.heap.size w w' := by
  have h := hX.out
  subst h
  exact of_any A n c xs w hl hrd hnc hcm
theorem on_X {S X : Nat} (hs : S < 4294967296) (A : Option Addr) (n c : Nat) (xs : List UInt8) (hX : Hold (onNat S xs = X)) (w : World) (hl : xs.length = n) (hrd : Reads w A n (bytesV xs)) (hnc : n ≤ c) (hcm : c ≤ maxLen) :
    Calls Try.prog 15 [.int .u32 (S : Int), .slice A n c].toArray w fun e w' => e = .returned (.int .u32 (X : Int)) ∧ Below w.heap.size w w' := by
  have h := hX.out
  subst h
  exact on_any S hs A n c xs w hl hrd hnc hcm
theorem join_facts (xs ys : List UInt8) (h1 : ys.length ≤ 20000) : ∃ X Y Z q : Nat, Hold (onNat 1 xs = X) ∧ Hold (onNat 1 ys = Y) ∧ Hold (onNat 1 (xs ++ ys) = Z) ∧ Hold (onNat X ys = Z) ∧ Hold (ys.length * (X % 65536 + 65520) = q) ∧ q ≤ 2621120000 ∧ X < 4294967296 ∧ Y < 4294967296 ∧ Z < 4294967296 ∧
    Hold ((((Z % 65536 : Nat) : Int) == (((X % 65536 + Y % 65536 : Nat) : Int) + 65521 - 1) % 65521) = true) ∧ Hold ((((Z / 65536 : Nat) : Int) == (((X / 65536 + Y / 65536 + q) % 65521 : Nat) : Int)) = true) := by
  have l1 := of_low xs
  have g1 := of_high xs
  have l2 := of_low ys
  have g2 := of_high ys
  have l3 := of_low (xs ++ ys)
  have g3 := of_high (xs ++ ys)
  have hjh := join_high ys.length (allB xs) (onNat 1 xs % 65536) (onNat 1 xs / 65536 + onNat 1 ys / 65536) l1
  rw [allB_append] at l3
  rw [allW_append, List.length_append] at g3
  have hq : Hold (ys.length * (onNat 1 xs % 65536 + 65520) = ys.length * (onNat 1 xs % 65536 + 65520)) := ⟨rfl⟩
  exact ⟨onNat 1 xs, onNat 1 ys, onNat 1 (xs ++ ys), _, ⟨rfl⟩, ⟨rfl⟩, ⟨rfl⟩, ⟨(on_join xs ys).symm⟩, hq, join_le _ _ _ h1 (Nat.mod_lt _ (by omega)) hq, on_lt 1 xs, on_lt 1 ys, on_lt 1 (xs ++ ys), ⟨beq_iff_eq.2 (join_low l1 l2 l3)⟩, ⟨beq_iff_eq.2 (congrArg Nat.cast (join_high2 g1 g2 g3 hjh))⟩⟩

set_option maxHeartbeats 4000000 in
theorem walk (w : World) (A : Option Addr) (c : Nat) (xs : List UInt8) (hrd : Reads w A xs.length (bytesV xs)) (hnc : xs.length ≤ c) (hcm : c ≤ maxLen)
    (A2 : Option Addr) (c2 : Nat) (ys : List UInt8) (hrd2 : Reads w A2 ys.length (bytesV ys)) (hnc2 : ys.length ≤ c2) (hcm2 : c2 ≤ maxLen) :
    Calls Try.prog 9 [.slice A xs.length c, .slice A2 ys.length c2].toArray w fun e w' => e = .returned (.bool true) ∧ Below w.heap.size w w' := by
  have hcm' := hcm
  unfold maxLen at hcm'
  refine enter Try.func9 rfl Try.ntmps9 (by simp) ?_
  rcases (show 20000 < xs.length ∨ (xs.length ≤ 20000 ∧ 20000 < ys.length) ∨ (xs.length ≤ 20000 ∧ ys.length ≤ 20000) by omega) with h0 | ⟨h0, h1⟩ | ⟨h0, h1⟩
  · repeat (first | refine S_yes rfl rfl ?_ | refine S_no rfl rfl ?_ | refine S_seq ?_ | refine E_seq ?_ | refine S_block ?_ | refine E_block_normal ?_ | refine S_skip ?_ | refine S_exit ?_ | refine S_ret ?_ | refine E_then_exit ?_ | refine E_then_ret ?_ | refine E_block_ret ?_ | refine E_block_exit ?_ | refine E_block_exit_other rfl ?_)
    refine S_region ?_
    refine R_cons rfl (op_pure (p_assign rfl) rfl ?_)
    refine R_nil ?_
    repeat (first | refine S_yes rfl rfl ?_ | refine S_no rfl rfl ?_ | refine S_seq ?_ | refine E_seq ?_ | refine S_block ?_ | refine E_block_normal ?_ | refine S_skip ?_ | refine S_exit ?_ | refine S_ret ?_ | refine E_then_exit ?_ | refine E_then_ret ?_ | refine E_block_ret ?_ | refine E_block_exit ?_ | refine E_block_exit_other rfl ?_)
    refine S_region ?_
    refine R_cons rfl (op_pure (p_move rfl) rfl ?_)
    refine R_cons rfl (op_pure (p_len rfl slc_u8s) rfl ?_)
    refine R_cons rfl (op_pure (p_bin rfl rfl (b_gtr (by first | assumption | exact decide_eq_true (by omega) | exact decide_eq_false (by omega) | rfl))) rfl ?_)
    refine R_cons rfl (op_pure (p_move rfl) rfl ?_)
    first | refine R_pass rfl rfl rfl rfl ?_ | refine R_pass_undef rfl rfl rfl ?_ | refine R_guard rfl rfl rfl (op_pure (p_move rfl) rfl ?_)
    first | refine R_pass rfl rfl rfl rfl ?_ | refine R_pass_undef rfl rfl rfl ?_ | refine R_guard rfl rfl rfl (op_pure (p_len rfl slc_u8s) rfl ?_)
    first | refine R_pass rfl rfl rfl rfl ?_ | refine R_pass_undef rfl rfl rfl ?_ | refine R_guard rfl rfl rfl (op_pure (p_bin rfl rfl (b_gtr (by first | assumption | exact decide_eq_true (by omega) | exact decide_eq_false (by omega) | rfl))) rfl ?_)
    refine R_cons rfl (op_pure (by first | exact p_pick_yes rfl rfl | exact p_pick_no rfl rfl | exact p_pick rfl rfl rfl) rfl ?_)
    refine R_nil ?_
    repeat (first | refine S_yes rfl rfl ?_ | refine S_no rfl rfl ?_ | refine S_seq ?_ | refine E_seq ?_ | refine S_block ?_ | refine E_block_normal ?_ | refine S_skip ?_ | refine S_exit ?_ | refine S_ret ?_ | refine E_then_exit ?_ | refine E_then_ret ?_ | refine E_block_ret ?_ | refine E_block_exit ?_ | refine E_block_exit_other rfl ?_)
    refine S_region ?_
    refine R_cons rfl (op_callV rfl rfl Try.func18 rfl (by kernel_rfl) rfl (Nat.le_refl _) (fun w' _ => alive4 w') ?_)
    refine R_cons rfl (op_pure (p_assign rfl) rfl ?_)
    refine R_nil ?_
    repeat (first | refine S_yes rfl rfl ?_ | refine S_no rfl rfl ?_ | refine S_seq ?_ | refine E_seq ?_ | refine S_block ?_ | refine E_block_normal ?_ | refine S_skip ?_ | refine S_exit ?_ | refine S_ret ?_ | refine E_then_exit ?_ | refine E_then_ret ?_ | refine E_block_ret ?_ | refine E_block_exit ?_ | refine E_block_exit_other rfl ?_)
    exact E_ret1 rfl rfl fun w' hm => ⟨rfl, hm.below⟩
  · repeat (first | refine S_yes rfl rfl ?_ | refine S_no rfl rfl ?_ | refine S_seq ?_ | refine E_seq ?_ | refine S_block ?_ | refine E_block_normal ?_ | refine S_skip ?_ | refine S_exit ?_ | refine S_ret ?_ | refine E_then_exit ?_ | refine E_then_ret ?_ | refine E_block_ret ?_ | refine E_block_exit ?_ | refine E_block_exit_other rfl ?_)
    refine S_region ?_
    refine R_cons rfl (op_pure (p_assign rfl) rfl ?_)
    refine R_nil ?_
    repeat (first | refine S_yes rfl rfl ?_ | refine S_no rfl rfl ?_ | refine S_seq ?_ | refine E_seq ?_ | refine S_block ?_ | refine E_block_normal ?_ | refine S_skip ?_ | refine S_exit ?_ | refine S_ret ?_ | refine E_then_exit ?_ | refine E_then_ret ?_ | refine E_block_ret ?_ | refine E_block_exit ?_ | refine E_block_exit_other rfl ?_)
    refine S_region ?_
    refine R_cons rfl (op_pure (p_move rfl) rfl ?_)
    refine R_cons rfl (op_pure (p_len rfl slc_u8s) rfl ?_)
    refine R_cons rfl (op_pure (p_bin rfl rfl (b_gtr (by first | assumption | exact decide_eq_true (by omega) | exact decide_eq_false (by omega) | rfl))) rfl ?_)
    refine R_cons rfl (op_pure (p_move rfl) rfl ?_)
    first | refine R_pass rfl rfl rfl rfl ?_ | refine R_pass_undef rfl rfl rfl ?_ | refine R_guard rfl rfl rfl (op_pure (p_move rfl) rfl ?_)
    first | refine R_pass rfl rfl rfl rfl ?_ | refine R_pass_undef rfl rfl rfl ?_ | refine R_guard rfl rfl rfl (op_pure (p_len rfl slc_u8s) rfl ?_)
    first | refine R_pass rfl rfl rfl rfl ?_ | refine R_pass_undef rfl rfl rfl ?_ | refine R_guard rfl rfl rfl (op_pure (p_bin rfl rfl (b_gtr (by first | assumption | exact decide_eq_true (by omega) | exact decide_eq_false (by omega) | rfl))) rfl ?_)
    refine R_cons rfl (op_pure (by first | exact p_pick_yes rfl rfl | exact p_pick_no rfl rfl | exact p_pick rfl rfl rfl) rfl ?_)
    refine R_nil ?_
    repeat (first | refine S_yes rfl rfl ?_ | refine S_no rfl rfl ?_ | refine S_seq ?_ | refine E_seq ?_ | refine S_block ?_ | refine E_block_normal ?_ | refine S_skip ?_ | refine S_exit ?_ | refine S_ret ?_ | refine E_then_exit ?_ | refine E_then_ret ?_ | refine E_block_ret ?_ | refine E_block_exit ?_ | refine E_block_exit_other rfl ?_)
    refine S_region ?_
    refine R_cons rfl (op_callV rfl rfl Try.func18 rfl (by kernel_rfl) rfl (Nat.le_refl _) (fun w' _ => alive4 w') ?_)
    refine R_cons rfl (op_pure (p_assign rfl) rfl ?_)
    refine R_nil ?_
    repeat (first | refine S_yes rfl rfl ?_ | refine S_no rfl rfl ?_ | refine S_seq ?_ | refine E_seq ?_ | refine S_block ?_ | refine E_block_normal ?_ | refine S_skip ?_ | refine S_exit ?_ | refine S_ret ?_ | refine E_then_exit ?_ | refine E_then_ret ?_ | refine E_block_ret ?_ | refine E_block_exit ?_ | refine E_block_exit_other rfl ?_)
    exact E_ret1 rfl rfl fun w' hm => ⟨rfl, hm.below⟩
  · obtain ⟨X, Y, Z, q, hX, hY, hZ, hZ2, hq, hqb, t1, t2, t3, hlow, hhigh⟩ := join_facts xs ys h1
    repeat (first | refine S_yes rfl rfl ?_ | refine S_no rfl rfl ?_ | refine S_seq ?_ | refine E_seq ?_ | refine S_block ?_ | refine E_block_normal ?_ | refine S_skip ?_ | refine S_exit ?_ | refine S_ret ?_ | refine E_then_exit ?_ | refine E_then_ret ?_ | refine E_block_ret ?_ | refine E_block_exit ?_ | refine E_block_exit_other rfl ?_)
    refine S_region ?_
    refine R_cons rfl (op_pure (p_assign rfl) rfl ?_)
    refine R_nil ?_
    repeat (first | refine S_yes rfl rfl ?_ | refine S_no rfl rfl ?_ | refine S_seq ?_ | refine E_seq ?_ | refine S_block ?_ | refine E_block_normal ?_ | refine S_skip ?_ | refine S_exit ?_ | refine S_ret ?_ | refine E_then_exit ?_ | refine E_then_ret ?_ | refine E_block_ret ?_ | refine E_block_exit ?_ | refine E_block_exit_other rfl ?_)
    refine S_region ?_
    refine R_cons rfl (op_pure (p_move rfl) rfl ?_)
    refine R_cons rfl (op_pure (p_len rfl slc_u8s) rfl ?_)
    refine R_cons rfl (op_pure (p_bin rfl rfl (b_gtr (by first | assumption | exact decide_eq_true (by omega) | exact decide_eq_false (by omega) | rfl))) rfl ?_)
    refine R_cons rfl (op_pure (p_move rfl) rfl ?_)
    first | refine R_pass rfl rfl rfl rfl ?_ | refine R_pass_undef rfl rfl rfl ?_ | refine R_guard rfl rfl rfl (op_pure (p_move rfl) rfl ?_)
    first | refine R_pass rfl rfl rfl rfl ?_ | refine R_pass_undef rfl rfl rfl ?_ | refine R_guard rfl rfl rfl (op_pure (p_len rfl slc_u8s) rfl ?_)
    first | refine R_pass rfl rfl rfl rfl ?_ | refine R_pass_undef rfl rfl rfl ?_ | refine R_guard rfl rfl rfl (op_pure (p_bin rfl rfl (b_gtr (by first | assumption | exact decide_eq_true (by omega) | exact decide_eq_false (by omega) | rfl))) rfl ?_)
    refine R_cons rfl (op_pure (by first | exact p_pick_yes rfl rfl | exact p_pick_no rfl rfl | exact p_pick rfl rfl rfl) rfl ?_)
    refine R_nil ?_
    repeat (first | refine S_yes rfl rfl ?_ | refine S_no rfl rfl ?_ | refine S_seq ?_ | refine E_seq ?_ | refine S_block ?_ | refine E_block_normal ?_ | refine S_skip ?_ | refine S_exit ?_ | refine S_ret ?_ | refine E_then_exit ?_ | refine E_then_ret ?_ | refine E_block_ret ?_ | refine E_block_exit ?_ | refine E_block_exit_other rfl ?_)
    refine S_region ?_
    refine R_cons rfl (op_pure (p_move rfl) rfl ?_)
    refine R_cons rfl (op_callV rfl rfl Try.func13 rfl (by kernel_rfl) rfl (Nat.le_refl _) (fun w' hm => of_X A xs.length c xs hX w' rfl (hrd.base hm) hnc hcm) ?_)
    refine R_cons rfl (op_pure (p_convert rfl sc_u32 ik_u64 (w_in_u64 (n := ((X : Nat) : Int)) ⟨by omega, by omega⟩)) rfl ?_)
    refine R_cons rfl (op_pure (p_assign rfl) rfl ?_)
    refine R_nil ?_
    repeat (first | refine S_yes rfl rfl ?_ | refine S_no rfl rfl ?_ | refine S_seq ?_ | refine E_seq ?_ | refine S_block ?_ | refine E_block_normal ?_ | refine S_skip ?_ | refine S_exit ?_ | refine S_ret ?_ | refine E_then_exit ?_ | refine E_then_ret ?_ | refine E_block_ret ?_ | refine E_block_exit ?_ | refine E_block_exit_other rfl ?_)
    refine S_region ?_
    refine R_cons rfl (op_pure (p_move rfl) rfl ?_)
    refine R_cons rfl (op_callV rfl rfl Try.func13 rfl (by kernel_rfl) rfl (Nat.le_refl _) (fun w' hm => of_X A2 ys.length c2 ys hY w' rfl (hrd2.base hm) hnc2 hcm2) ?_)
    refine R_cons rfl (op_pure (p_convert rfl sc_u32 ik_u64 (w_in_u64 (n := ((Y : Nat) : Int)) ⟨by omega, by omega⟩)) rfl ?_)
    refine R_cons rfl (op_pure (p_assign rfl) rfl ?_)
    refine R_nil ?_
    repeat (first | refine S_yes rfl rfl ?_ | refine S_no rfl rfl ?_ | refine S_seq ?_ | refine E_seq ?_ | refine S_block ?_ | refine E_block_normal ?_ | refine S_skip ?_ | refine S_exit ?_ | refine S_ret ?_ | refine E_then_exit ?_ | refine E_then_ret ?_ | refine E_block_ret ?_ | refine E_block_exit ?_ | refine E_block_exit_other rfl ?_)
    refine S_region ?_
    refine R_cons rfl (op_pure (p_move rfl) rfl ?_)
    refine R_cons rfl (op_appendNil (news := bytesV xs) rfl rfl slc_u8s.1 el_u8 (fun w hm => hrd.base hm) (by first | exact bytesV_one _ | exact wordsV_one _ | (repeat (first | exact ones_nil | refine ones_cons rfl ?_))) (by unfold maxLen; omega) (by omega) rfl (Nat.le_refl _) (fun hz => ?_) (fun g cap sp hne hlen hcm3 => ?_))
    · obtain rfl : xs = [] := List.eq_nil_of_length_eq_zero hz
      refine R_cons rfl (op_pure (p_move rfl) rfl ?_)
      refine R_cons rfl (op_appendNil (news := bytesV ys) rfl rfl slc_u8s.1 el_u8 (fun w hm => hrd2.base hm) (by first | exact bytesV_one _ | exact wordsV_one _ | (repeat (first | exact ones_nil | refine ones_cons rfl ?_))) (by unfold maxLen; omega) (by omega) rfl (Nat.le_refl _) (fun hz2 => ?_) (fun g cap sp hne hlen hcm3 => ?_))
      · obtain rfl : ys = [] := List.eq_nil_of_length_eq_zero hz2
        refine R_cons rfl (op_callV rfl rfl Try.func13 rfl (by kernel_rfl) rfl (Nat.le_refl _) (fun w' hm => of_X none 0 0 [] hZ w' rfl (Reads.nil _) (Nat.le_refl _) (Nat.zero_le _)) ?_)
        refine R_cons rfl (op_pure (p_assign rfl) rfl ?_)
        refine R_nil ?_
        repeat (first | refine S_yes rfl rfl ?_ | refine S_no rfl rfl ?_ | refine S_seq ?_ | refine E_seq ?_ | refine S_block ?_ | refine E_block_normal ?_ | refine S_skip ?_ | refine S_exit ?_ | refine S_ret ?_ | refine E_then_exit ?_ | refine E_then_ret ?_ | refine E_block_ret ?_ | refine E_block_exit ?_ | refine E_block_exit_other rfl ?_)
        refine S_region ?_
        refine R_cons rfl (op_pure (p_move rfl) rfl ?_)
        refine R_cons rfl (op_pure (by first | exact p_bin rfl rfl (b_rem (by decide) (nat_rem _ 65536)) | exact p_bin rfl rfl (b_rem (by decide) (int_rem (by omega)))) rfl ?_)
        refine R_cons rfl (op_pure (p_move rfl) rfl ?_)
        refine R_cons rfl (op_pure (by first | exact p_bin rfl rfl (b_rem (by decide) (nat_rem _ 65536)) | exact p_bin rfl rfl (b_rem (by decide) (int_rem (by omega)))) rfl ?_)
        refine R_cons rfl (op_pure (by first | exact p_bin rfl rfl (b_add (nat_add_u64 (by omega))) | exact p_bin rfl rfl (b_add (w_in_u64 (by omega)))) rfl ?_)
        refine R_cons rfl (op_pure (by exact p_bin rfl rfl (b_add (w_in_u64 (by omega)))) rfl ?_)
        refine R_cons rfl (op_pure (by exact p_bin rfl rfl (b_sub (w_in_u64 (by omega)))) rfl ?_)
        refine R_cons rfl (op_pure (by exact p_bin rfl rfl (b_rem (by decide) (int_rem (by omega)))) rfl ?_)
        refine R_cons rfl (op_pure (p_assign rfl) rfl ?_)
        refine R_nil ?_
        repeat (first | refine S_yes rfl rfl ?_ | refine S_no rfl rfl ?_ | refine S_seq ?_ | refine E_seq ?_ | refine S_block ?_ | refine E_block_normal ?_ | refine S_skip ?_ | refine S_exit ?_ | refine S_ret ?_ | refine E_then_exit ?_ | refine E_then_ret ?_ | refine E_block_ret ?_ | refine E_block_exit ?_ | refine E_block_exit_other rfl ?_)
        refine S_region ?_
        refine R_cons rfl (op_pure (p_move rfl) rfl ?_)
        refine R_cons rfl (op_pure (by exact p_bin rfl rfl (b_quo (by decide) (nat_quo_u64 _ 65536 (by omega)))) rfl ?_)
        refine R_cons rfl (op_pure (p_move rfl) rfl ?_)
        refine R_cons rfl (op_pure (by exact p_bin rfl rfl (b_quo (by decide) (nat_quo_u64 _ 65536 (by omega)))) rfl ?_)
        refine R_cons rfl (op_pure (by first | exact p_bin rfl rfl (b_add (nat_add_u64 (by omega))) | exact p_bin rfl rfl (b_add (w_in_u64 (by omega)))) rfl ?_)
        refine R_cons rfl (op_pure (p_move rfl) rfl ?_)
        refine R_cons rfl (op_pure (p_len rfl slc_u8s) rfl ?_)
        refine R_cons rfl (op_pure (by exact p_convert rfl sc_int ik_u64 (by first | exact w8_i64 _ | exact w8_u64 _ | exact w8_u32n _ | exact w32_u64 _ | exact w32_i64 _ | exact w_in_i64 (by omega) | exact w_in_u64 (by omega) | exact w_in_u32 (by omega))) rfl ?_)
        refine R_cons rfl (op_pure (p_move rfl) rfl ?_)
        refine R_cons rfl (op_pure (by first | exact p_bin rfl rfl (b_rem (by decide) (nat_rem _ 65536)) | exact p_bin rfl rfl (b_rem (by decide) (int_rem (by omega)))) rfl ?_)
        refine R_cons rfl (op_pure (by exact p_bin rfl rfl (b_add (w_in_u64 (by omega)))) rfl ?_)
        refine R_cons rfl (op_pure (by exact p_bin rfl rfl (b_sub (w_in_u64 (by omega)))) rfl ?_)
        refine R_cons rfl (op_pure (by exact p_bin rfl rfl (b_mul (join_mul _ (X % 65536) q hqb hq))) rfl ?_)
        refine R_cons rfl (op_pure (by first | exact p_bin rfl rfl (b_add (nat_add_u64 (by omega))) | exact p_bin rfl rfl (b_add (w_in_u64 (by omega)))) rfl ?_)
        refine R_cons rfl (op_pure (by first | exact p_bin rfl rfl (b_rem (by decide) (nat_rem _ 65521)) | exact p_bin rfl rfl (b_rem (by decide) (int_rem (by omega)))) rfl ?_)
        refine R_cons rfl (op_pure (p_assign rfl) rfl ?_)
        refine R_nil ?_
        repeat (first | refine S_yes rfl rfl ?_ | refine S_no rfl rfl ?_ | refine S_seq ?_ | refine E_seq ?_ | refine S_block ?_ | refine E_block_normal ?_ | refine S_skip ?_ | refine S_exit ?_ | refine S_ret ?_ | refine E_then_exit ?_ | refine E_then_ret ?_ | refine E_block_ret ?_ | refine E_block_exit ?_ | refine E_block_exit_other rfl ?_)
        refine S_region ?_
        refine R_cons rfl (op_callV rfl rfl Try.func18 rfl (by kernel_rfl) rfl (Nat.le_refl _) (fun w' _ => alive4 w') ?_)
        refine R_cons rfl (op_pure (p_move rfl) rfl ?_)
        first | refine R_pass rfl rfl rfl rfl ?_ | refine R_pass_undef rfl rfl rfl ?_ | refine R_guard rfl rfl rfl (op_pure (p_move rfl) rfl ?_)
        first | refine R_pass rfl rfl rfl rfl ?_ | refine R_pass_undef rfl rfl rfl ?_ | refine R_guard rfl rfl rfl (op_pure (by first | exact p_bin rfl rfl (b_rem (by decide) (nat_rem _ 65536)) | exact p_bin rfl rfl (b_rem (by decide) (int_rem (by omega)))) rfl ?_)
        first | refine R_pass rfl rfl rfl rfl ?_ | refine R_pass_undef rfl rfl rfl ?_ | refine R_guard rfl rfl rfl (op_pure (by exact p_convert rfl sc_u32 ik_u64 (by first | exact w8_i64 _ | exact w8_u64 _ | exact w8_u32n _ | exact w32_u64 _ | exact w32_i64 _ | exact w_in_i64 (by omega) | exact w_in_u64 (by omega) | exact w_in_u32 (by omega))) rfl ?_)
        first | refine R_pass rfl rfl rfl rfl ?_ | refine R_pass_undef rfl rfl rfl ?_ | refine R_guard rfl rfl rfl (op_pure (p_move rfl) rfl ?_)
        first | refine R_pass rfl rfl rfl rfl ?_ | refine R_pass_undef rfl rfl rfl ?_ | refine R_guard rfl rfl rfl (op_pure (p_bin rfl rfl (b_eql hlow.out)) rfl ?_)
        refine R_cons rfl (op_pure (by first | exact p_pick_yes rfl rfl | exact p_pick_no rfl rfl | exact p_pick rfl rfl rfl) rfl ?_)
        refine R_cons rfl (op_pure (p_move rfl) rfl ?_)
        first | refine R_pass rfl rfl rfl rfl ?_ | refine R_pass_undef rfl rfl rfl ?_ | refine R_guard rfl rfl rfl (op_pure (p_move rfl) rfl ?_)
        first | refine R_pass rfl rfl rfl rfl ?_ | refine R_pass_undef rfl rfl rfl ?_ | refine R_guard rfl rfl rfl (op_pure (by exact p_bin rfl rfl (b_quo (by decide) (nat_quo_u32 _ 65536 (by omega)))) rfl ?_)
        first | refine R_pass rfl rfl rfl rfl ?_ | refine R_pass_undef rfl rfl rfl ?_ | refine R_guard rfl rfl rfl (op_pure (by exact p_convert rfl sc_u32 ik_u64 (by first | exact w8_i64 _ | exact w8_u64 _ | exact w8_u32n _ | exact w32_u64 _ | exact w32_i64 _ | exact w_in_i64 (by omega) | exact w_in_u64 (by omega) | exact w_in_u32 (by omega))) rfl ?_)
        first | refine R_pass rfl rfl rfl rfl ?_ | refine R_pass_undef rfl rfl rfl ?_ | refine R_guard rfl rfl rfl (op_pure (p_move rfl) rfl ?_)
        first | refine R_pass rfl rfl rfl rfl ?_ | refine R_pass_undef rfl rfl rfl ?_ | refine R_guard rfl rfl rfl (op_pure (p_bin rfl rfl (b_eql hhigh.out)) rfl ?_)
        refine R_cons rfl (op_pure (by first | exact p_pick_yes rfl rfl | exact p_pick_no rfl rfl | exact p_pick rfl rfl rfl) rfl ?_)
        refine R_cons rfl (op_pure (p_move rfl) rfl ?_)
        first | refine R_pass rfl rfl rfl rfl ?_ | refine R_pass_undef rfl rfl rfl ?_ | refine R_guard rfl rfl rfl (op_pure (p_move rfl) rfl ?_)
        first | refine R_pass rfl rfl rfl rfl ?_ | refine R_pass_undef rfl rfl rfl ?_ | refine R_guard rfl rfl rfl (op_pure (p_move rfl) rfl ?_)
        first | refine R_pass rfl rfl rfl rfl ?_ | refine R_pass_undef rfl rfl rfl ?_ | refine R_guard rfl rfl rfl (op_callV rfl rfl Try.func13 rfl (by kernel_rfl) rfl (Nat.le_refl _) (fun w' hm => of_X A 0 c [] hX w' rfl (hrd.base hm) hnc hcm) ?_)
        first | refine R_pass rfl rfl rfl rfl ?_ | refine R_pass_undef rfl rfl rfl ?_ | refine R_guard rfl rfl rfl (op_pure (p_move rfl) rfl ?_)
        first | refine R_pass rfl rfl rfl rfl ?_ | refine R_pass_undef rfl rfl rfl ?_ | refine R_guard rfl rfl rfl (op_callV rfl rfl Try.func15 rfl (by kernel_rfl) rfl (Nat.le_refl _) (fun w' hm => on_X t1 A2 0 c2 [] hZ2 w' rfl (hrd2.base hm) hnc2 hcm2) ?_)
        first | refine R_pass rfl rfl rfl rfl ?_ | refine R_pass_undef rfl rfl rfl ?_ | refine R_guard rfl rfl rfl (op_pure (p_bin rfl rfl (b_eql (by first | assumption | exact beq_iff_eq.2 (by omega) | exact beq_eq_false_iff_ne.2 (by omega) | rfl))) rfl ?_)
        refine R_cons rfl (op_pure (by first | exact p_pick_yes rfl rfl | exact p_pick_no rfl rfl | exact p_pick rfl rfl rfl) rfl ?_)
        refine R_cons rfl (op_pure (p_assign rfl) rfl ?_)
        refine R_nil ?_
        repeat (first | refine S_yes rfl rfl ?_ | refine S_no rfl rfl ?_ | refine S_seq ?_ | refine E_seq ?_ | refine S_block ?_ | refine E_block_normal ?_ | refine S_skip ?_ | refine S_exit ?_ | refine S_ret ?_ | refine E_then_exit ?_ | refine E_then_ret ?_ | refine E_block_ret ?_ | refine E_block_exit ?_ | refine E_block_exit_other rfl ?_)
        exact E_ret1 rfl rfl fun w' hm => ⟨rfl, hm.below⟩
      · have hyl := bytesV_length ys
        have hcap : ys.length ≤ cap := by simp only [List.length_append] at hlen; omega
        have hpre : ((bytesV ys ++ sp).drop 0).take ys.length = bytesV ys := by rw [List.drop_zero, ← hyl, List.take_left]
        refine R_cons rfl (op_callV rfl rfl Try.func13 rfl (by kernel_rfl) rfl (Nat.le_refl _) (fun w' hm => of_X _ ys.length cap ([] ++ ys) hZ w' rfl (hm.reads (by repeat (first | exact List.Mem.head _ | apply List.Mem.tail)) hpre (by simp only [List.length_append]; omega)) hcap hcm3) ?_)
        refine R_cons rfl (op_pure (p_assign rfl) rfl ?_)
        refine R_nil ?_
        repeat (first | refine S_yes rfl rfl ?_ | refine S_no rfl rfl ?_ | refine S_seq ?_ | refine E_seq ?_ | refine S_block ?_ | refine E_block_normal ?_ | refine S_skip ?_ | refine S_exit ?_ | refine S_ret ?_ | refine E_then_exit ?_ | refine E_then_ret ?_ | refine E_block_ret ?_ | refine E_block_exit ?_ | refine E_block_exit_other rfl ?_)
        refine S_region ?_
        refine R_cons rfl (op_pure (p_move rfl) rfl ?_)
        refine R_cons rfl (op_pure (by first | exact p_bin rfl rfl (b_rem (by decide) (nat_rem _ 65536)) | exact p_bin rfl rfl (b_rem (by decide) (int_rem (by omega)))) rfl ?_)
        refine R_cons rfl (op_pure (p_move rfl) rfl ?_)
        refine R_cons rfl (op_pure (by first | exact p_bin rfl rfl (b_rem (by decide) (nat_rem _ 65536)) | exact p_bin rfl rfl (b_rem (by decide) (int_rem (by omega)))) rfl ?_)
        refine R_cons rfl (op_pure (by first | exact p_bin rfl rfl (b_add (nat_add_u64 (by omega))) | exact p_bin rfl rfl (b_add (w_in_u64 (by omega)))) rfl ?_)
        refine R_cons rfl (op_pure (by exact p_bin rfl rfl (b_add (w_in_u64 (by omega)))) rfl ?_)
        refine R_cons rfl (op_pure (by exact p_bin rfl rfl (b_sub (w_in_u64 (by omega)))) rfl ?_)
        refine R_cons rfl (op_pure (by exact p_bin rfl rfl (b_rem (by decide) (int_rem (by omega)))) rfl ?_)
        refine R_cons rfl (op_pure (p_assign rfl) rfl ?_)
        refine R_nil ?_
        repeat (first | refine S_yes rfl rfl ?_ | refine S_no rfl rfl ?_ | refine S_seq ?_ | refine E_seq ?_ | refine S_block ?_ | refine E_block_normal ?_ | refine S_skip ?_ | refine S_exit ?_ | refine S_ret ?_ | refine E_then_exit ?_ | refine E_then_ret ?_ | refine E_block_ret ?_ | refine E_block_exit ?_ | refine E_block_exit_other rfl ?_)
        refine S_region ?_
        refine R_cons rfl (op_pure (p_move rfl) rfl ?_)
        refine R_cons rfl (op_pure (by exact p_bin rfl rfl (b_quo (by decide) (nat_quo_u64 _ 65536 (by omega)))) rfl ?_)
        refine R_cons rfl (op_pure (p_move rfl) rfl ?_)
        refine R_cons rfl (op_pure (by exact p_bin rfl rfl (b_quo (by decide) (nat_quo_u64 _ 65536 (by omega)))) rfl ?_)
        refine R_cons rfl (op_pure (by first | exact p_bin rfl rfl (b_add (nat_add_u64 (by omega))) | exact p_bin rfl rfl (b_add (w_in_u64 (by omega)))) rfl ?_)
        refine R_cons rfl (op_pure (p_move rfl) rfl ?_)
        refine R_cons rfl (op_pure (p_len rfl slc_u8s) rfl ?_)
        refine R_cons rfl (op_pure (by exact p_convert rfl sc_int ik_u64 (by first | exact w8_i64 _ | exact w8_u64 _ | exact w8_u32n _ | exact w32_u64 _ | exact w32_i64 _ | exact w_in_i64 (by omega) | exact w_in_u64 (by omega) | exact w_in_u32 (by omega))) rfl ?_)
        refine R_cons rfl (op_pure (p_move rfl) rfl ?_)
        refine R_cons rfl (op_pure (by first | exact p_bin rfl rfl (b_rem (by decide) (nat_rem _ 65536)) | exact p_bin rfl rfl (b_rem (by decide) (int_rem (by omega)))) rfl ?_)
        refine R_cons rfl (op_pure (by exact p_bin rfl rfl (b_add (w_in_u64 (by omega)))) rfl ?_)
        refine R_cons rfl (op_pure (by exact p_bin rfl rfl (b_sub (w_in_u64 (by omega)))) rfl ?_)
        refine R_cons rfl (op_pure (by exact p_bin rfl rfl (b_mul (join_mul _ (X % 65536) q hqb hq))) rfl ?_)
        refine R_cons rfl (op_pure (by first | exact p_bin rfl rfl (b_add (nat_add_u64 (by omega))) | exact p_bin rfl rfl (b_add (w_in_u64 (by omega)))) rfl ?_)
        refine R_cons rfl (op_pure (by first | exact p_bin rfl rfl (b_rem (by decide) (nat_rem _ 65521)) | exact p_bin rfl rfl (b_rem (by decide) (int_rem (by omega)))) rfl ?_)
        refine R_cons rfl (op_pure (p_assign rfl) rfl ?_)
        refine R_nil ?_
        repeat (first | refine S_yes rfl rfl ?_ | refine S_no rfl rfl ?_ | refine S_seq ?_ | refine E_seq ?_ | refine S_block ?_ | refine E_block_normal ?_ | refine S_skip ?_ | refine S_exit ?_ | refine S_ret ?_ | refine E_then_exit ?_ | refine E_then_ret ?_ | refine E_block_ret ?_ | refine E_block_exit ?_ | refine E_block_exit_other rfl ?_)
        refine S_region ?_
        refine R_cons rfl (op_callV rfl rfl Try.func18 rfl (by kernel_rfl) rfl (Nat.le_refl _) (fun w' _ => alive4 w') ?_)
        refine R_cons rfl (op_pure (p_move rfl) rfl ?_)
        first | refine R_pass rfl rfl rfl rfl ?_ | refine R_pass_undef rfl rfl rfl ?_ | refine R_guard rfl rfl rfl (op_pure (p_move rfl) rfl ?_)
        first | refine R_pass rfl rfl rfl rfl ?_ | refine R_pass_undef rfl rfl rfl ?_ | refine R_guard rfl rfl rfl (op_pure (by first | exact p_bin rfl rfl (b_rem (by decide) (nat_rem _ 65536)) | exact p_bin rfl rfl (b_rem (by decide) (int_rem (by omega)))) rfl ?_)
        first | refine R_pass rfl rfl rfl rfl ?_ | refine R_pass_undef rfl rfl rfl ?_ | refine R_guard rfl rfl rfl (op_pure (by exact p_convert rfl sc_u32 ik_u64 (by first | exact w8_i64 _ | exact w8_u64 _ | exact w8_u32n _ | exact w32_u64 _ | exact w32_i64 _ | exact w_in_i64 (by omega) | exact w_in_u64 (by omega) | exact w_in_u32 (by omega))) rfl ?_)
        first | refine R_pass rfl rfl rfl rfl ?_ | refine R_pass_undef rfl rfl rfl ?_ | refine R_guard rfl rfl rfl (op_pure (p_move rfl) rfl ?_)
        first | refine R_pass rfl rfl rfl rfl ?_ | refine R_pass_undef rfl rfl rfl ?_ | refine R_guard rfl rfl rfl (op_pure (p_bin rfl rfl (b_eql hlow.out)) rfl ?_)
        refine R_cons rfl (op_pure (by first | exact p_pick_yes rfl rfl | exact p_pick_no rfl rfl | exact p_pick rfl rfl rfl) rfl ?_)
        refine R_cons rfl (op_pure (p_move rfl) rfl ?_)
        first | refine R_pass rfl rfl rfl rfl ?_ | refine R_pass_undef rfl rfl rfl ?_ | refine R_guard rfl rfl rfl (op_pure (p_move rfl) rfl ?_)
        first | refine R_pass rfl rfl rfl rfl ?_ | refine R_pass_undef rfl rfl rfl ?_ | refine R_guard rfl rfl rfl (op_pure (by exact p_bin rfl rfl (b_quo (by decide) (nat_quo_u32 _ 65536 (by omega)))) rfl ?_)
        first | refine R_pass rfl rfl rfl rfl ?_ | refine R_pass_undef rfl rfl rfl ?_ | refine R_guard rfl rfl rfl (op_pure (by exact p_convert rfl sc_u32 ik_u64 (by first | exact w8_i64 _ | exact w8_u64 _ | exact w8_u32n _ | exact w32_u64 _ | exact w32_i64 _ | exact w_in_i64 (by omega) | exact w_in_u64 (by omega) | exact w_in_u32 (by omega))) rfl ?_)
        first | refine R_pass rfl rfl rfl rfl ?_ | refine R_pass_undef rfl rfl rfl ?_ | refine R_guard rfl rfl rfl (op_pure (p_move rfl) rfl ?_)
        first | refine R_pass rfl rfl rfl rfl ?_ | refine R_pass_undef rfl rfl rfl ?_ | refine R_guard rfl rfl rfl (op_pure (p_bin rfl rfl (b_eql hhigh.out)) rfl ?_)
        refine R_cons rfl (op_pure (by first | exact p_pick_yes rfl rfl | exact p_pick_no rfl rfl | exact p_pick rfl rfl rfl) rfl ?_)
        refine R_cons rfl (op_pure (p_move rfl) rfl ?_)
        first | refine R_pass rfl rfl rfl rfl ?_ | refine R_pass_undef rfl rfl rfl ?_ | refine R_guard rfl rfl rfl (op_pure (p_move rfl) rfl ?_)
        first | refine R_pass rfl rfl rfl rfl ?_ | refine R_pass_undef rfl rfl rfl ?_ | refine R_guard rfl rfl rfl (op_pure (p_move rfl) rfl ?_)
        first | refine R_pass rfl rfl rfl rfl ?_ | refine R_pass_undef rfl rfl rfl ?_ | refine R_guard rfl rfl rfl (op_callV rfl rfl Try.func13 rfl (by kernel_rfl) rfl (Nat.le_refl _) (fun w' hm => of_X A 0 c [] hX w' rfl (hrd.base hm) hnc hcm) ?_)
        first | refine R_pass rfl rfl rfl rfl ?_ | refine R_pass_undef rfl rfl rfl ?_ | refine R_guard rfl rfl rfl (op_pure (p_move rfl) rfl ?_)
        first | refine R_pass rfl rfl rfl rfl ?_ | refine R_pass_undef rfl rfl rfl ?_ | refine R_guard rfl rfl rfl (op_callV rfl rfl Try.func15 rfl (by kernel_rfl) rfl (Nat.le_refl _) (fun w' hm => on_X t1 A2 ys.length c2 ys hZ2 w' rfl (hrd2.base hm) hnc2 hcm2) ?_)
        first | refine R_pass rfl rfl rfl rfl ?_ | refine R_pass_undef rfl rfl rfl ?_ | refine R_guard rfl rfl rfl (op_pure (p_bin rfl rfl (b_eql (by first | assumption | exact beq_iff_eq.2 (by omega) | exact beq_eq_false_iff_ne.2 (by omega) | rfl))) rfl ?_)
        refine R_cons rfl (op_pure (by first | exact p_pick_yes rfl rfl | exact p_pick_no rfl rfl | exact p_pick rfl rfl rfl) rfl ?_)
        refine R_cons rfl (op_pure (p_assign rfl) rfl ?_)
        refine R_nil ?_
        repeat (first | refine S_yes rfl rfl ?_ | refine S_no rfl rfl ?_ | refine S_seq ?_ | refine E_seq ?_ | refine S_block ?_ | refine E_block_normal ?_ | refine S_skip ?_ | refine S_exit ?_ | refine S_ret ?_ | refine E_then_exit ?_ | refine E_then_ret ?_ | refine E_block_ret ?_ | refine E_block_exit ?_ | refine E_block_exit_other rfl ?_)
        exact E_ret1 rfl rfl fun w' hm => ⟨rfl, hm.below⟩
    · have hxl := bytesV_length xs
      refine R_cons rfl (op_pure (p_move rfl) rfl ?_)
      refine R_cons rfl (op_append (xs := bytesV xs) (news := bytesV ys) rfl rfl slc_u8s.1 el_u8 (by repeat (first | exact Del.here | apply Del.there)) hxl hlen hcm3 (fun w hm => hrd2.base hm) (by first | exact bytesV_one _ | exact wordsV_one _ | (repeat (first | exact ones_nil | refine ones_cons rfl ?_))) (by unfold maxLen; omega) (by omega) rfl (Nat.le_refl _) (fun g' cap' sp' hlen' hcm' => ?_))
      have hyl := bytesV_length ys
      have hal : (bytesV xs ++ bytesV ys).length = xs.length + ys.length := by simp only [List.length_append]; omega
      have hcap : xs.length + ys.length ≤ cap' := by rw [List.length_append] at hlen'; omega
      have hpre : ((bytesV xs ++ bytesV ys ++ sp').drop 0).take (xs.length + ys.length) = bytesV (xs ++ ys) := by rw [List.drop_zero, ← hal, List.take_left, bytesV_append]
      refine R_cons rfl (op_callV rfl rfl Try.func13 rfl (by kernel_rfl) rfl (Nat.le_refl _) (fun w' hm => of_X _ (xs.length + ys.length) cap' (xs ++ ys) hZ w' (by simp) (hm.reads (by repeat (first | exact List.Mem.head _ | apply List.Mem.tail)) hpre (by rw [List.length_append]; omega)) hcap hcm') ?_)
      refine R_cons rfl (op_pure (p_assign rfl) rfl ?_)
      refine R_nil ?_
      repeat (first | refine S_yes rfl rfl ?_ | refine S_no rfl rfl ?_ | refine S_seq ?_ | refine E_seq ?_ | refine S_block ?_ | refine E_block_normal ?_ | refine S_skip ?_ | refine S_exit ?_ | refine S_ret ?_ | refine E_then_exit ?_ | refine E_then_ret ?_ | refine E_block_ret ?_ | refine E_block_exit ?_ | refine E_block_exit_other rfl ?_)
      refine S_region ?_
      refine R_cons rfl (op_pure (p_move rfl) rfl ?_)
      refine R_cons rfl (op_pure (by first | exact p_bin rfl rfl (b_rem (by decide) (nat_rem _ 65536)) | exact p_bin rfl rfl (b_rem (by decide) (int_rem (by omega)))) rfl ?_)
      refine R_cons rfl (op_pure (p_move rfl) rfl ?_)
      refine R_cons rfl (op_pure (by first | exact p_bin rfl rfl (b_rem (by decide) (nat_rem _ 65536)) | exact p_bin rfl rfl (b_rem (by decide) (int_rem (by omega)))) rfl ?_)
      refine R_cons rfl (op_pure (by first | exact p_bin rfl rfl (b_add (nat_add_u64 (by omega))) | exact p_bin rfl rfl (b_add (w_in_u64 (by omega)))) rfl ?_)
      refine R_cons rfl (op_pure (by exact p_bin rfl rfl (b_add (w_in_u64 (by omega)))) rfl ?_)
      refine R_cons rfl (op_pure (by exact p_bin rfl rfl (b_sub (w_in_u64 (by omega)))) rfl ?_)
      refine R_cons rfl (op_pure (by exact p_bin rfl rfl (b_rem (by decide) (int_rem (by omega)))) rfl ?_)
      refine R_cons rfl (op_pure (p_assign rfl) rfl ?_)
      refine R_nil ?_
      repeat (first | refine S_yes rfl rfl ?_ | refine S_no rfl rfl ?_ | refine S_seq ?_ | refine E_seq ?_ | refine S_block ?_ | refine E_block_normal ?_ | refine S_skip ?_ | refine S_exit ?_ | refine S_ret ?_ | refine E_then_exit ?_ | refine E_then_ret ?_ | refine E_block_ret ?_ | refine E_block_exit ?_ | refine E_block_exit_other rfl ?_)
      refine S_region ?_
      refine R_cons rfl (op_pure (p_move rfl) rfl ?_)
      refine R_cons rfl (op_pure (by exact p_bin rfl rfl (b_quo (by decide) (nat_quo_u64 _ 65536 (by omega)))) rfl ?_)
      refine R_cons rfl (op_pure (p_move rfl) rfl ?_)
      refine R_cons rfl (op_pure (by exact p_bin rfl rfl (b_quo (by decide) (nat_quo_u64 _ 65536 (by omega)))) rfl ?_)
      refine R_cons rfl (op_pure (by first | exact p_bin rfl rfl (b_add (nat_add_u64 (by omega))) | exact p_bin rfl rfl (b_add (w_in_u64 (by omega)))) rfl ?_)
      refine R_cons rfl (op_pure (p_move rfl) rfl ?_)
      refine R_cons rfl (op_pure (p_len rfl slc_u8s) rfl ?_)
      refine R_cons rfl (op_pure (by exact p_convert rfl sc_int ik_u64 (by first | exact w8_i64 _ | exact w8_u64 _ | exact w8_u32n _ | exact w32_u64 _ | exact w32_i64 _ | exact w_in_i64 (by omega) | exact w_in_u64 (by omega) | exact w_in_u32 (by omega))) rfl ?_)
      refine R_cons rfl (op_pure (p_move rfl) rfl ?_)
      refine R_cons rfl (op_pure (by first | exact p_bin rfl rfl (b_rem (by decide) (nat_rem _ 65536)) | exact p_bin rfl rfl (b_rem (by decide) (int_rem (by omega)))) rfl ?_)
      refine R_cons rfl (op_pure (by exact p_bin rfl rfl (b_add (w_in_u64 (by omega)))) rfl ?_)
      refine R_cons rfl (op_pure (by exact p_bin rfl rfl (b_sub (w_in_u64 (by omega)))) rfl ?_)
      refine R_cons rfl (op_pure (by exact p_bin rfl rfl (b_mul (join_mul _ (X % 65536) q hqb hq))) rfl ?_)
      refine R_cons rfl (op_pure (by first | exact p_bin rfl rfl (b_add (nat_add_u64 (by omega))) | exact p_bin rfl rfl (b_add (w_in_u64 (by omega)))) rfl ?_)
      refine R_cons rfl (op_pure (by first | exact p_bin rfl rfl (b_rem (by decide) (nat_rem _ 65521)) | exact p_bin rfl rfl (b_rem (by decide) (int_rem (by omega)))) rfl ?_)
      refine R_cons rfl (op_pure (p_assign rfl) rfl ?_)
      refine R_nil ?_
      repeat (first | refine S_yes rfl rfl ?_ | refine S_no rfl rfl ?_ | refine S_seq ?_ | refine E_seq ?_ | refine S_block ?_ | refine E_block_normal ?_ | refine S_skip ?_ | refine S_exit ?_ | refine S_ret ?_ | refine E_then_exit ?_ | refine E_then_ret ?_ | refine E_block_ret ?_ | refine E_block_exit ?_ | refine E_block_exit_other rfl ?_)
      refine S_region ?_
      refine R_cons rfl (op_callV rfl rfl Try.func18 rfl (by kernel_rfl) rfl (Nat.le_refl _) (fun w' _ => alive4 w') ?_)
      refine R_cons rfl (op_pure (p_move rfl) rfl ?_)
      first | refine R_pass rfl rfl rfl rfl ?_ | refine R_pass_undef rfl rfl rfl ?_ | refine R_guard rfl rfl rfl (op_pure (p_move rfl) rfl ?_)
      first | refine R_pass rfl rfl rfl rfl ?_ | refine R_pass_undef rfl rfl rfl ?_ | refine R_guard rfl rfl rfl (op_pure (by first | exact p_bin rfl rfl (b_rem (by decide) (nat_rem _ 65536)) | exact p_bin rfl rfl (b_rem (by decide) (int_rem (by omega)))) rfl ?_)
      first | refine R_pass rfl rfl rfl rfl ?_ | refine R_pass_undef rfl rfl rfl ?_ | refine R_guard rfl rfl rfl (op_pure (by exact p_convert rfl sc_u32 ik_u64 (by first | exact w8_i64 _ | exact w8_u64 _ | exact w8_u32n _ | exact w32_u64 _ | exact w32_i64 _ | exact w_in_i64 (by omega) | exact w_in_u64 (by omega) | exact w_in_u32 (by omega))) rfl ?_)
      first | refine R_pass rfl rfl rfl rfl ?_ | refine R_pass_undef rfl rfl rfl ?_ | refine R_guard rfl rfl rfl (op_pure (p_move rfl) rfl ?_)
      first | refine R_pass rfl rfl rfl rfl ?_ | refine R_pass_undef rfl rfl rfl ?_ | refine R_guard rfl rfl rfl (op_pure (p_bin rfl rfl (b_eql hlow.out)) rfl ?_)
      refine R_cons rfl (op_pure (by first | exact p_pick_yes rfl rfl | exact p_pick_no rfl rfl | exact p_pick rfl rfl rfl) rfl ?_)
      refine R_cons rfl (op_pure (p_move rfl) rfl ?_)
      first | refine R_pass rfl rfl rfl rfl ?_ | refine R_pass_undef rfl rfl rfl ?_ | refine R_guard rfl rfl rfl (op_pure (p_move rfl) rfl ?_)
      first | refine R_pass rfl rfl rfl rfl ?_ | refine R_pass_undef rfl rfl rfl ?_ | refine R_guard rfl rfl rfl (op_pure (by exact p_bin rfl rfl (b_quo (by decide) (nat_quo_u32 _ 65536 (by omega)))) rfl ?_)
      first | refine R_pass rfl rfl rfl rfl ?_ | refine R_pass_undef rfl rfl rfl ?_ | refine R_guard rfl rfl rfl (op_pure (by exact p_convert rfl sc_u32 ik_u64 (by first | exact w8_i64 _ | exact w8_u64 _ | exact w8_u32n _ | exact w32_u64 _ | exact w32_i64 _ | exact w_in_i64 (by omega) | exact w_in_u64 (by omega) | exact w_in_u32 (by omega))) rfl ?_)
      first | refine R_pass rfl rfl rfl rfl ?_ | refine R_pass_undef rfl rfl rfl ?_ | refine R_guard rfl rfl rfl (op_pure (p_move rfl) rfl ?_)
      first | refine R_pass rfl rfl rfl rfl ?_ | refine R_pass_undef rfl rfl rfl ?_ | refine R_guard rfl rfl rfl (op_pure (p_bin rfl rfl (b_eql hhigh.out)) rfl ?_)
      refine R_cons rfl (op_pure (by first | exact p_pick_yes rfl rfl | exact p_pick_no rfl rfl | exact p_pick rfl rfl rfl) rfl ?_)
      refine R_cons rfl (op_pure (p_move rfl) rfl ?_)
      first | refine R_pass rfl rfl rfl rfl ?_ | refine R_pass_undef rfl rfl rfl ?_ | refine R_guard rfl rfl rfl (op_pure (p_move rfl) rfl ?_)
      first | refine R_pass rfl rfl rfl rfl ?_ | refine R_pass_undef rfl rfl rfl ?_ | refine R_guard rfl rfl rfl (op_pure (p_move rfl) rfl ?_)
      first | refine R_pass rfl rfl rfl rfl ?_ | refine R_pass_undef rfl rfl rfl ?_ | refine R_guard rfl rfl rfl (op_callV rfl rfl Try.func13 rfl (by kernel_rfl) rfl (Nat.le_refl _) (fun w' hm => of_X A xs.length c xs hX w' rfl (hrd.base hm) hnc hcm) ?_)
      first | refine R_pass rfl rfl rfl rfl ?_ | refine R_pass_undef rfl rfl rfl ?_ | refine R_guard rfl rfl rfl (op_pure (p_move rfl) rfl ?_)
      first | refine R_pass rfl rfl rfl rfl ?_ | refine R_pass_undef rfl rfl rfl ?_ | refine R_guard rfl rfl rfl (op_callV rfl rfl Try.func15 rfl (by kernel_rfl) rfl (Nat.le_refl _) (fun w' hm => on_X t1 A2 ys.length c2 ys hZ2 w' rfl (hrd2.base hm) hnc2 hcm2) ?_)
      first | refine R_pass rfl rfl rfl rfl ?_ | refine R_pass_undef rfl rfl rfl ?_ | refine R_guard rfl rfl rfl (op_pure (p_bin rfl rfl (b_eql (by first | assumption | exact beq_iff_eq.2 (by omega) | exact beq_eq_false_iff_ne.2 (by omega) | rfl))) rfl ?_)
      refine R_cons rfl (op_pure (by first | exact p_pick_yes rfl rfl | exact p_pick_no rfl rfl | exact p_pick rfl rfl rfl) rfl ?_)
      refine R_cons rfl (op_pure (p_assign rfl) rfl ?_)
      refine R_nil ?_
      repeat (first | refine S_yes rfl rfl ?_ | refine S_no rfl rfl ?_ | refine S_seq ?_ | refine E_seq ?_ | refine S_block ?_ | refine E_block_normal ?_ | refine S_skip ?_ | refine S_exit ?_ | refine S_ret ?_ | refine E_then_exit ?_ | refine E_then_ret ?_ | refine E_block_ret ?_ | refine E_block_exit ?_ | refine E_block_exit_other rfl ?_)
      exact E_ret1 rfl rfl fun w' hm => ⟨rfl, hm.below⟩

theorem own : ownKnob Try.prog.godebug = none := by kernel_rfl
theorem laidOut : laidOutB Try.prog = true := by kernel_rfl
set_option maxRecDepth 100000 in
theorem lifted (os : Os) (started : os.Started) (H : Type) (enc : TypeId × Value → H) :
    ReturnsInHanded {} Try.checked os 9 .any (Rows.sumsJoinSpec.pre6 enc Try.prog Try.f9 Rows.sumsJoinRow.domain false) (Rows.sumsJoinSpec.post enc Try.prog Try.f9 false true false false) := by
  refine returnsInHanded_of_change (C := Try.checked) own started (by kernel_rfl) Try.func9
    (ChangeSpec.witness6 (enc := enc) (C := Try.checked) false ⟨#[], #[.slice none 0 0, .slice none 0 0], []⟩ 8 (by kernel_rfl) (by kernel_rfl) (by kernel_rfl) (by kernel_rfl)) ?_
  intro W base args ds gs before hval0 hW hcnd _
  have hval : ∀ (j : Nat) t v, Try.f9.params[j]? = some t → args[j]? = some v → Value.okWide Try.prog W .any base t v := hval0
  have hW' := hW
  obtain ⟨p, q, hA0, hV, rfl, hfz, hnd⟩ := hW
  have hA : DataW.TrodAll enc Try.prog W 0 (fun _ => true) true Try.f9.params.toList args.toList ds p := hA0
  rw [Try.params9] at hA hval
  obtain ⟨v0, vs0, d0, ds0, p0, q0, hargs, rfl, rfl, h0, r0⟩ := trodAll_cons hA
  obtain ⟨v1, vs1, d1, ds1, p1, q1, rfl, rfl, rfl, h1, r1⟩ := trodAll_cons r0
  obtain ⟨rfl, rfl, rfl⟩ := trodAll_nil r1
  obtain rfl : args = #[v0, v1] := by cases args; simp_all
  obtain ⟨rfl, rfl⟩ := trodVars_none hV
  have k0 := h0
  have lt0 : ∀ x ∈ p0, x.block < W.heap.size := by obtain ⟨m, hm⟩ := k0; exact DataW.trod_lt m _ _ _ hm
  have k1 := h1
  have lt1 : ∀ x ∈ p1, x.block < W.heap.size := by obtain ⟨m, hm⟩ := k1; exact DataW.trod_lt m _ _ _ hm
  obtain ⟨A0, c0, a0, rfl, rd0, lc0, cm0⟩ := arg_slice Try.underlying27 Try.underlying5 (by kernel_rfl) (hval 0 27 v0 rfl rfl) k0 lt0
  obtain ⟨A1, c1, a1, rfl, rd1, lc1, cm1⟩ := arg_slice Try.underlying27 Try.underlying5 (by kernel_rfl) (hval 1 27 v1 rfl rfl) k1 lt1
  clear hA0 hval0
  refine (walk W A0 c0 a0 rd0 lc0 cm0 A1 c1 a1 rd1 lc1 cm1).mono fun e W' ⟨he, bel⟩ => ?_
  subst he
  exact ⟨_, rfl, _, _, _, [], _, [], hW', trodAll_mk1 (shut_bool Try.underlying4 _), (trodAll_cons_mk (Below.trod laidOut (by kernel_rfl) (of_decide_eq_true (by kernel_rfl)) k0 bel lt0) (trodAll_cons_mk (Below.trod laidOut (by kernel_rfl) (of_decide_eq_true (by kernel_rfl)) k1 bel lt1) trodAll_mk0)), rfl, bel.frame _, fun h => by cases h⟩
/-- The statement. -/
theorem proved : Rows.SumsJoinSaid :=
  OpenClaim.holds_of_wide 9 Try.f9 rfl rfl rfl rfl rfl rfl rfl ⟨rfl, rfl, rfl, rfl, rfl⟩ rfl rfl rfl rfl rfl (by kernel_rfl) Try.func9 (by kernel_rfl)
    (of_decide_eq_true (by kernel_rfl)) (by unfold Func.isWrapper; first | (rw [if_pos (by decide +kernel)]; kernel_rfl) | (rw [if_neg (by decide +kernel)]; exact ⟨rfl, rfl⟩))
    (fun os started H enc _ => lifted os started H enc)
#print axioms proved
end Go.Proofs.Ytbnpalnmgeahpaa.sumsJoin
