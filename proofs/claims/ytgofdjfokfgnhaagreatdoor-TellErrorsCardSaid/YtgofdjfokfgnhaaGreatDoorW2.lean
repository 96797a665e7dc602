/-
  A part of the proof: lemmas on which the theorem leans; nothing is claimed here by itself.
-/
import Derived.Test.YtgofdjfokfgnhaaGreatDoorW1
set_option maxRecDepth 100000
namespace Go.Fw
open Go Go.Proofs
theorem itoa_small {h : Heap} {n : Nat} (hn : n < 100) : Fn Tryz.prog 23 [.int .i64 (n : Int)] h fun v h' => v = .string ⟨(Lib.decDigits n).toArray⟩ ∧ h' = h := by
  intro w hw
  refine Calls.mono (Tryz.strconv_Itoa_small n hn w) fun x w' hx => ?_
  obtain ⟨rfl, rfl⟩ := hx
  exact ⟨_, rfl, ⟨rfl, hw⟩, rfl⟩

set_option maxHeartbeats 400000 in
theorem answer_err {h : Heap} {acs : Array Value} {n : Nat} (ha : acs[0]? = some (.int .i64 (n : Int))) (he1 : 0 < n) (he2 : n < 100) (hsz : (str [101, 114, 114, 111, 114, 32]).size + (ByteArray.mk (Lib.decDigits n).toArray).size ≤ 9223372036854775807) : Fn Tryz.prog 12 [.agg acs] h fun v h' => v = .string (str [101, 114, 114, 111, 114, 32] ++ ⟨(Lib.decDigits n).toArray⟩) ∧ Gr h h' := by
  refine Fn_intro Tryz.func12 rfl (by kernel_rfl) (Nat.le_of_ble_eq_true rfl) ?_
  refine G_seq fun K1 hK1 => ?_
  refine G_region ?_
  refine W_box rfl rfl fun n1 h1 hn1 => ?_
  have hb1 := hn1.at
  have g1 := hn1.gr
  refine W_as rfl ?_
  refine W_nil ?_
  refine hK1 _ _ _ ?_
  try clear hK1 K1
  refine G_seq fun K2 hK2 => ?_
  refine G_seq fun K3 hK3 => ?_
  refine G_region ?_
  refine W_fa rfl fo26_0 ?_
  refine W_ld rfl (by first | exact ld1 hb1 ag22 ha) ?_
  refine W_ne rfl rfl (fun _ => ?_) (fun hc4 => absurd hc4 (show ¬ _ from (by omega)))
  refine W_nil ?_
  refine hK3 _ _ _ ?_
  try clear hK3 K3
  refine G_if rfl ?_
  refine G_seq fun K5 hK5 => ?_
  refine G_region ?_
  refine W_fa rfl fo26_0 ?_
  refine W_ld rfl (by first | exact ld1 hb1 ag22 ha) ?_
  refine W_call cl23 rfl (itoa_small he2) ?_
  rintro _ h' ⟨rfl, e⟩
  replace e := e.symm
  subst e
  refine W_bin rfl rfl (binE_sadd hsz) ?_
  refine W_as rfl ?_
  refine W_nil ?_
  refine hK5 _ _ _ ?_
  try clear hK5 K5
  refine G_ret ?_
  simp only [seqQ_ret, blockQ_ret, loopQ_ret]
  refine end_ret rfl ?_
  exact ⟨rfl, g1⟩

set_option maxHeartbeats 400000 in
theorem digits1 {h : Heap} {n : Nat} (hn : n < 10) : Fn Tryz.prog 10 [.int .i64 (n : Int)] h fun v h' => v = .string (str [UInt8.ofNat (48 + n)]) ∧ Gr h h' := by
  refine Fn_intro Tryz.func10 rfl (by kernel_rfl) (Nat.le_of_ble_eq_true rfl) ?_
  refine G_seq fun K1 hK1 => ?_
  refine G_region ?_
  refine W_as rfl ?_
  refine W_nil ?_
  refine hK1 _ _ _ ?_
  try clear hK1 K1
  refine G_seq fun K2 hK2 => ?_
  refine G_seq fun K3 hK3 => ?_
  refine G_region ?_
  refine W_mv rfl ?_
  refine W_lt rfl rfl (fun hc4 => absurd hc4 (show ¬ _ from (by omega))) (fun _ => ?_)
  refine W_nil ?_
  refine hK3 _ _ _ ?_
  try clear hK3 K3
  refine G_else rfl ?_
  refine G_skip ?_
  refine hK2 _ _ _ ?_
  try clear hK2 K2
  refine G_seq fun K5 hK5 => ?_
  refine G_seq fun K6 hK6 => ?_
  refine G_region ?_
  refine W_mv rfl ?_
  refine W_lt rfl rfl (fun _ => ?_) (fun hc7 => absurd (show _ from (by omega)) hc7)
  refine W_nil ?_
  refine hK6 _ _ _ ?_
  try clear hK6 K6
  refine G_if rfl ?_
  refine G_seq fun K8 hK8 => ?_
  refine G_region ?_
  refine W_mv rfl ?_
  refine W_add rfl rfl (wrap_i64 (by omega) (by omega)) ?_
  refine W_cvi rfl kn3 it5 (show IntKind.u8.wrap (48 + (n : Int)) = ((UInt8.ofNat (48 + n)).toNat : Int) from by rw [← u8_wrap]; congr 1) ?_
  refine W_bs sl24 sz5 zt5 (Nat.le_of_ble_eq_true rfl) (by decide) (cs := bv [UInt8.ofNat (48 + n)]) (bsE_one (v := .int .u8 ((UInt8.ofNat (48 + n)).toNat : Int)) (by rfl) (by rfl) (by simp [repCells])) fun nb h1 hn1 => ?_
  have hs1 : SlAt h1 (.slice (some ⟨nb, 0, none⟩) 1 1) 5 1 [UInt8.ofNat (48 + n)].length 1 (bv [UInt8.ofNat (48 + n)]) := .inr ⟨nb, 0, _, _, rfl, hn1.at, .inl rfl, Nat.le_refl _, Nat.le_refl _, by simp [bv]⟩
  refine W_b2s rfl sl24 u85 st9 hs1 ?_
  refine W_as rfl ?_
  refine W_nil ?_
  refine hK8 _ _ _ ?_
  try clear hK8 K8
  refine G_ret ?_
  simp only [seqQ_ret, blockQ_ret, loopQ_ret]
  refine end_ret rfl ?_
  exact ⟨rfl, hn1.gr⟩

theorem dec_len : ∀ (k n : Nat), n < 10 ^ k → (Lib.decDigits n).length ≤ max k 1
  | 0, n, h => by
    have : n = 0 := by simpa using h
    subst this; rw [Lib.decDigits.eq_def]; simp
  | k + 1, n, h => by
    rw [Lib.decDigits.eq_def]
    split
    · simp
    · rename_i hn
      have ih := dec_len k (n / 10) (by rw [Nat.pow_succ] at h; omega)
      cases k with
      | zero => simp at h; omega
      | succ k => simp only [List.length_append, List.length_singleton]; omega

set_option maxHeartbeats 400000 in
theorem digits_step {h : Heap} {n : Nat} (hn : n < 2 ^ 63) (h1 : 10 ≤ n) (ih : Fn Tryz.prog 10 [.int .i64 ((n / 10 : Nat) : Int)] h fun v h' => v = .string (str (Lib.decDigits (n / 10))) ∧ Gr h h') : Fn Tryz.prog 10 [.int .i64 (n : Int)] h fun v h' => v = .string (str (Lib.decDigits n)) ∧ Gr h h' := by
  have h10 := Nat.mod_lt n (show 0 < 10 by decide)
  have hln : ∀ m : Nat, m < 2 ^ 63 → (Lib.decDigits m).length ≤ 20 := fun m hm => Nat.le_trans (dec_len 20 m (by omega)) (by decide)
  refine Fn_intro Tryz.func10 rfl (by kernel_rfl) (Nat.le_of_ble_eq_true rfl) ?_
  refine G_seq fun K1 hK1 => ?_
  refine G_region ?_
  refine W_as rfl ?_
  refine W_nil ?_
  refine hK1 _ _ _ ?_
  try clear hK1 K1
  refine G_seq fun K2 hK2 => ?_
  refine G_seq fun K3 hK3 => ?_
  refine G_region ?_
  refine W_mv rfl ?_
  refine W_lt rfl rfl (fun hc4 => absurd hc4 (show ¬ _ from (by omega))) (fun _ => ?_)
  refine W_nil ?_
  refine hK3 _ _ _ ?_
  try clear hK3 K3
  refine G_else rfl ?_
  refine G_skip ?_
  refine hK2 _ _ _ ?_
  try clear hK2 K2
  refine G_seq fun K5 hK5 => ?_
  refine G_seq fun K6 hK6 => ?_
  refine G_region ?_
  refine W_mv rfl ?_
  refine W_lt rfl rfl (fun hc7 => absurd hc7 (show ¬ _ from (by omega))) (fun _ => ?_)
  refine W_nil ?_
  refine hK6 _ _ _ ?_
  try clear hK6 K6
  refine G_else rfl ?_
  refine G_skip ?_
  refine hK5 _ _ _ ?_
  try clear hK5 K5
  refine G_seq fun K8 hK8 => ?_
  refine G_region ?_
  refine W_mv rfl ?_
  refine W_bin rfl rfl (binE_quo hn (by decide)) ?_
  refine W_call cl10 rfl (ih) ?_
  rintro _ h1 ⟨rfl, hg1⟩
  refine W_mv rfl ?_
  refine W_bin rfl rfl (binE_rem hn (by decide)) ?_
  refine W_call cl10 rfl (digits1 h10) ?_
  rintro _ h2 ⟨rfl, hg2⟩
  refine W_bin rfl rfl (binE_sadd (by have := hln (n / 10) (by omega); simp only [str_size, List.length_singleton]; omega)) ?_
  refine W_as rfl ?_
  refine W_nil ?_
  refine hK8 _ _ _ ?_
  try clear hK8 K8
  refine G_ret ?_
  refine end_ret rfl ?_
  refine ⟨?_, hg1.trans hg2⟩
  rw [str_append, Lib.decDigits.eq_def n, dif_neg (by omega)]; rfl

theorem digits_nat {h : Heap} (n : Nat) (hn : n < 2 ^ 63) : Fn Tryz.prog 10 [.int .i64 (n : Int)] h fun v h' => v = .string (str (Lib.decDigits n)) ∧ Gr h h' := by
  induction n using Nat.strongRecOn with
  | _ n ih =>
    rcases Nat.lt_or_ge n 10 with h1 | h1
    · rw [Lib.decDigits.eq_def n, dif_pos h1]; exact digits1 h1
    · exact digits_step hn h1 (ih (n / 10) (by omega) (by omega))

end Go.Fw

set_option maxRecDepth 100000
namespace Go.Fw
open Go Go.Proofs
set_option maxHeartbeats 400000 in
theorem answer_ok0 {h : Heap} : Fn Tryz.prog 12 [.agg #[.int .i64 0, .int .i64 0, .string ByteArray.empty, .slice none 0 0, .slice none 0 0]] h fun v h' => v = .string (str [111, 107]) ∧ Gr h h' := by
  refine Fn_intro Tryz.func12 rfl (by kernel_rfl) (Nat.le_of_ble_eq_true rfl) ?_
  refine G_seq fun K1 hK1 => ?_
  refine G_region ?_
  refine W_box rfl rfl fun n1 h1 hn1 => ?_
  have hb1 := hn1.at
  have g0 := hn1.gr
  refine W_as rfl ?_
  refine W_nil ?_
  refine hK1 _ _ _ ?_
  try clear hK1 K1
  refine G_seq fun K2 hK2 => ?_
  refine G_seq fun K3 hK3 => ?_
  refine G_region ?_
  refine W_fa rfl fo26_0 ?_
  refine W_ld rfl (ld1 hb1 ag22 (show _ = some (.int .i64 0) from rfl)) ?_
  refine W_ne rfl rfl (fun hc4 => absurd (show _ from (by omega)) hc4) (fun _ => ?_)
  refine W_nil ?_
  refine hK3 _ _ _ ?_
  try clear hK3 K3
  refine G_else rfl ?_
  refine G_skip ?_
  refine hK2 _ _ _ ?_
  try clear hK2 K2
  refine G_seq fun K5 hK5 => ?_
  refine G_region ?_
  refine W_fa rfl fo26_1 ?_
  refine W_ld rfl (ld1 hb1 ag3 (show _ = some (.int .i64 0) from rfl)) ?_
  refine W_mif rfl cc62 ?_
  refine W_fa rfl fo26_2 ?_
  refine W_ld rfl (ld1 hb1 ag9 (show _ = some (.string ByteArray.empty) from rfl)) ?_
  refine W_mif rfl cc63 ?_
  refine W_bs sl64 sz67 zt67 (Nat.le_of_ble_eq_true rfl) (by decide) (cs := #[.iface 62 (.int .i64 0), .iface 63 (.string ByteArray.empty)]) (bsE_two rfl rfl rfl rfl (by simp [repCells])) fun nb2 h2 hn2 => ?_
  have hb2 := hn2.at
  replace hb1 := hn2.old hb1
  replace g0 := g0.trans hn2.gr
  refine W_as rfl ?_
  refine W_nil ?_
  refine hK5 _ _ _ ?_
  try clear hK5 K5
  refine G_seq fun K6 hK6 => ?_
  refine G_seq fun K7 hK7 => ?_
  refine G_region ?_
  refine W_fa rfl fo26_3 ?_
  refine W_ld rfl (ld1 hb1 ag23 (show _ = some (.slice none 0 0) from rfl)) ?_
  refine W_lens rfl si23 ?_
  refine W_mv rfl ?_
  refine W_nil ?_
  refine hK7 _ _ _ ?_
  try clear hK7 K7
  refine G_block ?_
  refine G_loop (α := Unit) (fun _ => [(30, .int .i64 0), (29, .int .i64 0), (3, .slice (some ⟨nb2, 0, none⟩) 2 2), (1, .pointer (some ⟨n1, 0, none⟩))]) (fun _ h' => h2 = h') (fun _ => 0) () (Sub.cons rfl (Sub.cons rfl (Sub.cons rfl (Sub.cons rfl (Sub.nil _))))) rfl ?_
  rintro _ _ rfl
  refine G_seq fun K8 hK8 => ?_
  refine G_region ?_
  refine W_lt rfl rfl (fun hc9 => absurd hc9 (show ¬ _ from (by omega))) (fun _ => ?_)
  refine W_nil ?_
  refine hK8 _ _ _ ?_
  try clear hK8 K8
  refine G_seq fun K10 hK10 => ?_
  refine G_else rfl ?_
  refine G_exit ?_
  simp only [loopQ_exit, seqQ_exit, blockQ_exit]
  refine hK6 _ _ _ ?_
  try clear hK6 K6
  refine G_seq fun K11 hK11 => ?_
  refine G_region ?_
  refine W_as rfl ?_
  refine W_nil ?_
  refine hK11 _ _ _ ?_
  try clear hK11 K11
  refine G_seq fun K12 hK12 => ?_
  refine G_seq fun K13 hK13 => ?_
  refine G_region ?_
  refine W_mv rfl ?_
  refine W_fa rfl fo26_4 ?_
  refine W_ld rfl (ld1 hb1 ag24 (show _ = some (.slice none 0 0) from rfl)) ?_
  refine W_b2s rfl sl24 u85 st63 (bs := []) (el' := 0) (.inl ⟨rfl, rfl, rfl, rfl⟩) ?_
  refine W_mif rfl cc63 ?_
  refine W_bs sl64 sz67 zt67 (Nat.le_of_ble_eq_true rfl) (by decide) (cs := #[.iface 63 (.string ByteArray.empty)]) (bsE_one (v := .iface 63 (.string ByteArray.empty)) (by rfl) (by rfl) (by simp [repCells])) fun nb3 h3 hn3 => ?_
  replace hb2 := hn3.old hb2
  replace g0 := g0.trans hn3.gr
  refine W_app (n := 2) (c := 2) (m := 1) (xs := #[.iface 62 (.int .i64 0), .iface 63 (.string ByteArray.empty)]) (nv := #[.iface 63 (.string ByteArray.empty)]) rfl rfl sl64 ni64 sz67 zt67 rfl by67 (.inr ⟨nb2, 0, _, _, rfl, hb2, .inl rfl, Nat.le_refl _, Nat.le_refl _, rfl⟩) (src_row hn3.at rfl) rfl rfl (by decide) (by decide) fun v5 c5 h5 hs5 hm5 ho5 => ?_
  have g5 := g0.own_app hm5 (fun b hb => by cases hb; rw [hn2.nb_eq]; exact hn1.gr.size)
  obtain ⟨b5, o5, cs5, fr5, rfl, hb5, _, _, hel5⟩ := hs5.at (by decide)
  clear hb1 hb2
  refine W_lens rfl si64 ?_
  refine W_mv rfl ?_
  refine W_nil ?_
  refine hK13 _ _ _ ?_
  try clear hK13 K13
  refine G_block ?_
  refine G_loop (α := Nat) (fun k => [(48, .int .i64 (k : Int)), (47, .int .i64 3), (46, .slice (some ⟨b5, o5, none⟩) (2 + 1) c5), (6, .string (str [111, 107]))]) (fun k h' => h5 = h' ∧ k ≤ 3) (fun k => 3 - k) 0 (Sub.cons rfl (Sub.cons rfl (Sub.cons rfl (Sub.cons rfl (Sub.nil _))))) ⟨rfl, Nat.zero_le _⟩ ?_
  rintro k _ ⟨rfl, hk3⟩
  refine G_seq fun K14 hK14 => ?_
  refine G_region ?_
  refine W_lt rfl rfl (fun hk => ?_) (fun hk => ?_)
  ·
    refine W_nil ?_
    refine hK14 _ _ _ ?_
    try clear hK14 K14
    refine G_seq fun K16 hK16 => ?_
    refine G_if rfl ?_
    refine G_skip ?_
    refine hK16 _ _ _ ?_
    try clear hK16 K16
    refine G_seq fun K17 hK17 => ?_
    refine G_block ?_
    refine G_seq fun K18 hK18 => ?_
    refine G_region ?_
    refine W_is rfl rfl se64 rfl (by omega) rfl ?_
    rcases (show k = 0 ∨ k = 1 ∨ k = 2 by omega) with rfl | rfl | rfl
    ·
      have hel := hel5 0 (by decide)
      refine W_ld rfl (ld1 hb5 ag67 (hel.trans (show _ = some (.iface 62 (.int .i64 0)) from rfl))) ?_
      refine W_as rfl ?_
      refine W_nil ?_
      refine hK18 _ _ _ ?_
      try clear hK18 K18
      refine G_seq fun K19 hK19 => ?_
      refine G_region ?_
      refine W_mv rfl ?_
      refine W_ta rfl cc62 (z := .int .i64 0) (by kernel_rfl) ?_
      rw [if_pos rfl]
      refine W_mv rfl ?_
      refine W_ex rfl rfl ?_
      refine W_ex rfl rfl ?_
      refine W_as rfl ?_
      refine W_as rfl ?_
      refine W_nil ?_
      refine hK19 _ _ _ ?_
      try clear hK19 K19
      refine G_seq fun K20 hK20 => ?_
      refine G_seq fun K21 hK21 => ?_
      refine G_region ?_
      refine W_mv rfl ?_
      refine W_ta rfl cc63 (z := .string ByteArray.empty) (by kernel_rfl) ?_
      rw [if_neg (by decide)]
      refine W_mv rfl ?_
      refine W_ex rfl rfl ?_
      refine W_ex rfl rfl ?_
      refine W_as rfl ?_
      refine W_as rfl ?_
      refine W_nil ?_
      refine hK21 _ _ _ ?_
      try clear hK21 K21
      refine G_seq fun K22 hK22 => ?_
      refine G_region ?_
      refine W_mv rfl ?_
      refine W_mv rfl ?_
      refine W_gf rfl ?_
      refine W_gf rfl ?_
      refine W_pf rfl rfl rfl ?_
      refine W_mv rfl ?_
      refine W_gt rfl ?_
      refine W_mv rfl ?_
      refine W_gt rfl ?_
      refine W_mv rfl ?_
      refine W_gt rfl ?_
      refine W_mv rfl ?_
      refine W_gt rfl ?_
      refine W_eq rfl rfl (fun _ => ?_) (fun hc23 => absurd (show _ from (by omega)) hc23)
      refine W_gt rfl ?_
      refine W_pt rfl rfl rfl ?_
      refine W_pf rfl rfl rfl ?_
      refine W_nil ?_
      refine hK22 _ _ _ ?_
      try clear hK22 K22
      refine G_if rfl ?_
      refine G_exit ?_
      simp only [loopQ_exit, seqQ_exit, blockQ_exit]
      refine hK17 _ _ _ ?_
      try clear hK17 K17
      refine G_region ?_
      refine W_add rfl rfl (wrap_i64 (by omega) (by omega)) ?_
      refine W_mv rfl ?_
      refine W_nil ?_
      refine loop_nx 1 (by decide) (Sub.cons rfl (Sub.cons rfl (Sub.cons rfl (Sub.cons rfl (Sub.nil _))))) ⟨rfl, by decide⟩
    ·
      have hel := hel5 1 (by decide)
      refine W_ld rfl (ld1 hb5 ag67 (hel.trans (show _ = some (.iface 63 (.string ByteArray.empty)) from rfl))) ?_
      refine W_as rfl ?_
      refine W_nil ?_
      refine hK18 _ _ _ ?_
      try clear hK18 K18
      refine G_seq fun K24 hK24 => ?_
      refine G_region ?_
      refine W_mv rfl ?_
      refine W_ta rfl cc62 (z := .int .i64 0) (by kernel_rfl) ?_
      rw [if_neg (by decide)]
      refine W_mv rfl ?_
      refine W_ex rfl rfl ?_
      refine W_ex rfl rfl ?_
      refine W_as rfl ?_
      refine W_as rfl ?_
      refine W_nil ?_
      refine hK24 _ _ _ ?_
      try clear hK24 K24
      refine G_seq fun K25 hK25 => ?_
      refine G_seq fun K26 hK26 => ?_
      refine G_region ?_
      refine W_mv rfl ?_
      refine W_ta rfl cc63 (z := .string ByteArray.empty) (by kernel_rfl) ?_
      rw [if_pos rfl]
      refine W_mv rfl ?_
      refine W_ex rfl rfl ?_
      refine W_ex rfl rfl ?_
      refine W_as rfl ?_
      refine W_as rfl ?_
      refine W_nil ?_
      refine hK26 _ _ _ ?_
      try clear hK26 K26
      refine G_seq fun K27 hK27 => ?_
      refine G_region ?_
      refine W_mv rfl ?_
      refine W_mv rfl ?_
      refine W_gt rfl ?_
      refine W_mv rfl ?_
      refine W_gt rfl ?_
      refine W_bin rfl rfl (show binE _ .eql _ (.string ByteArray.empty) (.string ByteArray.empty) = some (.bool true) from by rw [binE_seq, beq_self_eq_true]) ?_
      refine W_pt rfl rfl rfl ?_
      refine W_mv rfl ?_
      refine W_gf rfl ?_
      refine W_gf rfl ?_
      refine W_gf rfl ?_
      refine W_gf rfl ?_
      refine W_gf rfl ?_
      refine W_pt rfl rfl rfl ?_
      refine W_nil ?_
      refine hK27 _ _ _ ?_
      try clear hK27 K27
      refine G_if rfl ?_
      refine G_exit ?_
      simp only [loopQ_exit, seqQ_exit, blockQ_exit]
      refine hK17 _ _ _ ?_
      try clear hK17 K17
      refine G_region ?_
      refine W_add rfl rfl (wrap_i64 (by omega) (by omega)) ?_
      refine W_mv rfl ?_
      refine W_nil ?_
      refine loop_nx 2 (by decide) (Sub.cons rfl (Sub.cons rfl (Sub.cons rfl (Sub.cons rfl (Sub.nil _))))) ⟨rfl, by decide⟩
    ·
      have hel := hel5 2 (by decide)
      refine W_ld rfl (ld1 hb5 ag67 (hel.trans (show _ = some (.iface 63 (.string ByteArray.empty)) from rfl))) ?_
      refine W_as rfl ?_
      refine W_nil ?_
      refine hK18 _ _ _ ?_
      try clear hK18 K18
      refine G_seq fun K28 hK28 => ?_
      refine G_region ?_
      refine W_mv rfl ?_
      refine W_ta rfl cc62 (z := .int .i64 0) (by kernel_rfl) ?_
      rw [if_neg (by decide)]
      refine W_mv rfl ?_
      refine W_ex rfl rfl ?_
      refine W_ex rfl rfl ?_
      refine W_as rfl ?_
      refine W_as rfl ?_
      refine W_nil ?_
      refine hK28 _ _ _ ?_
      try clear hK28 K28
      refine G_seq fun K29 hK29 => ?_
      refine G_seq fun K30 hK30 => ?_
      refine G_region ?_
      refine W_mv rfl ?_
      refine W_ta rfl cc63 (z := .string ByteArray.empty) (by kernel_rfl) ?_
      rw [if_pos rfl]
      refine W_mv rfl ?_
      refine W_ex rfl rfl ?_
      refine W_ex rfl rfl ?_
      refine W_as rfl ?_
      refine W_as rfl ?_
      refine W_nil ?_
      refine hK30 _ _ _ ?_
      try clear hK30 K30
      refine G_seq fun K31 hK31 => ?_
      refine G_region ?_
      refine W_mv rfl ?_
      refine W_mv rfl ?_
      refine W_gt rfl ?_
      refine W_mv rfl ?_
      refine W_gt rfl ?_
      refine W_bin rfl rfl (show binE _ .eql _ (.string ByteArray.empty) (.string ByteArray.empty) = some (.bool true) from by rw [binE_seq, beq_self_eq_true]) ?_
      refine W_pt rfl rfl rfl ?_
      refine W_mv rfl ?_
      refine W_gf rfl ?_
      refine W_gf rfl ?_
      refine W_gf rfl ?_
      refine W_gf rfl ?_
      refine W_gf rfl ?_
      refine W_pt rfl rfl rfl ?_
      refine W_nil ?_
      refine hK31 _ _ _ ?_
      try clear hK31 K31
      refine G_if rfl ?_
      refine G_exit ?_
      simp only [loopQ_exit, seqQ_exit, blockQ_exit]
      refine hK17 _ _ _ ?_
      try clear hK17 K17
      refine G_region ?_
      refine W_add rfl rfl (wrap_i64 (by omega) (by omega)) ?_
      refine W_mv rfl ?_
      refine W_nil ?_
      refine loop_nx 3 (by decide) (Sub.cons rfl (Sub.cons rfl (Sub.cons rfl (Sub.cons rfl (Sub.nil _))))) ⟨rfl, by decide⟩
  ·
    refine W_nil ?_
    refine hK14 _ _ _ ?_
    try clear hK14 K14
    refine G_seq fun K32 hK32 => ?_
    refine G_else rfl ?_
    refine G_exit ?_
    simp only [loopQ_exit, seqQ_exit, blockQ_exit]
    refine hK12 _ _ _ ?_
    try clear hK12 K12
    refine G_seq fun K33 hK33 => ?_
    refine G_region ?_
    refine W_mv rfl ?_
    refine W_as rfl ?_
    refine W_nil ?_
    refine hK33 _ _ _ ?_
    try clear hK33 K33
    refine G_ret ?_
    refine end_ret rfl ?_
    exact ⟨rfl, g5⟩

end Go.Fw

set_option maxRecDepth 100000
namespace Go.Fw
open Go Go.Proofs
set_option maxHeartbeats 400000 in
theorem run_one {h : Heap} {v : Value} {c : Nat} (hv : SlAt h v 5 1 [(1 : UInt8)].length c (bv [1])) : Fn Tryz.prog 19 [v] h fun v h' => v = .string (str [101, 114, 114, 111, 114, 32, 49, 10]) ∧ Gr h h' := by
  have hd1 : Lib.decDigits 1 = [49] := by rw [Lib.decDigits.eq_def, dif_pos (by decide)]; rfl
  have hstr : (str [101, 114, 114, 111, 114, 32] ++ ByteArray.mk (Lib.decDigits 1).toArray) = str [101, 114, 114, 111, 114, 32, 49] := by
    rw [Lib.decDigits.eq_def, dif_pos (by decide)]
    show str _ ++ str _ = _
    rw [str_append]; rfl
  refine Fn_intro Tryz.func19 rfl (by kernel_rfl) (Nat.le_of_ble_eq_true rfl) ?_
  refine G_seq fun K1 hK1 => ?_
  refine G_region ?_
  refine W_as rfl ?_
  refine W_nil ?_
  refine hK1 _ _ _ ?_
  try clear hK1 K1
  refine G_seq fun K2 hK2 => ?_
  refine G_region ?_
  refine W_call cl14 rfl (house_new) ?_
  rintro _ h1 ⟨hp, d, hcs, χ, rfl, _, _, g0, _, _⟩
  refine W_as rfl ?_
  refine W_nil ?_
  refine hK2 _ _ _ ?_
  try clear hK2 K2
  refine G_seq fun K3 hK3 => ?_
  refine G_region ?_
  refine W_al zt91 fun n4 h2 hn4 => ?_
  have hb4 := hn4.at
  have c4 : h.size ≤ n4 := by rw [hn4.nb_eq]; exact g0.size
  replace g0 := g0.trans hn4.gr
  refine W_nil ?_
  refine hK3 _ _ _ ?_
  try clear hK3 K3
  refine G_seq fun K4 hK4 => ?_
  refine G_seq fun K5 hK5 => ?_
  refine G_region ?_
  refine W_mv rfl ?_
  refine W_call cl22 rfl (script_decode (l := [1]) (hv.gr g0) (by decide)) ?_
  rintro v3 h3 ⟨xs, hq, hxs, hg3⟩
  replace hb4 := hg3.at hb4
  replace g0 := g0.trans hg3
  obtain ⟨dv, rfl⟩ : ∃ dv, xs = [(Rq.none, dv)] := by
    have e : dec [(1 : UInt8)].length [1] = [Rq.none] := rfl
    rw [e] at hxs
    match xs, hxs with
    | [(q, dv)], h => simp at h; subst h; exact ⟨dv, rfl⟩
  obtain ⟨c3, hq3⟩ := hq.1
  obtain ⟨cd, hcd⟩ := hq.2 _ (List.mem_singleton.2 rfl)
  obtain ⟨da, hda⟩ := hcd.shape
  simp only at hda
  subst hda
  obtain ⟨b3, o3, cs3, fr3, rfl, hb3, _, hle3, hel3⟩ := hq3.at (Nat.le_of_ble_eq_true rfl)
  have hle3' : o3 + 10 ≤ cs3.size := hle3
  refine W_lens rfl si59 ?_
  refine W_mv rfl ?_
  refine W_nil ?_
  refine hK5 _ _ _ ?_
  try clear hK5 K5
  refine G_block ?_
  refine G_loop (α := Nat) (fun k => [(11, .int .i64 (k : Int)), (10, .int .i64 1), (9, .slice (some ⟨b3, o3, none⟩) 1 c3), (4, .pointer (some ⟨n4, 0, none⟩)), (3, .pointer (some ⟨hp, 0, none⟩))]) (fun k h4 => (k = 0 ∧ h3 = h4) ∨ (k = 1 ∧ Bld h.size h4 n4 ([] ++ [101, 114, 114, 111, 114, 32, 49] ++ [10]) ∧ h.size ≤ h4.size ∧ ∀ x, x < h.size → h4[x]? = h[x]?)) (fun k => 1 - k) 0 (Sub.cons rfl (Sub.cons rfl (Sub.cons rfl (Sub.cons rfl (Sub.cons rfl (Sub.nil _)))))) (.inl ⟨rfl, rfl⟩) ?_
  rintro k h4 hk4
  refine G_seq fun K6 hK6 => ?_
  refine G_region ?_
  refine W_lt rfl rfl (fun hlt => ?_) (fun hlt => ?_)
  ·
    refine W_nil ?_
    refine hK6 _ _ _ ?_
    try clear hK6 K6
    refine G_seq fun K8 hK8 => ?_
    refine G_if rfl ?_
    refine G_skip ?_
    refine hK8 _ _ _ ?_
    try clear hK8 K8
    refine G_seq fun K9 hK9 => ?_
    refine G_block ?_
    refine G_seq fun K10 hK10 => ?_
    refine G_region ?_
    obtain ⟨rfl, rfl⟩ : k = 0 ∧ h3 = h4 := by rcases hk4 with h | h; exact h; omega
    have hk0 : (cs3.extract o3 (o3 + 10))[0]? = some (.int .i64 (-1)) := by rw [Array.getElem?_extract, if_pos (by omega), hel3 0 (Nat.le_of_ble_eq_true rfl)]; rfl
    have hex : cs3.extract o3 (o3 + 10) = (rqCells Rq.none (.slice da Rq.none.data.length cd)).toArray := by
      apply Array.ext_getElem?
      intro i
      rw [Array.getElem?_extract]
      by_cases hi : i < 10
      · rw [if_pos (by omega), hel3 i hi]; rfl
      · rw [if_neg (by omega)]; exact (Array.getElem?_eq_none (show (rqCells Rq.none (.slice da Rq.none.data.length cd)).toArray.size ≤ i by show 10 ≤ i; omega)).symm
    have hone : oneAll (cs3.extract o3 (o3 + 10)).toList = true := by rw [hex]; rfl
    have hsz0 : (cs3.extract o3 (o3 + 10)).size = 10 := by rw [Array.size_extract]; omega
    refine W_is rfl rfl se59 rfl (by decide) rfl ?_
    refine W_ld rfl (ldA hb3 ag49 sz49 (by omega) (by rw [Nat.zero_mul, Nat.add_zero])) ?_
    refine W_al zt49 fun n6 h5 hn6 => ?_
    have hb6 := hn6.at
    have c6 : h.size ≤ n6 := by rw [hn6.nb_eq]; exact g0.size
    have n46 : n4 ≠ n6 := by have := get_lt hb4; rw [hn6.nb_eq]; omega
    replace hb4 := hn6.old hb4
    have g1 := g0.trans hn6.gr
    refine W_st (cs' := cs3.extract o3 (o3 + 10)) rfl rfl hb6 sz49 hsz0 (Nat.le_of_ble_eq_true rfl) hone rfl (writeL_all _ _ (by rw [Array.length_toList]; exact hsz0)) fun h5' hu6 => ?_
    replace hb4 := hu6.old n46 hb4
    replace hb6 := hu6.at
    replace g1 := g1.upd hu6 c6
    refine W_nil ?_
    refine hK10 _ _ _ ?_
    try clear hK10 K10
    refine G_seq fun K11 hK11 => ?_
    refine G_region ?_
    refine W_mv rfl ?_
    refine W_ld rfl (ldA hb6 ag49 sz49 (by rw [hsz0]; decide) (ext_all hsz0)) ?_
    refine W_call cl17 rfl (do_bad (hp := hp) (qcs := cs3.extract o3 (o3 + 10)) (k := -1) hk0 (by decide)) ?_
    rintro _ h6 ⟨rfl, hg6⟩
    replace hb4 := hg6.at hb4
    replace g1 := g1.trans hg6
    refine W_call cl12 rfl (answer_err (n := 1) rfl (by decide) (by decide) (by rw [str_size, hd1]; decide)) ?_
    rintro _ h7 ⟨rfl, hg7⟩
    replace hb4 := hg7.at hb4
    replace g1 := g1.trans hg7
    rw [hstr]
    have hBl : Bld h.size h7 n4 [] := ⟨_, 0, _, c4, hb4, .inl rfl, .inl ⟨rfl, rfl, rfl, rfl⟩, .inl rfl, fun g hg => (by cases hg), Nat.zero_le _⟩
    refine W_call cl31 rfl (bld_ws (s := [101, 114, 114, 111, 114, 32, 49]) hBl (by decide)) ?_
    rintro _ h8 ⟨rfl, hB8, hf8⟩
    refine W_nil ?_
    refine hK11 _ _ _ ?_
    try clear hK11 K11
    refine G_region ?_
    refine W_call cl32 rfl (bld_wb (x := 10) hB8 (by decide)) ?_
    rintro _ h9 ⟨rfl, hB9, hf9⟩
    refine W_nil ?_
    refine hK9 _ _ _ ?_
    try clear hK9 K9
    refine G_region ?_
    refine W_add rfl rfl (wrap_i64 (by omega) (by omega)) ?_
    refine W_mv rfl ?_
    refine W_nil ?_
    refine loop_nx 1 (by decide) (Sub.cons rfl (Sub.cons rfl (Sub.cons rfl (Sub.cons rfl (Sub.cons rfl (Sub.nil _)))))) (.inr ⟨rfl, hB9, ?_, ?_⟩)
    · have h1 := g1.size; have h2 := hf8.1; have h3 := hf9.1; omega
    · exact fun x hx => (hf9.2 x hx).trans ((hf8.2 x hx).trans (by have hxo : At h x h[x] := Array.getElem?_eq_getElem hx; exact (g1.at hxo).trans hxo.symm))
  ·
    refine W_nil ?_
    refine hK6 _ _ _ ?_
    try clear hK6 K6
    refine G_seq fun K12 hK12 => ?_
    refine G_else rfl ?_
    refine G_exit ?_
    simp only [loopQ_exit, seqQ_exit, blockQ_exit]
    refine hK4 _ _ _ ?_
    try clear hK4 K4
    refine G_seq fun K13 hK13 => ?_
    refine G_region ?_
    obtain ⟨hB, hsz, hfx⟩ : Bld h.size h4 n4 ([] ++ [101, 114, 114, 111, 114, 32, 49] ++ [10]) ∧ h.size ≤ h4.size ∧ ∀ x, x < h.size → h4[x]? = h[x]? := by rcases hk4 with h | h; omega; exact h.2
    refine W_call cl33 rfl (bld_string hB) ?_
    rintro _ h10 ⟨rfl, hf10⟩
    refine W_as rfl ?_
    refine W_nil ?_
    refine hK13 _ _ _ ?_
    try clear hK13 K13
    refine G_ret ?_
    refine end_ret rfl ?_
    exact ⟨rfl, gr_of (Nat.le_trans hsz hf10.1) fun x hx => (hf10.2 x hx).trans (hfx x hx)⟩

end Go.Fw

set_option maxRecDepth 100000
namespace Go.Fw
open Go Go.Proofs
set_option maxHeartbeats 400000 in
theorem fit_true {h : Heap} : Fn Tryz.prog 9 [] h fun v h' => v = .bool true ∧ Gr h h' := by
  refine Fn_intro Tryz.func9 rfl (by kernel_rfl) (Nat.le_of_ble_eq_true rfl) ?_
  refine G_seq fun K1 hK1 => ?_
  refine G_region ?_
  refine W_as rfl ?_
  refine W_nil ?_
  refine hK1 _ _ _ ?_
  try clear hK1 K1
  refine G_seq fun K2 hK2 => ?_
  refine G_region ?_
  refine W_bs sl24 sz5 zt5 (Nat.le_of_ble_eq_true rfl) (by decide) (cs := bv [1]) (bsE_one (v := .int .u8 1) (by rfl) (by rfl) (by simp [repCells])) fun nb h1 hn1 => ?_
  have hv : SlAt h1 (.slice (some ⟨nb, 0, none⟩) 1 1) 5 1 [(1 : UInt8)].length 1 (bv [1]) := .inr ⟨nb, 0, _, _, rfl, hn1.at, .inl rfl, Nat.le_refl _, Nat.le_refl _, by simp [bv]⟩
  refine W_call cl19 rfl (run_one hv) ?_
  rintro _ h2 ⟨rfl, hg2⟩
  refine W_bin rfl rfl (show binE _ .eql _ (.string (str [101, 114, 114, 111, 114, 32, 49, 10])) (.string (str [101, 114, 114, 111, 114, 32, 49, 10])) = some (.bool true) from by rw [binE_seq, beq_self_eq_true]) ?_
  refine W_mv rfl ?_
  refine W_gt rfl ?_
  refine W_bld fk26 zt26 (cs := #[.int .i64 0, .int .i64 0, .string ByteArray.empty, .slice none 0 0, .slice none 0 0]) rfl ?_
  refine W_gt rfl ?_
  refine W_call cl12 rfl (answer_ok0) ?_
  rintro _ h3 ⟨rfl, hg3⟩
  refine W_gt rfl ?_
  refine W_bin rfl rfl (show binE _ .eql _ (.string (str [111, 107])) (.string (str [111, 107])) = some (.bool true) from by rw [binE_seq, beq_self_eq_true]) ?_
  refine W_pt rfl rfl rfl ?_
  refine W_as rfl ?_
  refine W_nil ?_
  refine hK2 _ _ _ ?_
  try clear hK2 K2
  refine G_ret ?_
  refine end_ret rfl ?_
  exact ⟨rfl, hn1.gr.trans (hg2.trans hg3)⟩

end Go.Fw

set_option maxRecDepth 100000
namespace Go.Fw
open Go Go.Proofs
theorem and31 (P : Program) (e : Int) : ∃ k : Nat, k < 32 ∧ ∀ t, binE P .and t (.int .i64 e) (.int .i64 31) = some (.int .i64 (k : Int)) := by
  refine ⟨(BitVec.ofInt 64 e &&& BitVec.ofInt 64 31).toNat, ?_, fun t => ?_⟩
  · rw [BitVec.toNat_and]
    have h : (BitVec.ofInt 64 31).toNat = 2 ^ 5 - 1 := by decide
    rw [h, Nat.and_two_pow_sub_one_eq_mod]
    omega
  · have h2 := (BitVec.ofInt 64 e &&& BitVec.ofInt 64 31).isLt
    have h1 : (BitVec.ofInt 64 e &&& BitVec.ofInt 64 31).toNat < 32 := by
      rw [BitVec.toNat_and]
      have h : (BitVec.ofInt 64 31).toNat = 2 ^ 5 - 1 := by decide
      rw [h, Nat.and_two_pow_sub_one_eq_mod]
      omega
    have e1 : binE P .and t (.int .i64 e) (.int .i64 31) = some (.int .i64 (IntKind.wrap .i64 (((BitVec.ofInt 64 e &&& BitVec.ofInt 64 31).toNat : Nat) : Int))) := rfl
    rw [e1, wrap_i64 (by omega) (by omega)]

set_option maxHeartbeats 400000 in
theorem tellErrors_walk {h : Heap} {er hd e : Int} {s : ByteArray} {ra da : Option Addr} {rn rc dn dc : Nat} : Fn Tryz.prog 4 [.agg #[.int .i64 er, .int .i64 hd, .string s, .slice ra rn rc, .slice da dn dc], .int .i64 e] h fun v h' => v = .bool true ∧ Gr h h' := by
  obtain ⟨k, hk, hand⟩ := and31 Tryz.prog e
  refine Fn_intro Tryz.func4 rfl (by kernel_rfl) (Nat.le_of_ble_eq_true rfl) ?_
  refine G_seq fun K1 hK1 => ?_
  refine G_region ?_
  refine W_box rfl rfl fun n2 h1 hn2 => ?_
  have hb2 := hn2.at
  have g0 := hn2.gr
  have c2 : h.size ≤ n2 := Nat.le_of_eq hn2.nb_eq.symm
  refine W_as rfl ?_
  refine W_nil ?_
  refine hK1 _ _ _ ?_
  try clear hK1 K1
  refine G_seq fun K2 hK2 => ?_
  refine G_seq fun K3 hK3 => ?_
  refine G_region ?_
  refine W_call cl9 rfl (fit_true) ?_
  rintro _ h2 ⟨rfl, hg2⟩
  replace hb2 := hg2.at hb2
  replace g0 := g0.trans hg2
  refine W_not rfl ?_
  refine W_nil ?_
  refine hK3 _ _ _ ?_
  try clear hK3 K3
  refine G_else rfl ?_
  refine G_skip ?_
  refine hK2 _ _ _ ?_
  try clear hK2 K2
  refine G_seq fun K4 hK4 => ?_
  refine G_seq fun K5 hK5 => ?_
  refine G_region ?_
  refine W_fa rfl fo26_2 ?_
  refine W_ld rfl (ld1 hb2 ag9 (show _ = some (.string s) from rfl)) ?_
  refine W_lenstr rfl st9 ?_
  refine W_fa rfl fo26_4 ?_
  refine W_ld rfl (ld1 hb2 ag24 (show _ = some (.slice da dn dc) from rfl)) ?_
  refine W_lens rfl si24 ?_
  refine W_add rfl rfl rfl ?_
  refine W_fa rfl fo26_3 ?_
  refine W_ld rfl (ld1 hb2 ag23 (show _ = some (.slice ra rn rc) from rfl)) ?_
  refine W_lens rfl si23 ?_
  refine W_add rfl rfl rfl ?_
  refine W_gtr rfl rfl (fun hbig => ?_) (fun hbig => ?_)
  ·
    refine W_nil ?_
    refine hK5 _ _ _ ?_
    try clear hK5 K5
    refine G_if rfl ?_
    refine G_seq fun K7 hK7 => ?_
    refine G_region ?_
    refine W_as rfl ?_
    refine W_nil ?_
    refine hK7 _ _ _ ?_
    try clear hK7 K7
    refine G_ret ?_
    simp only [seqQ_ret, blockQ_ret, loopQ_ret]
    refine end_ret rfl ?_
    exact ⟨rfl, g0⟩
  ·
    refine W_nil ?_
    refine hK5 _ _ _ ?_
    try clear hK5 K5
    refine G_else rfl ?_
    refine G_skip ?_
    refine hK4 _ _ _ ?_
    try clear hK4 K4
    refine G_seq fun K8 hK8 => ?_
    refine G_region ?_
    refine W_mv rfl ?_
    refine W_bin rfl rfl (hand _) ?_
    refine W_add rfl rfl (show _ = ((k + 1 : Nat) : Int) from wrap_i64 (by omega) (by omega)) ?_
    refine W_fa rfl fo26_0 ?_
    refine W_st1 (cs' := #[.int .i64 ((k + 1 : Nat) : Int), .int .i64 hd, .string s, .slice ra rn rc, .slice da dn dc]) rfl rfl hb2 sz22 rfl (Nat.le_of_ble_eq_true rfl) rfl fun h3 hu => ?_
    replace hb2 := hu.at
    refine W_nil ?_
    refine hK8 _ _ _ ?_
    try clear hK8 K8
    refine G_seq fun K9 hK9 => ?_
    refine G_region ?_
    refine W_ld rfl (ldA hb2 ag26 sz26 (Nat.le_of_ble_eq_true rfl) (ext_all rfl)) ?_
    refine W_call cl12 rfl (answer_err (n := k + 1) rfl (by omega) (by omega) (by have := dec_len 2 (k + 1) (by omega); rw [str_size]; show 6 + (Lib.decDigits (k + 1)).length ≤ _; omega)) ?_
    rintro _ h4 ⟨rfl, hg4⟩
    refine W_mv rfl ?_
    refine W_bin rfl rfl (hand _) ?_
    refine W_add rfl rfl (show _ = ((k + 1 : Nat) : Int) from wrap_i64 (by omega) (by omega)) ?_
    refine W_call cl10 rfl (digits_nat (k + 1) (by omega)) ?_
    rintro _ h5 ⟨rfl, hg5⟩
    refine W_bin rfl rfl (binE_sadd (by have := dec_len 2 (k + 1) (by omega); rw [show ∀ x, (str x).size = x.length from str_size]; show 6 + (Lib.decDigits (k + 1)).length ≤ _; omega)) ?_
    refine W_bin rfl rfl (show binE _ .eql _ (.string (str [101, 114, 114, 111, 114, 32] ++ ⟨(Lib.decDigits (k + 1)).toArray⟩)) (.string (str [101, 114, 114, 111, 114, 32] ++ str (Lib.decDigits (k + 1)))) = some (.bool true) from by rw [binE_seq]; exact congrArg (fun x => some (Value.bool x)) (beq_self_eq_true _)) ?_
    refine W_as rfl ?_
    refine W_nil ?_
    refine hK9 _ _ _ ?_
    try clear hK9 K9
    refine G_ret ?_
    refine end_ret rfl ?_
    exact ⟨rfl, (g0.upd hu c2).trans (hg4.trans hg5)⟩

end Go.Fw
