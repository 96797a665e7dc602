/-
  A part of the proof: lemmas on which the theorem leans; nothing is claimed here by itself.
-/
import Derived.Test.YtgofdjfokfgnhaaGreatDoorW1
import Derived.Test.YtgofdjfokfgnhaaGreatDoorFw
import Derived.Deep.Slices
import Derived.OpenShut
import Derived.SizedLaws
import Derived.Lib.LaidTab
set_option maxRecDepth 100000
namespace Go.Fw
open Go Go.Proofs
theorem itoa_small {h : Heap} {n : Nat} (hn : n < 100) : Fn Tryz.prog 23 [.int .i64 (n : Int)] h fun v h' => v = .string ⟨(Lib.decDigits n).toArray⟩ ∧ h' = h := by
  intro w hw
  refine Calls.mono (Tryz.strconv_Itoa_small n hn w) fun x w' hx => ?_
  obtain ⟨rfl, rfl⟩ := hx
  exact ⟨_, rfl, ⟨rfl, hw⟩, rfl⟩

set_option maxHeartbeats 400000 in
theorem answer_err {h : Heap} {acs : Array Value} {n : Nat} (ha : acs[0]? = some (.int .i64 (n : Int))) (he1 : 0 < n) (he2 : n < 100) (hsz : (str [101, 114, 114, 111, 114, 32]).size + (ByteArray.mk (Lib.decDigits n).toArray).size ≤ 9223372036854775807) : Fn Tryz.prog 12 [.agg acs] h fun v h' => v = .string (str [101, 114, 114, 111, 114, 32] ++ ⟨(Lib.decDigits n).toArray⟩) ∧ Gr h h' := by
  refine Fn_intro Tryz.func12 rfl (by kernel_rfl) (Nat.le_of_ble_eq_true rfl) ?_
  refine G_seq fun K1 hK1 => ?_
  refine G_region ?_
  refine W_box rfl rfl fun n1 h1 hn1 => ?_
  have hb1 := hn1.at
  have g1 := hn1.gr
  refine W_as rfl ?_
  refine W_nil ?_
  refine hK1 _ _ _ ?_
  try clear hK1 K1
  refine G_seq fun K2 hK2 => ?_
  refine G_seq fun K3 hK3 => ?_
  refine G_region ?_
  refine W_fa rfl fo26_0 ?_
  refine W_ld rfl (by first | exact ld1 hb1 ag22 ha) ?_
  refine W_ne rfl rfl (fun _ => ?_) (fun hc4 => absurd hc4 (show ¬ _ from (by omega)))
  refine W_nil ?_
  refine hK3 _ _ _ ?_
  try clear hK3 K3
  refine G_if rfl ?_
  refine G_seq fun K5 hK5 => ?_
  refine G_region ?_
  refine W_fa rfl fo26_0 ?_
  refine W_ld rfl (by first | exact ld1 hb1 ag22 ha) ?_
  refine W_call cl23 rfl (itoa_small he2) ?_
  rintro _ h' ⟨rfl, e⟩
  replace e := e.symm
  subst e
  refine W_bin rfl rfl (binE_sadd hsz) ?_
  refine W_as rfl ?_
  refine W_nil ?_
  refine hK5 _ _ _ ?_
  try clear hK5 K5
  refine G_ret ?_
  simp only [seqQ_ret, blockQ_ret, loopQ_ret]
  refine end_ret rfl ?_
  exact ⟨rfl, g1⟩

set_option maxHeartbeats 400000 in
theorem digits1 {h : Heap} {n : Nat} (hn : n < 10) : Fn Tryz.prog 10 [.int .i64 (n : Int)] h fun v h' => v = .string (str [UInt8.ofNat (48 + n)]) ∧ Gr h h' := by
  refine Fn_intro Tryz.func10 rfl (by kernel_rfl) (Nat.le_of_ble_eq_true rfl) ?_
  refine G_seq fun K1 hK1 => ?_
  refine G_region ?_
  refine W_as rfl ?_
  refine W_nil ?_
  refine hK1 _ _ _ ?_
  try clear hK1 K1
  refine G_seq fun K2 hK2 => ?_
  refine G_seq fun K3 hK3 => ?_
  refine G_region ?_
  refine W_mv rfl ?_
  refine W_lt rfl rfl (fun hc4 => absurd hc4 (show ¬ _ from (by omega))) (fun _ => ?_)
  refine W_nil ?_
  refine hK3 _ _ _ ?_
  try clear hK3 K3
  refine G_else rfl ?_
  refine G_skip ?_
  refine hK2 _ _ _ ?_
  try clear hK2 K2
  refine G_seq fun K5 hK5 => ?_
  refine G_seq fun K6 hK6 => ?_
  refine G_region ?_
  refine W_mv rfl ?_
  refine W_lt rfl rfl (fun _ => ?_) (fun hc7 => absurd (show _ from (by omega)) hc7)
  refine W_nil ?_
  refine hK6 _ _ _ ?_
  try clear hK6 K6
  refine G_if rfl ?_
  refine G_seq fun K8 hK8 => ?_
  refine G_region ?_
  refine W_mv rfl ?_
  refine W_add rfl rfl (wrap_i64 (by omega) (by omega)) ?_
  refine W_cvi rfl kn3 it5 (show IntKind.u8.wrap (48 + (n : Int)) = ((UInt8.ofNat (48 + n)).toNat : Int) from by rw [← u8_wrap]; congr 1) ?_
  refine W_bs sl24 sz5 zt5 (Nat.le_of_ble_eq_true rfl) (by decide) (cs := bv [UInt8.ofNat (48 + n)]) (bsE_one (v := .int .u8 ((UInt8.ofNat (48 + n)).toNat : Int)) (by rfl) (by rfl) (by simp [repCells])) fun nb h1 hn1 => ?_
  have hs1 : SlAt h1 (.slice (some ⟨nb, 0, none⟩) 1 1) 5 1 [UInt8.ofNat (48 + n)].length 1 (bv [UInt8.ofNat (48 + n)]) := .inr ⟨nb, 0, _, _, rfl, hn1.at, .inl rfl, Nat.le_refl _, Nat.le_refl _, by simp [bv]⟩
  refine W_b2s rfl sl24 u85 st9 hs1 ?_
  refine W_as rfl ?_
  refine W_nil ?_
  refine hK8 _ _ _ ?_
  try clear hK8 K8
  refine G_ret ?_
  simp only [seqQ_ret, blockQ_ret, loopQ_ret]
  refine end_ret rfl ?_
  exact ⟨rfl, hn1.gr⟩

theorem dec_len : ∀ (k n : Nat), n < 10 ^ k → (Lib.decDigits n).length ≤ max k 1
  | 0, n, h => by
    have : n = 0 := by simpa using h
    subst this; rw [Lib.decDigits.eq_def]; simp
  | k + 1, n, h => by
    rw [Lib.decDigits.eq_def]
    split
    · simp
    · rename_i hn
      have ih := dec_len k (n / 10) (by rw [Nat.pow_succ] at h; omega)
      cases k with
      | zero => simp at h; omega
      | succ k => simp only [List.length_append, List.length_singleton]; omega

set_option maxHeartbeats 400000 in
theorem digits_step {h : Heap} {n : Nat} (hn : n < 2 ^ 63) (h1 : 10 ≤ n) (ih : Fn Tryz.prog 10 [.int .i64 ((n / 10 : Nat) : Int)] h fun v h' => v = .string (str (Lib.decDigits (n / 10))) ∧ Gr h h') : Fn Tryz.prog 10 [.int .i64 (n : Int)] h fun v h' => v = .string (str (Lib.decDigits n)) ∧ Gr h h' := by
  have h10 := Nat.mod_lt n (show 0 < 10 by decide)
  have hln : ∀ m : Nat, m < 2 ^ 63 → (Lib.decDigits m).length ≤ 20 := fun m hm => Nat.le_trans (dec_len 20 m (by omega)) (by decide)
  refine Fn_intro Tryz.func10 rfl (by kernel_rfl) (Nat.le_of_ble_eq_true rfl) ?_
  refine G_seq fun K1 hK1 => ?_
  refine G_region ?_
  refine W_as rfl ?_
  refine W_nil ?_
  refine hK1 _ _ _ ?_
  try clear hK1 K1
  refine G_seq fun K2 hK2 => ?_
  refine G_seq fun K3 hK3 => ?_
  refine G_region ?_
  refine W_mv rfl ?_
  refine W_lt rfl rfl (fun hc4 => absurd hc4 (show ¬ _ from (by omega))) (fun _ => ?_)
  refine W_nil ?_
  refine hK3 _ _ _ ?_
  try clear hK3 K3
  refine G_else rfl ?_
  refine G_skip ?_
  refine hK2 _ _ _ ?_
  try clear hK2 K2
  refine G_seq fun K5 hK5 => ?_
  refine G_seq fun K6 hK6 => ?_
  refine G_region ?_
  refine W_mv rfl ?_
  refine W_lt rfl rfl (fun hc7 => absurd hc7 (show ¬ _ from (by omega))) (fun _ => ?_)
  refine W_nil ?_
  refine hK6 _ _ _ ?_
  try clear hK6 K6
  refine G_else rfl ?_
  refine G_skip ?_
  refine hK5 _ _ _ ?_
  try clear hK5 K5
  refine G_seq fun K8 hK8 => ?_
  refine G_region ?_
  refine W_mv rfl ?_
  refine W_bin rfl rfl (binE_quo hn (by decide)) ?_
  refine W_call cl10 rfl (ih) ?_
  rintro _ h1 ⟨rfl, hg1⟩
  refine W_mv rfl ?_
  refine W_bin rfl rfl (binE_rem hn (by decide)) ?_
  refine W_call cl10 rfl (digits1 h10) ?_
  rintro _ h2 ⟨rfl, hg2⟩
  refine W_bin rfl rfl (binE_sadd (by have := hln (n / 10) (by omega); simp only [str_size, List.length_singleton]; omega)) ?_
  refine W_as rfl ?_
  refine W_nil ?_
  refine hK8 _ _ _ ?_
  try clear hK8 K8
  refine G_ret ?_
  refine end_ret rfl ?_
  refine ⟨?_, hg1.trans hg2⟩
  rw [str_append, Lib.decDigits.eq_def n, dif_neg (by omega)]; rfl

theorem digits_nat {h : Heap} (n : Nat) (hn : n < 2 ^ 63) : Fn Tryz.prog 10 [.int .i64 (n : Int)] h fun v h' => v = .string (str (Lib.decDigits n)) ∧ Gr h h' := by
  induction n using Nat.strongRecOn with
  | _ n ih =>
    rcases Nat.lt_or_ge n 10 with h1 | h1
    · rw [Lib.decDigits.eq_def n, dif_pos h1]; exact digits1 h1
    · exact digits_step hn h1 (ih (n / 10) (by omega) (by omega))

end Go.Fw

set_option maxRecDepth 100000
namespace Go.Fw
open Go Go.Proofs
set_option maxHeartbeats 400000 in
theorem answer_ok0 {h : Heap} : Fn Tryz.prog 12 [.agg #[.int .i64 0, .int .i64 0, .string ByteArray.empty, .slice none 0 0, .slice none 0 0]] h fun v h' => v = .string (str [111, 107]) ∧ Gr h h' := by
  refine Fn_intro Tryz.func12 rfl (by kernel_rfl) (Nat.le_of_ble_eq_true rfl) ?_
  refine G_seq fun K1 hK1 => ?_
  refine G_region ?_
  refine W_box rfl rfl fun n1 h1 hn1 => ?_
  have hb1 := hn1.at
  have g0 := hn1.gr
  refine W_as rfl ?_
  refine W_nil ?_
  refine hK1 _ _ _ ?_
  try clear hK1 K1
  refine G_seq fun K2 hK2 => ?_
  refine G_seq fun K3 hK3 => ?_
  refine G_region ?_
  refine W_fa rfl fo26_0 ?_
  refine W_ld rfl (ld1 hb1 ag22 (show _ = some (.int .i64 0) from rfl)) ?_
  refine W_ne rfl rfl (fun hc4 => absurd (show _ from (by omega)) hc4) (fun _ => ?_)
  refine W_nil ?_
  refine hK3 _ _ _ ?_
  try clear hK3 K3
  refine G_else rfl ?_
  refine G_skip ?_
  refine hK2 _ _ _ ?_
  try clear hK2 K2
  refine G_seq fun K5 hK5 => ?_
  refine G_region ?_
  refine W_fa rfl fo26_1 ?_
  refine W_ld rfl (ld1 hb1 ag3 (show _ = some (.int .i64 0) from rfl)) ?_
  refine W_mif rfl cc62 ?_
  refine W_fa rfl fo26_2 ?_
  refine W_ld rfl (ld1 hb1 ag9 (show _ = some (.string ByteArray.empty) from rfl)) ?_
  refine W_mif rfl cc63 ?_
  refine W_bs sl64 sz67 zt67 (Nat.le_of_ble_eq_true rfl) (by decide) (cs := #[.iface 62 (.int .i64 0), .iface 63 (.string ByteArray.empty)]) (bsE_two rfl rfl rfl rfl (by simp [repCells])) fun nb2 h2 hn2 => ?_
  have hb2 := hn2.at
  replace hb1 := hn2.old hb1
  replace g0 := g0.trans hn2.gr
  refine W_as rfl ?_
  refine W_nil ?_
  refine hK5 _ _ _ ?_
  try clear hK5 K5
  refine G_seq fun K6 hK6 => ?_
  refine G_seq fun K7 hK7 => ?_
  refine G_region ?_
  refine W_fa rfl fo26_3 ?_
  refine W_ld rfl (ld1 hb1 ag23 (show _ = some (.slice none 0 0) from rfl)) ?_
  refine W_lens rfl si23 ?_
  refine W_mv rfl ?_
  refine W_nil ?_
  refine hK7 _ _ _ ?_
  try clear hK7 K7
  refine G_block ?_
  refine G_loop (α := Unit) (fun _ => [(30, .int .i64 0), (29, .int .i64 0), (3, .slice (some ⟨nb2, 0, none⟩) 2 2), (1, .pointer (some ⟨n1, 0, none⟩))]) (fun _ h' => h2 = h') (fun _ => 0) () (Sub.cons rfl (Sub.cons rfl (Sub.cons rfl (Sub.cons rfl (Sub.nil _))))) rfl ?_
  rintro _ _ rfl
  refine G_seq fun K8 hK8 => ?_
  refine G_region ?_
  refine W_lt rfl rfl (fun hc9 => absurd hc9 (show ¬ _ from (by omega))) (fun _ => ?_)
  refine W_nil ?_
  refine hK8 _ _ _ ?_
  try clear hK8 K8
  refine G_seq fun K10 hK10 => ?_
  refine G_else rfl ?_
  refine G_exit ?_
  simp only [loopQ_exit, seqQ_exit, blockQ_exit]
  refine hK6 _ _ _ ?_
  try clear hK6 K6
  refine G_seq fun K11 hK11 => ?_
  refine G_region ?_
  refine W_as rfl ?_
  refine W_nil ?_
  refine hK11 _ _ _ ?_
  try clear hK11 K11
  refine G_seq fun K12 hK12 => ?_
  refine G_seq fun K13 hK13 => ?_
  refine G_region ?_
  refine W_mv rfl ?_
  refine W_fa rfl fo26_4 ?_
  refine W_ld rfl (ld1 hb1 ag24 (show _ = some (.slice none 0 0) from rfl)) ?_
  refine W_b2s rfl sl24 u85 st63 (bs := []) (el' := 0) (.inl ⟨rfl, rfl, rfl, rfl⟩) ?_
  refine W_mif rfl cc63 ?_
  refine W_bs sl64 sz67 zt67 (Nat.le_of_ble_eq_true rfl) (by decide) (cs := #[.iface 63 (.string ByteArray.empty)]) (bsE_one (v := .iface 63 (.string ByteArray.empty)) (by rfl) (by rfl) (by simp [repCells])) fun nb3 h3 hn3 => ?_
  replace hb2 := hn3.old hb2
  replace g0 := g0.trans hn3.gr
  refine W_app (n := 2) (c := 2) (m := 1) (xs := #[.iface 62 (.int .i64 0), .iface 63 (.string ByteArray.empty)]) (nv := #[.iface 63 (.string ByteArray.empty)]) rfl rfl sl64 ni64 sz67 zt67 rfl by67 (.inr ⟨nb2, 0, _, _, rfl, hb2, .inl rfl, Nat.le_refl _, Nat.le_refl _, rfl⟩) (src_row hn3.at rfl) rfl rfl (by decide) (by decide) fun v5 c5 h5 hs5 hm5 ho5 => ?_
  have g5 := g0.own_app hm5 (fun b hb => by cases hb; rw [hn2.nb_eq]; exact hn1.gr.size)
  obtain ⟨b5, o5, cs5, fr5, rfl, hb5, _, _, hel5⟩ := hs5.at (by decide)
  clear hb1 hb2
  refine W_lens rfl si64 ?_
  refine W_mv rfl ?_
  refine W_nil ?_
  refine hK13 _ _ _ ?_
  try clear hK13 K13
  refine G_block ?_
  refine G_loop (α := Nat) (fun k => [(48, .int .i64 (k : Int)), (47, .int .i64 3), (46, .slice (some ⟨b5, o5, none⟩) (2 + 1) c5), (6, .string (str [111, 107]))]) (fun k h' => h5 = h' ∧ k ≤ 3) (fun k => 3 - k) 0 (Sub.cons rfl (Sub.cons rfl (Sub.cons rfl (Sub.cons rfl (Sub.nil _))))) ⟨rfl, Nat.zero_le _⟩ ?_
  rintro k _ ⟨rfl, hk3⟩
  refine G_seq fun K14 hK14 => ?_
  refine G_region ?_
  refine W_lt rfl rfl (fun hk => ?_) (fun hk => ?_)
  ·
    refine W_nil ?_
    refine hK14 _ _ _ ?_
    try clear hK14 K14
    refine G_seq fun K16 hK16 => ?_
    refine G_if rfl ?_
    refine G_skip ?_
    refine hK16 _ _ _ ?_
    try clear hK16 K16
    refine G_seq fun K17 hK17 => ?_
    refine G_block ?_
    refine G_seq fun K18 hK18 => ?_
    refine G_region ?_
    refine W_is rfl rfl se64 rfl (by omega) rfl ?_
    rcases (show k = 0 ∨ k = 1 ∨ k = 2 by omega) with rfl | rfl | rfl
    ·
      have hel := hel5 0 (by decide)
      refine W_ld rfl (ld1 hb5 ag67 (hel.trans (show _ = some (.iface 62 (.int .i64 0)) from rfl))) ?_
      refine W_as rfl ?_
      refine W_nil ?_
      refine hK18 _ _ _ ?_
      try clear hK18 K18
      refine G_seq fun K19 hK19 => ?_
      refine G_region ?_
      refine W_mv rfl ?_
      refine W_ta rfl cc62 (z := .int .i64 0) (by kernel_rfl) ?_
      rw [if_pos rfl]
      refine W_mv rfl ?_
      refine W_ex rfl rfl ?_
      refine W_ex rfl rfl ?_
      refine W_as rfl ?_
      refine W_as rfl ?_
      refine W_nil ?_
      refine hK19 _ _ _ ?_
      try clear hK19 K19
      refine G_seq fun K20 hK20 => ?_
      refine G_seq fun K21 hK21 => ?_
      refine G_region ?_
      refine W_mv rfl ?_
      refine W_ta rfl cc63 (z := .string ByteArray.empty) (by kernel_rfl) ?_
      rw [if_neg (by decide)]
      refine W_mv rfl ?_
      refine W_ex rfl rfl ?_
      refine W_ex rfl rfl ?_
      refine W_as rfl ?_
      refine W_as rfl ?_
      refine W_nil ?_
      refine hK21 _ _ _ ?_
      try clear hK21 K21
      refine G_seq fun K22 hK22 => ?_
      refine G_region ?_
      refine W_mv rfl ?_
      refine W_mv rfl ?_
      refine W_gf rfl ?_
      refine W_gf rfl ?_
      refine W_pf rfl rfl rfl ?_
      refine W_mv rfl ?_
      refine W_gt rfl ?_
      refine W_mv rfl ?_
      refine W_gt rfl ?_
      refine W_mv rfl ?_
      refine W_gt rfl ?_
      refine W_mv rfl ?_
      refine W_gt rfl ?_
      refine W_eq rfl rfl (fun _ => ?_) (fun hc23 => absurd (show _ from (by omega)) hc23)
      refine W_gt rfl ?_
      refine W_pt rfl rfl rfl ?_
      refine W_pf rfl rfl rfl ?_
      refine W_nil ?_
      refine hK22 _ _ _ ?_
      try clear hK22 K22
      refine G_if rfl ?_
      refine G_exit ?_
      simp only [loopQ_exit, seqQ_exit, blockQ_exit]
      refine hK17 _ _ _ ?_
      try clear hK17 K17
      refine G_region ?_
      refine W_add rfl rfl (wrap_i64 (by omega) (by omega)) ?_
      refine W_mv rfl ?_
      refine W_nil ?_
      refine loop_nx 1 (by decide) (Sub.cons rfl (Sub.cons rfl (Sub.cons rfl (Sub.cons rfl (Sub.nil _))))) ⟨rfl, by decide⟩
    ·
      have hel := hel5 1 (by decide)
      refine W_ld rfl (ld1 hb5 ag67 (hel.trans (show _ = some (.iface 63 (.string ByteArray.empty)) from rfl))) ?_
      refine W_as rfl ?_
      refine W_nil ?_
      refine hK18 _ _ _ ?_
      try clear hK18 K18
      refine G_seq fun K24 hK24 => ?_
      refine G_region ?_
      refine W_mv rfl ?_
      refine W_ta rfl cc62 (z := .int .i64 0) (by kernel_rfl) ?_
      rw [if_neg (by decide)]
      refine W_mv rfl ?_
      refine W_ex rfl rfl ?_
      refine W_ex rfl rfl ?_
      refine W_as rfl ?_
      refine W_as rfl ?_
      refine W_nil ?_
      refine hK24 _ _ _ ?_
      try clear hK24 K24
      refine G_seq fun K25 hK25 => ?_
      refine G_seq fun K26 hK26 => ?_
      refine G_region ?_
      refine W_mv rfl ?_
      refine W_ta rfl cc63 (z := .string ByteArray.empty) (by kernel_rfl) ?_
      rw [if_pos rfl]
      refine W_mv rfl ?_
      refine W_ex rfl rfl ?_
      refine W_ex rfl rfl ?_
      refine W_as rfl ?_
      refine W_as rfl ?_
      refine W_nil ?_
      refine hK26 _ _ _ ?_
      try clear hK26 K26
      refine G_seq fun K27 hK27 => ?_
      refine G_region ?_
      refine W_mv rfl ?_
      refine W_mv rfl ?_
      refine W_gt rfl ?_
      refine W_mv rfl ?_
      refine W_gt rfl ?_
      refine W_bin rfl rfl (show binE _ .eql _ (.string ByteArray.empty) (.string ByteArray.empty) = some (.bool true) from by rw [binE_seq, beq_self_eq_true]) ?_
      refine W_pt rfl rfl rfl ?_
      refine W_mv rfl ?_
      refine W_gf rfl ?_
      refine W_gf rfl ?_
      refine W_gf rfl ?_
      refine W_gf rfl ?_
      refine W_gf rfl ?_
      refine W_pt rfl rfl rfl ?_
      refine W_nil ?_
      refine hK27 _ _ _ ?_
      try clear hK27 K27
      refine G_if rfl ?_
      refine G_exit ?_
      simp only [loopQ_exit, seqQ_exit, blockQ_exit]
      refine hK17 _ _ _ ?_
      try clear hK17 K17
      refine G_region ?_
      refine W_add rfl rfl (wrap_i64 (by omega) (by omega)) ?_
      refine W_mv rfl ?_
      refine W_nil ?_
      refine loop_nx 2 (by decide) (Sub.cons rfl (Sub.cons rfl (Sub.cons rfl (Sub.cons rfl (Sub.nil _))))) ⟨rfl, by decide⟩
    ·
      have hel := hel5 2 (by decide)
      refine W_ld rfl (ld1 hb5 ag67 (hel.trans (show _ = some (.iface 63 (.string ByteArray.empty)) from rfl))) ?_
      refine W_as rfl ?_
      refine W_nil ?_
      refine hK18 _ _ _ ?_
      try clear hK18 K18
      refine G_seq fun K28 hK28 => ?_
      refine G_region ?_
      refine W_mv rfl ?_
      refine W_ta rfl cc62 (z := .int .i64 0) (by kernel_rfl) ?_
      rw [if_neg (by decide)]
      refine W_mv rfl ?_
      refine W_ex rfl rfl ?_
      refine W_ex rfl rfl ?_
      refine W_as rfl ?_
      refine W_as rfl ?_
      refine W_nil ?_
      refine hK28 _ _ _ ?_
      try clear hK28 K28
      refine G_seq fun K29 hK29 => ?_
      refine G_seq fun K30 hK30 => ?_
      refine G_region ?_
      refine W_mv rfl ?_
      refine W_ta rfl cc63 (z := .string ByteArray.empty) (by kernel_rfl) ?_
      rw [if_pos rfl]
      refine W_mv rfl ?_
      refine W_ex rfl rfl ?_
      refine W_ex rfl rfl ?_
      refine W_as rfl ?_
      refine W_as rfl ?_
      refine W_nil ?_
      refine hK30 _ _ _ ?_
      try clear hK30 K30
      refine G_seq fun K31 hK31 => ?_
      refine G_region ?_
      refine W_mv rfl ?_
      refine W_mv rfl ?_
      refine W_gt rfl ?_
      refine W_mv rfl ?_
      refine W_gt rfl ?_
      refine W_bin rfl rfl (show binE _ .eql _ (.string ByteArray.empty) (.string ByteArray.empty) = some (.bool true) from by rw [binE_seq, beq_self_eq_true]) ?_
      refine W_pt rfl rfl rfl ?_
      refine W_mv rfl ?_
      refine W_gf rfl ?_
      refine W_gf rfl ?_
      refine W_gf rfl ?_
      refine W_gf rfl ?_
      refine W_gf rfl ?_
      refine W_pt rfl rfl rfl ?_
      refine W_nil ?_
      refine hK31 _ _ _ ?_
      try clear hK31 K31
      refine G_if rfl ?_
      refine G_exit ?_
      simp only [loopQ_exit, seqQ_exit, blockQ_exit]
      refine hK17 _ _ _ ?_
      try clear hK17 K17
      refine G_region ?_
      refine W_add rfl rfl (wrap_i64 (by omega) (by omega)) ?_
      refine W_mv rfl ?_
      refine W_nil ?_
      refine loop_nx 3 (by decide) (Sub.cons rfl (Sub.cons rfl (Sub.cons rfl (Sub.cons rfl (Sub.nil _))))) ⟨rfl, by decide⟩
  ·
    refine W_nil ?_
    refine hK14 _ _ _ ?_
    try clear hK14 K14
    refine G_seq fun K32 hK32 => ?_
    refine G_else rfl ?_
    refine G_exit ?_
    simp only [loopQ_exit, seqQ_exit, blockQ_exit]
    refine hK12 _ _ _ ?_
    try clear hK12 K12
    refine G_seq fun K33 hK33 => ?_
    refine G_region ?_
    refine W_mv rfl ?_
    refine W_as rfl ?_
    refine W_nil ?_
    refine hK33 _ _ _ ?_
    try clear hK33 K33
    refine G_ret ?_
    refine end_ret rfl ?_
    exact ⟨rfl, g5⟩

end Go.Fw

set_option maxRecDepth 100000
namespace Go.Fw
open Go Go.Proofs
set_option maxHeartbeats 400000 in
theorem run_one {h : Heap} {v : Value} {c : Nat} (hv : SlAt h v 5 1 [(1 : UInt8)].length c (bv [1])) : Fn Tryz.prog 19 [v] h fun v h' => v = .string (str [101, 114, 114, 111, 114, 32, 49, 10]) ∧ Gr h h' := by
  have hd1 : Lib.decDigits 1 = [49] := by rw [Lib.decDigits.eq_def, dif_pos (by decide)]; rfl
  have hstr : (str [101, 114, 114, 111, 114, 32] ++ ByteArray.mk (Lib.decDigits 1).toArray) = str [101, 114, 114, 111, 114, 32, 49] := by
    rw [Lib.decDigits.eq_def, dif_pos (by decide)]
    show str _ ++ str _ = _
    rw [str_append]; rfl
  refine Fn_intro Tryz.func19 rfl (by kernel_rfl) (Nat.le_of_ble_eq_true rfl) ?_
  refine G_seq fun K1 hK1 => ?_
  refine G_region ?_
  refine W_as rfl ?_
  refine W_nil ?_
  refine hK1 _ _ _ ?_
  try clear hK1 K1
  refine G_seq fun K2 hK2 => ?_
  refine G_region ?_
  refine W_call cl14 rfl (house_new) ?_
  rintro _ h1 ⟨hp, d, hcs, χ, rfl, _, _, g0, _, _⟩
  refine W_as rfl ?_
  refine W_nil ?_
  refine hK2 _ _ _ ?_
  try clear hK2 K2
  refine G_seq fun K3 hK3 => ?_
  refine G_region ?_
  refine W_al zt91 fun n4 h2 hn4 => ?_
  have hb4 := hn4.at
  have c4 : h.size ≤ n4 := by rw [hn4.nb_eq]; exact g0.size
  replace g0 := g0.trans hn4.gr
  refine W_nil ?_
  refine hK3 _ _ _ ?_
  try clear hK3 K3
  refine G_seq fun K4 hK4 => ?_
  refine G_seq fun K5 hK5 => ?_
  refine G_region ?_
  refine W_mv rfl ?_
  refine W_call cl22 rfl (script_decode (l := [1]) (hv.gr g0) (by decide)) ?_
  rintro v3 h3 ⟨xs, hq, hxs, hg3⟩
  replace hb4 := hg3.at hb4
  replace g0 := g0.trans hg3
  obtain ⟨dv, rfl⟩ : ∃ dv, xs = [(Rq.none, dv)] := by
    have e : dec [(1 : UInt8)].length [1] = [Rq.none] := rfl
    rw [e] at hxs
    match xs, hxs with
    | [(q, dv)], h => simp at h; subst h; exact ⟨dv, rfl⟩
  obtain ⟨c3, hq3⟩ := hq.1
  obtain ⟨cd, hcd⟩ := hq.2 _ (List.mem_singleton.2 rfl)
  obtain ⟨da, hda⟩ := hcd.shape
  simp only at hda
  subst hda
  obtain ⟨b3, o3, cs3, fr3, rfl, hb3, _, hle3, hel3⟩ := hq3.at (Nat.le_of_ble_eq_true rfl)
  have hle3' : o3 + 10 ≤ cs3.size := hle3
  refine W_lens rfl si59 ?_
  refine W_mv rfl ?_
  refine W_nil ?_
  refine hK5 _ _ _ ?_
  try clear hK5 K5
  refine G_block ?_
  refine G_loop (α := Nat) (fun k => [(11, .int .i64 (k : Int)), (10, .int .i64 1), (9, .slice (some ⟨b3, o3, none⟩) 1 c3), (4, .pointer (some ⟨n4, 0, none⟩)), (3, .pointer (some ⟨hp, 0, none⟩))]) (fun k h4 => (k = 0 ∧ h3 = h4) ∨ (k = 1 ∧ Bld h.size h4 n4 ([] ++ [101, 114, 114, 111, 114, 32, 49] ++ [10]) ∧ h.size ≤ h4.size ∧ ∀ x, x < h.size → h4[x]? = h[x]?)) (fun k => 1 - k) 0 (Sub.cons rfl (Sub.cons rfl (Sub.cons rfl (Sub.cons rfl (Sub.cons rfl (Sub.nil _)))))) (.inl ⟨rfl, rfl⟩) ?_
  rintro k h4 hk4
  refine G_seq fun K6 hK6 => ?_
  refine G_region ?_
  refine W_lt rfl rfl (fun hlt => ?_) (fun hlt => ?_)
  ·
    refine W_nil ?_
    refine hK6 _ _ _ ?_
    try clear hK6 K6
    refine G_seq fun K8 hK8 => ?_
    refine G_if rfl ?_
    refine G_skip ?_
    refine hK8 _ _ _ ?_
    try clear hK8 K8
    refine G_seq fun K9 hK9 => ?_
    refine G_block ?_
    refine G_seq fun K10 hK10 => ?_
    refine G_region ?_
    obtain ⟨rfl, rfl⟩ : k = 0 ∧ h3 = h4 := by rcases hk4 with h | h; exact h; omega
    have hk0 : (cs3.extract o3 (o3 + 10))[0]? = some (.int .i64 (-1)) := by rw [Array.getElem?_extract, if_pos (by omega), hel3 0 (Nat.le_of_ble_eq_true rfl)]; rfl
    have hex : cs3.extract o3 (o3 + 10) = (rqCells Rq.none (.slice da Rq.none.data.length cd)).toArray := by
      apply Array.ext_getElem?
      intro i
      rw [Array.getElem?_extract]
      by_cases hi : i < 10
      · rw [if_pos (by omega), hel3 i hi]; rfl
      · rw [if_neg (by omega)]; exact (Array.getElem?_eq_none (show (rqCells Rq.none (.slice da Rq.none.data.length cd)).toArray.size ≤ i by show 10 ≤ i; omega)).symm
    have hone : oneAll (cs3.extract o3 (o3 + 10)).toList = true := by rw [hex]; rfl
    have hsz0 : (cs3.extract o3 (o3 + 10)).size = 10 := by rw [Array.size_extract]; omega
    refine W_is rfl rfl se59 rfl (by decide) rfl ?_
    refine W_ld rfl (ldA hb3 ag49 sz49 (by omega) (by rw [Nat.zero_mul, Nat.add_zero])) ?_
    refine W_al zt49 fun n6 h5 hn6 => ?_
    have hb6 := hn6.at
    have c6 : h.size ≤ n6 := by rw [hn6.nb_eq]; exact g0.size
    have n46 : n4 ≠ n6 := by have := get_lt hb4; rw [hn6.nb_eq]; omega
    replace hb4 := hn6.old hb4
    have g1 := g0.trans hn6.gr
    refine W_st (cs' := cs3.extract o3 (o3 + 10)) rfl rfl hb6 sz49 hsz0 (Nat.le_of_ble_eq_true rfl) hone rfl (writeL_all _ _ (by rw [Array.length_toList]; exact hsz0)) fun h5' hu6 => ?_
    replace hb4 := hu6.old n46 hb4
    replace hb6 := hu6.at
    replace g1 := g1.upd hu6 c6
    refine W_nil ?_
    refine hK10 _ _ _ ?_
    try clear hK10 K10
    refine G_seq fun K11 hK11 => ?_
    refine G_region ?_
    refine W_mv rfl ?_
    refine W_ld rfl (ldA hb6 ag49 sz49 (by rw [hsz0]; decide) (ext_all hsz0)) ?_
    refine W_call cl17 rfl (do_bad (hp := hp) (qcs := cs3.extract o3 (o3 + 10)) (k := -1) hk0 (by decide)) ?_
    rintro _ h6 ⟨rfl, hg6⟩
    replace hb4 := hg6.at hb4
    replace g1 := g1.trans hg6
    refine W_call cl12 rfl (answer_err (n := 1) rfl (by decide) (by decide) (by rw [str_size, hd1]; decide)) ?_
    rintro _ h7 ⟨rfl, hg7⟩
    replace hb4 := hg7.at hb4
    replace g1 := g1.trans hg7
    rw [hstr]
    have hBl : Bld h.size h7 n4 [] := ⟨_, 0, _, c4, hb4, .inl rfl, .inl ⟨rfl, rfl, rfl, rfl⟩, .inl rfl, fun g hg => (by cases hg), Nat.zero_le _⟩
    refine W_call cl31 rfl (bld_ws (s := [101, 114, 114, 111, 114, 32, 49]) hBl (by decide)) ?_
    rintro _ h8 ⟨rfl, hB8, hf8⟩
    refine W_nil ?_
    refine hK11 _ _ _ ?_
    try clear hK11 K11
    refine G_region ?_
    refine W_call cl32 rfl (bld_wb (x := 10) hB8 (by decide)) ?_
    rintro _ h9 ⟨rfl, hB9, hf9⟩
    refine W_nil ?_
    refine hK9 _ _ _ ?_
    try clear hK9 K9
    refine G_region ?_
    refine W_add rfl rfl (wrap_i64 (by omega) (by omega)) ?_
    refine W_mv rfl ?_
    refine W_nil ?_
    refine loop_nx 1 (by decide) (Sub.cons rfl (Sub.cons rfl (Sub.cons rfl (Sub.cons rfl (Sub.cons rfl (Sub.nil _)))))) (.inr ⟨rfl, hB9, ?_, ?_⟩)
    · have h1 := g1.size; have h2 := hf8.1; have h3 := hf9.1; omega
    · exact fun x hx => (hf9.2 x hx).trans ((hf8.2 x hx).trans (by have hxo : At h x h[x] := Array.getElem?_eq_getElem hx; exact (g1.at hxo).trans hxo.symm))
  ·
    refine W_nil ?_
    refine hK6 _ _ _ ?_
    try clear hK6 K6
    refine G_seq fun K12 hK12 => ?_
    refine G_else rfl ?_
    refine G_exit ?_
    simp only [loopQ_exit, seqQ_exit, blockQ_exit]
    refine hK4 _ _ _ ?_
    try clear hK4 K4
    refine G_seq fun K13 hK13 => ?_
    refine G_region ?_
    obtain ⟨hB, hsz, hfx⟩ : Bld h.size h4 n4 ([] ++ [101, 114, 114, 111, 114, 32, 49] ++ [10]) ∧ h.size ≤ h4.size ∧ ∀ x, x < h.size → h4[x]? = h[x]? := by rcases hk4 with h | h; omega; exact h.2
    refine W_call cl33 rfl (bld_string hB) ?_
    rintro _ h10 ⟨rfl, hf10⟩
    refine W_as rfl ?_
    refine W_nil ?_
    refine hK13 _ _ _ ?_
    try clear hK13 K13
    refine G_ret ?_
    refine end_ret rfl ?_
    exact ⟨rfl, gr_of (Nat.le_trans hsz hf10.1) fun x hx => (hf10.2 x hx).trans (hfx x hx)⟩

end Go.Fw

set_option maxRecDepth 100000
namespace Go.Fw
open Go Go.Proofs
set_option maxHeartbeats 400000 in
theorem fit_true {h : Heap} : Fn Tryz.prog 9 [] h fun v h' => v = .bool true ∧ Gr h h' := by
  refine Fn_intro Tryz.func9 rfl (by kernel_rfl) (Nat.le_of_ble_eq_true rfl) ?_
  refine G_seq fun K1 hK1 => ?_
  refine G_region ?_
  refine W_as rfl ?_
  refine W_nil ?_
  refine hK1 _ _ _ ?_
  try clear hK1 K1
  refine G_seq fun K2 hK2 => ?_
  refine G_region ?_
  refine W_bs sl24 sz5 zt5 (Nat.le_of_ble_eq_true rfl) (by decide) (cs := bv [1]) (bsE_one (v := .int .u8 1) (by rfl) (by rfl) (by simp [repCells])) fun nb h1 hn1 => ?_
  have hv : SlAt h1 (.slice (some ⟨nb, 0, none⟩) 1 1) 5 1 [(1 : UInt8)].length 1 (bv [1]) := .inr ⟨nb, 0, _, _, rfl, hn1.at, .inl rfl, Nat.le_refl _, Nat.le_refl _, by simp [bv]⟩
  refine W_call cl19 rfl (run_one hv) ?_
  rintro _ h2 ⟨rfl, hg2⟩
  refine W_bin rfl rfl (show binE _ .eql _ (.string (str [101, 114, 114, 111, 114, 32, 49, 10])) (.string (str [101, 114, 114, 111, 114, 32, 49, 10])) = some (.bool true) from by rw [binE_seq, beq_self_eq_true]) ?_
  refine W_mv rfl ?_
  refine W_gt rfl ?_
  refine W_bld fk26 zt26 (cs := #[.int .i64 0, .int .i64 0, .string ByteArray.empty, .slice none 0 0, .slice none 0 0]) rfl ?_
  refine W_gt rfl ?_
  refine W_call cl12 rfl (answer_ok0) ?_
  rintro _ h3 ⟨rfl, hg3⟩
  refine W_gt rfl ?_
  refine W_bin rfl rfl (show binE _ .eql _ (.string (str [111, 107])) (.string (str [111, 107])) = some (.bool true) from by rw [binE_seq, beq_self_eq_true]) ?_
  refine W_pt rfl rfl rfl ?_
  refine W_as rfl ?_
  refine W_nil ?_
  refine hK2 _ _ _ ?_
  try clear hK2 K2
  refine G_ret ?_
  refine end_ret rfl ?_
  exact ⟨rfl, hn1.gr.trans (hg2.trans hg3)⟩

end Go.Fw

namespace Go.Proofs
end Go.Proofs
set_option maxRecDepth 100000
namespace Go.Fw
open Go Go.Proofs
/-! ## What is told: numbers, bytes, rows -/
def hexlit : List UInt8 := [48, 49, 50, 51, 52, 53, 54, 55, 56, 57, 97, 98, 99, 100, 101, 102]
def hexc (n : Nat) : UInt8 := UInt8.ofNat (if n < 10 then 48 + n else 87 + n)
def hexs (l : List UInt8) : List UInt8 := l.flatMap fun c => [hexc (c.toNat / 16), hexc (c.toNat % 16)]
def saidT (l : List UInt8) : List UInt8 := if l = [] then [45] else hexs l
theorem str_get {s : List UInt8} {k : Nat} {c : UInt8} (h : s[k]? = some c) : (str s)[k]? = some c := by
  have hk : k < s.length := by
    rcases Nat.lt_or_ge k s.length with h' | h'
    · exact h'
    · rw [List.getElem?_eq_none h'] at h; cases h
  rw [getElem?_pos (str s) k (by rw [str_size]; exact hk)]
  rw [List.getElem?_eq_getElem hk] at h
  exact h
theorem hexs_len (l : List UInt8) : (hexs l).length = 2 * l.length := by
  induction l with
  | nil => rfl
  | cons c l ih => simp only [hexs, List.flatMap_cons, List.length_append, List.length_cons, List.length_nil] at ih ⊢; omega
theorem hexs_take {l : List UInt8} {k : Nat} {c : UInt8} (hk : l[k]? = some c) : hexs (l.take (k + 1)) = hexs (l.take k) ++ [hexc (c.toNat / 16)] ++ [hexc (c.toNat % 16)] := by
  have : l.take (k + 1) = l.take k ++ [c] := by rw [List.take_add_one, hk]; rfl
  simp only [hexs, this, List.flatMap_append, List.flatMap_cons, List.flatMap_nil, List.append_nil, List.append_assoc]
  rfl
theorem hexlit_at {k : Nat} (hk : k < 16) : hexlit[k]? = some (hexc k) ∧ Utf8.decode (str hexlit) k = ((hexc k).toNat, 1) := by
  have h : ∀ k : Fin 16, hexlit[k.val]? = some (hexc k.val) ∧ Utf8.decode (str hexlit) k.val = ((hexc k.val).toNat, 1) := by decide +kernel
  exact h ⟨k, hk⟩
theorem hexc_lt (k : Nat) (hk : k < 16) : (hexc k).toNat < 128 := by
  have h : ∀ k : Fin 16, (hexc k.val).toNat < 128 := by decide +kernel
  exact h ⟨k, hk⟩
/-- the table of the powers of ten lies where it lay -/
def powV : Array Value := (Lib.pow10Tab.map fun z => Value.int .u64 z).toArray
def Tabl (h : Heap) : Prop := ∃ ty fr, At h 0 (.cells powV ty fr)
theorem Tabl.gr {h h'} (t : Tabl h) (g : Gr h h') : Tabl h' := let ⟨a, b, c⟩ := t; ⟨a, b, g.at c⟩
theorem Tabl.new {h o nb h'} (t : Tabl h) (g : New h o nb h') : Tabl h' := t.gr g.gr
theorem Tabl.lt {h} (t : Tabl h) : 0 < h.size := let ⟨_, _, c⟩ := t; get_lt c
theorem Tabl.upd {h b o h'} (t : Tabl h) (u : Upd h b o h') (hb : b ≠ 0) : Tabl h' := let ⟨x, y, c⟩ := t; ⟨x, y, u.old (Ne.symm hb) c⟩
theorem powNamed : Tryz.prog.globalNamed "internal/strconv.uint64pow10" = some 0 := by kernel_rfl
theorem itoa_all {h : Heap} {n : Int} (ht : Tabl h) (h0 : -9223372036854775808 ≤ n) (h1 : n ≤ 9223372036854775807) : Fn Tryz.prog 23 [.int .i64 n] h fun v h' => v = .string (str (Lib.itoa n)) ∧ Gr h h' := by
  intro w hw
  obtain ⟨ty, fr, hat⟩ := ht
  have htab : Lib.TabIs Tryz.prog w "internal/strconv.uint64pow10" .u64 Lib.pow10Tab := by
    unfold Lib.TabIs World.var?
    rw [powNamed, Option.bind_some, hw, show h[0]? = some _ from hat]; rfl
  refine Calls.mono (Tryz.strconv_Itoa n h0 h1 w htab) fun x w' ⟨hx, k, os, hw'⟩ => ?_
  refine ⟨_, hx, ⟨rfl, ?_⟩, by rw [hw']; rfl⟩
  subst hw; subst hw'
  refine gr_of (by simp [Go.Sort.grow]) fun b hb => ?_
  simp [Go.Sort.grow, Array.getElem?_append_left hb]
theorem dec_len20 {m : Nat} (h : m ≤ 9223372036854775808) : (Lib.decDigits m).length ≤ 20 := Nat.le_trans (dec_len 20 m (by omega)) (by decide)
theorem itoa_len {n : Int} (h0 : -9223372036854775808 ≤ n) (h1 : n ≤ 9223372036854775807) : (Lib.itoa n).length ≤ 21 := by
  unfold Lib.itoa
  split
  · have := dec_len20 (m := n.natAbs) (by omega); simp only [List.length_cons]; omega
  · have := dec_len20 (m := n.toNat) (by omega); omega
theorem Bld.gr {B : Nat} {h h' : Heap} {b : Nat} {l : List UInt8} (x : Bld B h b l) (g : Gr h h') : Bld B h' b l := by
  obtain ⟨v, c, p, y⟩ := x
  exact ⟨v, c, p, y.le, g.at y.hb, y.hp, y.hs.gr g, y.row.keep fun _ _ _ z => g.at z, y.own, y.hl⟩
/-- below B nothing has changed -/
def Bel (B : Nat) (h h' : Heap) : Prop := h.size ≤ h'.size ∧ ∀ x, x < B → h'[x]? = h[x]?
theorem Bel.refl (B h) : Bel B h h := ⟨Nat.le_refl _, fun _ _ => rfl⟩
theorem Bel.trans {B h h1 h2} (a : Bel B h h1) (b : Bel B h1 h2) : Bel B h h2 := ⟨Nat.le_trans a.1 b.1, fun x hx => (b.2 x hx).trans (a.2 x hx)⟩
theorem Gr.bel {h h'} (g : Gr h h') {B : Nat} (hB : B ≤ h.size) : Bel B h h' := ⟨g.size, fun x hx => (g.at (show At h x h[x] from Array.getElem?_eq_getElem (by omega))).trans (Array.getElem?_eq_getElem (by omega)).symm⟩
theorem Bel.gr {h h'} (x : Bel h.size h h') : Gr h h' := gr_of x.1 x.2
theorem u8i (c : UInt8) : 0 ≤ (c.toNat : Int) ∧ (c.toNat : Int) ≤ 255 := by have := c.toNat_lt; omega
theorem binE_shr4 {P : Program} {t : TypeId} (c : UInt8) : binE P .shr t (.int .u8 (c.toNat : Int)) (.int .u64 4) = some (.int .u8 ((c.toNat / 16 : Nat) : Int)) := by
  simp only [binE, isOp]
  rw [if_pos (by omega)]
  have : min (Int.toNat 4) 8 = 4 := rfl
  simp only [shV, IntKind.bits, this]
  congr 2
  rw [Int.fdiv_eq_ediv_of_nonneg _ (by decide)]
  rfl
theorem binE_and15 {P : Program} {t : TypeId} (c : UInt8) : binE P .and t (.int .u8 (c.toNat : Int)) (.int .u8 15) = some (.int .u8 ((c.toNat % 16 : Nat) : Int)) := by
  have hc := c.toNat_lt
  have h1 : (BitVec.ofInt 8 (c.toNat : Int) &&& BitVec.ofInt 8 15).toNat = c.toNat % 16 := by
    rw [ofInt_nat, BitVec.toNat_and, BitVec.toNat_ofNat, Nat.mod_eq_of_lt (by omega)]
    have : (BitVec.ofInt 8 15).toNat = 2 ^ 4 - 1 := by decide
    rw [this, Nat.and_two_pow_sub_one_eq_mod]
  have e : binE P .and t (.int .u8 (c.toNat : Int)) (.int .u8 15) = some (.int .u8 (Go.IntKind.wrap .u8 (((BitVec.ofInt 8 (c.toNat : Int) &&& BitVec.ofInt 8 15).toNat : Nat) : Int))) := rfl
  rw [e, h1, wrap_u8 (by omega) (by omega)]
theorem binE_quo16 {P : Program} {t : TypeId} (c : UInt8) : binE P .quo t (.int .u8 (c.toNat : Int)) (.int .u8 16) = some (.int .u8 ((c.toNat / 16 : Nat) : Int)) := by
  have hc := c.toNat_lt
  have h1 : Int.tdiv (c.toNat : Int) 16 = ((c.toNat / 16 : Nat) : Int) := rfl
  simp only [binE, isOp]
  rw [if_pos ⟨trivial, by omega⟩]
  simp only [divV, h1]
  rw [wrap_u8 (by omega) (by omega)]
theorem binE_rem16 {P : Program} {t : TypeId} (c : UInt8) : binE P .rem t (.int .u8 (c.toNat : Int)) (.int .u8 16) = some (.int .u8 ((c.toNat % 16 : Nat) : Int)) := by
  have h1 : Int.tmod (c.toNat : Int) 16 = ((c.toNat % 16 : Nat) : Int) := rfl
  simp only [binE, isOp]
  rw [if_pos ⟨trivial, by omega⟩]
  simp only [divV, h1]

end Go.Fw

set_option maxRecDepth 100000
namespace Go.Fw
open Go Go.Proofs
set_option maxHeartbeats 400000 in
theorem tell_digit {h : Heap} {n : Nat} (hn : n < 16) : Fn Tryz.prog 204 [.int .u8 (n : Int)] h fun v h' => v = .int .u8 ((hexc n).toNat : Int) ∧ Gr h h' := by
  refine Fn_intro Tryz.func204 rfl (by kernel_rfl) (Nat.le_of_ble_eq_true rfl) ?_
  refine G_seq fun K1 hK1 => ?_
  refine G_region ?_
  refine W_as rfl ?_
  refine W_nil ?_
  refine hK1 _ _ _ ?_
  try clear hK1 K1
  refine G_seq fun K2 hK2 => ?_
  refine G_seq fun K3 hK3 => ?_
  refine G_region ?_
  refine W_rgs (s := str hexlit) rfl st9 fun nb h1 hn1 => ?_
  have hb5 := hn1.at
  refine W_nil ?_
  refine hK3 _ _ _ ?_
  try clear hK3 K3
  refine G_block ?_
  refine G_loop (α := Nat) (fun k => [(5, .pointer (some ⟨nb, 0, none⟩)), (0, .int .u8 (n : Int))]) (fun k h2 => k ≤ n ∧ At h2 nb (.stringIter (str hexlit) k) ∧ Gr h h2) (fun k => 16 - k) 0 (Sub.cons rfl (Sub.cons rfl (Sub.nil _))) ⟨Nat.zero_le _, hb5, hn1.gr⟩ ?_
  rintro k h2 ⟨hk, hit, hg⟩
  refine G_seq fun K4 hK4 => ?_
  refine G_region ?_
  refine W_nxs rfl hit (by rw [str_size]; show k < 16; omega) (hexlit_at (by omega)).2 fun h3 hu => ?_
  have hit' := hu.at
  replace hg := hg.upd hu (by rw [hn1.nb_eq]; exact Nat.le_refl _)
  refine W_ex rfl rfl ?_
  refine W_nil ?_
  refine hK4 _ _ _ ?_
  try clear hK4 K4
  refine G_seq fun K5 hK5 => ?_
  refine G_if rfl ?_
  refine G_skip ?_
  refine hK5 _ _ _ ?_
  try clear hK5 K5
  refine G_block ?_
  refine G_seq fun K6 hK6 => ?_
  refine G_region ?_
  refine W_ex rfl rfl ?_
  refine W_ex rfl rfl ?_
  refine W_as rfl ?_
  refine W_as rfl ?_
  refine W_nil ?_
  refine hK6 _ _ _ ?_
  try clear hK6 K6
  refine G_seq fun K7 hK7 => ?_
  refine G_region ?_
  refine W_mv rfl ?_
  refine W_cvi rfl kn3 it5 (wrap_u8 (by omega) (by omega)) ?_
  refine W_mv rfl ?_
  refine W_eq rfl rfl (fun hkn => ?_) (fun hkn => ?_)
  ·
    refine W_nil ?_
    refine hK7 _ _ _ ?_
    try clear hK7 K7
    refine G_if rfl ?_
    refine G_seq fun K9 hK9 => ?_
    refine G_region ?_
    refine W_mv rfl ?_
    refine W_cvi rfl kn21 it5 (wrap_u8 (by have := hexc_lt k (by omega); omega) (by have := hexc_lt k (by omega); omega)) ?_
    refine W_as rfl ?_
    refine W_nil ?_
    refine hK9 _ _ _ ?_
    try clear hK9 K9
    refine G_ret ?_
    simp only [seqQ_ret, blockQ_ret, loopQ_ret]
    refine end_ret rfl ?_
    have : k = n := by omega
    subst this
    exact ⟨rfl, hg⟩
  ·
    refine W_nil ?_
    refine hK7 _ _ _ ?_
    try clear hK7 K7
    refine G_else rfl ?_
    refine G_skip ?_
    simp only [blockQ_normal]
    refine loop_nx (k + 1) (by omega) (Sub.cons rfl (Sub.cons rfl (Sub.nil _))) ⟨by omega, hit', hg⟩

set_option maxHeartbeats 400000 in
theorem text_said0 {h : Heap}  : Fn Tryz.prog 203 [.string (str [])] h fun v h' => v = .string (str ([45])) ∧ Gr h h' := by
  refine Fn_intro Tryz.func203 rfl (by kernel_rfl) (Nat.le_of_ble_eq_true rfl) ?_
  refine G_seq fun K1 hK1 => ?_
  refine G_region ?_
  refine W_as rfl ?_
  refine W_nil ?_
  refine hK1 _ _ _ ?_
  try clear hK1 K1
  refine G_seq fun K2 hK2 => ?_
  refine G_seq fun K3 hK3 => ?_
  refine G_region ?_
  refine W_mv rfl ?_
  refine W_seq (a := []) (b := []) rfl rfl (fun _ => ?_) (fun hx => absurd rfl hx)
  refine W_nil ?_
  refine hK3 _ _ _ ?_
  try clear hK3 K3
  refine G_if rfl ?_
  refine G_seq fun K5 hK5 => ?_
  refine G_region ?_
  refine W_as rfl ?_
  refine W_nil ?_
  refine hK5 _ _ _ ?_
  try clear hK5 K5
  refine G_ret ?_
  simp only [seqQ_ret, blockQ_ret, loopQ_ret]
  refine end_ret rfl ?_
  exact ⟨rfl, Gr.refl _⟩

set_option maxHeartbeats 400000 in
theorem text_said1 {h : Heap} {s : List UInt8} (hs : s ≠ []) (hl : s.length ≤ 274877906944) : Fn Tryz.prog 203 [.string (str s)] h fun v h' => v = .string (str (hexs s)) ∧ Gr h h' := by
  refine Fn_intro Tryz.func203 rfl (by kernel_rfl) (Nat.le_of_ble_eq_true rfl) ?_
  refine G_seq fun K1 hK1 => ?_
  refine G_region ?_
  refine W_as rfl ?_
  refine W_nil ?_
  refine hK1 _ _ _ ?_
  try clear hK1 K1
  refine G_seq fun K2 hK2 => ?_
  refine G_seq fun K3 hK3 => ?_
  refine G_region ?_
  refine W_mv rfl ?_
  refine W_seq (a := s) (b := []) rfl rfl (fun hx => absurd hx hs) (fun _ => ?_)
  refine W_nil ?_
  refine hK3 _ _ _ ?_
  try clear hK3 K3
  refine G_else rfl ?_
  refine G_skip ?_
  refine hK2 _ _ _ ?_
  try clear hK2 K2
  refine G_seq fun K5 hK5 => ?_
  refine G_region ?_
  refine W_al zt91 fun nb h1 hn1 => ?_
  have hB0 : Bld h.size h1 nb [] := ⟨_, 0, _, Nat.le_of_eq hn1.nb_eq.symm, hn1.at, .inl rfl, .inl ⟨rfl, rfl, rfl, rfl⟩, .inl rfl, fun g hg => (by cases hg), Nat.zero_le _⟩
  have hbel := hn1.gr.bel (Nat.le_refl h.size)
  refine W_nil ?_
  refine hK5 _ _ _ ?_
  try clear hK5 K5
  refine G_seq fun K6 hK6 => ?_
  refine G_seq fun K7 hK7 => ?_
  refine G_region ?_
  refine W_mv rfl ?_
  refine W_lenstr rfl st63 ?_
  rw [str_size]
  refine W_mv rfl ?_
  refine W_nil ?_
  refine hK7 _ _ _ ?_
  try clear hK7 K7
  refine G_block ?_
  refine G_loop (α := Nat) (fun k => [(9, .int .i64 (k : Int)), (8, .int .i64 (s.length : Int)), (3, .pointer (some ⟨nb, 0, none⟩)), (0, .string (str s))]) (fun k h2 => k ≤ s.length ∧ Bld h.size h2 nb (hexs (s.take k)) ∧ Bel h.size h h2) (fun k => s.length - k) 0 (Sub.cons rfl (Sub.cons rfl (Sub.cons rfl (Sub.cons rfl (Sub.nil _))))) ⟨Nat.zero_le _, hB0, hbel⟩ ?_
  rintro k h2 ⟨hkl, hB, hbl⟩
  refine G_seq fun K8 hK8 => ?_
  refine G_region ?_
  refine W_lt rfl rfl (fun hk => ?_) (fun hk => ?_)
  ·
    refine W_nil ?_
    refine hK8 _ _ _ ?_
    try clear hK8 K8
    refine G_seq fun K10 hK10 => ?_
    refine G_if rfl ?_
    refine G_skip ?_
    refine hK10 _ _ _ ?_
    try clear hK10 K10
    refine G_seq fun K11 hK11 => ?_
    refine G_block ?_
    refine G_seq fun K12 hK12 => ?_
    refine G_region ?_
    refine W_mv rfl ?_
    refine W_as rfl ?_
    refine W_nil ?_
    refine hK12 _ _ _ ?_
    try clear hK12 K12
    refine G_seq fun K13 hK13 => ?_
    refine G_region ?_
    refine W_mv rfl ?_
    refine W_mv rfl ?_
    obtain ⟨c, hck⟩ : ∃ c, s[k]? = some c := ⟨_, List.getElem?_eq_getElem (by omega)⟩
    have hckb := str_get hck
    have hlen := hexs_len (s.take k)
    rw [List.length_take] at hlen
    refine W_ixs rfl rfl st63 rfl hckb ?_
    refine W_bin rfl rfl (binE_shr4 c) ?_
    refine W_call cl204 rfl (tell_digit (n := c.toNat / 16) (by have := c.toNat_lt; omega)) ?_
    rintro _ h3 ⟨rfl, hg3⟩
    refine W_call cl32 rfl (bld_wb (x := hexc (c.toNat / 16)) (hB.gr hg3) (by simp only [List.length_singleton]; omega)) ?_
    rintro _ h4 ⟨_, hB4, hf4⟩
    refine W_nil ?_
    refine hK13 _ _ _ ?_
    try clear hK13 K13
    refine G_region ?_
    refine W_mv rfl ?_
    refine W_mv rfl ?_
    refine W_ixs rfl rfl st63 rfl hckb ?_
    refine W_bin rfl rfl (binE_and15 c) ?_
    refine W_call cl204 rfl (tell_digit (n := c.toNat % 16) (by omega)) ?_
    rintro _ h5 ⟨rfl, hg5⟩
    refine W_call cl32 rfl (bld_wb (x := hexc (c.toNat % 16)) (hB4.gr hg5) (by simp only [List.length_append, List.length_singleton]; omega)) ?_
    rintro _ h6 ⟨_, hB6, hf6⟩
    refine W_nil ?_
    refine hK11 _ _ _ ?_
    try clear hK11 K11
    refine G_region ?_
    refine W_add rfl rfl (wrap_i64 (by omega) (by omega)) ?_
    refine W_mv rfl ?_
    refine W_nil ?_
    refine loop_nx (k + 1) (by omega) (Sub.cons rfl (Sub.cons rfl (Sub.cons rfl (Sub.cons rfl (Sub.nil _))))) ⟨by omega, by rw [hexs_take hck]; exact hB6, ((((hbl.trans (hg3.bel hbl.1)).trans hf4).trans (hg5.bel (Nat.le_trans hbl.1 (Nat.le_trans hg3.size hf4.1)))).trans hf6)⟩
  ·
    refine W_nil ?_
    refine hK8 _ _ _ ?_
    try clear hK8 K8
    refine G_seq fun K14 hK14 => ?_
    refine G_else rfl ?_
    refine G_exit ?_
    simp only [loopQ_exit, seqQ_exit, blockQ_exit]
    refine hK6 _ _ _ ?_
    try clear hK6 K6
    refine G_seq fun K15 hK15 => ?_
    refine G_region ?_
    refine W_call cl33 rfl (bld_string hB) ?_
    rintro _ h7 ⟨rfl, hf7⟩
    refine W_as rfl ?_
    refine W_nil ?_
    refine hK15 _ _ _ ?_
    try clear hK15 K15
    refine G_ret ?_
    refine end_ret rfl ?_
    have hk' : k = s.length := by omega
    subst hk'
    rw [List.take_length]
    exact ⟨rfl, (hbl.trans hf7).gr⟩

theorem text_said {h : Heap} {s : List UInt8} (hl : s.length ≤ 274877906944) : Fn Tryz.prog 203 [.string (str s)] h fun v h' => v = .string (str (saidT s)) ∧ Gr h h' := by
  by_cases hs : s = []
  · subst hs; exact text_said0
  · rw [saidT, if_neg hs]; exact text_said1 hs hl
theorem saidT_len (s : List UInt8) : (saidT s).length ≤ 2 * s.length + 1 := by
  unfold saidT
  split
  · simp
  · rw [hexs_len]; omega

set_option maxHeartbeats 400000 in
theorem number_said {h : Heap} {n : Int} (ht : Tabl h) (h0 : -9223372036854775808 ≤ n) (h1 : n ≤ 9223372036854775807) : Fn Tryz.prog 202 [.int .i64 n] h fun v h' => v = .string (str (Lib.itoa n)) ∧ Gr h h' := by
  refine Fn_intro Tryz.func202 rfl (by kernel_rfl) (Nat.le_of_ble_eq_true rfl) ?_
  refine G_seq fun K1 hK1 => ?_
  refine G_region ?_
  refine W_as rfl ?_
  refine W_nil ?_
  refine hK1 _ _ _ ?_
  try clear hK1 K1
  refine G_seq fun K2 hK2 => ?_
  refine G_region ?_
  refine W_mv rfl ?_
  refine W_call cl23 rfl (itoa_all ht h0 h1) ?_
  rintro _ h2 ⟨rfl, hg⟩
  refine W_as rfl ?_
  refine W_nil ?_
  refine hK2 _ _ _ ?_
  try clear hK2 K2
  refine G_ret ?_
  refine end_ret rfl ?_
  exact ⟨rfl, hg⟩

structure Rw where
  tab : Int
  key : List UInt8
  val : List UInt8
def rwCells (r : Rw) : List Value := [.int .i64 r.tab, .string (str r.key), .string (str r.val)]
def rwS (r : Rw) : List UInt8 := Lib.itoa r.tab ++ [58] ++ saidT r.key ++ [61] ++ saidT r.val
def I64 (n : Int) : Prop := -9223372036854775808 ≤ n ∧ n ≤ 9223372036854775807
theorem rwS_len {r : Rw} (h : I64 r.tab) : (rwS r).length ≤ 25 + 2 * r.key.length + 2 * r.val.length := by
  have := itoa_len h.1 h.2; have := saidT_len r.key; have := saidT_len r.val
  simp only [rwS, List.length_append, List.length_singleton]; omega

set_option maxHeartbeats 400000 in
theorem entry_said {h : Heap} {r : Rw} (ht : Tabl h) (hr : I64 r.tab) (hk : r.key.length ≤ 274877906944) (hv : r.val.length ≤ 274877906944) : Fn Tryz.prog 205 [.agg (rwCells r).toArray] h fun v h' => v = .string (str (rwS r)) ∧ Gr h h' := by
  obtain ⟨h0, h1'⟩ := hr
  refine Fn_intro Tryz.func205 rfl (by kernel_rfl) (Nat.le_of_ble_eq_true rfl) ?_
  refine G_seq fun K1 hK1 => ?_
  refine G_region ?_
  refine W_box rfl rfl fun n1 h1 hn1 => ?_
  have hb1 := hn1.at
  have g0 := hn1.gr
  have ht1 := ht.new hn1
  have hl0 := itoa_len h0 h1'
  have hl1 := saidT_len r.key
  have hl2 := saidT_len r.val
  refine W_as rfl ?_
  refine W_nil ?_
  refine hK1 _ _ _ ?_
  try clear hK1 K1
  refine G_seq fun K2 hK2 => ?_
  refine G_drawM 13 (fun _ => False) mixed (by kernel_rfl) ?_
  refine A_takesM [0, 1, 4, 5, 9, 10] 8 (by kernel_rfl) rfl ?_
  refine FH_fa rfl fo65_0 ?_
  refine FH_ld rfl (fun x hx => by first | exact ld1 (hx.keep _ _ hb1 id) ag3 rfl) ?_
  refine FH_fa rfl fo65_1 ?_
  refine FH_ld rfl (fun x hx => by first | exact ld1 (hx.keep _ _ hb1 id) ag9 rfl) ?_
  refine FH_fa rfl fo65_2 ?_
  refine FH_ld rfl (fun x hx => by first | exact ld1 (hx.keep _ _ hb1 id) ag9 rfl) ?_
  refine FH_nil ?_
  refine A_one (i := 2) 7 (by kernel_rfl) rfl rfl ?_
  refine W_call cl202 rfl (number_said ht1 h0 h1') ?_
  rintro _ h2 ⟨rfl, hg2⟩
  replace hb1 := hg2.at hb1
  refine W_nil ?_
  refine AK_mod hg2 ?_
  refine A_takesM [3] 6 (by kernel_rfl) rfl ?_
  refine FH_bin rfl rfl (binE_add (by simp only [List.length_singleton]; omega)) ?_
  refine FH_nil ?_
  refine A_one (i := 6) 5 (by kernel_rfl) rfl rfl ?_
  refine W_call cl203 rfl (text_said hk) ?_
  rintro _ h3 ⟨rfl, hg3⟩
  replace hb1 := hg3.at hb1
  refine W_nil ?_
  refine AK_mod hg3 ?_
  refine A_takesM [7, 8] 3 (by kernel_rfl) rfl ?_
  refine FH_bin rfl rfl (binE_add (by simp only [List.length_append, List.length_singleton]; omega)) ?_
  refine FH_bin rfl rfl (binE_add (by simp only [List.length_append, List.length_singleton]; omega)) ?_
  refine FH_nil ?_
  refine A_one (i := 11) 2 (by kernel_rfl) rfl rfl ?_
  refine W_call cl203 rfl (text_said hv) ?_
  rintro _ h4 ⟨rfl, hg4⟩
  refine W_nil ?_
  refine AK_mod hg4 ?_
  refine A_takesM [12] 1 (by kernel_rfl) rfl ?_
  refine FH_bin rfl rfl (binE_add (by simp only [List.length_append, List.length_singleton]; omega)) ?_
  refine FH_nil ?_
  refine A_tail 13 (by kernel_rfl) ?_
  refine W_as rfl ?_
  refine W_nil ?_
  refine hK2 _ _ _ ?_
  try clear hK2 K2
  refine G_ret ?_
  refine end_ret rfl ?_
  exact ⟨rfl, ((g0.trans hg2).trans hg3).trans hg4⟩

end Go.Fw

set_option maxRecDepth 100000
namespace Go.Fw
open Go Go.Proofs
set_option maxHeartbeats 400000 in
theorem hex0 {h : Heap} : Fn Tryz.prog 11 [.string (str [])] h fun v h' => v = .string (str ([45])) ∧ Gr h h' := by
  refine Fn_intro Tryz.func11 rfl (by kernel_rfl) (Nat.le_of_ble_eq_true rfl) ?_
  refine G_seq fun K1 hK1 => ?_
  refine G_region ?_
  refine W_as rfl ?_
  refine W_nil ?_
  refine hK1 _ _ _ ?_
  try clear hK1 K1
  refine G_seq fun K2 hK2 => ?_
  refine G_seq fun K3 hK3 => ?_
  refine G_region ?_
  refine W_mv rfl ?_
  refine W_seq (a := []) (b := []) rfl rfl (fun _ => ?_) (fun hx => absurd rfl hx)
  refine W_nil ?_
  refine hK3 _ _ _ ?_
  try clear hK3 K3
  refine G_if rfl ?_
  refine G_seq fun K5 hK5 => ?_
  refine G_region ?_
  refine W_as rfl ?_
  refine W_nil ?_
  refine hK5 _ _ _ ?_
  try clear hK5 K5
  refine G_ret ?_
  simp only [seqQ_ret, blockQ_ret, loopQ_ret]
  refine end_ret rfl ?_
  exact ⟨rfl, Gr.refl _⟩

set_option maxHeartbeats 400000 in
theorem hex1 {h : Heap} {s : List UInt8} (hs : s ≠ []) (hl : s.length ≤ 1099511627776) : Fn Tryz.prog 11 [.string (str s)] h fun v h' => v = .string (str (hexs s)) ∧ Gr h h' := by
  refine Fn_intro Tryz.func11 rfl (by kernel_rfl) (Nat.le_of_ble_eq_true rfl) ?_
  refine G_seq fun K1 hK1 => ?_
  refine G_region ?_
  refine W_as rfl ?_
  refine W_nil ?_
  refine hK1 _ _ _ ?_
  try clear hK1 K1
  refine G_seq fun K2 hK2 => ?_
  refine G_seq fun K3 hK3 => ?_
  refine G_region ?_
  refine W_mv rfl ?_
  refine W_seq (a := s) (b := []) rfl rfl (fun hx => absurd hx hs) (fun _ => ?_)
  refine W_nil ?_
  refine hK3 _ _ _ ?_
  try clear hK3 K3
  refine G_else rfl ?_
  refine G_skip ?_
  refine hK2 _ _ _ ?_
  try clear hK2 K2
  refine G_seq fun K5 hK5 => ?_
  refine G_region ?_
  refine W_as rfl ?_
  refine W_nil ?_
  refine hK5 _ _ _ ?_
  try clear hK5 K5
  refine G_seq fun K6 hK6 => ?_
  refine G_seq fun K7 hK7 => ?_
  refine G_region ?_
  refine W_mv rfl ?_
  refine W_lenstr rfl st9 ?_
  rw [str_size]
  refine W_mv rfl ?_
  refine W_nil ?_
  refine hK7 _ _ _ ?_
  try clear hK7 K7
  refine G_block ?_
  refine G_loop (α := Nat) (fun k => [(9, .int .i64 (k : Int)), (8, .int .i64 (s.length : Int)), (3, .string (str (hexs (s.take k)))), (0, .string (str s))]) (fun k h2 => k ≤ s.length ∧ Gr h h2) (fun k => s.length - k) 0 (Sub.cons rfl (Sub.cons rfl (Sub.cons rfl (Sub.cons rfl (Sub.nil _))))) ⟨Nat.zero_le _, Gr.refl _⟩ ?_
  rintro k h2 ⟨hkl, hg⟩
  refine G_seq fun K8 hK8 => ?_
  refine G_region ?_
  refine W_lt rfl rfl (fun hk => ?_) (fun hk => ?_)
  ·
    refine W_nil ?_
    refine hK8 _ _ _ ?_
    try clear hK8 K8
    refine G_seq fun K10 hK10 => ?_
    refine G_if rfl ?_
    refine G_skip ?_
    refine hK10 _ _ _ ?_
    try clear hK10 K10
    refine G_seq fun K11 hK11 => ?_
    refine G_block ?_
    refine G_seq fun K12 hK12 => ?_
    refine G_region ?_
    obtain ⟨c, hck⟩ : ∃ c, s[k]? = some c := ⟨_, List.getElem?_eq_getElem (by omega)⟩
    have hckb := str_get hck
    have hlen := hexs_len (s.take k)
    rw [List.length_take] at hlen
    have hc1 : c.toNat / 16 < 16 := by have := c.toNat_lt; omega
    have hc2 : c.toNat % 16 < 16 := by omega
    refine W_mv rfl ?_
    refine W_as rfl ?_
    refine W_nil ?_
    refine hK12 _ _ _ ?_
    try clear hK12 K12
    refine G_drawM 14 (fun _ => False) mixed (by kernel_rfl) ?_
    refine A_takesM [0, 1, 2, 3, 4, 5, 6, 7, 8, 9, 10] 4 (by kernel_rfl) rfl ?_
    refine FH_mv rfl ?_
    refine FH_mv rfl ?_
    refine FH_mv rfl ?_
    refine FH_ixs rfl rfl st9 rfl hckb ?_
    refine FH_bin rfl rfl (binE_quo16 c) ?_
    refine FH_ixs (s := str hexlit) rfl rfl st9 rfl (str_get (hexlit_at hc1).1) ?_
    refine FH_mv rfl ?_
    refine FH_mv rfl ?_
    refine FH_ixs rfl rfl st9 rfl hckb ?_
    refine FH_bin rfl rfl (binE_rem16 c) ?_
    refine FH_ixs (s := str hexlit) rfl rfl st9 rfl (str_get (hexlit_at hc2).1) ?_
    refine FH_nil ?_
    refine A_one (i := 11) 3 (by kernel_rfl) rfl rfl ?_
    refine W_bs sl24 sz5 zt5 (Nat.le_of_ble_eq_true rfl) (by decide) (bsE_two (v := .int .u8 ((hexc (c.toNat / 16)).toNat : Int)) (u := .int .u8 ((hexc (c.toNat % 16)).toNat : Int)) rfl rfl rfl rfl (by simp [repCells])) fun nb h3 hn2 => ?_
    have hsl : SlAt h3 (.slice (some ⟨nb, 0, none⟩) 2 2) 5 1 [hexc (c.toNat / 16), hexc (c.toNat % 16)].length 2 (bv [hexc (c.toNat / 16), hexc (c.toNat % 16)]) := .inr ⟨nb, 0, _, _, rfl, hn2.at, .inl rfl, Nat.le_refl _, Nat.le_refl _, rfl⟩
    refine W_nil ?_
    refine AK_mod (hn2.mod _) ?_
    refine A_one (i := 12) 2 (by kernel_rfl) rfl rfl ?_
    refine W_b2s rfl sl24 u85 st9 hsl ?_
    refine W_nil ?_
    refine AK_mod (Mod.refl _ _) ?_
    refine A_takesM [13] 1 (by kernel_rfl) rfl ?_
    refine FH_bin rfl rfl (binE_add (by simp only [List.length_cons, List.length_nil]; omega)) ?_
    refine FH_nil ?_
    refine A_tail 14 (by kernel_rfl) ?_
    refine W_as rfl ?_
    refine W_nil ?_
    refine hK11 _ _ _ ?_
    try clear hK11 K11
    refine G_region ?_
    refine W_add rfl rfl (wrap_i64 (by omega) (by omega)) ?_
    refine W_mv rfl ?_
    refine W_nil ?_
    have et := hexs_take hck
    simp only [List.append_assoc, List.cons_append, List.nil_append] at et
    rw [← et]
    refine loop_nx (k + 1) (by omega) (Sub.cons rfl (Sub.cons rfl (Sub.cons rfl (Sub.cons rfl (Sub.nil _))))) ⟨by omega, hg.trans hn2.gr⟩
  ·
    refine W_nil ?_
    refine hK8 _ _ _ ?_
    try clear hK8 K8
    refine G_seq fun K13 hK13 => ?_
    refine G_else rfl ?_
    refine G_exit ?_
    simp only [loopQ_exit, seqQ_exit, blockQ_exit]
    refine hK6 _ _ _ ?_
    try clear hK6 K6
    refine G_seq fun K14 hK14 => ?_
    refine G_region ?_
    refine W_mv rfl ?_
    refine W_as rfl ?_
    refine W_nil ?_
    refine hK14 _ _ _ ?_
    try clear hK14 K14
    refine G_ret ?_
    refine end_ret rfl ?_
    have hk' : k = s.length := by omega
    subst hk'
    rw [List.take_length]
    exact ⟨rfl, hg⟩

theorem hex_all {h : Heap} {s : List UInt8} (hl : s.length ≤ 1099511627776) : Fn Tryz.prog 11 [.string (str s)] h fun v h' => v = .string (str (saidT s)) ∧ Gr h h' := by
  by_cases hs : s = []
  · subst hs; exact hex0
  · rw [saidT, if_neg hs]; exact hex1 hs hl

set_option maxHeartbeats 400000 in
theorem digits_neg {h : Heap} {n : Int} {m : Nat} (hn : n = -(m : Int)) (h0 : 0 < m) (h1 : m < 9223372036854775808) : Fn Tryz.prog 10 [.int .i64 n] h fun v h' => v = .string (str (45 :: Lib.decDigits m)) ∧ Gr h h' := by
  refine Fn_intro Tryz.func10 rfl (by kernel_rfl) (Nat.le_of_ble_eq_true rfl) ?_
  refine G_seq fun K1 hK1 => ?_
  refine G_region ?_
  refine W_as rfl ?_
  refine W_nil ?_
  refine hK1 _ _ _ ?_
  try clear hK1 K1
  refine G_seq fun K2 hK2 => ?_
  refine G_seq fun K3 hK3 => ?_
  refine G_region ?_
  refine W_mv rfl ?_
  refine W_lt rfl rfl (fun _ => ?_) (fun hc4 => absurd (show _ from (by omega)) hc4)
  refine W_nil ?_
  refine hK3 _ _ _ ?_
  try clear hK3 K3
  refine G_if rfl ?_
  refine G_seq fun K5 hK5 => ?_
  refine G_region ?_
  refine W_mv rfl ?_
  refine W_neg rfl (show IntKind.wrap .i64 (0 - n) = ((m : Nat) : Int) from by rw [hn, show (0 - -(m : Int)) = (m : Int) by omega]; exact wrap_i64 (by omega) (by omega)) ?_
  refine W_call cl10 rfl (digits_nat m (by omega)) ?_
  rintro _ h1 ⟨rfl, hg1⟩
  refine W_bin rfl rfl (binE_add (x := [45]) (by have := dec_len20 (m := m) (by omega); simp only [List.length_singleton]; omega)) ?_
  refine W_as rfl ?_
  refine W_nil ?_
  refine hK5 _ _ _ ?_
  try clear hK5 K5
  refine G_ret ?_
  simp only [seqQ_ret, blockQ_ret, loopQ_ret]
  refine end_ret rfl ?_
  exact ⟨rfl, hg1⟩

theorem digits_all {h : Heap} {n : Int} (hn : I64 n) (hm : n ≠ -9223372036854775808) : Fn Tryz.prog 10 [.int .i64 n] h fun v h' => v = .string (str (Lib.itoa n)) ∧ Gr h h' := by
  obtain ⟨h0, h1⟩ := hn
  unfold Lib.itoa
  split
  · exact digits_neg (m := n.natAbs) (by omega) (by omega) (by omega)
  · have e : n = ((n.toNat : Nat) : Int) := by omega
    rw [e]; exact digits_nat n.toNat (by omega)

end Go.Fw

namespace Go.Proofs
end Go.Proofs
set_option maxRecDepth 100000
namespace Go.Fw
open Go Go.Proofs
/-! ## tell.Answer -/
def RowsAt (h : Heap) (v : Value) (rs : List Rw) : Prop := ∃ a c, v = .slice a rs.length c ∧ ∀ k r, rs[k]? = some r → ∃ b o cs el fr, a = some ⟨b, o, none⟩ ∧ At h b (.cells cs el fr) ∧ o + k * 3 + 3 ≤ cs.size ∧ cs.extract (o + k * 3) (o + k * 3 + 3) = (rwCells r).toArray
theorem RowsAt.gr {h h' v l} (x : RowsAt h v l) (g : Gr h h') : RowsAt h' v l := by
  obtain ⟨a, c, h1, h2⟩ := x
  exact ⟨a, c, h1, fun k r hk => let ⟨b, o, cs, el, fr, q1, q2, q3⟩ := h2 k r hk; ⟨b, o, cs, el, fr, q1, g.at q2, q3⟩⟩
inductive Pt where
  | num (n : Int)
  | txt (l : List UInt8)
  | row (r : Rw)
def ptV : Pt → Value
  | .num n => .iface 62 (.int .i64 n)
  | .txt l => .iface 63 (.string (str l))
  | .row r => .iface 65 (.agg (rwCells r).toArray)
def ptLine : Pt → List UInt8
  | .num n => if n = 0 then [] else 32 :: Lib.itoa n
  | .txt l => if l = [] then [] else 32 :: saidT l
  | .row r => 32 :: rwS r
def ptsV (ps : List Pt) : Array Value := (ps.map ptV).toArray
structure Ans where
  err : Int
  hd : Int
  val : List UInt8
  rows : List Rw
  data : List UInt8
def Ans.parts (a : Ans) : List Pt := [.num a.hd, .txt a.val] ++ a.rows.map .row ++ [.txt a.data]
def Ans.line (a : Ans) : List UInt8 := if a.err ≠ 0 then [101, 114, 114, 111, 114, 32] ++ Lib.itoa a.err else [111, 107] ++ a.parts.flatMap ptLine
structure RwOk (r : Rw) : Prop where
  tab : I64 r.tab
  key : r.key.length ≤ 1048576
  val : r.val.length ≤ 1048576
structure Ans.Ok (a : Ans) : Prop where
  err : I64 a.err
  hd : I64 a.hd
  val : a.val.length ≤ 1048576
  rows : a.rows.length ≤ 1048576
  row : ∀ r ∈ a.rows, RwOk r
  data : a.data.length ≤ 1048576
def ansCells (a : Ans) (rv dv : Value) : List Value := [.int .i64 a.err, .int .i64 a.hd, .string (str a.val), rv, dv]
def PtOk : Pt → Prop
  | .num n => I64 n
  | .txt l => l.length ≤ 1048576
  | .row r => RwOk r
theorem Ans.Ok.parts {a : Ans} (h : a.Ok) : ∀ p ∈ a.parts, PtOk p := by
  intro p hp
  simp only [Ans.parts, List.mem_append, List.mem_cons, List.not_mem_nil, or_false, List.mem_map] at hp
  rcases hp with ((rfl | rfl) | ⟨r, hr, rfl⟩) | rfl
  · exact h.hd
  · exact h.val
  · exact h.row r hr
  · exact h.data
theorem ptLine_len {p : Pt} (h : PtOk p) : (ptLine p).length ≤ 8388608 := by
  cases p with
  | num n => have := itoa_len h.1 h.2; simp only [ptLine]; split <;> simp only [List.length_nil, List.length_cons] <;> omega
  | txt l => have := saidT_len l; have h' : l.length ≤ 1048576 := h; simp only [ptLine]; split <;> simp only [List.length_nil, List.length_cons] <;> omega
  | row r => have h' : RwOk r := h; have := rwS_len h'.tab; have := h'.key; have := h'.val; simp only [ptLine, List.length_cons]; omega
theorem parts_len {ps : List Pt} (h : ∀ p ∈ ps, PtOk p) (k : Nat) : ((ps.take k).flatMap ptLine).length ≤ ps.length * 8388608 := by
  have := len_flat ptLine 8388608 (ps.take k) fun p hp => ptLine_len (h p (List.mem_of_mem_take hp))
  have h2 : (ps.take k).length ≤ ps.length := by rw [List.length_take]; omega
  exact Nat.le_trans this (Nat.mul_le_mul_right _ h2)

end Go.Fw

set_option maxRecDepth 100000
namespace Go.Fw
open Go Go.Proofs
set_option maxHeartbeats 400000 in
theorem answer_errG {h : Heap} {a : Ans} {rv dv : Value} (ht : Tabl h) (ha : I64 a.err) (he : a.err ≠ 0) : Fn Tryz.prog 12 [.agg (ansCells a rv dv).toArray] h fun v h' => v = .string (str ([101, 114, 114, 111, 114, 32] ++ Lib.itoa a.err)) ∧ Gr h h' := by
  refine Fn_intro Tryz.func12 rfl (by kernel_rfl) (Nat.le_of_ble_eq_true rfl) ?_
  refine G_seq fun K1 hK1 => ?_
  refine G_region ?_
  refine W_box rfl rfl fun n1 h1 hn1 => ?_
  have hb1 := hn1.at
  have g1 := hn1.gr
  refine W_as rfl ?_
  refine W_nil ?_
  refine hK1 _ _ _ ?_
  try clear hK1 K1
  refine G_seq fun K2 hK2 => ?_
  refine G_seq fun K3 hK3 => ?_
  refine G_region ?_
  refine W_fa rfl fo26_0 ?_
  refine W_ld rfl (by first | exact ld1 hb1 ag22 rfl) ?_
  refine W_ne rfl rfl (fun _ => ?_) (fun hc4 => absurd hc4 (show ¬ _ from he))
  refine W_nil ?_
  refine hK3 _ _ _ ?_
  try clear hK3 K3
  refine G_if rfl ?_
  refine G_seq fun K5 hK5 => ?_
  refine G_region ?_
  refine W_fa rfl fo26_0 ?_
  refine W_ld rfl (by first | exact ld1 hb1 ag22 rfl) ?_
  refine W_call cl23 rfl (itoa_all (ht.new hn1) ha.1 ha.2) ?_
  rintro _ h2 ⟨rfl, hg⟩
  refine W_bin rfl rfl (binE_add (x := [101, 114, 114, 111, 114, 32]) (by have := itoa_len ha.1 ha.2; simp only [List.length_cons, List.length_nil]; omega)) ?_
  refine W_as rfl ?_
  refine W_nil ?_
  refine hK5 _ _ _ ?_
  try clear hK5 K5
  refine G_ret ?_
  simp only [seqQ_ret, blockQ_ret, loopQ_ret]
  refine end_ret rfl ?_
  exact ⟨rfl, g1.trans hg⟩

set_option maxHeartbeats 1000000 in
theorem answer_okG {h : Heap} {a : Ans} {rv dv : Value} (ht : Tabl h) (ha : a.Ok) (he : a.err = 0) (hr : RowsAt h rv a.rows) (hd : RdB h dv a.data) : Fn Tryz.prog 12 [.agg (ansCells a rv dv).toArray] h fun v h' => v = .string (str ([111, 107] ++ a.parts.flatMap ptLine)) ∧ Gr h h' := by
  have ht0 := ht.lt
  have hok := ha.parts
  have hl := ha.rows
  refine Fn_intro Tryz.func12 rfl (by kernel_rfl) (Nat.le_of_ble_eq_true rfl) ?_
  refine G_seq fun K1 hK1 => ?_
  refine G_region ?_
  refine W_box rfl rfl fun n1 h1 hn1 => ?_
  have hb1 := hn1.at
  have g0 := hn1.gr
  have c1 : h.size ≤ n1 := Nat.le_of_eq hn1.nb_eq.symm
  refine W_as rfl ?_
  refine W_nil ?_
  refine hK1 _ _ _ ?_
  try clear hK1 K1
  refine G_seq fun K2 hK2 => ?_
  refine G_seq fun K3 hK3 => ?_
  refine G_region ?_
  refine W_fa rfl fo26_0 ?_
  refine W_ld rfl (by first | exact ld1 hb1 ag22 rfl) ?_
  refine W_ne rfl rfl (fun hc4 => absurd (show _ from he) hc4) (fun _ => ?_)
  refine W_nil ?_
  refine hK3 _ _ _ ?_
  try clear hK3 K3
  refine G_else rfl ?_
  refine G_skip ?_
  refine hK2 _ _ _ ?_
  try clear hK2 K2
  refine G_seq fun K5 hK5 => ?_
  refine G_region ?_
  refine W_fa rfl fo26_1 ?_
  refine W_ld rfl (by first | exact ld1 hb1 ag3 rfl) ?_
  refine W_mif rfl cc62 ?_
  refine W_fa rfl fo26_2 ?_
  refine W_ld rfl (by first | exact ld1 hb1 ag9 rfl) ?_
  refine W_mif rfl cc63 ?_
  refine W_bs sl64 sz67 zt67 (Nat.le_of_ble_eq_true rfl) (by decide) (cs := ptsV [Pt.num a.hd, Pt.txt a.val]) (bsE_two (v := ptV (.num a.hd)) (u := ptV (.txt a.val)) rfl rfl rfl rfl (by simp [repCells])) fun nb2 h2 hn2 => ?_
  replace hb1 := hn2.old hb1
  replace g0 := g0.trans hn2.gr
  have hs2 : SlAt h2 (.slice (some ⟨nb2, 0, none⟩) 2 2) 67 1 (2 + 0) 2 (ptsV ([Pt.num a.hd, Pt.txt a.val] ++ (a.rows.take 0).map .row)) := .inr ⟨nb2, 0, _, _, rfl, hn2.at, .inl rfl, Nat.le_refl _, Nat.le_refl _, rfl⟩
  have hf2 : Fresh h (.slice (some ⟨nb2, 0, none⟩) 2 2) := fun b hb => by cases hb; rw [hn2.nb_eq]; exact hn1.gr.size
  obtain ⟨ra, rc, rfl, hrel⟩ := hr
  refine W_as rfl ?_
  refine W_nil ?_
  refine hK5 _ _ _ ?_
  try clear hK5 K5
  refine G_seq fun K6 hK6 => ?_
  refine G_seq fun K7 hK7 => ?_
  refine G_region ?_
  refine W_fa rfl fo26_3 ?_
  refine W_ld rfl (ld1 hb1 ag23 (show _ = some (.slice ra a.rows.length rc) from rfl)) ?_
  refine W_lens rfl si23 ?_
  refine W_mv rfl ?_
  refine W_nil ?_
  refine hK7 _ _ _ ?_
  try clear hK7 K7
  refine G_block ?_
  refine G_loop (α := Nat × Value) (fun q => [(30, .int .i64 (q.1 : Int)), (29, .int .i64 (a.rows.length : Int)), (28, .slice ra a.rows.length rc), (3, q.2), (1, .pointer (some ⟨n1, 0, none⟩))]) (fun q h' => q.1 ≤ a.rows.length ∧ (∃ c, SlAt h' q.2 67 1 (2 + q.1) c (ptsV ([Pt.num a.hd, Pt.txt a.val] ++ (a.rows.take q.1).map .row))) ∧ Fresh h q.2 ∧ Gr h h' ∧ At h' n1 (.cells (ansCells a (.slice ra a.rows.length rc) dv).toArray 26 (0, 0))) (fun q => a.rows.length - q.1) (0, _) (Sub.cons rfl (Sub.cons rfl (Sub.cons rfl (Sub.cons rfl (Sub.cons rfl (Sub.nil _)))))) ⟨Nat.zero_le _, ⟨_, hs2⟩, hf2, g0, hb1⟩ ?_
  rintro ⟨k, pv⟩ h3 ⟨hkl, ⟨c3, hs3⟩, hf3, g3, hb1⟩
  simp only at hkl hs3 hf3
  refine G_seq fun K8 hK8 => ?_
  refine G_region ?_
  refine W_lt rfl rfl (fun hk => ?_) (fun hk => ?_)
  ·
    refine W_nil ?_
    refine hK8 _ _ _ ?_
    try clear hK8 K8
    refine G_seq fun K10 hK10 => ?_
    refine G_if rfl ?_
    refine G_skip ?_
    refine hK10 _ _ _ ?_
    try clear hK10 K10
    refine G_seq fun K11 hK11 => ?_
    refine G_block ?_
    refine G_seq fun K12 hK12 => ?_
    refine G_region ?_
    obtain ⟨r, hrk⟩ : ∃ r, a.rows[k]? = some r := ⟨_, List.getElem?_eq_getElem (by omega)⟩
    obtain ⟨br, or_, csr, elr, frr, rfl, hbr, hle, hex⟩ := hrel k r hrk
    replace hbr := g3.at hbr
    refine W_is rfl rfl se23 rfl (by omega) rfl ?_
    refine W_ld rfl (ldA hbr ag31 sz31 hle hex) ?_
    refine W_al zt31 fun n5 h4 hn5 => ?_
    have hb5 := hn5.at
    refine W_st (cs' := (rwCells r).toArray) rfl rfl hb5 sz31 rfl (Nat.le_of_ble_eq_true rfl) rfl rfl (writeL_all _ _ rfl) fun h5 hu5 => ?_
    have g5 : Gr h3 h5 := hn5.gr.upd hu5 (Nat.le_of_eq hn5.nb_eq.symm)
    have hb5' := hu5.at
    refine W_nil ?_
    refine hK12 _ _ _ ?_
    try clear hK12 K12
    refine G_region ?_
    refine W_mv rfl ?_
    refine W_ld rfl (ldA hb5' ag31 sz31 (Nat.le_of_ble_eq_true rfl) (ext_all rfl)) ?_
    refine W_mif rfl cc65 ?_
    refine W_bs sl64 sz67 zt67 (Nat.le_of_ble_eq_true rfl) (by decide) (cs := #[ptV (.row r)]) (bsE_one (v := ptV (.row r)) (by rfl) (by rfl) (by simp [repCells])) fun nb3 hh hn3 => ?_
    have gg := g5.trans hn3.gr
    have hb1h := gg.at hb1
    refine W_app (m := 1) (nv := #[ptV (.row r)]) rfl rfl sl64 ni64 sz67 zt67 rfl by67 (hs3.gr gg) (src_row hn3.at rfl) rfl rfl (by decide) (by omega) fun v6 c6 h6 hs6 hm6 ho6 => ?_
    have g6' : Gr h h6 := (g3.trans gg).own_app hm6 hf3
    have hf6 := fresh_app hf3 (g3.trans gg).size ho6
    have hb6 := hm6.keep _ _ hb1h (fun e => by obtain ⟨x, z, y⟩ := (hs3.gr gg).blk e; exact At.ne y hb1h (by decide) rfl)
    refine W_as rfl ?_
    refine W_nil ?_
    refine hK11 _ _ _ ?_
    try clear hK11 K11
    refine G_region ?_
    refine W_add rfl rfl (wrap_i64 (by omega) (by omega)) ?_
    refine W_mv rfl ?_
    refine W_nil ?_
    refine loop_nx (k + 1, v6) (by simp only; omega) (Sub.cons rfl (Sub.cons rfl (Sub.cons rfl (Sub.cons rfl (Sub.cons rfl (Sub.nil _)))))) ⟨by simp only; omega, ⟨c6, ?_⟩, hf6, g6', hb6⟩
    simp only [take_snoc hrk, List.map_append, List.map_cons, List.map_nil]
    rw [← List.append_assoc]
    have e6 : ptsV ([Pt.num a.hd, Pt.txt a.val] ++ (a.rows.take k).map .row ++ [.row r]) = ptsV ([Pt.num a.hd, Pt.txt a.val] ++ (a.rows.take k).map .row) ++ #[ptV (.row r)] := by simp [ptsV]
    rw [e6]
    exact hs6
  ·
    refine W_nil ?_
    refine hK8 _ _ _ ?_
    try clear hK8 K8
    refine G_seq fun K13 hK13 => ?_
    refine G_else rfl ?_
    refine G_exit ?_
    simp only [loopQ_exit, seqQ_exit, blockQ_exit]
    refine hK6 _ _ _ ?_
    try clear hK6 K6
    refine G_seq fun K14 hK14 => ?_
    refine G_region ?_
    refine W_as rfl ?_
    refine W_nil ?_
    refine hK14 _ _ _ ?_
    try clear hK14 K14
    refine G_seq fun K15 hK15 => ?_
    refine G_seq fun K16 hK16 => ?_
    refine G_region ?_
    refine W_mv rfl ?_
    refine W_fa rfl fo26_4 ?_
    refine W_ld rfl (ld1 hb1 ag24 (show _ = some dv from rfl)) ?_
    have hk' : k = a.rows.length := by omega
    subst hk'
    rw [List.take_length] at hs3
    refine W_b2sR rfl sl24 u85 st63 (hd.gr g3) ?_
    refine W_mif rfl cc63 ?_
    refine W_bs sl64 sz67 zt67 (Nat.le_of_ble_eq_true rfl) (by decide) (cs := #[ptV (.txt a.data)]) (bsE_one (v := ptV (.txt a.data)) (by rfl) (by rfl) (by simp [repCells])) fun nb4 h4 hn4 => ?_
    refine W_app (m := 1) (nv := #[ptV (.txt a.data)]) rfl rfl sl64 ni64 sz67 zt67 rfl by67 (hs3.new hn4) (src_row hn4.at rfl) rfl rfl (by decide) (by omega) fun v5 c5 h5 hs5 hm5 ho5 => ?_
    have g5 : Gr h h5 := (g3.trans hn4.gr).own_app hm5 hf3
    have hlen : 2 + a.rows.length + 1 = a.parts.length := by simp [Ans.parts]; omega
    have e5 : ptsV ([Pt.num a.hd, Pt.txt a.val] ++ a.rows.map .row) ++ #[ptV (.txt a.data)] = ptsV a.parts := by simp [ptsV, Ans.parts]
    rw [hlen, e5] at hs5
    have ht5 := ht.gr g5
    obtain ⟨b5, o5, cs5, fr5, rfl, hb5, _, _, hel5⟩ := hs5.at (by omega)
    generalize hva : (some (⟨b5, o5, none⟩ : Addr)) = va
    clear hb1 hs2 hn2 hs5
    refine W_lens rfl si64 ?_
    refine W_mv rfl ?_
    refine W_nil ?_
    refine hK16 _ _ _ ?_
    try clear hK16 K16
    refine G_block ?_
    refine G_loop (α := Nat) (fun k => [(48, .int .i64 (k : Int)), (47, .int .i64 (a.parts.length : Int)), (46, .slice va a.parts.length c5), (6, .string (str ([111, 107] ++ (a.parts.take k).flatMap ptLine)))]) (fun k h' => k ≤ a.parts.length ∧ Gr h5 h') (fun k => a.parts.length - k) 0 (Sub.cons rfl (Sub.cons rfl (Sub.cons rfl (Sub.cons rfl (Sub.nil _))))) ⟨Nat.zero_le _, Gr.refl _⟩ ?_
    rintro k h7 ⟨hkp, g7⟩
    refine G_seq fun K17 hK17 => ?_
    refine G_region ?_
    refine W_lt rfl rfl (fun hkk => ?_) (fun hkk => ?_)
    ·
      refine W_nil ?_
      refine hK17 _ _ _ ?_
      try clear hK17 K17
      refine G_seq fun K19 hK19 => ?_
      refine G_if rfl ?_
      refine G_skip ?_
      refine hK19 _ _ _ ?_
      try clear hK19 K19
      refine G_seq fun K20 hK20 => ?_
      refine G_block ?_
      refine G_seq fun K21 hK21 => ?_
      refine G_region ?_
      obtain ⟨p, hpk⟩ : ∃ p, a.parts[k]? = some p := ⟨_, List.getElem?_eq_getElem (by omega)⟩
      have hpo : PtOk p := hok p (List.mem_of_getElem? hpk)
      have hll := parts_len hok k
      have hpl : a.parts.length ≤ 1048579 := by omega
      have hpn : (ptLine p).length ≤ 8388608 := ptLine_len hpo
      have hel := hel5 k (by omega)
      rw [show (ptsV a.parts)[k]? = some (ptV p) from by simp [ptsV, hpk]] at hel
      have hb7 := g7.at hb5
      subst hva
      refine W_is rfl rfl se64 rfl (by omega) rfl ?_
      refine W_ld rfl (ld1 hb7 ag67 (by rw [Nat.mul_one]; exact hel)) ?_
      rcases p with n | s | r
      ·
        refine W_as rfl ?_
        refine W_nil ?_
        refine hK21 _ _ _ ?_
        try clear hK21 K21
        refine G_seq fun K22 hK22 => ?_
        refine G_region ?_
        refine W_mv rfl ?_
        refine W_ta rfl cc62 (z := .int .i64 0) (by kernel_rfl) ?_
        rw [if_pos rfl]
        refine W_mv rfl ?_
        refine W_ex rfl rfl ?_
        refine W_ex rfl rfl ?_
        refine W_as rfl ?_
        refine W_as rfl ?_
        refine W_nil ?_
        refine hK22 _ _ _ ?_
        try clear hK22 K22
        refine G_seq fun K23 hK23 => ?_
        refine G_seq fun K24 hK24 => ?_
        refine G_region ?_
        refine W_mv rfl ?_
        refine W_ta rfl cc63 (z := .string ByteArray.empty) (by kernel_rfl) ?_
        rw [if_neg (by decide)]
        refine W_mv rfl ?_
        refine W_ex rfl rfl ?_
        refine W_ex rfl rfl ?_
        refine W_as rfl ?_
        refine W_as rfl ?_
        refine W_nil ?_
        refine hK24 _ _ _ ?_
        try clear hK24 K24
        refine G_seq fun K25 hK25 => ?_
        refine G_region ?_
        refine W_mv rfl ?_
        refine W_mv rfl ?_
        refine W_gf rfl ?_
        refine W_gf rfl ?_
        refine W_pf rfl rfl rfl ?_
        refine W_mv rfl ?_
        refine W_gt rfl ?_
        refine W_mv rfl ?_
        refine W_gt rfl ?_
        refine W_mv rfl ?_
        refine W_gt rfl ?_
        refine W_mv rfl ?_
        refine W_gt rfl ?_
        refine W_eq rfl rfl (fun hn0 => ?_) (fun hn0 => ?_)
        ·
          refine W_gt rfl ?_
          refine W_pt rfl rfl rfl ?_
          refine W_pf rfl rfl rfl ?_
          refine W_nil ?_
          refine hK25 _ _ _ ?_
          try clear hK25 K25
          refine G_if rfl ?_
          refine G_exit ?_
          simp only [loopQ_exit, seqQ_exit, blockQ_exit]
          refine hK20 _ _ _ ?_
          try clear hK20 K20
          refine G_region ?_
          refine W_add rfl rfl (wrap_i64 (by omega) (by omega)) ?_
          refine W_mv rfl ?_
          refine W_nil ?_
          have e9 : [111, 107] ++ (a.parts.take (k + 1)).flatMap ptLine = [111, 107] ++ (a.parts.take k).flatMap ptLine := by
            rw [flat_take ptLine hpk, show ptLine (.num n) = [] from (by simp only [ptLine]; rw [if_pos hn0]), List.append_nil]
          refine loop_nx (k + 1) (by omega) (Sub.cons rfl (Sub.cons rfl (Sub.cons rfl (Sub.cons (by rw [e9]; rfl) (Sub.nil _))))) ⟨by omega, g7⟩
        ·
          refine W_gt rfl ?_
          refine W_pt rfl rfl rfl ?_
          refine W_pf rfl rfl rfl ?_
          refine W_nil ?_
          refine hK25 _ _ _ ?_
          try clear hK25 K25
          refine G_else rfl ?_
          refine G_skip ?_
          refine hK23 _ _ _ ?_
          try clear hK23 K23
          refine G_region ?_
          refine W_mv rfl ?_
          refine W_mv rfl ?_
          have epl : ptLine (.num n) = 32 :: Lib.itoa n := by simp only [ptLine]; rw [if_neg hn0]
          refine W_inv rfl (show methT Tryz.prog 62 _ = some 202 from by kernel_rfl) cl202 rfl (number_said (ht5.gr g7) hpo.1 hpo.2) ?_
          rintro _ h8 ⟨rfl, hg8⟩
          rw [epl] at hpn
          simp only [List.length_cons] at hpn
          refine W_bin rfl rfl (binE_add (x := [32]) (by simp only [List.length_singleton]; omega)) ?_
          refine W_bin rfl rfl (binE_add (by simp only [List.length_append, List.length_cons, List.length_nil]; omega)) ?_
          refine W_as rfl ?_
          refine W_nil ?_
          refine hK20 _ _ _ ?_
          try clear hK20 K20
          refine G_region ?_
          refine W_add rfl rfl (wrap_i64 (by omega) (by omega)) ?_
          refine W_mv rfl ?_
          refine W_nil ?_
          have e9 : [111, 107] ++ (a.parts.take (k + 1)).flatMap ptLine = ([111, 107] ++ (a.parts.take k).flatMap ptLine) ++ ([32] ++ Lib.itoa n) := by
            rw [flat_take ptLine hpk, epl, ← List.append_assoc]; rfl
          refine loop_nx (k + 1) (by omega) (Sub.cons rfl (Sub.cons rfl (Sub.cons rfl (Sub.cons (by rw [e9]; rfl) (Sub.nil _))))) ⟨by omega, g7.trans hg8⟩
      ·
        refine W_as rfl ?_
        refine W_nil ?_
        refine hK21 _ _ _ ?_
        try clear hK21 K21
        refine G_seq fun K27 hK27 => ?_
        refine G_region ?_
        refine W_mv rfl ?_
        refine W_ta rfl cc62 (z := .int .i64 0) (by kernel_rfl) ?_
        rw [if_neg (by decide)]
        refine W_mv rfl ?_
        refine W_ex rfl rfl ?_
        refine W_ex rfl rfl ?_
        refine W_as rfl ?_
        refine W_as rfl ?_
        refine W_nil ?_
        refine hK27 _ _ _ ?_
        try clear hK27 K27
        refine G_seq fun K28 hK28 => ?_
        refine G_seq fun K29 hK29 => ?_
        refine G_region ?_
        refine W_mv rfl ?_
        refine W_ta rfl cc63 (z := .string ByteArray.empty) (by kernel_rfl) ?_
        rw [if_pos rfl]
        refine W_mv rfl ?_
        refine W_ex rfl rfl ?_
        refine W_ex rfl rfl ?_
        refine W_as rfl ?_
        refine W_as rfl ?_
        refine W_nil ?_
        refine hK29 _ _ _ ?_
        try clear hK29 K29
        refine G_seq fun K30 hK30 => ?_
        refine G_region ?_
        refine W_mv rfl ?_
        refine W_mv rfl ?_
        refine W_gt rfl ?_
        refine W_mv rfl ?_
        refine W_gt rfl ?_
        refine W_seq (a := s) (b := []) rfl rfl (fun hse => ?_) (fun hse => ?_)
        ·
          refine W_pt rfl rfl rfl ?_
          refine W_mv rfl ?_
          refine W_gf rfl ?_
          refine W_gf rfl ?_
          refine W_gf rfl ?_
          refine W_gf rfl ?_
          refine W_gf rfl ?_
          refine W_pt rfl rfl rfl ?_
          refine W_nil ?_
          refine hK30 _ _ _ ?_
          try clear hK30 K30
          refine G_if rfl ?_
          refine G_exit ?_
          simp only [loopQ_exit, seqQ_exit, blockQ_exit]
          refine hK20 _ _ _ ?_
          try clear hK20 K20
          refine G_region ?_
          refine W_add rfl rfl (wrap_i64 (by omega) (by omega)) ?_
          refine W_mv rfl ?_
          refine W_nil ?_
          have e9 : [111, 107] ++ (a.parts.take (k + 1)).flatMap ptLine = [111, 107] ++ (a.parts.take k).flatMap ptLine := by
            rw [flat_take ptLine hpk, show ptLine (.txt s) = [] from (by simp only [ptLine]; rw [if_pos hse]), List.append_nil]
          refine loop_nx (k + 1) (by omega) (Sub.cons rfl (Sub.cons rfl (Sub.cons rfl (Sub.cons (by rw [e9]; rfl) (Sub.nil _))))) ⟨by omega, g7⟩
        ·
          refine W_pt rfl rfl rfl ?_
          refine W_mv rfl ?_
          refine W_gt rfl ?_
          refine W_mv rfl ?_
          refine W_gt rfl ?_
          refine W_mv rfl ?_
          refine W_gf rfl ?_
          refine W_gf rfl ?_
          refine W_gt rfl ?_
          refine W_pf rfl rfl rfl ?_
          refine W_pf rfl rfl rfl ?_
          refine W_nil ?_
          refine hK30 _ _ _ ?_
          try clear hK30 K30
          refine G_else rfl ?_
          refine G_skip ?_
          refine hK28 _ _ _ ?_
          try clear hK28 K28
          refine G_region ?_
          refine W_mv rfl ?_
          refine W_mv rfl ?_
          have epl : ptLine (.txt s) = 32 :: saidT s := by simp only [ptLine]; rw [if_neg hse]
          refine W_inv rfl (show methT Tryz.prog 63 _ = some 203 from by kernel_rfl) cl203 rfl (text_said (by have : s.length ≤ 1048576 := hpo; omega)) ?_
          rintro _ h8 ⟨rfl, hg8⟩
          rw [epl] at hpn
          simp only [List.length_cons] at hpn
          refine W_bin rfl rfl (binE_add (x := [32]) (by simp only [List.length_singleton]; omega)) ?_
          refine W_bin rfl rfl (binE_add (by simp only [List.length_append, List.length_cons, List.length_nil]; omega)) ?_
          refine W_as rfl ?_
          refine W_nil ?_
          refine hK20 _ _ _ ?_
          try clear hK20 K20
          refine G_region ?_
          refine W_add rfl rfl (wrap_i64 (by omega) (by omega)) ?_
          refine W_mv rfl ?_
          refine W_nil ?_
          have e9 : [111, 107] ++ (a.parts.take (k + 1)).flatMap ptLine = ([111, 107] ++ (a.parts.take k).flatMap ptLine) ++ ([32] ++ saidT s) := by
            rw [flat_take ptLine hpk, epl, ← List.append_assoc]; rfl
          refine loop_nx (k + 1) (by omega) (Sub.cons rfl (Sub.cons rfl (Sub.cons rfl (Sub.cons (by rw [e9]; rfl) (Sub.nil _))))) ⟨by omega, g7.trans hg8⟩
      ·
        refine W_as rfl ?_
        refine W_nil ?_
        refine hK21 _ _ _ ?_
        try clear hK21 K21
        refine G_seq fun K31 hK31 => ?_
        refine G_region ?_
        refine W_mv rfl ?_
        refine W_ta rfl cc62 (z := .int .i64 0) (by kernel_rfl) ?_
        rw [if_neg (by decide)]
        refine W_mv rfl ?_
        refine W_ex rfl rfl ?_
        refine W_ex rfl rfl ?_
        refine W_as rfl ?_
        refine W_as rfl ?_
        refine W_nil ?_
        refine hK31 _ _ _ ?_
        try clear hK31 K31
        refine G_seq fun K32 hK32 => ?_
        refine G_seq fun K33 hK33 => ?_
        refine G_region ?_
        refine W_mv rfl ?_
        refine W_ta rfl cc63 (z := .string ByteArray.empty) (by kernel_rfl) ?_
        rw [if_neg (by decide)]
        refine W_mv rfl ?_
        refine W_ex rfl rfl ?_
        refine W_ex rfl rfl ?_
        refine W_as rfl ?_
        refine W_as rfl ?_
        refine W_nil ?_
        refine hK33 _ _ _ ?_
        try clear hK33 K33
        refine G_seq fun K34 hK34 => ?_
        refine G_region ?_
        refine W_mv rfl ?_
        refine W_mv rfl ?_
        refine W_gf rfl ?_
        refine W_gf rfl ?_
        refine W_pf rfl rfl rfl ?_
        refine W_mv rfl ?_
        refine W_gt rfl ?_
        refine W_mv rfl ?_
        refine W_gt rfl ?_
        refine W_mv rfl ?_
        refine W_gf rfl ?_
        refine W_gf rfl ?_
        refine W_gt rfl ?_
        refine W_pf rfl rfl rfl ?_
        refine W_pf rfl rfl rfl ?_
        refine W_nil ?_
        refine hK34 _ _ _ ?_
        try clear hK34 K34
        refine G_else rfl ?_
        refine G_skip ?_
        refine hK32 _ _ _ ?_
        try clear hK32 K32
        refine G_region ?_
        refine W_mv rfl ?_
        refine W_mv rfl ?_
        have epl : ptLine (.row r) = 32 :: rwS r := rfl
        refine W_inv rfl (show methT Tryz.prog 65 _ = some 205 from by kernel_rfl) cl205 rfl (entry_said (ht5.gr g7) hpo.tab (by have := hpo.key; omega) (by have := hpo.val; omega)) ?_
        rintro _ h8 ⟨rfl, hg8⟩
        rw [epl] at hpn
        simp only [List.length_cons] at hpn
        refine W_bin rfl rfl (binE_add (x := [32]) (by simp only [List.length_singleton]; omega)) ?_
        refine W_bin rfl rfl (binE_add (by simp only [List.length_append, List.length_cons, List.length_nil]; omega)) ?_
        refine W_as rfl ?_
        refine W_nil ?_
        refine hK20 _ _ _ ?_
        try clear hK20 K20
        refine G_region ?_
        refine W_add rfl rfl (wrap_i64 (by omega) (by omega)) ?_
        refine W_mv rfl ?_
        refine W_nil ?_
        have e9 : [111, 107] ++ (a.parts.take (k + 1)).flatMap ptLine = ([111, 107] ++ (a.parts.take k).flatMap ptLine) ++ ([32] ++ rwS r) := by
          rw [flat_take ptLine hpk, epl, ← List.append_assoc]; rfl
        refine loop_nx (k + 1) (by omega) (Sub.cons rfl (Sub.cons rfl (Sub.cons rfl (Sub.cons (by rw [e9]; rfl) (Sub.nil _))))) ⟨by omega, g7.trans hg8⟩
    ·
      refine W_nil ?_
      refine hK17 _ _ _ ?_
      try clear hK17 K17
      refine G_seq fun K35 hK35 => ?_
      refine G_else rfl ?_
      refine G_exit ?_
      simp only [loopQ_exit, seqQ_exit, blockQ_exit]
      refine hK15 _ _ _ ?_
      try clear hK15 K15
      refine G_seq fun K36 hK36 => ?_
      refine G_region ?_
      refine W_mv rfl ?_
      refine W_as rfl ?_
      refine W_nil ?_
      refine hK36 _ _ _ ?_
      try clear hK36 K36
      refine G_ret ?_
      refine end_ret rfl ?_
      have hk' : k = a.parts.length := by omega
      subst hk'
      rw [List.take_length]
      exact ⟨rfl, g5.trans g7⟩

theorem answer_all {h : Heap} {a : Ans} {rv dv : Value} (ht : Tabl h) (ha : a.Ok) (hr : RowsAt h rv a.rows) (hd : RdB h dv a.data) : Fn Tryz.prog 12 [.agg (ansCells a rv dv).toArray] h fun v h' => v = .string (str a.line) ∧ Gr h h' := by
  by_cases he : a.err = 0
  · rw [Ans.line, if_neg (fun x => x he)]; exact answer_okG ht ha he hr hd
  · rw [Ans.line, if_pos he]; exact answer_errG ht ha.err he

end Go.Fw

namespace Go.Proofs
end Go.Proofs
set_option maxRecDepth 100000
namespace Go.Fw
open Go Go.Proofs
open Go.ChangeShapes Go.WideShapes Go.ChangeAt Go.RowKit Go.WideElems
/-! ## From a reading of the arguments to what lies in memory -/
theorem mapM_all {α β : Type} {f : α → Option β} : ∀ {l : List α} {r : List β}, l.mapM f = some r → r.length = l.length ∧ ∀ i : Nat, (l[i]?).bind f = r[i]?
  | [], r, h => by
    simp at h; subst h; exact ⟨rfl, fun i => by simp⟩
  | x :: l, r, h => by
    simp only [List.mapM_cons, Option.bind_eq_bind, Option.bind_eq_some_iff, Option.pure_def, Option.some.injEq] at h
    obtain ⟨b, hb, r', hr', rfl⟩ := h
    obtain ⟨h1, h2⟩ := mapM_all hr'
    refine ⟨by simp [h1], fun i => ?_⟩
    cases i with
    | zero => simp [hb]
    | succ i => simpa using h2 i
theorem cells_at {w : World} {a : Addr} {n : Nat} {cs' : List Value} (h : w.cells? 0 a n = some cs') (hn : 0 < n) : ∃ cs el fr, At w.heap a.block (.cells cs el fr) ∧ a = ⟨a.block, a.off, none⟩ ∧ a.off + n ≤ cs.size ∧ cs.extract a.off (a.off + n) = cs'.toArray ∧ cs'.length = n := by
  unfold World.cells? at h
  rw [if_pos (Nat.zero_le _)] at h
  obtain ⟨h1, h2⟩ := mapM_all h
  rw [List.length_range] at h1
  have hk : ∀ i, i < n → w.cell? (a.add i) = cs'[i]? := fun i hi => by have := h2 i; rwa [List.getElem?_range hi, Option.bind_some] at this
  have h0 := hk 0 hn
  rw [List.getElem?_eq_getElem (by omega)] at h0
  have hadd : a.add 0 = a := by simp [Addr.add]
  rw [hadd] at h0
  unfold World.cell? at h0
  split at h0
  · rename_i cs el fr hb
    split at h0
    · cases h0
    · rename_i hs
      have hsp : a.spot = none := by simpa using hs
      have ha : a = ⟨a.block, a.off, none⟩ := by cases a; simp_all
      have hc : ∀ i, i < n → cs[a.off + i]? = cs'[i]? := fun i hi => by
        have := hk i hi
        rw [ha, Addr.add_lit] at this
        unfold World.cell? at this
        simp only [hb] at this
        simpa using this
      have hle : a.off + n ≤ cs.size := by
        have := hc (n - 1) (by omega)
        rw [List.getElem?_eq_getElem (by omega)] at this
        have := get_lt this
        omega
      refine ⟨cs, el, fr, hb, ha, hle, ?_, h1⟩
      apply Array.ext_getElem?
      intro i
      rw [Array.getElem?_extract]
      by_cases hi : i < n
      · rw [if_pos (by omega), hc i hi]; simp
      · rw [if_neg (by omega)]; simp; omega
  · cases h0
theorem choose_list {α : Type} : ∀ (n : Nat) (p : Nat → α → Prop), (∀ i, i < n → ∃ x, p i x) → ∃ l : List α, l.length = n ∧ ∀ i x, l[i]? = some x → p i x
  | 0, _, _ => ⟨[], rfl, fun i x h => by simp at h⟩
  | n + 1, p, h => by
    obtain ⟨l, h1, h2⟩ := choose_list n p fun i hi => h i (by omega)
    obtain ⟨x, hx⟩ := h n (by omega)
    refine ⟨l ++ [x], by simp [h1], fun i y hy => ?_⟩
    rcases Nat.lt_trichotomy i n with hi | hi | hi
    · rw [List.getElem?_append_left (by omega)] at hy; exact h2 i y hy
    · subst hi; rw [← h1, List.getElem?_append_right (Nat.le_refl _)] at hy; simp at hy; subst hy; exact hx
    · rw [List.getElem?_eq_none (by simp; omega)] at hy; cases hy
section
variable {H : Type} {enc : TypeId × Value → H} {W : World} {fuel : Nat} {c : Value} {x : DataW H × List MemPlace}
theorem str_data (s : ByteArray) : s = str s.data.toList := (str_of s).symm
theorem c1int : Tryz.prog.cellsOf 3 = 1 := by kernel_rfl
theorem c1str : Tryz.prog.cellsOf 9 = 1 := by kernel_rfl
theorem c1u8 : Tryz.prog.cellsOf 5 = 1 := by kernel_rfl
theorem c1errno : Tryz.prog.cellsOf 22 = 1 := by kernel_rfl
theorem c1rows : Tryz.prog.cellsOf 23 = 1 := by kernel_rfl
theorem c1bytes : Tryz.prog.cellsOf 24 = 1 := by kernel_rfl
theorem c3row : Tryz.prog.cellsOf 31 = 3 := by kernel_rfl
theorem wfI {n : Int} (h : (Lit.int .i64 n).wf = true) : I64 n := bounds_i64 h
theorem row_und : ∃ f0 f1 f2, Tryz.prog.underlying 31 = some (.struct #[f0, f1, f2]) ∧ (f0.offset = 0 ∧ f1.offset = 1 ∧ f2.offset = 2) ∧ (f0.type = 3 ∧ f1.type = 9 ∧ f2.type = 9) := ⟨_, _, _, Tryz.underlying31, by decide, by decide⟩
def rwD (r : Rw) : DataW H := .agg [.lit (.int .i64 r.tab), .lit (.string r.key), .lit (.string r.val)]
theorem open_row {cs : List Value} (h : DataW.trod enc Tryz.prog W 0 (fun _ => true) true fuel 31 cs = some x) (hl : cs.length = 3) : ∃ r : Rw, cs = rwCells r ∧ I64 r.tab ∧ x.1 = rwD r := by
  obtain ⟨f0, f1, f2, hu, ⟨o0, o1, o2⟩, t0, t1, t2⟩ := row_und
  obtain ⟨xs, n, _, hx, _, hlen, hf⟩ := DataW.trod_struct hu h
  have h0 := hf 0 f0 rfl
  have h1 := hf 1 f1 rfl
  have h2 := hf 2 f2 rfl
  rw [t0, o0, c1int] at h0; rw [t1, o1, c1str] at h1; rw [t2, o2, c1str] at h2
  match cs, hl, xs, hlen, h0, h1, h2, hx with
  | [a, b, c], _, [x0, x1, x2], _, h0, h1, h2, hx =>
    obtain ⟨n0, e0, y0, w0⟩ := DataW.trod_int Tryz.underlying3 (show _ = some x0 from h0)
    obtain ⟨s1, e1, y1, _⟩ := DataW.trod_string Tryz.underlying9 (show _ = some x1 from h1)
    obtain ⟨s2, e2, y2, _⟩ := DataW.trod_string Tryz.underlying9 (show _ = some x2 from h2)
    simp at e0 e1 e2
    subst e0 e1 e2 y0 y1 y2
    exact ⟨⟨n0, s1.data.toList, s2.data.toList⟩, by simp [rwCells, str_of], wfI w0, by rw [hx]; rfl⟩
theorem w_rows {rs : List Rw} {elems spare : List (DataW H)} (hel : ∀ r ∈ rs, rwD r ∈ elems) (hz : ∀ n ∈ DataW.weights Tryz.prog 23 (.slice elems spare), n ≤ reachBytes) :
    elems.length ≤ reachBytes ∧ ∀ r ∈ rs, r.key.length ≤ reachBytes ∧ r.val.length ≤ reachBytes := by
  have hw : DataW.weights Tryz.prog 23 (DataW.slice elems spare) = (elems.length + spare.length) * Tryz.prog.bytesOf 31 :: (DataW.weightsAll Tryz.prog 31 elems ++ DataW.weightsAll Tryz.prog 31 spare) := by
    simp only [DataW.weights, Tryz.underlying23]
  rw [hw] at hz
  have hb : Tryz.prog.bytesOf 31 = 40 := by kernel_rfl
  have h1 := hz _ (List.mem_cons_self ..)
  rw [hb] at h1
  have hall : ∀ (l : List (DataW H)) (d : DataW H), d ∈ l → ∀ n ∈ DataW.weights Tryz.prog 31 d, n ∈ DataW.weightsAll Tryz.prog 31 l := by
    intro l
    induction l with
    | nil => intro d hd; cases hd
    | cons y l ih =>
      intro d hd n hn
      simp only [DataW.weightsAll, List.mem_append]
      rcases List.mem_cons.1 hd with rfl | hd
      · exact .inl hn
      · exact .inr (ih d hd n hn)
  refine ⟨by omega, fun r hr => ?_⟩
  obtain ⟨f0, f1, f2, hu, _, t0, t1, t2⟩ := row_und
  have hwr : DataW.weights Tryz.prog 31 (rwD (H := H) r) = [r.key.length, r.val.length] := by
    simp only [rwD, DataW.weights, hu, DataW.weightsEach, List.toList_toArray, List.map_cons, List.map_nil, t0, t1, t2]
    rfl
  have hm := hall elems _ (hel r hr)
  rw [hwr] at hm
  exact ⟨hz _ (List.mem_cons_of_mem _ (List.mem_append_left _ (hm _ (by simp)))), hz _ (List.mem_cons_of_mem _ (List.mem_append_left _ (hm _ (by simp))))⟩
theorem open_rows0 {c : Value} (h : DataW.trod enc Tryz.prog W 0 (fun _ => true) true fuel 23 [c] = some x) :
    ∃ rs, RowsAt W.heap c rs ∧ (∀ r ∈ rs, I64 r.tab) ∧ (rs = [] ∨ ∃ elems spare, x.1 = .slice elems spare ∧ elems.length = rs.length ∧ ∀ r ∈ rs, rwD r ∈ elems) := by
  rcases Go.Deep.open_slice Tryz.underlying23 h with ⟨hc, hx⟩ | ⟨a, len, cap, m, n, D, Pl, hc, _, hlc, _, hm, hx, hel⟩
  · simp only [List.cons.injEq, and_true] at hc
    subst hc
    exact ⟨[], ⟨none, 0, rfl, fun k r hk => by simp at hk⟩, fun r hr => (by cases hr), .inl rfl⟩
  · simp only [List.cons.injEq, and_true] at hc
    subst hc
    simp only [if_true] at hm
    rw [c3row] at hel
    obtain ⟨rs, hl, hrs⟩ := choose_list len (fun i (r : Rw) => I64 r.tab ∧ D i = rwD r ∧ ∃ cs el fr, At W.heap (a.add (i * 3)).block (.cells cs el fr) ∧ a.add (i * 3) = ⟨(a.add (i * 3)).block, (a.add (i * 3)).off, none⟩ ∧ (a.add (i * 3)).off + 3 ≤ cs.size ∧ cs.extract (a.add (i * 3)).off ((a.add (i * 3)).off + 3) = (rwCells r).toArray) (fun i hi => by
      obtain ⟨cs', h1, h2⟩ := hel i (by omega)
      obtain ⟨cs, el, fr, q1, q2, q3, q4, q5⟩ := cells_at h1 (by decide)
      obtain ⟨r, r1, r2, r3⟩ := open_row h2 q5
      exact ⟨r, r2, r3, cs, el, fr, q1, q2, q3, by rw [q4, r1]⟩)
    have hsp : 0 < len → a = ⟨a.block, a.off, none⟩ := fun h0 => by
      obtain ⟨r, hr⟩ : ∃ r, rs[0]? = some r := ⟨_, List.getElem?_eq_getElem (by omega)⟩
      obtain ⟨_, _, cs, el, fr, _, q2, _⟩ := hrs 0 r hr
      simpa [Addr.add] using q2
    have hD : ∀ r ∈ rs, rwD r ∈ (List.range len).map D := fun r hr => by
      obtain ⟨i, hi, e⟩ := List.getElem_of_mem hr
      obtain ⟨_, h2, _⟩ := hrs i r (by rw [List.getElem?_eq_getElem hi, e])
      exact List.mem_map.2 ⟨i, List.mem_range.2 (by omega), h2⟩
    refine ⟨rs, ⟨some a, cap, by rw [hl], fun k r hk => ?_⟩, fun r hr => ?_, .inr ⟨_, _, by rw [hx], by rw [List.length_map, List.length_range, hl], hD⟩⟩
    · have hk2 : k < len := by rw [← hl]; exact (List.getElem?_eq_some_iff.1 hk).1
      have ha := hsp (by omega)
      obtain ⟨_, _, cs, el, fr, q1, _, q3, q4⟩ := hrs k r hk
      rw [ha, Addr.add_lit] at q1 q3 q4
      exact ⟨a.block, a.off, cs, el, fr, by rw [← ha], q1, q3, q4⟩
    · obtain ⟨i, hi, e⟩ := List.getElem_of_mem hr
      obtain ⟨h1, _⟩ := hrs i r (by rw [List.getElem?_eq_getElem hi, e])
      exact h1
theorem open_rows {c : Value} (h : DataW.trod enc Tryz.prog W 0 (fun _ => true) true fuel 23 [c] = some x) (hz : ∀ n ∈ DataW.weights Tryz.prog 23 x.1, n ≤ reachBytes) :
    ∃ rs, RowsAt W.heap c rs ∧ rs.length ≤ reachBytes ∧ ∀ r ∈ rs, I64 r.tab ∧ r.key.length ≤ reachBytes ∧ r.val.length ≤ reachBytes := by
  obtain ⟨rs, h1, h2, h3⟩ := open_rows0 h
  rcases h3 with rfl | ⟨el, sp, e, hl, hm⟩
  · exact ⟨[], h1, Nat.zero_le _, fun r hr => by cases hr⟩
  · rw [e] at hz
    obtain ⟨z1, z2⟩ := w_rows hm hz
    exact ⟨rs, h1, by omega, fun r hr => ⟨h2 r hr, z2 r hr⟩⟩
theorem open_bytes {c : Value} (h : DataW.trod enc Tryz.prog W 0 (fun _ => true) true fuel 24 [c] = some x) (hz : ∀ n ∈ DataW.weights Tryz.prog 24 x.1, n ≤ reachBytes) :
    ∃ l, RdB W.heap c l ∧ l.length ≤ reachBytes := by
  rcases Go.Deep.open_slice Tryz.underlying24 h with ⟨hc, hx⟩ | ⟨a, len, cap, m, n, D, Pl, hc, _, hlc, _, hm, hx, hel⟩
  · simp only [List.cons.injEq, and_true] at hc
    subst hc
    exact ⟨[], ⟨none, 0, rfl, fun h => absurd rfl h⟩, Nat.zero_le _⟩
  · simp only [List.cons.injEq, and_true] at hc
    subst hc
    simp only [if_true] at hm
    rw [c1u8] at hel
    obtain ⟨l, hl, hrs⟩ := choose_list len (fun i (b : UInt8) => ∃ cs el fr, At W.heap (a.add (i * 1)).block (.cells cs el fr) ∧ a.add (i * 1) = ⟨(a.add (i * 1)).block, (a.add (i * 1)).off, none⟩ ∧ cs[(a.add (i * 1)).off]? = some (.int .u8 b.toNat)) (fun i hi => by
      obtain ⟨cs', h1, h2⟩ := hel i (by omega)
      obtain ⟨cs, el, fr, q1, q2, q3, q4, q5⟩ := cells_at h1 (by decide)
      obtain ⟨n0, e0, _, w0⟩ := DataW.trod_int Tryz.underlying5 h2
      have hb := bounds_u8 w0
      refine ⟨UInt8.ofNat n0.toNat, cs, el, fr, q1, q2, ?_⟩
      have : (cs.extract (a.add (i * 1)).off ((a.add (i * 1)).off + 1))[0]? = some (.int .u8 n0) := by rw [q4, e0]; rfl
      rw [Array.getElem?_extract, if_pos (by omega)] at this
      rw [Nat.add_zero] at this
      rw [this]
      congr 2
      rw [UInt8.toNat_ofNat']; omega)
    have hsp : 0 < len → a = ⟨a.block, a.off, none⟩ := fun h0 => by
      obtain ⟨r, hr⟩ : ∃ r, l[0]? = some r := ⟨_, List.getElem?_eq_getElem (by omega)⟩
      obtain ⟨cs, el, fr, _, q2, _⟩ := hrs 0 r hr
      simpa [Addr.add] using q2
    have hz1 : ((List.range len).map D).length ≤ reachBytes := by
      rw [hx] at hz
      have := hz ((((List.range len).map D).length + ((List.range (m - len)).map fun j => D (len + j)).length) * Tryz.prog.bytesOf 5) (by simp only [DataW.weights, Tryz.underlying24]; exact List.mem_cons_self ..)
      have hb : Tryz.prog.bytesOf 5 = 1 := by kernel_rfl
      rw [hb] at this
      omega
    rw [List.length_map, List.length_range] at hz1
    refine ⟨l, ⟨some a, cap, by rw [hl], fun hne => ?_⟩, by omega⟩
    have h0 : 0 < len := by rw [← hl]; exact List.length_pos_iff.2 hne
    have ha := hsp h0
    have hk : ∀ i b, l[i]? = some b → ∃ cs el fr, At W.heap a.block (.cells cs el fr) ∧ cs[a.off + i]? = some (.int .u8 b.toNat) := fun i b hb => by
      obtain ⟨cs, el, fr, q1, _, q3⟩ := hrs i b hb
      rw [ha, Addr.add_lit, Nat.mul_one] at q1 q3
      exact ⟨cs, el, fr, q1, q3⟩
    obtain ⟨b0, hb0⟩ : ∃ r, l[0]? = some r := ⟨_, List.getElem?_eq_getElem (by omega)⟩
    obtain ⟨cs, el, fr, q1, _⟩ := hk 0 b0 hb0
    have hk' : ∀ i b, l[i]? = some b → cs[a.off + i]? = some (.int .u8 b.toNat) := fun i b hb => by
      obtain ⟨cs', el', fr', r1, r2⟩ := hk i b hb
      have := q1.inj r1
      simp only [Obj.cells.injEq] at this
      rw [this.1]; exact r2
    have hle : a.off + l.length ≤ cs.size := by
      have := hk' (l.length - 1) _ (List.getElem?_eq_getElem (by omega))
      have := get_lt this
      omega
    refine ⟨a.block, a.off, cs, el, fr, by rw [← ha], q1, hle, ?_⟩
    apply Array.ext_getElem?
    intro i
    rw [Array.getElem?_extract]
    by_cases hi : i < l.length
    · rw [if_pos (by omega), hk' i _ (List.getElem?_eq_getElem hi)]; simp [bv, hi]
    · rw [if_neg (by omega), Array.getElem?_eq_none (by rw [bv_size]; omega)]
theorem open_answerG {base : Nat} {v : Value} {d : DataW H} {ps : List MemPlace} (hv : Value.okWide Tryz.prog W .any base 26 v) (h : DataW.Trod enc Tryz.prog W 0 (fun _ => true) true 26 v d ps)
    (hz : ∀ n ∈ DataW.weights Tryz.prog 26 d, n ≤ reachBytes) : ∃ (a : Ans) (rv dv : Value), v = .agg (ansCells a rv dv).toArray ∧ I64 a.err ∧ I64 a.hd ∧ a.val.length ≤ reachBytes ∧ a.rows.length ≤ reachBytes ∧ a.data.length ≤ reachBytes ∧
      (∀ r ∈ a.rows, I64 r.tab ∧ r.key.length ≤ reachBytes ∧ r.val.length ≤ reachBytes) ∧ RowsAt W.heap rv a.rows ∧ RdB W.heap dv a.data := by
  obtain ⟨f0, f1, f2, f3, f4, hu, ⟨o0, o1, o2, o3, o4⟩, t0, t1, t2, t3, t4⟩ := ag26f
  obtain ⟨cs, rfl, hsz⟩ := okWide_struct hu hv
  obtain ⟨c0, c1, c2, c3, c4, rfl⟩ := arr5 (hsz.trans (by kernel_rfl))
  obtain ⟨fuel, hf⟩ := h
  obtain ⟨xs, n, _, hx, _, hlen, hxx⟩ := DataW.trod_struct hu hf
  have hx0 := hxx 0 f0 rfl
  have hx1 := hxx 1 f1 rfl
  have hx2 := hxx 2 f2 rfl
  have hx3 := hxx 3 f3 rfl
  have hx4 := hxx 4 f4 rfl
  match xs, hlen, hx0, hx1, hx2, hx3, hx4, hx with
  | [x0, x1, x2, x3, x4], _, hx0, hx1, hx2, hx3, hx4, hx =>
    rw [t0, o0, c1errno] at hx0; rw [t1, o1, c1int] at hx1; rw [t2, o2, c1str] at hx2; rw [t3, o3, c1rows] at hx3; rw [t4, o4, c1bytes] at hx4
    obtain ⟨er, e0, y0, w0⟩ := DataW.trod_int Tryz.underlying22 (show _ = some x0 from hx0)
    obtain ⟨hd, e1, y1, w1⟩ := DataW.trod_int Tryz.underlying3 (show _ = some x1 from hx1)
    obtain ⟨s, e2, y2, _⟩ := DataW.trod_string Tryz.underlying9 (show _ = some x2 from hx2)
    simp [Value.cells] at e0 e1 e2
    subst e0 e1 e2 y0 y1 y2
    have hd' : d = .agg [.lit (.int .i64 er), .lit (.int .i64 hd), .lit (.string s.data.toList), x3.1, x4.1] := by
      simp only [Prod.mk.injEq] at hx; exact hx.1
    subst hd'
    have hw : DataW.weights Tryz.prog 26 (.agg [.lit (.int .i64 er), .lit (.int .i64 hd), .lit (.string s.data.toList), x3.1, x4.1]) = s.data.toList.length :: (DataW.weights Tryz.prog 23 x3.1 ++ DataW.weights Tryz.prog 24 x4.1) := by
      simp only [DataW.weights, hu, DataW.weightsEach, List.toList_toArray, List.map_cons, List.map_nil, t0, t1, t2, t3, t4]
      simp
    rw [hw] at hz
    obtain ⟨rs, r1, r2, r3⟩ := open_rows (c := c3) (show _ = some x3 from hx3) fun n hn => hz n (List.mem_cons_of_mem _ (List.mem_append_left _ hn))
    obtain ⟨l, l1, l2⟩ := open_bytes (c := c4) (show _ = some x4 from hx4) fun n hn => hz n (List.mem_cons_of_mem _ (List.mem_append_right _ hn))
    exact ⟨⟨er, hd, s.data.toList, rs, l⟩, c3, c4, by simp [ansCells, str_of], wfI w0, wfI w1, hz _ (List.mem_cons_self ..), r2, l2, r3, r1, l1⟩
end
theorem g0type : (Tryz.prog.globals[0]?).map (·.type) = some 244 := by kernel_rfl
theorem tabl_of {W : World} (h : laidMetH Tryz.prog Go.Proofs.YtgofdjfokfgnhaaGreatDoor.Rows.tellErrorsRow.laid W) : Tabl W.heap := by
  rw [MakeChecks.laidMetH_plain _ _ _ (by kernel_rfl)] at h
  obtain ⟨ps, ⟨_, _, _, _, _, _, _, _, _, _, ⟨_, _, _, _, _, _, _, _, _, _, ⟨g', t', cs, fuel, p, q, hg', ht', hvar, hd, _, _⟩, _⟩, _⟩, _⟩ := h
  obtain rfl := Option.some.inj (powNamed.symm.trans hg')
  obtain rfl := Option.some.inj (g0type.symm.trans ht')
  have hl := Lib.cells_of_tab (k := .u64) (zs := Lib.pow10Tab) Tryz.underlying244 Tryz.underlying47 (by kernel_rfl) (by kernel_rfl) hd
  unfold World.var? at hvar
  rw [powNamed, Option.bind_some] at hvar
  split at hvar
  · rename_i cs' ty fr hb
    simp only [Option.some.injEq] at hvar
    subst hvar
    refine ⟨ty, fr, ?_⟩
    unfold At
    rw [hb, powV, ← hl]
  · cases hvar

end Go.Fw

namespace Go.Proofs
end Go.Proofs
set_option maxRecDepth 100000
namespace Go.Fw
open Go Go.Proofs
open Go.Proofs.YtgofdjfokfgnhaaGreatDoor
/-! ## What the bound on the arguments' bulk gives -/
theorem bulk_one {H : Type} (d : DataW H) : 1 ≤ Rows.uptoBulk d := by
  cases d with
  | lit l => cases l <;> simp [Rows.uptoBulk]
  | nil => simp [Rows.uptoBulk]
  | ptr d => simp [Rows.uptoBulk]
  | slice elems spare => simp [Rows.uptoBulk]
  | agg parts => simp [Rows.uptoBulk]
  | iface t d => simp [Rows.uptoBulk]
  | map entries => simp [Rows.uptoBulk]
  | held h => simp [Rows.uptoBulk]
theorem bulk_part {H : Type} {d : DataW H} {l : List (DataW H)} (h : d ∈ l) : Rows.uptoBulk d ≤ Rows.uptoBulkAll l := by
  induction l with
  | nil => cases h
  | cons x r ih =>
    simp only [Rows.uptoBulkAll]
    cases List.mem_cons.1 h with
    | inl e => subst e; omega
    | inr e => have := ih e; omega
theorem bulk_len {H : Type} (l : List (DataW H)) : l.length ≤ Rows.uptoBulkAll l := by
  induction l with
  | nil => simp [Rows.uptoBulkAll]
  | cons x r ih => have := bulk_one x; simp only [Rows.uptoBulkAll, List.length_cons]; omega
theorem bulk_row {H : Type} (r : Rw) : r.key.length + r.val.length ≤ Rows.uptoBulk (rwD (H := H) r) := by
  simp only [rwD, Rows.uptoBulk, Rows.uptoBulkAll]; omega
theorem bulk_rows {H : Type} {rs : List Rw} {elems spare : List (DataW H)} (hl : elems.length = rs.length) (hm : ∀ r ∈ rs, rwD r ∈ elems) : rs.length ≤ Rows.uptoBulk (.slice elems spare) ∧ ∀ r ∈ rs, r.key.length + r.val.length ≤ Rows.uptoBulk (.slice elems spare) := by
  have h1 := bulk_len elems
  simp only [Rows.uptoBulk]
  refine ⟨by omega, fun r hr => ?_⟩
  have h2 := bulk_part (hm r hr)
  have := bulk_row (H := H) r
  omega
theorem bulk_bound {H : Type} {l : List (DataW H)} (hk : Rows.uptoSmall H l = true) : Rows.uptoBulkAll l ≤ 1048576 := of_decide_eq_true hk
theorem door_met2 (os : Os) (args : Array Value) : laidMet Tryz.prog Rows.tellErrorsRow.laid ((World.doorLaid Tryz.prog 400 os).forCall (fun _ _ => 0) ⟨#[], args, []⟩).memory := laidMet_of_run' 8 (by kernel_rfl) (by kernel_rfl)

end Go.Fw

set_option maxRecDepth 100000
namespace Go.Fw
open Go Go.Proofs
theorem i64z : I64 0 := ⟨by decide, by decide⟩
def rowsL (rs : List Rw) : List UInt8 := rs.flatMap fun r => 32 :: rwS r
theorem rows_line (rs : List Rw) : (Ans.mk 0 0 [] rs []).line = [111, 107] ++ rowsL rs := by
  rw [Ans.line, if_neg (fun x => x rfl)]
  congr 1
  simp only [Ans.parts, List.flatMap_append, List.flatMap_cons, List.flatMap_nil, ptLine, if_true, List.nil_append, List.append_nil, List.flatMap_map, rowsL]
theorem rows_split {rs : List Rw} {k : Nat} {r : Rw} (hk : rs[k]? = some r) : ∃ q, rowsL rs = rowsL (rs.take k) ++ (32 :: rwS r) ++ q := by
  have hlt := (List.getElem?_eq_some_iff.1 hk).1
  have e : rs = rs.take k ++ r :: rs.drop (k + 1) := by
    have := (List.getElem?_eq_some_iff.1 hk).2
    rw [← this, List.getElem_cons_drop, List.take_append_drop]
  refine ⟨rowsL (rs.drop (k + 1)), ?_⟩
  conv => lhs; rw [e]
  simp [rowsL]
theorem rows_take {rs : List Rw} {k : Nat} {r : Rw} (hk : rs[k]? = some r) : rowsL (rs.take (k + 1)) = rowsL (rs.take k) ++ (32 :: rwS r) := by
  rw [take_snoc hk]; simp [rowsL]
theorem rows_len {rs : List Rw} (h : ∀ r ∈ rs, RwOk r) : (rowsL rs).length ≤ rs.length * 8388608 :=
  len_flat _ 8388608 rs fun r hr => by have := rwS_len (h r hr).tab; have := (h r hr).key; have := (h r hr).val; simp only [List.length_cons]; omega
theorem cut_mid (a b c : List UInt8) : ((a ++ b ++ c).take (a.length + b.length)).drop a.length = b := by
  rw [← List.length_append, List.take_left', List.drop_left'] <;> simp

set_option maxHeartbeats 1000000 in
theorem tellRows_walk {h : Heap} {rs : List Rw} {rv : Value} (ht : Tabl h) (hrl : rs.length ≤ 1048576) (hok : ∀ r ∈ rs, RwOk r) (hr : RowsAt h rv rs) : Fn Tryz.prog 5 [rv] h fun v h' => v = .bool true ∧ Gr h h' := by
  obtain ⟨rva, rc, rfl, hrel⟩ := hr
  have hlen := rows_len hok
  have g0 := Gr.refl h
  refine Fn_intro Tryz.func5 rfl (by kernel_rfl) (Nat.le_of_ble_eq_true rfl) ?_
  refine G_seq fun K1 hK1 => ?_
  refine G_region ?_
  refine W_as rfl ?_
  refine W_nil ?_
  refine hK1 _ _ _ ?_
  try clear hK1 K1
  refine G_seq fun K2 hK2 => ?_
  refine G_seq fun K3 hK3 => ?_
  refine G_region ?_
  refine W_call cl9 rfl (fit_true) ?_
  rintro _ h2 ⟨rfl, hg2⟩
  replace g0 := g0.trans hg2
  refine W_not rfl ?_
  refine W_nil ?_
  refine hK3 _ _ _ ?_
  try clear hK3 K3
  refine G_else rfl ?_
  refine G_skip ?_
  refine hK2 _ _ _ ?_
  try clear hK2 K2
  refine G_seq fun K4 hK4 => ?_
  refine G_seq fun K5 hK5 => ?_
  refine G_region ?_
  refine W_mv rfl ?_
  refine W_lens rfl si23 ?_
  refine W_gtr rfl rfl (fun hbig => ?_) (fun hbig => ?_)
  ·
    refine W_nil ?_
    refine hK5 _ _ _ ?_
    try clear hK5 K5
    refine G_if rfl ?_
    refine G_seq fun K7 hK7 => ?_
    refine G_region ?_
    refine W_as rfl ?_
    refine W_nil ?_
    refine hK7 _ _ _ ?_
    try clear hK7 K7
    refine G_ret ?_
    simp only [seqQ_ret, blockQ_ret, loopQ_ret]
    refine end_ret rfl ?_
    exact ⟨rfl, g0⟩
  ·
    refine W_nil ?_
    refine hK5 _ _ _ ?_
    try clear hK5 K5
    refine G_else rfl ?_
    refine G_skip ?_
    refine hK4 _ _ _ ?_
    try clear hK4 K4
    refine G_seq fun K8 hK8 => ?_
    refine G_region ?_
    refine W_mv rfl ?_
    refine W_bld fk26 zt26 (cs := (ansCells ⟨0, 0, [], rs, []⟩ (.slice rva rs.length rc) (.slice none 0 0)).toArray) rfl ?_
    refine W_call cl12 rfl (answer_all (a := ⟨0, 0, [], rs, []⟩) (ht.gr g0) ⟨i64z, i64z, by simp, by simp only; omega, hok, by simp⟩ ⟨rva, rc, rfl, fun k r hk => let ⟨b, o, cs, el, fr, q1, q2, q3⟩ := hrel k r hk; ⟨b, o, cs, el, fr, q1, g0.at q2, q3⟩⟩ ⟨none, 0, rfl, fun h => absurd rfl h⟩) ?_
    rintro _ h3 ⟨rfl, hg3⟩
    rw [rows_line]
    replace g0 := g0.trans hg3
    refine W_as rfl ?_
    refine W_nil ?_
    refine hK8 _ _ _ ?_
    try clear hK8 K8
    refine G_seq fun K9 hK9 => ?_
    refine G_region ?_
    refine W_as rfl ?_
    refine W_nil ?_
    refine hK9 _ _ _ ?_
    try clear hK9 K9
    refine G_seq fun K10 hK10 => ?_
    refine G_seq fun K11 hK11 => ?_
    refine G_region ?_
    refine W_mv rfl ?_
    refine W_lens rfl si23 ?_
    refine W_mv rfl ?_
    refine W_nil ?_
    refine hK11 _ _ _ ?_
    try clear hK11 K11
    refine G_block ?_
    refine G_loop (α := Nat) (fun k => [(18, .int .i64 (k : Int)), (17, .int .i64 (rs.length : Int)), (16, .slice rva rs.length rc), (4, .int .i64 ((2 + (rowsL (rs.take k)).length) : Nat)), (3, .string (str ([111, 107] ++ rowsL rs)))]) (fun k h' => k ≤ rs.length ∧ Gr h h') (fun k => rs.length - k) 0 (Sub.cons rfl (Sub.cons rfl (Sub.cons rfl (Sub.cons rfl (Sub.cons rfl (Sub.nil _)))))) ⟨Nat.zero_le _, g0⟩ ?_
    rintro k h3 ⟨hkl, g3⟩
    refine G_seq fun K12 hK12 => ?_
    refine G_region ?_
    refine W_lt rfl rfl (fun hk => ?_) (fun hk => ?_)
    ·
      refine W_nil ?_
      refine hK12 _ _ _ ?_
      try clear hK12 K12
      refine G_seq fun K14 hK14 => ?_
      refine G_if rfl ?_
      refine G_skip ?_
      refine hK14 _ _ _ ?_
      try clear hK14 K14
      refine G_seq fun K15 hK15 => ?_
      refine G_block ?_
      refine G_seq fun K16 hK16 => ?_
      refine G_region ?_
      obtain ⟨r, hrk⟩ : ∃ r, rs[k]? = some r := ⟨_, List.getElem?_eq_getElem (by omega)⟩
      have hro := hok r (List.mem_of_getElem? hrk)
      obtain ⟨hi64, hkz, hvz⟩ := hro
      obtain ⟨br, or_, csr, elr, frr, rfl, hbr, hle, hex⟩ := hrel k r hrk
      replace hbr := g3.at hbr
      obtain ⟨q, hq⟩ := rows_split hrk
      have hlq : (rowsL rs).length = (rowsL (rs.take k)).length + (32 :: rwS r).length + q.length := by rw [hq]; simp only [List.length_append]
      have hlp := rwS_len hi64
      have hlc : (32 :: rwS r).length = (rwS r).length + 1 := rfl
      have hnx : (2 + (rowsL (rs.take (k + 1))).length) = (2 + (rowsL (rs.take k)).length) + (32 :: rwS r).length := by rw [rows_take hrk, List.length_append]; omega
      refine W_is rfl rfl se23 rfl (by omega) rfl ?_
      refine W_ld rfl (ldA hbr ag31 sz31 hle hex) ?_
      refine W_al zt31 fun n5 h4 hn5 => ?_
      have hb5 := hn5.at
      refine W_st (cs' := (rwCells r).toArray) rfl rfl hb5 sz31 rfl (Nat.le_of_ble_eq_true rfl) rfl rfl (writeL_all _ _ rfl) fun h5 hu5 => ?_
      have g5 : Gr h3 h5 := hn5.gr.upd hu5 (Nat.le_of_eq hn5.nb_eq.symm)
      have g5' := g3.trans g5
      have hb5' := hu5.at
      refine W_nil ?_
      refine hK16 _ _ _ ?_
      try clear hK16 K16
      refine G_seq fun K17 hK17 => ?_
      refine G_seq fun K18 hK18 => ?_
      refine G_region ?_
      refine W_fa rfl fo31_1 ?_
      refine W_ld rfl (ld1 hb5' ag9 (show _ = some (.string (str r.key)) from rfl)) ?_
      refine W_lenstr rfl st9 ?_
      rw [str_size]
      refine W_fa rfl fo31_2 ?_
      refine W_ld rfl (ld1 hb5' ag9 (show _ = some (.string (str r.val)) from rfl)) ?_
      refine W_lenstr rfl st9 ?_
      rw [str_size]
      refine W_add rfl rfl (wrap_i64 (by omega) (by omega)) ?_
      refine W_gtr rfl rfl (fun hbigr => ?_) (fun hbigr => ?_)
      ·
        refine W_mv rfl ?_
        refine W_gf rfl ?_
        refine W_gf rfl ?_
        refine W_gf rfl ?_
        refine W_pt rfl rfl rfl ?_
        refine W_nil ?_
        refine hK18 _ _ _ ?_
        try clear hK18 K18
        refine G_if rfl ?_
        refine G_seq fun K20 hK20 => ?_
        refine G_region ?_
        refine W_as rfl ?_
        refine W_nil ?_
        refine hK20 _ _ _ ?_
        try clear hK20 K20
        refine G_ret ?_
        simp only [seqQ_ret, blockQ_ret, loopQ_ret]
        refine end_ret rfl ?_
        exact ⟨rfl, g5'⟩
      ·
        refine W_mv rfl ?_
        refine W_gt rfl ?_
        refine W_fa rfl fo31_0 ?_
        refine W_gt rfl ?_
        refine W_ld rfl (ld1 hb5' ag3 (show _ = some (.int .i64 r.tab) from rfl)) ?_
        refine W_gt rfl ?_
        refine W_eq rfl rfl (fun hminr => ?_) (fun hminr => ?_)
        ·
          refine W_pf rfl rfl rfl ?_
          refine W_nil ?_
          refine hK18 _ _ _ ?_
          try clear hK18 K18
          refine G_if rfl ?_
          refine G_seq fun K22 hK22 => ?_
          refine G_region ?_
          refine W_as rfl ?_
          refine W_nil ?_
          refine hK22 _ _ _ ?_
          try clear hK22 K22
          refine G_ret ?_
          simp only [seqQ_ret, blockQ_ret, loopQ_ret]
          refine end_ret rfl ?_
          exact ⟨rfl, g5'⟩
        ·
          refine W_pf rfl rfl rfl ?_
          refine W_nil ?_
          refine hK18 _ _ _ ?_
          try clear hK18 K18
          refine G_else rfl ?_
          refine G_skip ?_
          refine hK17 _ _ _ ?_
          try clear hK17 K17
          refine G_seq fun K23 hK23 => ?_
          refine G_drawM 14 (fun _ => False) mixed (by kernel_rfl) ?_
          refine A_takesM [0, 1, 5, 6, 10, 11] 9 (by kernel_rfl) rfl ?_
          refine FH_fa rfl fo31_0 ?_
          refine FH_ld rfl (fun x hx => by first | exact ld1 (hx.keep _ _ hb5' id) ag3 rfl) ?_
          refine FH_fa rfl fo31_1 ?_
          refine FH_ld rfl (fun x hx => by first | exact ld1 (hx.keep _ _ hb5' id) ag9 rfl) ?_
          refine FH_fa rfl fo31_2 ?_
          refine FH_ld rfl (fun x hx => by first | exact ld1 (hx.keep _ _ hb5' id) ag9 rfl) ?_
          refine FH_nil ?_
          refine A_one (i := 2) 8 (by kernel_rfl) rfl rfl ?_
          refine W_call cl10 rfl (digits_all hi64 hminr) ?_
          rintro _ hA ⟨rfl, hgA⟩
          replace hb5' := hgA.at hb5'
          have hir := itoa_len hi64.1 hi64.2
          refine W_nil ?_
          refine AK_mod hgA ?_
          refine A_takesM [3, 4] 6 (by kernel_rfl) rfl ?_
          refine FH_bin rfl rfl (binE_add (x := [32]) (by simp only [List.length_append, List.length_singleton, List.length_cons, List.length_nil]; omega)) ?_
          refine FH_bin rfl rfl (binE_add (by simp only [List.length_append, List.length_singleton, List.length_cons, List.length_nil]; omega)) ?_
          refine FH_nil ?_
          refine A_one (i := 7) 5 (by kernel_rfl) rfl rfl ?_
          refine W_call cl11 rfl (hex_all (by omega)) ?_
          rintro _ hB ⟨rfl, hgB⟩
          replace hb5' := hgB.at hb5'
          have hkr := saidT_len r.key
          refine W_nil ?_
          refine AK_mod hgB ?_
          refine A_takesM [8, 9] 3 (by kernel_rfl) rfl ?_
          refine FH_bin rfl rfl (binE_add (by simp only [List.length_append, List.length_singleton, List.length_cons, List.length_nil]; omega)) ?_
          refine FH_bin rfl rfl (binE_add (by simp only [List.length_append, List.length_singleton, List.length_cons, List.length_nil]; omega)) ?_
          refine FH_nil ?_
          refine A_one (i := 12) 2 (by kernel_rfl) rfl rfl ?_
          refine W_call cl11 rfl (hex_all (by omega)) ?_
          rintro _ hC ⟨rfl, hgC⟩
          have hvr := saidT_len r.val
          refine W_nil ?_
          refine AK_mod hgC ?_
          refine A_takesM [13] 1 (by kernel_rfl) rfl ?_
          refine FH_bin rfl rfl (binE_add (by simp only [List.length_append, List.length_singleton, List.length_cons, List.length_nil]; omega)) ?_
          refine FH_nil ?_
          refine A_tail 14 (by kernel_rfl) ?_
          refine W_as rfl ?_
          refine W_nil ?_
          refine hK23 _ _ _ ?_
          try clear hK23 K23
          refine G_seq fun K24 hK24 => ?_
          refine G_seq fun K25 hK25 => ?_
          refine G_region ?_
          have ep : (([32] ++ Lib.itoa r.tab ++ [58] ++ saidT r.key ++ [61] ++ saidT r.val) : List UInt8) = 32 :: rwS r := by simp [rwS]
          rw [ep]
          refine W_mv rfl ?_
          refine W_lenstr rfl st9 ?_
          rw [str_size]
          refine W_mv rfl ?_
          refine W_mv rfl ?_
          refine W_lenstr rfl st9 ?_
          rw [str_size]
          refine W_add rfl rfl (show _ = (((2 + (rowsL (rs.take k)).length) + (32 :: rwS r).length : Nat) : Int) from wrap_i64 (by omega) (by omega)) ?_
          refine W_lt rfl rfl (fun hc26 => absurd hc26 (show ¬ _ from (by simp only [List.length_append, List.length_cons, List.length_nil]; omega))) (fun _ => ?_)
          refine W_mv rfl ?_
          refine W_gt rfl ?_
          refine W_mv rfl ?_
          refine W_gt rfl ?_
          refine W_mv rfl ?_
          refine W_gt rfl ?_
          refine W_mv rfl ?_
          refine W_gt rfl ?_
          refine W_mv rfl ?_
          refine W_gt rfl ?_
          refine W_lenstr rfl st9 ?_
          rw [str_size]
          refine W_gt rfl ?_
          refine W_add rfl rfl (show _ = (((2 + (rowsL (rs.take k)).length) + (32 :: rwS r).length : Nat) : Int) from wrap_i64 (by omega) (by omega)) ?_
          refine W_gt rfl ?_
          have hcut := cut_mid ([111, 107] ++ rowsL (rs.take k)) (32 :: rwS r) q
          rw [show ([111, 107] ++ rowsL (rs.take k) ++ 32 :: rwS r ++ q : List UInt8) = ([111, 107] ++ rowsL rs) from by rw [hq]; simp, show ([111, 107] ++ rowsL (rs.take k) : List UInt8).length = (2 + (rowsL (rs.take k)).length) from by simp only [List.length_append, List.length_cons, List.length_nil]] at hcut
          refine W_sls (lo := (2 + (rowsL (rs.take k)).length)) (hi := (2 + (rowsL (rs.take k)).length) + (32 :: rwS r).length) (bs := ([111, 107] ++ rowsL rs)) rfl st9 ⟨_, rfl⟩ ⟨_, rfl⟩ (by omega) (by simp only [List.length_append, List.length_cons, List.length_nil]; omega) ?_
          rw [hcut]
          refine W_gt rfl ?_
          refine W_mv rfl ?_
          refine W_gt rfl ?_
          refine W_sne (a := (32 :: rwS r)) (b := (32 :: rwS r)) rfl rfl (fun hx => absurd rfl hx) (fun _ => ?_)
          refine W_pf rfl rfl rfl ?_
          refine W_nil ?_
          refine hK25 _ _ _ ?_
          try clear hK25 K25
          refine G_else rfl ?_
          refine G_skip ?_
          refine hK24 _ _ _ ?_
          try clear hK24 K24
          refine G_region ?_
          refine W_mv rfl ?_
          refine W_mv rfl ?_
          refine W_lenstr rfl st9 ?_
          rw [str_size]
          refine W_add rfl rfl (show _ = (((2 + (rowsL (rs.take k)).length) + (32 :: rwS r).length : Nat) : Int) from wrap_i64 (by omega) (by omega)) ?_
          refine W_as rfl ?_
          refine W_nil ?_
          refine hK15 _ _ _ ?_
          try clear hK15 K15
          refine G_region ?_
          refine W_add rfl rfl (wrap_i64 (by omega) (by omega)) ?_
          refine W_mv rfl ?_
          refine W_nil ?_
          refine loop_nx (k + 1) (by omega) (Sub.cons rfl (Sub.cons rfl (Sub.cons rfl (Sub.cons (by rw [hnx]; rfl) (Sub.cons rfl (Sub.nil _)))))) ⟨by omega, ((g5'.trans hgA).trans hgB).trans hgC⟩
    ·
      refine W_nil ?_
      refine hK12 _ _ _ ?_
      try clear hK12 K12
      refine G_seq fun K28 hK28 => ?_
      refine G_else rfl ?_
      refine G_exit ?_
      simp only [loopQ_exit, seqQ_exit, blockQ_exit]
      refine hK10 _ _ _ ?_
      try clear hK10 K10
      refine G_seq fun K29 hK29 => ?_
      refine G_region ?_
      refine W_mv rfl ?_
      have hk' : k = rs.length := by omega
      subst hk'
      rw [List.take_length]
      refine W_sls (lo := 0) (hi := 2) (bs := ([111, 107] ++ rowsL rs)) rfl st9 rfl ⟨_, rfl⟩ (by omega) (by simp) ?_
      rw [show (([111, 107] ++ rowsL rs : List UInt8).take 2).drop 0 = ([111, 107] : List UInt8) from by simp]
      refine W_seq (a := [111, 107]) (b := [111, 107]) rfl rfl (fun _ => ?_) (fun hx => absurd rfl hx)
      refine W_mv rfl ?_
      refine W_gt rfl ?_
      refine W_mv rfl ?_
      refine W_gt rfl ?_
      refine W_mv rfl ?_
      refine W_gt rfl ?_
      refine W_lenstr rfl st9 ?_
      rw [str_size]
      refine W_gt rfl ?_
      refine W_eq rfl rfl (fun _ => ?_) (fun hc31 => absurd (show _ from (by simp only [List.length_append, List.length_cons, List.length_nil] <;> omega)) hc31)
      refine W_pt rfl rfl rfl ?_
      refine W_as rfl ?_
      refine W_nil ?_
      refine hK29 _ _ _ ?_
      try clear hK29 K29
      refine G_ret ?_
      refine end_ret rfl ?_
      exact ⟨rfl, g3⟩

end Go.Fw
