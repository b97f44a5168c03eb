/- Contracts of functions of the program: what each call returns, and that it changes nothing that was. Conditions: as each says. -/
import Derived.Test.YtoeclobdbblohaaDoorTy
import Derived.Test.YtoeclobdbblohaaDoorNatI
import Derived.Test.YtoeclobdbblohaaDoorNatQ
import Derived.Test.YtoeclobdbblohaaDoorSxW
import Derived.Test.YtoeclobdbblohaaDoorSxB
import Derived.Test.YtoeclobdbblohaaDoorTab
import Derived.Test.YtoeclobdbblohaaDoorLay
import Derived.Test.YtoeclobdbblohaaDoorLayB
import Derived.Test.YtoeclobdbblohaaDoorNatX
import Derived.Test.YtoeclobdbblohaaDoorSxP
import Derived.Test.YtoeclobdbblohaaDoorL0
import Derived.Test.YtoeclobdbblohaaDoorL1
import Derived.Test.YtoeclobdbblohaaDoorL3
import Derived.Test.YtoeclobdbblohaaDoorNatJ
import Derived.Test.YtoeclobdbblohaaDoorNatDx
import Derived.Test.YtoeclobdbblohaaDoorSxE
set_option linter.unusedVariables false
set_option linter.unusedSimpArgs false
namespace Go.Proofs.YtoeclobdbblohaaDoor
open Go Go.RowKit
set_option maxRecDepth 100000
theorem c_l01New {w : World} {vb : Value} {lvb uvb : Nat} {bs : List Int} (hvb : SlB w lvb uvb vb (bs)) (hb8 : ∀ j, j < bs.length → 0 ≤ bs.getD j 0 ∧ bs.getD j 0 ≤ 255) (hbl : bs.length ≤ 1048576) :
  Ret Tryd.prog 42 [vb] w fun v w' => ∃ c h2, v = .pointer (some ⟨c, 0, none⟩) ∧ Blk w' c [vb, .int .i64 (0), .int .i64 (h2)] 87 ∧ (0 ≤ h2 ∧ h2 ≤ 1073741823) ∧ (w.heap.size ≤ c ∧ c < w'.heap.size) ∧ Chg 0 0 w w' := by
 refine sx_enter Tryd.func42 rfl Tryd.ntmps42 (nbl rfl) ?_
 refine sx_seq fun K1 k1 => sx_region ?_
 refine av rfl rfl (wl_nil (q_n (k1 _ _ ?_)))
 refine sx_seq fun K2 k2 => sx_region ?_
 refine mv rfl rfl (sp rfl (px_len rfl Tryd.underlying40 hvb) ?_)
 refine sp rfl (px_add rfl rfl (by omega)) ?_
 refine av rfl rfl (wl_nil (q_n (k2 _ _ ?_)))
 refine sx_seq fun K3 k3 => ?_
 refine sx_seq fun K4 k4 => sx_region ?_
 refine av rfl rfl (wl_nil (q_n (k4 _ _ ?_)))
 refine sx_block ?_
 refine sx_loop (fun mm aa w' => ∃ (k : Nat) (h : Int), Agr 32 [(0, vb), (3, .int .i64 h), (4, .int .i64 ↑k)] aa ∧ Chg 0 0 w w' ∧ (mm = bs.length - k) ∧ (k ≤ bs.length) ∧ (0 ≤ h ∧ h ≤ 1073741823)) (_) (fun a ha => ⟨0, (1616 + (bs.length : Int)), ha.sub (Sub.c 0 rfl (.c 3 (look_int (t := 3) rfl (by first | omega | simp)) (.c 4 (look_int (t := 4) rfl (by first | omega | simp)) .nil))), Chg.refl _ _ _, rfl, by omega, by omega⟩) ?_
 rintro mm aa wl5 ⟨k, h, hAwl5, cwl5, hm, hk, hh⟩
 refine (show cw Tryd.prog 32 _ _ _ wl5 from ?_) aa hAwl5
 clear hAwl5
 have zwl5 := cwl5.size
 have hv8 := hb8 k
 refine sx_seq fun K6 k6 => ?_
 refine sx_seq fun K7 k7 => sx_region ?_
 refine mv rfl rfl (mv rfl rfl ?_)
 have f8 := hvb.ext cwl5
 refine sp rfl (px_len rfl Tryd.underlying40 f8) ?_
 refine sp rfl (px_lt rfl rfl) ?_
 refine mv rfl rfl ?_
 refine sx_tmpP (t := 12) rfl (fun h135 => ?_) (fun h135 => ?_)
 ·
  refine sx_guardT rfl rfl rfl ?_
  refine mv rfl rfl ?_
  refine sx_guardT rfl rfl rfl ?_
  refine sp rfl (px_lt rfl rfl) ?_
  refine sp rfl (px_pick rfl rfl) ?_
  refine wl_nil (q_n (k7 _ _ ?_))
  refine sx_condP rfl (fun h135x1 => ?_) (fun h135x1 => ?_)
  ·
   refine sx_skip ?_
   refine q_n (k6 _ _ ?_)
   refine sx_seq fun K9 k9 => ?_
   refine sx_block ?_
   refine sx_region ?_
   refine mv rfl rfl (sp rfl (px_mul rfl rfl (by omega)) ?_)
   refine mv rfl rfl (mv rfl rfl (sp rfl (px_index1 (j := k) rfl rfl (by omega) Tryd.underlying40 Tryd.sizeOf5 f8 (by omega)) ?_))
   refine sp rfl (px_load rfl (f8.load1 (at_u8 (by omega)) Tryd.isAgg5)) ?_
   refine sp rfl (px_conv8 Tryd.underlying5 Tryd.underlying3 rfl (hb8 _ (by omega))) ?_
   refine sp rfl (px_add rfl rfl (by omega)) ?_
   refine sp rfl (px_add rfl rfl (by omega)) ?_
   have hm10 := andI_mask (((h * 41) + ((bs).getD k 0)) + 7) (m := 1073741823) (by decide) (by decide)
   refine sp rfl (px_andW rfl rfl) ?_
   refine av rfl rfl (wl_nil ?_)
   refine q_bn (q_n (k9 _ _ ?_))
   refine sx_sub (Sub.c 0 rfl (.c 3 rfl (.c 4 rfl .nil))) ?_
   refine sx_region ?_
   refine mv rfl rfl (sp rfl (px_add rfl rfl (by omega)) ?_)
   refine av rfl rfl (wl_nil ?_)
   exact fun a ha => ⟨_, by omega, (k + 1), (andI (((h * 41) + ((bs).getD k 0)) + 7) 1073741823), ha.sub (Sub.c 0 rfl (.c 3 (look_int (t := 3) rfl (by first | omega | simp)) (.c 4 (look_int (t := 4) rfl (by first | omega | simp)) .nil))), cwl5, rfl, by omega, by omega⟩
  refine sx_exit ?_
  refine q_e (q_e (q_bx (q_n (k3 _ _ ?_))))
  refine sx_seq fun K11 k11 => sx_region ?_
  refine mv rfl rfl (mv rfl rfl (sp rfl (px_build rfl (xbld87x0x2 f8.one rfl _)) ?_))
  refine sx_box [vb, .int .i64 0, .int .i64 h] rfl rfl rfl (fun b12 w13 eb12 sb12 fb12 cb12 => ?_)
  have zw13 := cb12.size
  refine av rfl rfl (wl_nil (q_n (k11 _ _ ?_)))
  refine sx_sub (Sub.c 2 rfl .nil) ?_
  refine sx_retc ?_
  refine sx_ret1 Tryd.results42 rfl ?_
  exact ⟨_, _, rfl, fb12, by omega, by omega, (cwl5.t cb12)⟩
 refine sx_guardF rfl rfl rfl rfl rfl rfl ?_
 refine sx_guardF rfl rfl rfl rfl rfl rfl ?_
 refine sp rfl (px_pick rfl rfl) ?_
 refine wl_nil (q_n (k7 _ _ ?_))
 refine sx_condF rfl ?_
 refine sx_exit ?_
 refine q_e (q_e (q_bx (q_n (k3 _ _ ?_))))
 refine sx_seq fun K14 k14 => sx_region ?_
 refine mv rfl rfl (mv rfl rfl (sp rfl (px_build rfl (xbld87x0x2 f8.one rfl _)) ?_))
 refine sx_box [vb, .int .i64 0, .int .i64 h] rfl rfl rfl (fun b15 w16 eb15 sb15 fb15 cb15 => ?_)
 have zw16 := cb15.size
 refine av rfl rfl (wl_nil (q_n (k14 _ _ ?_)))
 refine sx_sub (Sub.c 2 rfl .nil) ?_
 refine sx_retc ?_
 refine sx_ret1 Tryd.results42 rfl ?_
 exact ⟨_, _, rfl, fb15, by omega, by omega, (cwl5.t cb15)⟩

theorem c_sCurs {w : World} :
  Ret Tryd.prog 44 [] w fun v w' => ∃ s, v = s ∧ OwnS w' w.heap.size w'.heap.size s strT (tabS.map Cr.code) ∧ Chg 0 0 w w' := by
 refine sx_enter Tryd.func44 rfl Tryd.ntmps44 (nbl rfl) ?_
 refine sx_seq fun K1 k1 => sx_region ?_
 refine av rfl rfl (wl_nil (q_n (k1 _ _ ?_)))
 refine sx_seq fun K2 k2 => sx_region ?_
 refine sx_lit0 rfl xelt54 (fun s3 ws3 ss3 fs3 cs3 => ?_)
 have zws3 := cs3.size
 refine av rfl rfl (wl_nil (q_n (k2 _ _ ?_)))
 refine sx_seq fun K4 k4 => ?_
 refine sx_seq fun K5 k5 => sx_region ?_
 refine sx_call rfl rfl Tryd.call79 (c_l08Table) (fun v6 w6 p6 => ?_)
 obtain ⟨sl6, rfl, osl_6, c6⟩ := p6
 have zw6 := c6.size
 refine sp rfl (px_len rfl Tryd.underlying89 osl_6.sv) ?_
 refine mv rfl rfl (wl_nil (q_n (k5 _ _ ?_)))
 refine sx_block ?_
 have f8 := fs3.ext c6
 refine sx_loop (fun mm aa w' => ∃ (k : Nat) (s : Value) (os : List ByteArray) (gl : Nat) (gh : Nat), Agr 18 [(1, s), (5, v6), (6, .int .i64 20), (7, .int .i64 ↑k)] aa ∧ Chg 0 0 w w' ∧ Own w' gl gh s strT os.length 1 (os.map Value.string) ∧ Own w' ws3.heap.size w6.heap.size v6 92 20 4 (crCells tabS) ∧ (mm = 20 - k) ∧ (k ≤ 20) ∧ (os = (tabS.map Cr.code).take k) ∧ (os.length = k) ∧ (w.heap.size ≤ gl ∧ gl ≤ w'.heap.size ∧ gh ≤ w'.heap.size ∧ (gh ≤ ws3.heap.size ∨ w6.heap.size ≤ gl) ∧ w6.heap.size ≤ w'.heap.size)) (20) (fun a ha => ⟨0, s3, [], w.heap.size, ws3.heap.size, ha.sub (Sub.c 1 rfl (.c 5 rfl (.c 6 rfl (.c 7 (look_int (t := 7) rfl (by first | omega | simp)) .nil)))), (cs3.t c6), f8, osl_6, rfl, by omega, by simp, rfl, by omega⟩) ?_
 rintro mm aa wl7 ⟨k, s, os, gl, gh, hAwl7, cwl7, hs_s, hs_v6, hm, hk, hos, hol, hgg⟩
 refine (show cw Tryd.prog 18 _ _ _ wl7 from ?_) aa hAwl7
 clear hAwl7
 have zwl7 := cwl7.size
 refine sx_seq fun K9 k9 => sx_region ?_
 refine sp rfl (px_lt rfl rfl) ?_
 refine wl_nil (q_n (k9 _ _ ?_))
 refine sx_seq fun K10 k10 => ?_
 refine sx_condP rfl (fun h57 => ?_) (fun h57 => ?_)
 ·
  refine sx_skip ?_
  refine q_n (k10 _ _ ?_)
  refine sx_seq fun K11 k11 => ?_
  refine sx_block ?_
  refine sx_seq fun K12 k12 => sx_region ?_
  refine sp rfl (px_indexK (j := k) rfl rfl (by omega) Tryd.underlying89 Tryd.sizeOf92 hs_v6.sv (by omega)) ?_
  refine sp rfl (px_load rfl (hs_v6.sv.loadA (cr_look (l := tabS) (k := k) (by rw [show tabS.length = 20 from rfl]; omega)) Tryd.isAgg92 Tryd.sizeOf92)) ?_
  refine sx_alloc [.string (⟨#[]⟩), .string (⟨#[]⟩), .int .i64 0, .int .i64 0] rfl Tryd.zeroValue92 rfl (fun b13 w14 eb13 sb13 fb13 cb13 => ?_)
  have zw14 := cb13.size
  refine sx_store (vs := [.string ((tabS.getD k cr0).code), .string ((tabS.getD k cr0).number), .int .i64 ((tabS.getD k cr0).places), .int .i64 ((tabS.getD k cr0).cash)]) rfl rfl fb13 rfl Tryd.sizeOf92 (nbl rfl) (one_cons rfl (o3 rfl rfl rfl)) (fun w15 sw15 fw15 cw15 => ?_)
  have zw15 := cw15.size
  have gw15 : Blk w15 b13 [.string ((tabS.getD k cr0).code), .string ((tabS.getD k cr0).number), .int .i64 ((tabS.getD k cr0).places), .int .i64 ((tabS.getD k cr0).cash)] 92 := fw15
  refine wl_nil (q_n (k12 _ _ ?_))
  refine sx_region ?_
  refine mv rfl rfl (sp rfl (px_field rfl xfld92x0) ?_)
  refine sp rfl (px_load rfl (gw15.load1 rfl Tryd.isAgg9)) ?_
  refine sx_lit1 rfl xelt54 rfl rfl (fun s16 ws16 ss16 fs16 cs16 => ?_)
  have ns16 := Own.norm (f := Value.string) (zs := [(tabS.getD k cr0).code]) fs16
  have zws16 := cs16.size
  have f18 := hs_s.ext cb13
  have f19 := f18.chg cw15 (by omega)
  have f20 := f19.ext cs16
  refine sx_append2 rfl xelt54 rfl rfl f20 ns16.sv (by simp) one_str (by omega) (by simp only [List.length_cons, List.length_nil]; omega) (by unfold maxLen; simp only [List.length_cons, List.length_nil]; omega) (fun a17 w17 alw17 ahw17 adw17 fw17 cw17 => ?_)
  have nw17 := Own.app (f := Value.string) (a := os) (b := [(tabS.getD k cr0).code]) fw17
  have zw17 := cw17.size
  refine av rfl rfl (wl_nil ?_)
  refine q_bn (q_n (k11 _ _ ?_))
  refine sx_region ?_
  refine sp rfl (px_add rfl rfl (by omega)) ?_
  refine mv rfl rfl (wl_nil ?_)
  have q21 := Chg.step (l := 0) (h := 0) (Chg.zero (l := 0) (h := 0) (cwl7.t cb13)) cw15 (by omega)
  have q22 := Chg.step (l := 0) (h := 0) q21 cs16 (by omega)
  have q23 := Chg.step (l := 0) (h := 0) q22 cw17 (by omega)
  have f24 := hs_v6.ext cb13
  have f25 := f24.chg cw15 (by omega)
  have f26 := f25.ext cs16
  have f27 := f26.chg cw17 (by omega)
  exact fun a ha => ⟨_, by omega, (k + 1), a17, (os ++ ([(tabS.getD k cr0).code])), alw17, ahw17, ha.sub (Sub.c 1 rfl (.c 5 rfl (.c 6 rfl (.c 7 (look_int (t := 7) rfl (by first | omega | simp)) .nil)))), q23, nw17, f27, rfl, by omega, by rw [hos]; exact codes_next (by rw [show tabS.length = 20 from rfl]; omega), by simp only [List.length_append, List.length_singleton]; omega, by omega⟩
 refine sx_exit ?_
 refine q_e (q_e (q_bx (q_n (k4 _ _ ?_))))
 refine sx_seq fun K28 k28 => sx_region ?_
 refine mv rfl rfl (av rfl rfl (wl_nil (q_n (k28 _ _ ?_))))
 refine sx_retc ?_
 refine sx_ret1 Tryd.results44 rfl ?_
 have ek : k = 20 := by omega
 subst ek
 have hs := hs_s
 rw [hos, show (tabS.map Cr.code).take 20 = tabS.map Cr.code from rfl] at hs
 exact ⟨_, rfl, hs.mono (by omega) (by omega), cwl7⟩

theorem c_l01Byte {w : World} {c : Nat} {vb : Value} {lvb uvb : Nat} {bs : List Int} {i : Int} {h : Int} (hc : Blk w c [vb, .int .i64 i, .int .i64 h] 87) (hvb : SlB w lvb uvb vb (bs)) (hb8 : ∀ j, j < bs.length → 0 ≤ bs.getD j 0 ∧ bs.getD j 0 ≤ 255) (hbl : bs.length ≤ 1048576) (hi : 0 ≤ i ∧ i ≤ bs.length) (hdis : uvb ≤ c) :
  Ret Tryd.prog 108 [.pointer (some ⟨c, 0, none⟩)] w fun v w' => ∃ x i2 h2, v = .int .i64 (x) ∧ Blk w' c [vb, .int .i64 (i2), .int .i64 (h2)] 87 ∧ (0 ≤ x ∧ x ≤ 255) ∧ (0 ≤ i2 ∧ i2 ≤ (bs).length) ∧ Chg c (c + 1) w w' := by
 have clt := hc.lt
 refine sx_enter Tryd.func108 rfl Tryd.ntmps108 (nbl rfl) ?_
 refine sx_seq fun K1 k1 => sx_region ?_
 refine av rfl rfl (wl_nil (q_n (k1 _ _ ?_)))
 refine sx_seq fun K2 k2 => sx_region ?_
 refine mv rfl rfl (mv rfl rfl (sp rfl (px_nil rfl) ?_))
 refine sp rfl (px_field rfl xfld87x2) ?_
 refine sp rfl (px_load rfl (hc.load1 rfl Tryd.isAgg3)) ?_
 refine sp rfl (px_mulW rfl rfl) ?_
 refine sp rfl (px_addW rfl rfl) ?_
 refine sp rfl (px_nil rfl) ?_
 refine sp rfl (px_field rfl xfld87x2) ?_
 refine sx_store (vs := [.int .i64 (i64w ((i64w (h * 6364136223846793005)) + 1442695040888963407))]) rfl rfl hc rfl Tryd.sizeOf3 (nbl rfl) (o1 rfl) (fun w3 sw3 fw3 cw3 => ?_)
 have zw3 := cw3.size
 have gw3 : Blk w3 c [vb, .int .i64 i, .int .i64 (i64w ((i64w (h * 6364136223846793005)) + 1442695040888963407))] 87 := fw3
 refine wl_nil (q_n (k2 _ _ ?_))
 refine sx_seq fun K4 k4 => ?_
 have f5 := hvb.chg cw3 (by omega)
 refine dx_region (fun w' => Chg 0 0 w3 w') (by kernel_rfl) (Chg.zero (Chg.drew _)) ?_
 have d6 := Chg.drew w3
 have s6 : Chg 0 0 w3 (World.drew w3) := Chg.zero (Chg.drew _)
 have y6 : (World.drew w3).heap.size = w3.heap.size := rfl
 generalize World.drew w3 = w6 at *
 have zw6 := d6.size
 refine dt 0 rfl rfl rfl rfl s6 (fun _ hS => px_move rfl) ?_
 refine dt 1 rfl rfl rfl rfl s6 (fun _ hS => px_nil rfl) ?_
 refine dt 2 rfl rfl rfl rfl s6 (fun _ hS => px_field rfl xfld87x2) ?_
 refine dt 3 rfl rfl rfl rfl s6 (fun _ hS => px_load rfl ((gw3.chg hS (by omega)).load1 rfl Tryd.isAgg3)) ?_
 refine dt 4 rfl rfl rfl rfl s6 (fun _ hS => px_shrW rfl rfl (by decide)) ?_
 refine dt 5 rfl rfl rfl rfl s6 (fun _ hS => px_move rfl) ?_
 refine dt 6 rfl rfl rfl rfl s6 (fun _ hS => px_nil rfl) ?_
 refine dt 7 rfl rfl rfl rfl s6 (fun _ hS => px_field rfl xfld87x2) ?_
 refine dt 8 rfl rfl rfl rfl s6 (fun _ hS => px_load rfl ((gw3.chg hS (by omega)).load1 rfl Tryd.isAgg3)) ?_
 refine dt 9 rfl rfl rfl rfl s6 (fun _ hS => px_shrW rfl rfl (by decide)) ?_
 refine dt 10 rfl rfl rfl rfl s6 (fun _ hS => px_xorW rfl rfl) ?_
 have hm7 := andI_mask (xorI ((i64w ((i64w (h * 6364136223846793005)) + 1442695040888963407)).fdiv (2 ^ min (33 : Int).toNat 64)) ((i64w ((i64w (h * 6364136223846793005)) + 1442695040888963407)).fdiv (2 ^ min (45 : Int).toNat 64))) (m := 255) (by decide) (by decide)
 refine dt 11 rfl rfl rfl rfl s6 (fun _ hS => px_andW rfl rfl) ?_
 refine dt 12 rfl rfl rfl rfl s6 (fun _ hS => px_assign rfl) ?_
 refine dx_done (by kernel_rfl) ?_
 refine q_n (k4 _ _ ?_)
 refine sx_sub (Sub.c 0 rfl (.c 2 rfl (.c 3 rfl .nil))) ?_
 refine sx_seq fun K8 k8 => ?_
 refine sx_seq fun K9 k9 => ?_
 have f10 := gw3.ext d6
 have f11 := f5.ext d6
 refine dx_region (fun w' => Chg 0 0 w6 w') (by kernel_rfl) (Chg.zero (Chg.drew _)) ?_
 have d12 := Chg.drew w6
 have s12 : Chg 0 0 w6 (World.drew w6) := Chg.zero (Chg.drew _)
 have y12 : (World.drew w6).heap.size = w6.heap.size := rfl
 generalize World.drew w6 = w12 at *
 have zw12 := d12.size
 refine dt 0 rfl rfl rfl rfl s12 (fun _ hS => px_move rfl) ?_
 refine dt 1 rfl rfl rfl rfl s12 (fun _ hS => px_nil rfl) ?_
 refine dt 2 rfl rfl rfl rfl s12 (fun _ hS => px_field rfl xfld87x1) ?_
 refine dt 3 rfl rfl rfl rfl s12 (fun _ hS => px_load rfl ((f10.chg hS (by omega)).load1 rfl Tryd.isAgg3)) ?_
 refine dt 4 rfl rfl rfl rfl s12 (fun _ hS => px_move rfl) ?_
 refine dt 5 rfl rfl rfl rfl s12 (fun _ hS => px_nil rfl) ?_
 refine dt 6 rfl rfl rfl rfl s12 (fun _ hS => px_field rfl xfld87x0) ?_
 refine dt 7 rfl rfl rfl rfl s12 (fun _ hS => px_load rfl ((f10.chg hS (by omega)).load1 rfl Tryd.isAgg40)) ?_
 refine dt 8 rfl rfl rfl rfl s12 (fun _ hS => px_len rfl Tryd.underlying40 ((f11).chg hS (by omega))) ?_
 refine dt 9 rfl rfl rfl rfl s12 (fun _ hS => px_lt rfl rfl) ?_
 refine dx_done (by kernel_rfl) ?_
 refine q_n (k9 _ _ ?_)
 refine sx_condP rfl (fun h144 => ?_) (fun h144 => ?_)
 ·
  refine sx_seq fun K13 k13 => ?_
  have f14 := f10.ext d12
  have f15 := f11.ext d12
  refine dx_region (fun w' => Chg 0 0 w12 w') (by kernel_rfl) (Chg.zero (Chg.drew _)) ?_
  have d16 := Chg.drew w12
  have s16 : Chg 0 0 w12 (World.drew w12) := Chg.zero (Chg.drew _)
  have y16 : (World.drew w12).heap.size = w12.heap.size := rfl
  generalize World.drew w12 = w16 at *
  have zw16 := d16.size
  refine dt 0 rfl rfl rfl rfl s16 (fun _ hS => px_move rfl) ?_
  refine dt 1 rfl rfl rfl rfl s16 (fun _ hS => px_move rfl) ?_
  refine dt 2 rfl rfl rfl rfl s16 (fun _ hS => px_nil rfl) ?_
  refine dt 3 rfl rfl rfl rfl s16 (fun _ hS => px_field rfl xfld87x0) ?_
  refine dt 4 rfl rfl rfl rfl s16 (fun _ hS => px_load rfl ((f14.chg hS (by omega)).load1 rfl Tryd.isAgg40)) ?_
  refine dt 5 rfl rfl rfl rfl s16 (fun _ hS => px_move rfl) ?_
  refine dt 6 rfl rfl rfl rfl s16 (fun _ hS => px_nil rfl) ?_
  refine dt 7 rfl rfl rfl rfl s16 (fun _ hS => px_field rfl xfld87x1) ?_
  refine dt 8 rfl rfl rfl rfl s16 (fun _ hS => px_load rfl ((f14.chg hS (by omega)).load1 rfl Tryd.isAgg3)) ?_
  refine dt 9 rfl rfl rfl rfl s16 (fun _ hS => px_index1 (j := i.toNat) rfl rfl (by omega) Tryd.underlying40 Tryd.sizeOf5 ((f15).chg hS (by omega)) (by omega)) ?_
  refine dt 10 rfl rfl rfl rfl s16 (fun _ hS => px_load rfl (((f15).chg hS (by omega)).load1 (at_u8 (by omega)) Tryd.isAgg5)) ?_
  refine dt 11 rfl rfl rfl rfl s16 (fun _ hS => px_conv8 Tryd.underlying5 Tryd.underlying3 rfl (hb8 _ (by omega))) ?_
  refine dt 12 rfl rfl rfl rfl s16 (fun _ hS => px_addW rfl rfl) ?_
  have hm17 := andI_mask (i64w ((andI (xorI ((i64w ((i64w (h * 6364136223846793005)) + 1442695040888963407)).fdiv (2 ^ min (33 : Int).toNat 64)) ((i64w ((i64w (h * 6364136223846793005)) + 1442695040888963407)).fdiv (2 ^ min (45 : Int).toNat 64))) 255) + ((bs).getD i.toNat 0))) (m := 255) (by decide) (by decide)
  refine dt 13 rfl rfl rfl rfl s16 (fun _ hS => px_andW rfl rfl) ?_
  refine dt 14 rfl rfl rfl rfl s16 (fun _ hS => px_assign rfl) ?_
  refine dx_done (by kernel_rfl) ?_
  refine q_n (k13 _ _ ?_)
  refine sx_sub (Sub.c 0 rfl (.c 2 rfl (.c 3 rfl .nil))) ?_
  refine sx_region ?_
  refine mv rfl rfl (mv rfl rfl (sp rfl (px_nil rfl) ?_))
  refine sp rfl (px_field rfl xfld87x1) ?_
  have f18 := f14.ext d16
  refine sp rfl (px_load rfl (f18.load1 rfl Tryd.isAgg3)) ?_
  refine sp rfl (px_add rfl rfl (by omega)) ?_
  refine sp rfl (px_nil rfl) ?_
  refine sp rfl (px_field rfl xfld87x1) ?_
  refine sx_store (vs := [.int .i64 (i + 1)]) rfl rfl f18 rfl Tryd.sizeOf3 (nbl rfl) (o1 rfl) (fun w19 sw19 fw19 cw19 => ?_)
  have zw19 := cw19.size
  have gw19 : Blk w19 c [vb, .int .i64 (i + 1), .int .i64 (i64w ((i64w (h * 6364136223846793005)) + 1442695040888963407))] 87 := fw19
  refine wl_nil (q_n (k8 _ _ ?_))
  refine sx_seq fun K20 k20 => sx_region ?_
  refine mv rfl rfl (av rfl rfl (wl_nil (q_n (k20 _ _ ?_))))
  refine sx_retc ?_
  refine sx_ret1 Tryd.results108 rfl ?_
  have q21 := Chg.step (l := c) (h := (c + 1)) cw3 ((d6.t d12).t d16) (by omega)
  have q22 := Chg.step (l := c) (h := (c + 1)) q21 cw19 (by omega)
  exact ⟨_, _, _, rfl, gw19, by omega, by omega, q22⟩
 refine sx_skip ?_
 refine q_n (k8 _ _ ?_)
 refine sx_seq fun K23 k23 => sx_region ?_
 refine mv rfl rfl (av rfl rfl (wl_nil (q_n (k23 _ _ ?_))))
 refine sx_retc ?_
 refine sx_ret1 Tryd.results108 rfl ?_
 have f24 := f10.ext d12
 have q25 := Chg.step (l := c) (h := (c + 1)) cw3 (d6.t d12) (by omega)
 exact ⟨_, _, _, rfl, f24, by omega, by omega, q25⟩

theorem c_l01Below {w : World} {c : Nat} {vb : Value} {lvb uvb : Nat} {bs : List Int} {i : Int} {h : Int} {n : Int} (hc : Blk w c [vb, .int .i64 i, .int .i64 h] 87) (hvb : SlB w lvb uvb vb (bs)) (hb8 : ∀ j, j < bs.length → 0 ≤ bs.getD j 0 ∧ bs.getD j 0 ≤ 255) (hbl : bs.length ≤ 1048576) (hi : 0 ≤ i ∧ i ≤ bs.length) (hdis : uvb ≤ c) (hn : 1 ≤ n ∧ n ≤ 1000000000) :
  Ret Tryd.prog 78 [.pointer (some ⟨c, 0, none⟩), .int .i64 n] w fun v w' => ∃ x i2 h2, v = .int .i64 (x) ∧ Blk w' c [vb, .int .i64 (i2), .int .i64 (h2)] 87 ∧ (0 ≤ x ∧ x < n) ∧ (0 ≤ i2 ∧ i2 ≤ (bs).length) ∧ Chg c (c + 1) w w' := by
 have clt := hc.lt
 refine sx_enter Tryd.func78 rfl Tryd.ntmps78 (nbl rfl) ?_
 refine sx_seq fun K1 k1 => sx_region ?_
 refine av rfl rfl (wl_nil (q_n (k1 _ _ ?_)))
 refine sx_seq fun K2 k2 => ?_
 refine sx_seq fun K3 k3 => sx_region ?_
 refine mv rfl rfl (sp rfl (px_le rfl rfl) ?_)
 refine wl_nil (q_n (k3 _ _ ?_))
 have h153 : ¬ ((n : Int) ≤ 0) := by omega
 refine sx_condPF rfl h153 ?_
 refine sx_skip ?_
 refine q_n (k2 _ _ ?_)
 refine sx_seq fun K4 k4 => ?_
 refine sx_seq fun K5 k5 => sx_region ?_
 refine mv rfl rfl (sp rfl (px_le rfl rfl) ?_)
 refine wl_nil (q_n (k5 _ _ ?_))
 refine sx_condP rfl (fun h156 => ?_) (fun h156 => ?_)
 ·
  refine sx_seq fun K6 k6 => sx_region ?_
  refine mv rfl rfl (sx_call rfl rfl Tryd.call108 (c_l01Byte hc hvb (by assumption) (by omega) (by omega) (by omega)) (fun v7 w7 p7 => ?_))
  obtain ⟨x7, i27, h27, rfl, xc_7, hx7, hi27, c7⟩ := p7
  have zw7 := c7.size
  refine mv rfl rfl (sp rfl (px_rem rfl rfl (by omega) (by omega)) ?_)
  refine av rfl rfl (wl_nil (q_n (k6 _ _ ?_)))
  refine sx_retc ?_
  refine q_r (sx_ret1 Tryd.results78 rfl ?_)
  have hmp := Int.emod_nonneg x7 (show n ≠ 0 by omega)
  have hml := Int.emod_lt_of_pos x7 (show 0 < n by omega)
  exact ⟨_, _, _, rfl, xc_7, by omega, by omega, c7⟩
 refine sx_skip ?_
 refine q_n (k4 _ _ ?_)
 refine sx_seq fun K8 k8 => sx_region ?_
 refine mv rfl rfl (sx_call rfl rfl Tryd.call108 (c_l01Byte hc hvb (by assumption) (by omega) (by omega) (by omega)) (fun v9 w9 p9 => ?_))
 obtain ⟨x9, i29, h29, rfl, xc_9, hx9, hi29, c9⟩ := p9
 have zw9 := c9.size
 refine av rfl rfl (wl_nil (q_n (k8 _ _ ?_)))
 refine sx_seq fun K10 k10 => sx_region ?_
 refine mv rfl rfl ?_
 have f11 := hvb.chg c9 (by omega)
 refine sx_call rfl rfl Tryd.call108 (c_l01Byte xc_9 f11 (by assumption) (by omega) (by omega) (by omega)) (fun v12 w12 p12 => ?_)
 obtain ⟨x12, i212, h212, rfl, xc_12, hx12, hi212, c12⟩ := p12
 have zw12 := c12.size
 refine av rfl rfl (wl_nil (q_n (k10 _ _ ?_)))
 refine sx_seq fun K13 k13 => sx_region ?_
 refine mv rfl rfl ?_
 have f14 := f11.chg c12 (by omega)
 refine sx_call rfl rfl Tryd.call108 (c_l01Byte xc_12 f14 (by assumption) (by omega) (by omega) (by omega)) (fun v15 w15 p15 => ?_)
 obtain ⟨x15, i215, h215, rfl, xc_15, hx15, hi215, c15⟩ := p15
 have zw15 := c15.size
 refine av rfl rfl (wl_nil (q_n (k13 _ _ ?_)))
 refine sx_sub (Sub.c 0 rfl (.c 1 rfl (.c 4 rfl (.c 5 rfl (.c 6 rfl (.c 7 rfl .nil)))))) ?_
 refine sx_seq fun K16 k16 => sx_region ?_
 refine mv rfl rfl ?_
 have f17 := f14.chg c15 (by omega)
 refine sx_call rfl rfl Tryd.call108 (c_l01Byte xc_15 f17 (by assumption) (by omega) (by omega) (by omega)) (fun v18 w18 p18 => ?_)
 obtain ⟨x18, i218, h218, rfl, xc_18, hx18, hi218, c18⟩ := p18
 have zw18 := c18.size
 refine av rfl rfl (wl_nil (q_n (k16 _ _ ?_)))
 refine sx_seq fun K19 k19 => sx_region ?_
 refine mv rfl rfl (sp rfl (px_mul rfl rfl (by omega)) ?_)
 refine mv rfl rfl (sp rfl (px_mul rfl rfl (by omega)) ?_)
 refine sp rfl (px_add rfl rfl (by omega)) ?_
 refine mv rfl rfl (sp rfl (px_mul rfl rfl (by omega)) ?_)
 refine sp rfl (px_add rfl rfl (by omega)) ?_
 refine mv rfl rfl (sp rfl (px_add rfl rfl (by omega)) ?_)
 refine mv rfl rfl (sp rfl (px_rem rfl rfl (by omega) (by omega)) ?_)
 refine av rfl rfl (wl_nil (q_n (k19 _ _ ?_)))
 refine sx_sub (Sub.c 4 rfl .nil) ?_
 refine sx_retc ?_
 refine sx_ret1 Tryd.results78 rfl ?_
 have hmp := Int.emod_nonneg ((((x9 * 16777216) + (x12 * 65536)) + (x15 * 256)) + x18) (show n ≠ 0 by omega)
 have hml := Int.emod_lt_of_pos ((((x9 * 16777216) + (x12 * 65536)) + (x15 * 256)) + x18) (show 0 < n by omega)
 have q20 := Chg.step (l := c) (h := (c + 1)) c9 c12 (by omega)
 have q21 := Chg.step (l := c) (h := (c + 1)) q20 c15 (by omega)
 have q22 := Chg.step (l := c) (h := (c + 1)) q21 c18 (by omega)
 exact ⟨_, _, _, rfl, xc_18, by omega, by omega, q22⟩

theorem c_l01Str {w : World} {c : Nat} {vb : Value} {lvb uvb : Nat} {bs : List Int} {i : Int} {h : Int} {vl : Value} {lvl uvl : Nat} {zs : List ByteArray} (hc : Blk w c [vb, .int .i64 i, .int .i64 h] 87) (hvb : SlB w lvb uvb vb (bs)) (hvl : SlS w lvl uvl vl (zs)) (hb8 : ∀ j, j < bs.length → 0 ≤ bs.getD j 0 ∧ bs.getD j 0 ≤ 255) (hbl : bs.length ≤ 1048576) (hi : 0 ≤ i ∧ i ≤ bs.length) (hdis : uvb ≤ c) (hz : 1 ≤ zs.length ∧ zs.length ≤ 1000) (hd2 : uvl ≤ c ∨ c < lvl) :
  Ret Tryd.prog 43 [.pointer (some ⟨c, 0, none⟩), vl] w fun v w' => ∃ s i2 h2, v = .string (s) ∧ Blk w' c [vb, .int .i64 (i2), .int .i64 (h2)] 87 ∧ (s ∈ zs) ∧ (0 ≤ i2 ∧ i2 ≤ (bs).length) ∧ Chg c (c + 1) w w' := by
 have clt := hc.lt
 refine sx_enter Tryd.func43 rfl Tryd.ntmps43 (nbl rfl) ?_
 refine sx_seq fun K1 k1 => sx_region ?_
 refine av rfl rfl (wl_nil (q_n (k1 _ _ ?_)))
 refine sx_seq fun K2 k2 => sx_region ?_
 refine mv rfl rfl (mv rfl rfl (mv rfl rfl (sp rfl (px_len rfl Tryd.underlying54 hvl) ?_)))
 refine sx_call rfl rfl Tryd.call78 (c_l01Below hc hvb (by assumption) (by omega) (by omega) (by omega) (by omega)) (fun v3 w3 p3 => ?_)
 obtain ⟨x3, i23, h23, rfl, xc_3, hx3, hi23, c3⟩ := p3
 have zw3 := c3.size
 have f4 := hvl.chg c3 (by omega)
 refine sp rfl (px_index1 (j := x3.toNat) rfl rfl (by omega) Tryd.underlying54 Tryd.sizeOf9 f4 (by omega)) ?_
 refine sp rfl (px_load rfl (f4.load1 (at_str (by omega)) Tryd.isAgg9)) ?_
 refine av rfl rfl (wl_nil (q_n (k2 _ _ ?_)))
 refine sx_retc ?_
 refine sx_ret1 Tryd.results43 rfl ?_
 exact ⟨_, _, _, rfl, xc_3, mem_getDS (by omega), by omega, c3⟩

theorem c_l01Once {w : World} {c : Nat} {vb : Value} {lvb uvb : Nat} {bs : List Int} {i : Int} {h : Int} {n : Int} (hc : Blk w c [vb, .int .i64 i, .int .i64 h] 87) (hvb : SlB w lvb uvb vb (bs)) (hb8 : ∀ j, j < bs.length → 0 ≤ bs.getD j 0 ∧ bs.getD j 0 ≤ 255) (hbl : bs.length ≤ 1048576) (hi : 0 ≤ i ∧ i ≤ bs.length) (hdis : uvb ≤ c) (hn : 1 ≤ n ∧ n ≤ 1000000000) :
  Ret Tryd.prog 80 [.pointer (some ⟨c, 0, none⟩), .int .i64 n] w fun v w' => ∃ x i2 h2, v = .bool (decide ((x : Int) = 0)) ∧ Blk w' c [vb, .int .i64 (i2), .int .i64 (h2)] 87 ∧ (0 ≤ x ∧ x < n) ∧ (0 ≤ i2 ∧ i2 ≤ (bs).length) ∧ Chg c (c + 1) w w' := by
 have clt := hc.lt
 refine sx_enter Tryd.func80 rfl Tryd.ntmps80 (nbl rfl) ?_
 refine sx_seq fun K1 k1 => sx_region ?_
 refine av rfl rfl (wl_nil (q_n (k1 _ _ ?_)))
 refine sx_seq fun K2 k2 => sx_region ?_
 refine mv rfl rfl (mv rfl rfl (sx_call rfl rfl Tryd.call78 (c_l01Below hc hvb (by assumption) (by omega) (by omega) (by omega) (by omega)) (fun v3 w3 p3 => ?_)))
 obtain ⟨x3, i23, h23, rfl, xc_3, hx3, hi23, c3⟩ := p3
 have zw3 := c3.size
 refine sp rfl (px_eq rfl rfl) ?_
 refine av rfl rfl (wl_nil (q_n (k2 _ _ ?_)))
 refine sx_retc ?_
 refine sx_ret1 Tryd.results80 rfl ?_
 exact ⟨_, _, _, rfl, xc_3, by omega, by omega, c3⟩

theorem c_l02Cap {w : World} {va : Value} {lva uva : Nat} {m : Nat} (hva : Sl w lva uva va (dg m)) (h63 : (dg m).length ≤ 1000000) :
  Ret Tryd.prog 110 [va] w fun v w' => ∃ s, v = s ∧ Sl w' (lva) (uva) s (dg (capN m)) ∧ Chg 0 0 w w' := by
 refine sx_enter Tryd.func110 rfl Tryd.ntmps110 (nbl rfl) ?_
 refine sx_seq fun K1 k1 => sx_region ?_
 refine av rfl rfl (wl_nil (q_n (k1 _ _ ?_)))
 refine sx_seq fun K2 k2 => sx_region ?_
 refine mv rfl rfl (sx_call rfl rfl Tryd.call96 (c_l02TrimD hva (by omega)) (fun v3 w3 p3 => ?_))
 obtain ⟨s3, rfl, os_3, c3⟩ := p3
 have zw3 := c3.size
 refine av rfl rfl (wl_nil (q_n (k2 _ _ ?_)))
 refine sx_seq fun K4 k4 => ?_
 refine sx_seq fun K5 k5 => sx_region ?_
 refine mv rfl rfl (sp rfl (px_len rfl Tryd.underlying22 os_3) ?_)
 refine sp rfl (px_gt rfl rfl) ?_
 refine wl_nil (q_n (k5 _ _ ?_))
 refine sx_condP rfl (fun h25 => ?_) (fun h25 => ?_)
 ·
  refine sx_seq fun K6 k6 => sx_region ?_
  refine av rfl rfl (wl_nil (q_n (k6 _ _ ?_)))
  refine sx_retc ?_
  refine q_r (sx_ret1 Tryd.results110 rfl ?_)
  rw [capN_no (by omega), dg_zero]
  exact ⟨_, rfl, Sv.nil _ _ _ _, c3⟩
 refine sx_skip ?_
 refine q_n (k4 _ _ ?_)
 refine sx_seq fun K7 k7 => sx_region ?_
 refine mv rfl rfl (av rfl rfl (wl_nil (q_n (k7 _ _ ?_))))
 refine sx_retc ?_
 refine sx_ret1 Tryd.results110 rfl ?_
 rw [capN_ok (by omega)]
 exact ⟨_, rfl, (Sv.mono os_3 (by omega) (by omega)), c3⟩

theorem c_l04Make {w : World} {n : Bool} {va : Value} {lva uva : Nat} {m : Nat} (hva : Sl w lva uva va (dg m)) (h63 : (dg m).length ≤ 1000000) :
  Ret Tryd.prog 82 [.bool n, va] w fun v w' => ∃ s, v = .agg #[.bool (ng (capI n m)), s] ∧ OwnI w' w.heap.size w'.heap.size s intT (dg (capI n m).natAbs) ∧ Chg 0 0 w w' := by
 have hva0 := hva.fit
 have hcap : (dg (capN m)).length ≤ 50 := by unfold capN; split; assumption; rw [dg_zero]; simp
 refine sx_enter Tryd.func82 rfl Tryd.ntmps82 (nbl rfl) ?_
 refine sx_seq fun K1 k1 => sx_region ?_
 refine sx_alloc [.bool false, (.slice none 0 0)] rfl Tryd.zeroValue24 rfl (fun b2 w3 eb2 sb2 fb2 cb2 => ?_)
 have zw3 := cb2.size
 refine wl_nil (q_n (k1 _ _ ?_))
 refine sx_seq fun K4 k4 => sx_region ?_
 refine mv rfl rfl ?_
 have f5 := hva0.ext cb2
 refine sx_call rfl rfl Tryd.call110 (c_l02Cap f5 (by omega)) (fun v6 w6 p6 => ?_)
 obtain ⟨s6, rfl, os_6, c6⟩ := p6
 have zw6 := c6.size
 refine av rfl rfl (wl_nil (q_n (k4 _ _ ?_)))
 refine sx_seq fun K7 k7 => sx_region ?_
 refine mv rfl rfl (mv rfl rfl ?_)
 refine sx_tmpB (t := 9) rfl (fun h10 => ?_) (fun h10 => ?_)
 ·
  refine sx_guardT rfl rfl rfl ?_
  refine mv rfl rfl ?_
  refine sx_guardT rfl rfl rfl ?_
  refine sp rfl (px_len rfl Tryd.underlying22 os_6) ?_
  refine sx_guardT rfl rfl rfl ?_
  refine sp rfl (px_gt rfl rfl) ?_
  refine sp rfl (px_pick rfl rfl) ?_
  refine sx_lit0 rfl xelt22 (fun s8 ws8 ss8 fs8 cs8 => ?_)
  have zws8 := cs8.size
  refine mv rfl rfl ?_
  have f10 := os_6.ext cs8
  refine sx_append rfl xelt22 rfl rfl fs8 f10 one_int (by omega) (by first | omega | (simp only [List.length_nil]; omega)) (by unfold maxLen; first | omega | (simp only [List.length_nil]; omega)) (fun a9 w9 fw9 cw9 => ?_)
  have nw9 := Own.norm (f := (Value.int .i64)) (zs := dg (capN m)) fw9
  have zw9 := cw9.size
  refine sp rfl (px_build rfl (xbld24x0x1 rfl nw9.one _)) ?_
  have f13 := (fb2.ext c6).ext cs8
  have f14 := f13.chg cw9 (by omega)
  refine sx_store (vs := [.bool (decide ((0 : Int) < ↑((dg (capN m)).length))), a9]) rfl rfl f14 rfl Tryd.sizeOf24 (nbl rfl) (one_cons rfl (one_cons nw9.one one_nil)) (fun w11 sw11 fw11 cw11 => ?_)
  have zw11 := cw11.size
  have gw11 : Blk w11 b2 [.bool (decide ((0 : Int) < ↑((dg (capN m)).length))), a9] 24 := fw11
  refine wl_nil (q_n (k7 _ _ ?_))
  refine sx_sub (Sub.c 4 rfl .nil) ?_
  refine sx_retc ?_
  refine sx_ret1 Tryd.results82 ⟨_, rfl, gw11.loadA (vs := [.bool (decide ((0 : Int) < ↑((dg (capN m)).length))), a9]) (look_lit rfl) Tryd.isAgg24 Tryd.sizeOf24⟩ ?_
  have hh := cap_sg n m
  rw [← hh.1, ← hh.2]
  have q15 := Chg.step (l := 0) (h := 0) (Chg.zero (l := 0) (h := 0) ((cb2.t c6).t cs8)) cw9 (by omega)
  have q16 := Chg.step (l := 0) (h := 0) q15 cw11 (by omega)
  have f17 := nw9.chg cw11 (by omega)
  exact ⟨_, by simp [nz, h10], (Own.mono f17 (by omega) (by omega)), q16⟩
 refine sx_guardF rfl rfl rfl rfl rfl rfl ?_
 refine sx_guardF rfl rfl rfl rfl rfl rfl ?_
 refine sx_guardF rfl rfl rfl rfl rfl rfl ?_
 refine sp rfl (px_pick rfl rfl) ?_
 refine sx_lit0 rfl xelt22 (fun s18 ws18 ss18 fs18 cs18 => ?_)
 have zws18 := cs18.size
 refine mv rfl rfl ?_
 have f20 := os_6.ext cs18
 refine sx_append rfl xelt22 rfl rfl fs18 f20 one_int (by omega) (by first | omega | (simp only [List.length_nil]; omega)) (by unfold maxLen; first | omega | (simp only [List.length_nil]; omega)) (fun a19 w19 fw19 cw19 => ?_)
 have nw19 := Own.norm (f := (Value.int .i64)) (zs := dg (capN m)) fw19
 have zw19 := cw19.size
 refine sp rfl (px_build rfl (xbld24x0x1 rfl nw19.one _)) ?_
 have f23 := (fb2.ext c6).ext cs18
 have f24 := f23.chg cw19 (by omega)
 refine sx_store (vs := [.bool false, a19]) rfl rfl f24 rfl Tryd.sizeOf24 (nbl rfl) (one_cons rfl (one_cons nw19.one one_nil)) (fun w21 sw21 fw21 cw21 => ?_)
 have zw21 := cw21.size
 have gw21 : Blk w21 b2 [.bool false, a19] 24 := fw21
 refine wl_nil (q_n (k7 _ _ ?_))
 refine sx_sub (Sub.c 4 rfl .nil) ?_
 refine sx_retc ?_
 refine sx_ret1 Tryd.results82 ⟨_, rfl, gw21.loadA (vs := [.bool false, a19]) (look_lit rfl) Tryd.isAgg24 Tryd.sizeOf24⟩ ?_
 have hh := cap_sg n m
 rw [← hh.1, ← hh.2]
 have q25 := Chg.step (l := 0) (h := 0) (Chg.zero (l := 0) (h := 0) ((cb2.t c6).t cs18)) cw19 (by omega)
 have q26 := Chg.step (l := 0) (h := 0) q25 cw21 (by omega)
 have f27 := nw19.chg cw21 (by omega)
 exact ⟨_, by simp [nz, h10], (Own.mono f27 (by omega) (by omega)), q26⟩

theorem c_l04MakeMin {w : World} {n : Bool} {va : Value} {lva uva : Nat} {zs : List Int} (hva : Sl w lva uva va (zs)) (hz : zs = dg (-9223372036854775808 : Int).natAbs) :
  Ret Tryd.prog 82 [.bool n, va] w fun v w' => ∃ s, v = .agg #[.bool (ng (capI n (-9223372036854775808 : Int).natAbs)), s] ∧ OwnI w' w.heap.size w'.heap.size s intT (dg (capI n (-9223372036854775808 : Int).natAbs).natAbs) ∧ Chg 0 0 w w' := by
 subst hz; exact c_l04Make hva (by rw [dg_min]; simp)

theorem c_sNatOf {w : World} {n : Int} (hn : 0 ≤ n ∧ n ≤ 9223372036854775807) :
  Ret Tryd.prog 109 [.int .i64 n] w fun v w' => ∃ s, v = s ∧ OwnI w' w.heap.size w'.heap.size s intT (dg (n).toNat) ∧ Chg 0 0 w w' := by
 have l0 := len_u64 (n := n) (by omega)
 refine sx_enter Tryd.func109 rfl Tryd.ntmps109 (nbl rfl) ?_
 refine sx_seq fun K1 k1 => sx_region ?_
 refine av rfl rfl (wl_nil (q_n (k1 _ _ ?_)))
 refine sx_seq fun K2 k2 => sx_region ?_
 refine sx_lit0 rfl xelt22 (fun s3 ws3 ss3 fs3 cs3 => ?_)
 have zws3 := cs3.size
 refine av rfl rfl (wl_nil (q_n (k2 _ _ ?_)))
 refine sx_seq fun K4 k4 => ?_
 refine sx_block ?_
 refine sx_loop (fun mm aa w' => ∃ (s : Value) (os : List Int) (m : Int), Agr 15 [(0, .int .i64 m), (3, s)] aa ∧ Chg w.heap.size ws3.heap.size ws3 w' ∧ Own w' w.heap.size w'.heap.size s intT os.length 1 (os.map (Value.int .i64)) ∧ (mm = m.toNat) ∧ (Lm os) ∧ (0 ≤ m ∧ m ≤ n) ∧ (vl os + Bs ^ os.length * m.toNat = n.toNat) ∧ (os.length + (dg m.toNat).length = (dg n.toNat).length) ∧ (os.length = 0 ∨ Bs ^ (os.length - 1) ≤ n.toNat)) (_) (fun a ha => ⟨s3, [], n, ha.sub (Sub.c 0 (look_int (t := 0) rfl (by first | omega | simp)) (.c 3 rfl .nil)), Chg.refl _ _ _, (fs3.mono (by omega) (by omega)), rfl, Lm.nil, by omega, by simp [vl], by simp, .inl rfl⟩) ?_
 rintro mm aa wl5 ⟨s, os, m, hAwl5, cwl5, hs_s, hm, hlm, hb, hv, hln, hl⟩
 refine (show cw Tryd.prog 15 _ _ _ wl5 from ?_) aa hAwl5
 clear hAwl5
 have zwl5 := cwl5.size
 refine sx_seq fun K6 k6 => ?_
 refine sx_seq fun K7 k7 => sx_region ?_
 refine mv rfl rfl (sp rfl (px_gt rfl rfl) ?_)
 refine wl_nil (q_n (k7 _ _ ?_))
 refine sx_condP rfl (fun h34 => ?_) (fun h34 => ?_)
 ·
  refine sx_skip ?_
  refine q_n (k6 _ _ ?_)
  refine sx_block ?_
  refine sx_seq fun K8 k8 => sx_region ?_
  refine mv rfl rfl (mv rfl rfl (sp rfl (px_rem rfl rfl (by omega) (by omega)) ?_))
  refine sx_lit1 rfl xelt22 rfl rfl (fun s9 ws9 ss9 fs9 cs9 => ?_)
  have ns9 := Own.norm (f := (Value.int .i64)) (zs := [m % 1000000000]) fs9
  have zws9 := cs9.size
  have f11 := hs_s.ext cs9
  refine sx_append rfl xelt22 rfl rfl f11 ns9.sv one_int (by omega) (by simp only [List.length_cons, List.length_nil]; omega) (by unfold maxLen; simp only [List.length_cons, List.length_nil]; omega) (fun a10 w10 fw10 cw10 => ?_)
  have nw10 := Own.app (f := (Value.int .i64)) (a := os) (b := [m % 1000000000]) fw10
  have zw10 := cw10.size
  refine av rfl rfl (wl_nil (q_n (k8 _ _ ?_)))
  refine sx_region ?_
  refine mv rfl rfl (sp rfl (px_quo rfl rfl (by omega) (by omega) (by omega)) ?_)
  refine av rfl rfl (wl_nil ?_)
  have q12 := Chg.step (l := w.heap.size) (h := ws3.heap.size) cwl5 cs9 (by omega)
  have q13 := Chg.step (l := w.heap.size) (h := ws3.heap.size) q12 cw10 (by omega)
  have hmd := mod_bd (s := m) (by omega)
  have hm0 : m / 1000000000 < m := by omega
  exact q_bn (fun a ha => ⟨_, by omega, a10, (os ++ ([m % 1000000000])), (m / 1000000000), ha.sub (Sub.c 0 (look_int (t := 0) rfl (by first | omega | simp)) (.c 3 rfl .nil)), q13, (nw10.mono (by omega) (by omega)), rfl, hlm.append (Lm.single hmd.1 hmd.2), by omega, of_stepI (by omega) hv, by have h9 := of_ln (m := m) (by omega); simp only [List.length_append, List.length_singleton]; omega, .inr (of_len (by omega) hv)⟩)
 refine sx_exit ?_
 refine q_e (q_e (q_bx (q_n (k4 _ _ ?_))))
 refine sx_seq fun K14 k14 => sx_region ?_
 refine mv rfl rfl (av rfl rfl (wl_nil (q_n (k14 _ _ ?_))))
 refine sx_retc ?_
 refine sx_ret1 Tryd.results109 rfl ?_
 have hm0 : m = 0 := by omega
 subst hm0
 have hd : os = dg n.toNat := dg_of hlm (by simpa using hv) hl
 subst hd
 have q15 := Chg.step (l := 0) (h := 0) (Chg.zero (l := 0) (h := 0) cs3) cwl5 (by omega)
 exact ⟨_, rfl, (Own.mono hs_s (by omega) (by omega)), q15⟩

theorem c_sIntOf {w : World} {n : Int} (hn : -9223372036854775808 ≤ n ∧ n ≤ 9223372036854775807) :
  Ret Tryd.prog 81 [.int .i64 n] w fun v w' => ∃ s, v = .agg #[.bool (ng n), s] ∧ OwnI w' w.heap.size w'.heap.size s intT (dg (n).natAbs) ∧ Chg 0 0 w w' := by
 refine sx_enter Tryd.func81 rfl Tryd.ntmps81 (nbl rfl) ?_
 refine sx_seq fun K1 k1 => sx_region ?_
 refine sx_alloc [.bool false, (.slice none 0 0)] rfl Tryd.zeroValue24 rfl (fun b2 w3 eb2 sb2 fb2 cb2 => ?_)
 have zw3 := cb2.size
 refine wl_nil (q_n (k1 _ _ ?_))
 refine sx_seq fun K4 k4 => ?_
 refine sx_seq fun K5 k5 => sx_region ?_
 refine mv rfl rfl (sp rfl (px_eq rfl rfl) ?_)
 refine wl_nil (q_n (k5 _ _ ?_))
 refine sx_condP rfl (fun h15 => ?_) (fun h15 => ?_)
 ·
  subst h15
  refine sx_seq fun K6 k6 => sx_region ?_
  refine sx_lit3 rfl xelt22 rfl rfl rfl rfl rfl rfl (fun s7 ws7 ss7 fs7 cs7 => ?_)
  have ns7 := Own.norm (f := (Value.int .i64)) (zs := [854775808, 223372036, 9]) fs7
  have zws7 := cs7.size
  refine sx_call rfl rfl Tryd.call82 (c_l04MakeMin ns7.sv (dg_min.symm)) (fun v8 w8 p8 => ?_)
  obtain ⟨s8, rfl, os_8, c8⟩ := p8
  have zw8 := c8.size
  have f10 := fb2.ext cs7
  have f11 := f10.ext c8
  refine sx_store (vs := [.bool (ng (capI true (-9223372036854775808 : Int).natAbs)), s8]) rfl rfl f11 rfl Tryd.sizeOf24 (nbl rfl) (one_cons rfl (one_cons os_8.one one_nil)) (fun w9 sw9 fw9 cw9 => ?_)
  have zw9 := cw9.size
  have gw9 : Blk w9 b2 [.bool (ng (capI true (-9223372036854775808 : Int).natAbs)), s8] 24 := fw9
  refine wl_nil (q_n (k6 _ _ ?_))
  refine sx_retc ?_
  refine q_r (sx_ret1 Tryd.results81 ⟨_, rfl, gw9.loadA (vs := [.bool (ng (capI true (-9223372036854775808 : Int).natAbs)), s8]) (look_lit rfl) Tryd.isAgg24 Tryd.sizeOf24⟩ ?_)
  have e : capI true (-9223372036854775808 : Int).natAbs = -9223372036854775808 := capI_min
  have f12 := os_8.chg cw9 (by omega)
  have hr := f12
  rw [e] at hr
  have q13 := Chg.step (l := 0) (h := 0) (Chg.zero (l := 0) (h := 0) ((cb2.t cs7).t c8)) cw9 (by omega)
  exact ⟨_, by rw [e], hr.mono (by omega) (by omega), q13⟩
 refine sx_skip ?_
 refine q_n (k4 _ _ ?_)
 refine sx_seq fun K14 k14 => ?_
 refine sx_seq fun K15 k15 => sx_region ?_
 refine mv rfl rfl (sp rfl (px_lt rfl rfl) ?_)
 refine wl_nil (q_n (k15 _ _ ?_))
 refine sx_condP rfl (fun h18 => ?_) (fun h18 => ?_)
 ·
  refine sx_seq fun K16 k16 => sx_region ?_
  refine mv rfl rfl (sp rfl (px_neg rfl (by omega)) ?_)
  refine sx_call rfl rfl Tryd.call109 (c_sNatOf (by omega)) (fun v17 w17 p17 => ?_)
  obtain ⟨s17, rfl, os_17, c17⟩ := p17
  have zw17 := c17.size
  refine sx_call rfl rfl Tryd.call82 (c_l04Make os_17.sv (by first | (have h9 := len_u64 (n := -n) (by omega); omega) | (have h9 := len_u64 (n := n) (by omega); omega))) (fun v18 w18 p18 => ?_)
  obtain ⟨s18, rfl, os_18, c18⟩ := p18
  have zw18 := c18.size
  have f21 := (fb2.ext c17).ext c18
  refine sx_store (vs := [.bool (ng (capI true (((-n)).toNat))), s18]) rfl rfl f21 rfl Tryd.sizeOf24 (nbl rfl) (one_cons rfl (one_cons os_18.one one_nil)) (fun w19 sw19 fw19 cw19 => ?_)
  have zw19 := cw19.size
  have gw19 : Blk w19 b2 [.bool (ng (capI true (((-n)).toNat))), s18] 24 := fw19
  refine wl_nil (q_n (k16 _ _ ?_))
  refine sx_retc ?_
  refine q_r (sx_ret1 Tryd.results81 ⟨_, rfl, gw19.loadA (vs := [.bool (ng (capI true (((-n)).toNat))), s18]) (look_lit rfl) Tryd.isAgg24 Tryd.sizeOf24⟩ ?_)
  have e : capI true (-n).toNat = n := capI_neg (by omega)
  have f22 := os_18.chg cw19 (by omega)
  have hr := f22
  rw [e] at hr
  have q23 := Chg.step (l := 0) (h := 0) (Chg.zero (l := 0) (h := 0) ((cb2.t c17).t c18)) cw19 (by omega)
  exact ⟨_, by rw [e], hr.mono (by omega) (by omega), q23⟩
 refine sx_skip ?_
 refine q_n (k14 _ _ ?_)
 refine sx_seq fun K24 k24 => sx_region ?_
 refine mv rfl rfl (sx_call rfl rfl Tryd.call109 (c_sNatOf (by omega)) (fun v25 w25 p25 => ?_))
 obtain ⟨s25, rfl, os_25, c25⟩ := p25
 have zw25 := c25.size
 refine sx_call rfl rfl Tryd.call82 (c_l04Make os_25.sv (by first | (have h9 := len_u64 (n := -n) (by omega); omega) | (have h9 := len_u64 (n := n) (by omega); omega))) (fun v26 w26 p26 => ?_)
 obtain ⟨s26, rfl, os_26, c26⟩ := p26
 have zw26 := c26.size
 have f29 := (fb2.ext c25).ext c26
 refine sx_store (vs := [.bool (ng (capI false ((n).toNat))), s26]) rfl rfl f29 rfl Tryd.sizeOf24 (nbl rfl) (one_cons rfl (one_cons os_26.one one_nil)) (fun w27 sw27 fw27 cw27 => ?_)
 have zw27 := cw27.size
 have gw27 : Blk w27 b2 [.bool (ng (capI false ((n).toNat))), s26] 24 := fw27
 refine wl_nil (q_n (k24 _ _ ?_))
 refine sx_retc ?_
 refine sx_ret1 Tryd.results81 ⟨_, rfl, gw27.loadA (vs := [.bool (ng (capI false ((n).toNat))), s26]) (look_lit rfl) Tryd.isAgg24 Tryd.sizeOf24⟩ ?_
 have e : capI false n.toNat = n := capI_pos (by omega)
 have f30 := os_26.chg cw27 (by omega)
 have hr := f30
 rw [e] at hr
 have q31 := Chg.step (l := 0) (h := 0) (Chg.zero (l := 0) (h := 0) ((cb2.t c25).t c26)) cw27 (by omega)
 exact ⟨_, by rw [e], hr.mono (by omega) (by omega), q31⟩

theorem c_l01Pick {w : World} {c : Nat} {vb : Value} {lvb uvb : Nat} {bs : List Int} {i : Int} {h : Int} {vl : Value} {lvl uvl : Nat} {zs : List Int} (hc : Blk w c [vb, .int .i64 i, .int .i64 h] 87) (hvb : SlB w lvb uvb vb (bs)) (hvl : Sl w lvl uvl vl (zs)) (hb8 : ∀ j, j < bs.length → 0 ≤ bs.getD j 0 ∧ bs.getD j 0 ≤ 255) (hbl : bs.length ≤ 1048576) (hi : 0 ≤ i ∧ i ≤ bs.length) (hdis : uvb ≤ c) (hz : 1 ≤ zs.length ∧ zs.length ≤ 1000) (hd2 : uvl ≤ c ∨ c < lvl) :
  Ret Tryd.prog 111 [.pointer (some ⟨c, 0, none⟩), vl] w fun v w' => ∃ x i2 h2, v = .int .i64 (x) ∧ Blk w' c [vb, .int .i64 (i2), .int .i64 (h2)] 87 ∧ (x ∈ zs) ∧ (0 ≤ i2 ∧ i2 ≤ (bs).length) ∧ Chg c (c + 1) w w' := by
 have clt := hc.lt
 refine sx_enter Tryd.func111 rfl Tryd.ntmps111 (nbl rfl) ?_
 refine sx_seq fun K1 k1 => sx_region ?_
 refine av rfl rfl (wl_nil (q_n (k1 _ _ ?_)))
 refine sx_seq fun K2 k2 => sx_region ?_
 refine mv rfl rfl (mv rfl rfl (mv rfl rfl (sp rfl (px_len rfl Tryd.underlying22 hvl) ?_)))
 refine sx_call rfl rfl Tryd.call78 (c_l01Below hc hvb (by assumption) (by omega) (by omega) (by omega) (by omega)) (fun v3 w3 p3 => ?_)
 obtain ⟨x3, i23, h23, rfl, xc_3, hx3, hi23, c3⟩ := p3
 have zw3 := c3.size
 have f4 := hvl.chg c3 (by omega)
 refine sp rfl (px_index1 (j := x3.toNat) rfl rfl (by omega) Tryd.underlying22 Tryd.sizeOf3 f4 (by omega)) ?_
 refine sp rfl (px_load rfl (f4.load1 (at_int (by omega)) Tryd.isAgg3)) ?_
 refine av rfl rfl (wl_nil (q_n (k2 _ _ ?_)))
 refine sx_retc ?_
 refine sx_ret1 Tryd.results111 rfl ?_
 exact ⟨_, _, _, rfl, xc_3, mem_getD (by omega), by omega, c3⟩

theorem c_l02Nat {w : World} {c : Nat} {vb : Value} {lvb uvb : Nat} {bs : List Int} {i : Int} {h : Int} {most : Int} (hc : Blk w c [vb, .int .i64 i, .int .i64 h] 87) (hvb : SlB w lvb uvb vb (bs)) (hb8 : ∀ j, j < bs.length → 0 ≤ bs.getD j 0 ∧ bs.getD j 0 ≤ 255) (hbl : bs.length ≤ 1048576) (hi : 0 ≤ i ∧ i ≤ bs.length) (hdis : uvb ≤ c) (hn : 0 ≤ most ∧ most ≤ 100) :
  Ret Tryd.prog 83 [.pointer (some ⟨c, 0, none⟩), .int .i64 most] w fun v w' => ∃ s m i2 h2, v = s ∧ OwnI w' w.heap.size w'.heap.size s intT (dg m) ∧ Blk w' c [vb, .int .i64 (i2), .int .i64 (h2)] 87 ∧ (((dg m).length : Int) ≤ most) ∧ (0 ≤ i2 ∧ i2 ≤ (bs).length) ∧ Chg c (c + 1) w w' := by
 have clt := hc.lt
 have clt := hc.lt
 refine sx_enter Tryd.func83 rfl Tryd.ntmps83 (nbl rfl) ?_
 refine sx_seq fun K1 k1 => sx_region ?_
 refine av rfl rfl (wl_nil (q_n (k1 _ _ ?_)))
 refine sx_seq fun K2 k2 => sx_region ?_
 refine sx_lit0 rfl xelt22 (fun s3 ws3 ss3 fs3 cs3 => ?_)
 have zws3 := cs3.size
 refine av rfl rfl (wl_nil (q_n (k2 _ _ ?_)))
 refine sx_seq fun K4 k4 => ?_
 refine sx_seq fun K5 k5 => sx_region ?_
 refine mv rfl rfl (mv rfl rfl (sp rfl (px_add rfl rfl (by omega)) ?_))
 have f6 := hc.ext cs3
 have f7 := hvb.ext cs3
 refine sx_call rfl rfl Tryd.call78 (c_l01Below f6 f7 (by assumption) (by omega) (by omega) (by omega) (by omega)) (fun v8 w8 p8 => ?_)
 obtain ⟨x8, i28, h28, rfl, xc_8, hx8, hi28, c8⟩ := p8
 have zw8 := c8.size
 refine av rfl rfl (wl_nil (q_n (k5 _ _ ?_)))
 refine sx_block ?_
 have f10 := fs3.chg c8 (by omega)
 have q11 := Chg.step (l := c) (h := (c + 1)) (Chg.zero (l := c) (h := (c + 1)) cs3) c8 (by omega)
 refine sx_loop (fun mm aa w' => ∃ (s : Value) (os : List Int) (n2 : Int) (i2 : Int) (h2 : Int), Agr 28 [(0, .pointer (some ⟨c, 0, none⟩)), (5, s), (6, .int .i64 n2)] aa ∧ Chg c (c + 1) w w' ∧ Blk w' c [vb, .int .i64 i2, .int .i64 h2] 87 ∧ Own w' w.heap.size w'.heap.size s intT os.length 1 (os.map (Value.int .i64)) ∧ (mm = n2.toNat) ∧ (Lm os) ∧ ((os.length : Int) + n2 ≤ most ∧ 0 ≤ n2) ∧ (0 ≤ i2 ∧ i2 ≤ bs.length)) (_) (fun a ha => ⟨s3, [], x8, i28, h28, ha.sub (Sub.c 0 rfl (.c 5 rfl (.c 6 (look_int (t := 6) rfl (by first | omega | simp)) .nil))), q11, xc_8, (f10.mono (by omega) (by omega)), rfl, Lm.nil, by simp only [List.length_nil]; omega, by omega⟩) ?_
 rintro mm aa wl9 ⟨s, os, n2, i2, h2, hAwl9, cwl9, hb_c, hs_s, hm, hlm, hln, hi2⟩
 refine (show cw Tryd.prog 28 _ _ _ wl9 from ?_) aa hAwl9
 clear hAwl9
 have zwl9 := cwl9.size
 have lt12 := hb_c.lt
 refine sx_seq fun K13 k13 => ?_
 refine sx_seq fun K14 k14 => sx_region ?_
 refine mv rfl rfl (sp rfl (px_gt rfl rfl) ?_)
 refine wl_nil (q_n (k14 _ _ ?_))
 refine sx_condP rfl (fun h203 => ?_) (fun h203 => ?_)
 ·
  refine sx_skip ?_
  refine q_n (k13 _ _ ?_)
  refine sx_seq fun K15 k15 => ?_
  refine sx_block ?_
  refine sx_region ?_
  refine mv rfl rfl (mv rfl rfl (mv rfl rfl ?_))
  have f16 := hvb.chg cwl9 (by omega)
  refine sx_call rfl rfl Tryd.call78 (c_l01Below hb_c f16 (by assumption) (by omega) (by omega) (by omega) (by omega)) (fun v17 w17 p17 => ?_)
  obtain ⟨x17, i217, h217, rfl, xc_17, hx17, hi217, c17⟩ := p17
  have zw17 := c17.size
  refine mv rfl rfl ?_
  have f18 := f16.chg c17 (by omega)
  refine sx_call rfl rfl Tryd.call78 (c_l01Below xc_17 f18 (by assumption) (by omega) (by omega) (by omega) (by omega)) (fun v19 w19 p19 => ?_)
  obtain ⟨x19, i219, h219, rfl, xc_19, hx19, hi219, c19⟩ := p19
  have zw19 := c19.size
  refine sx_lit7 rfl xelt22 rfl rfl rfl rfl rfl rfl rfl rfl rfl rfl rfl rfl rfl rfl (fun s20 ws20 ss20 fs20 cs20 => ?_)
  have ns20 := Own.norm (f := (Value.int .i64)) (zs := [0, 1, 2, 999999999, 500000000, x17, x19]) fs20
  have zws20 := cs20.size
  have f21 := xc_19.ext cs20
  have f23 := (f18.chg c19 (by omega)).ext cs20
  refine sx_call rfl rfl Tryd.call111 (c_l01Pick f21 f23 ns20.sv (by assumption) (by omega) (by omega) (by omega) (by first | omega | simp) (by omega)) (fun v24 w24 p24 => ?_)
  obtain ⟨x24, i224, h224, rfl, xc_24, hx24, hi224, c24⟩ := p24
  have zw24 := c24.size
  refine sx_lit1 rfl xelt22 rfl rfl (fun s25 ws25 ss25 fs25 cs25 => ?_)
  have ns25 := Own.norm (f := (Value.int .i64)) (zs := [x24]) fs25
  have zws25 := cs25.size
  have f29 := ((hs_s.chg c17 (by omega)).chg c19 (by omega)).ext cs20
  have f31 := (f29.chg c24 (by omega)).ext cs25
  refine sx_append rfl xelt22 rfl rfl f31 ns25.sv one_int (by omega) (by simp only [List.length_cons, List.length_nil]; omega) (by unfold maxLen; simp only [List.length_cons, List.length_nil]; omega) (fun a26 w26 fw26 cw26 => ?_)
  have nw26 := Own.app (f := (Value.int .i64)) (a := os) (b := [x24]) fw26
  have zw26 := cw26.size
  refine av rfl rfl (wl_nil ?_)
  refine q_bn (q_n (k15 _ _ ?_))
  refine sx_sub (Sub.c 0 rfl (.c 5 rfl (.c 6 rfl .nil))) ?_
  refine sx_region ?_
  refine mv rfl rfl (sp rfl (px_sub rfl rfl (by omega)) ?_)
  refine av rfl rfl (wl_nil ?_)
  have f32 := xc_24.ext cs25
  have f33 := f32.chg cw26 (by omega)
  have q34 := Chg.step (l := c) (h := (c + 1)) cwl9 c17 (by omega)
  have q35 := Chg.step (l := c) (h := (c + 1)) q34 c19 (by omega)
  have q36 := Chg.step (l := c) (h := (c + 1)) q35 cs20 (by omega)
  have q37 := Chg.step (l := c) (h := (c + 1)) q36 c24 (by omega)
  have q38 := Chg.step (l := c) (h := (c + 1)) q37 cs25 (by omega)
  have q39 := Chg.step (l := c) (h := (c + 1)) q38 cw26 (by omega)
  have bx24 : 0 ≤ x24 ∧ x24 < 1000000000 := by have h9 := hx24; simp only [List.mem_cons, List.not_mem_nil, or_false] at h9; omega
  exact fun a ha => ⟨_, by omega, a26, (os ++ ([x24])), (n2 - 1), i224, h224, ha.sub (Sub.c 0 rfl (.c 5 rfl (.c 6 (look_int (t := 6) rfl (by first | omega | simp)) .nil))), q39, f33, (nw26.mono (by omega) (by omega)), rfl, hlm.append (Lm.single (by omega) (by omega)), by simp only [List.length_append, List.length_singleton]; omega, by omega⟩
 refine sx_exit ?_
 refine q_e (q_e (q_bx (q_n (k4 _ _ ?_))))
 refine sx_seq fun K40 k40 => sx_region ?_
 refine mv rfl rfl (sx_call rfl rfl Tryd.call96 (c_l02Trim hs_s (by assumption) (by first | omega | (simp only [List.length_append, List.length_set, List.length_replicate, List.length_cons, List.length_nil] at *; omega))) (fun v41 w41 p41 => ?_))
 obtain ⟨s41, rfl, os_41, c41⟩ := p41
 have zw41 := c41.size
 refine av rfl rfl (wl_nil (q_n (k40 _ _ ?_)))
 refine sx_retc ?_
 refine sx_ret1 Tryd.results83 rfl ?_
 have hvt := vl_trim_len hlm
 have f42 := hb_c.ext c41
 have q43 := Chg.step (l := c) (h := (c + 1)) cwl9 c41 (by omega)
 exact ⟨_, _, _, _, rfl, (Own.mono os_41 (by omega) (by omega)), f42, by omega, by omega, q43⟩

theorem c_l04Draw {w : World} {c : Nat} {vb : Value} {lvb uvb : Nat} {bs : List Int} {i : Int} {h : Int} {most : Int} (hc : Blk w c [vb, .int .i64 i, .int .i64 h] 87) (hvb : SlB w lvb uvb vb (bs)) (hb8 : ∀ j, j < bs.length → 0 ≤ bs.getD j 0 ∧ bs.getD j 0 ≤ 255) (hbl : bs.length ≤ 1048576) (hi : 0 ≤ i ∧ i ≤ bs.length) (hdis : uvb ≤ c) (hn : 1 ≤ most ∧ most ≤ 40) :
  Ret Tryd.prog 45 [.pointer (some ⟨c, 0, none⟩), .int .i64 most] w fun v w' => ∃ s x i2 h2, v = .agg #[.bool (ng x), s] ∧ OwnI w' w.heap.size w'.heap.size s intT (dg (x).natAbs) ∧ Blk w' c [vb, .int .i64 (i2), .int .i64 (h2)] 87 ∧ (((dg (x).natAbs).length : Int) ≤ most) ∧ (0 ≤ i2 ∧ i2 ≤ (bs).length) ∧ Chg c (c + 1) w w' := by
 have clt := hc.lt
 have clt := hc.lt
 refine sx_enter Tryd.func45 rfl Tryd.ntmps45 (nbl rfl) ?_
 refine sx_seq fun K1 k1 => sx_region ?_
 refine sx_alloc [.bool false, (.slice none 0 0)] rfl Tryd.zeroValue24 rfl (fun b2 w3 eb2 sb2 fb2 cb2 => ?_)
 have zw3 := cb2.size
 refine wl_nil (q_n (k1 _ _ ?_))
 refine sx_seq fun K4 k4 => ?_
 refine sx_seq fun K5 k5 => sx_region ?_
 refine mv rfl rfl ?_
 have f6 := hc.ext cb2
 have f7 := hvb.ext cb2
 refine sx_call rfl rfl Tryd.call80 (c_l01Once f6 f7 (by assumption) (by omega) (by omega) (by omega) (by omega)) (fun v8 w8 p8 => ?_)
 obtain ⟨x8, i28, h28, rfl, xc_8, hx8, hi28, c8⟩ := p8
 have zw8 := c8.size
 refine wl_nil (q_n (k5 _ _ ?_))
 refine sx_condP rfl (fun h144 => ?_) (fun h144 => ?_)
 ·
  refine sx_seq fun K9 k9 => sx_region ?_
  refine mv rfl rfl ?_
  have f10 := f7.chg c8 (by omega)
  refine sx_call rfl rfl Tryd.call78 (c_l01Below xc_8 f10 (by assumption) (by omega) (by omega) (by omega) (by omega)) (fun v11 w11 p11 => ?_)
  obtain ⟨x11, i211, h211, rfl, xc_11, hx11, hi211, c11⟩ := p11
  have zw11 := c11.size
  refine sp rfl (px_sub rfl rfl (by omega)) ?_
  refine sx_call rfl rfl Tryd.call81 (c_sIntOf (by omega)) (fun v12 w12 p12 => ?_)
  obtain ⟨s12, rfl, os_12, c12⟩ := p12
  have zw12 := c12.size
  have f16 := ((fb2.chg c8 (by omega)).chg c11 (by omega)).ext c12
  refine sx_store (vs := [.bool (ng (x11 - 1000)), s12]) rfl rfl f16 rfl Tryd.sizeOf24 (nbl rfl) (one_cons rfl (one_cons os_12.one one_nil)) (fun w13 sw13 fw13 cw13 => ?_)
  have zw13 := cw13.size
  have gw13 : Blk w13 b2 [.bool (ng (x11 - 1000)), s12] 24 := fw13
  refine wl_nil (q_n (k9 _ _ ?_))
  refine sx_retc ?_
  refine q_r (sx_ret1 Tryd.results45 ⟨_, rfl, gw13.loadA (vs := [.bool (ng (x11 - 1000)), s12]) (look_lit rfl) Tryd.isAgg24 Tryd.sizeOf24⟩ ?_)
  have hl1 : (dg ((x11 - 1000)).natAbs).length ≤ 1 := dg_len_le (by simp only [Bs]; omega)
  have f18 := (xc_11.ext c12).chg cw13 (by omega)
  have q19 := Chg.step (l := c) (h := (c + 1)) (Chg.zero (l := c) (h := (c + 1)) cb2) c8 (by omega)
  have q20 := Chg.step (l := c) (h := (c + 1)) q19 c11 (by omega)
  have q21 := Chg.step (l := c) (h := (c + 1)) q20 c12 (by omega)
  have q22 := Chg.step (l := c) (h := (c + 1)) q21 cw13 (by omega)
  have f23 := os_12.chg cw13 (by omega)
  exact ⟨_, _, _, _, rfl, (Own.mono f23 (by omega) (by omega)), f18, by omega, by omega, q22⟩
 refine sx_skip ?_
 refine q_n (k4 _ _ ?_)
 refine sx_seq fun K24 k24 => sx_region ?_
 refine mv rfl rfl ?_
 have f25 := f7.chg c8 (by omega)
 refine sx_call rfl rfl Tryd.call80 (c_l01Once xc_8 f25 (by assumption) (by omega) (by omega) (by omega) (by omega)) (fun v26 w26 p26 => ?_)
 obtain ⟨x26, i226, h226, rfl, xc_26, hx26, hi226, c26⟩ := p26
 have zw26 := c26.size
 refine mv rfl rfl (mv rfl rfl ?_)
 have f27 := f25.chg c26 (by omega)
 refine sx_call rfl rfl Tryd.call83 (c_l02Nat xc_26 f27 (by assumption) (by omega) (by omega) (by omega) (by omega)) (fun v28 w28 p28 => ?_)
 obtain ⟨s28, m28, i228, h228, rfl, os_28, xc_28, hx28, hi228, c28⟩ := p28
 have zw28 := c28.size
 refine sx_call rfl rfl Tryd.call82 (c_l04Make os_28.sv (by omega)) (fun v29 w29 p29 => ?_)
 obtain ⟨s29, rfl, os_29, c29⟩ := p29
 have zw29 := c29.size
 have f34 := (((fb2.chg c8 (by omega)).chg c26 (by omega)).chg c28 (by omega)).ext c29
 refine sx_store (vs := [.bool (ng (capI (decide ((x26 : Int) = 0)) m28)), s29]) rfl rfl f34 rfl Tryd.sizeOf24 (nbl rfl) (one_cons rfl (one_cons os_29.one one_nil)) (fun w30 sw30 fw30 cw30 => ?_)
 have zw30 := cw30.size
 have gw30 : Blk w30 b2 [.bool (ng (capI (decide ((x26 : Int) = 0)) m28)), s29] 24 := fw30
 refine wl_nil (q_n (k24 _ _ ?_))
 refine sx_retc ?_
 refine sx_ret1 Tryd.results45 ⟨_, rfl, gw30.loadA (vs := [.bool (ng (capI (decide ((x26 : Int) = 0)) m28)), s29]) (look_lit rfl) Tryd.isAgg24 Tryd.sizeOf24⟩ ?_
 have hcs := capI_sgI (n := (decide ((x26 : Int) = 0))) (m := m28) (by omega)
 have hl1 : (dg (capI (decide ((x26 : Int) = 0)) m28).natAbs).length = (dg m28).length := by rw [hcs, sgI_abs]
 have f36 := (xc_28.ext c29).chg cw30 (by omega)
 have q37 := Chg.step (l := c) (h := (c + 1)) (Chg.zero (l := c) (h := (c + 1)) cb2) c8 (by omega)
 have q38 := Chg.step (l := c) (h := (c + 1)) q37 c26 (by omega)
 have q39 := Chg.step (l := c) (h := (c + 1)) q38 c28 (by omega)
 have q40 := Chg.step (l := c) (h := (c + 1)) q39 c29 (by omega)
 have q41 := Chg.step (l := c) (h := (c + 1)) q40 cw30 (by omega)
 have f42 := os_29.chg cw30 (by omega)
 exact ⟨_, _, _, _, rfl, (Own.mono f42 (by omega) (by omega)), f36, by omega, by omega, q41⟩

theorem c_MakeMoneys {w : World} {vb : Value} {lvb uvb : Nat} {bs : List Int} (hvb : SlB w lvb uvb vb (bs)) (hb8 : ∀ j, j < bs.length → 0 ≤ bs.getD j 0 ∧ bs.getD j 0 ≤ 255) (hbl : bs.length ≤ 1048576) :
  Ret Tryd.prog 16 [vb] w fun v w' => ∃ s x t y cc, v = .tuple #[.agg #[.string (cc), .bool (ng (x)), s], .agg #[.string (cc), .bool (ng (y)), t]] ∧ Sl w' (w.heap.size) (w'.heap.size) s (dg (x).natAbs) ∧ Sl w' (w.heap.size) (w'.heap.size) t (dg (y).natAbs) ∧ (Known cc) ∧ ((dg (x).natAbs).length ≤ 3 ∧ (dg (y).natAbs).length ≤ 3) ∧ Chg 0 0 w w' := by
 have hvb0 := hvb.fit
 refine sx_enter Tryd.func16 rfl Tryd.ntmps16 (nbl rfl) ?_
 refine sx_seq fun K1 k1 => sx_region ?_
 refine sx_alloc [.string (⟨#[]⟩), .bool false, (.slice none 0 0)] rfl Tryd.zeroValue26 rfl (fun b2 w3 eb2 sb2 fb2 cb2 => ?_)
 have zw3 := cb2.size
 refine sx_alloc [.string (⟨#[]⟩), .bool false, (.slice none 0 0)] rfl Tryd.zeroValue26 rfl (fun b4 w5 eb4 sb4 fb4 cb4 => ?_)
 have zw5 := cb4.size
 refine wl_nil (q_n (k1 _ _ ?_))
 refine sx_seq fun K6 k6 => sx_region ?_
 refine mv rfl rfl ?_
 have f7 := hvb0.ext cb2
 have f8 := f7.ext cb4
 refine sx_call rfl rfl Tryd.call42 (c_l01New f8 (by assumption) (by omega)) (fun v9 w9 p9 => ?_)
 obtain ⟨c9, h29, rfl, xc_9, hh9, hc9, cq9⟩ := p9
 have zw9 := cq9.size
 refine av rfl rfl (wl_nil (q_n (k6 _ _ ?_)))
 refine sx_seq fun K10 k10 => sx_region ?_
 refine mv rfl rfl (sx_call rfl rfl Tryd.call44 (c_sCurs) (fun v11 w11 p11 => ?_))
 obtain ⟨s11, rfl, os_11, c11⟩ := p11
 have zw11 := c11.size
 have hl20 : (tabS.map Cr.code).length = 20 := rfl
 have f12 := xc_9.ext c11
 have f13 := f8.ext cq9
 have f14 := f13.ext c11
 refine sx_call rfl rfl Tryd.call43 (c_l01Str f12 f14 os_11.sv (by assumption) (by omega) (by omega) (by omega) (by first | omega | decide | simp) (by omega)) (fun v15 w15 p15 => ?_)
 obtain ⟨s15, i215, h215, rfl, xc_15, hx15, hi215, c15⟩ := p15
 have zw15 := c15.size
 refine av rfl rfl (wl_nil (q_n (k10 _ _ ?_)))
 refine sx_seq fun K16 k16 => sx_region ?_
 refine mv rfl rfl (mv rfl rfl ?_)
 have f17 := f14.chg c15 (by omega)
 refine sx_call rfl rfl Tryd.call45 (c_l04Draw xc_15 f17 (by assumption) (by omega) (by omega) (by omega) (by omega)) (fun v18 w18 p18 => ?_)
 obtain ⟨s18, x18, i218, h218, rfl, os_18, xc_18, hx18, hi218, c18⟩ := p18
 have zw18 := c18.size
 refine sp rfl (px_build rfl (xbld26x0x1 rfl _)) ?_
 refine sx_alloc [.string (⟨#[]⟩), .bool false, (.slice none 0 0)] rfl Tryd.zeroValue26 rfl (fun b19 w20 eb19 sb19 fb19 cb19 => ?_)
 have zw20 := cb19.size
 have f22 := os_18.ext cb19
 refine sx_store (vs := [.string s15, .bool (ng x18), s18]) rfl rfl fb19 rfl Tryd.sizeOf26 (nbl rfl) (one_cons rfl (one_cons rfl (one_cons f22.one one_nil))) (fun w21 sw21 fw21 cw21 => ?_)
 have zw21 := cw21.size
 have gw21 : Blk w21 b19 [.string s15, .bool (ng x18), s18] 26 := fw21
 refine wl_nil (q_n (k16 _ _ ?_))
 refine sx_sub (Sub.c 2 rfl (.c 3 rfl (.c 4 rfl (.c 5 rfl (.c 6 rfl .nil))))) ?_
 refine sx_seq fun K23 k23 => ?_
 have f25 := (f17.chg c18 (by omega)).ext cb19
 have f26 := f25.chg cw21 (by omega)
 have f29 := ((os_11.chg c15 (by omega)).chg c18 (by omega)).ext cb19
 have f30 := f29.chg cw21 (by omega)
 have f31 := f22.chg cw21 (by omega)
 refine dx_region (fun w' => Chg b2 (c9 + 1) w21 w') (by kernel_rfl) (Chg.zero (Chg.drew _)) ?_
 have d32 := Chg.drew w21
 have s32 : Chg b2 (c9 + 1) w21 (World.drew w21) := Chg.zero (Chg.drew _)
 have y32 : (World.drew w21).heap.size = w21.heap.size := rfl
 generalize World.drew w21 = w32 at *
 have zw32 := d32.size
 refine dt 0 rfl rfl rfl rfl s32 (fun _ hS => px_load rfl ((gw21.chg hS (by omega)).loadA (vs := [.string s15, .bool (ng x18), s18]) (look_lit rfl) Tryd.isAgg26 Tryd.sizeOf26)) ?_
 refine dt 1 rfl rfl rfl rfl s32 (fun _ hS => px_move rfl) ?_
 refine dt 2 rfl rfl rfl rfl s32 (fun _ hS => px_move rfl) ?_
 refine dx_eff 3 rfl (by kernel_rfl) ?_
 have f33 := xc_18.ext cb19
 have f34 := f33.chg cw21 (by omega)
 have f35 := f34.ext d32
 have f36 := f26.ext d32
 refine sx_call rfl rfl Tryd.call45 (c_l04Draw f35 f36 (by assumption) (by omega) (by omega) (by omega) (by omega)) (fun v37 w37 p37 => ?_)
 obtain ⟨s37, x37, i237, h237, rfl, os_37, xc_37, hx37, hi237, c37⟩ := p37
 have zw37 := c37.size
 have q39 := Chg.step (l := b2) (h := (c9 + 1)) (Chg.zero (l := b2) (h := (c9 + 1)) d32) c37 (by omega)
 have s38 : Chg b2 (c9 + 1) w21 w37 := q39
 refine wl_nil ?_
 refine dx_next s38 ?_
 refine dt 4 rfl rfl rfl rfl s38 (fun _ hS => px_build rfl (xbld26x0x1 rfl _)) ?_
 refine dx_eff 5 rfl (by kernel_rfl) ?_
 have f41 := fb2.ext cb4
 have f42 := f41.ext cq9
 have f46 := (((f42.ext c11).chg c15 (by omega)).chg c18 (by omega)).ext cb19
 have f47 := f46.chg cw21 (by omega)
 have f49 := (f47.ext d32).chg c37 (by omega)
 have f51 := (f31.ext d32).chg c37 (by omega)
 refine sx_store (vs := [.string s15, .bool (ng x18), s18]) rfl rfl f49 rfl Tryd.sizeOf26 (nbl rfl) (one_cons rfl (one_cons rfl (one_cons f51.one one_nil))) (fun w40 sw40 fw40 cw40 => ?_)
 have zw40 := cw40.size
 have gw40 : Blk w40 b2 [.string s15, .bool (ng x18), s18] 26 := fw40
 have q53 := Chg.step (l := b2) (h := (c9 + 1)) (Chg.zero (l := b2) (h := (c9 + 1)) d32) c37 (by omega)
 have q54 := Chg.step (l := b2) (h := (c9 + 1)) q53 cw40 (by omega)
 have s52 : Chg b2 (c9 + 1) w21 w40 := q54
 refine wl_nil ?_
 refine dx_next s52 ?_
 refine dx_eff 6 rfl (by kernel_rfl) ?_
 have f56 := fb4.ext cq9
 have f60 := (((f56.ext c11).chg c15 (by omega)).chg c18 (by omega)).ext cb19
 have f61 := f60.chg cw21 (by omega)
 have f64 := ((f61.ext d32).chg c37 (by omega)).chg cw40 (by omega)
 have f65 := os_37.chg cw40 (by omega)
 refine sx_store (vs := [.string s15, .bool (ng x37), s37]) rfl rfl f64 rfl Tryd.sizeOf26 (nbl rfl) (one_cons rfl (one_cons rfl (one_cons f65.one one_nil))) (fun w55 sw55 fw55 cw55 => ?_)
 have zw55 := cw55.size
 have gw55 : Blk w55 b4 [.string s15, .bool (ng x37), s37] 26 := fw55
 have q67 := Chg.step (l := b2) (h := (c9 + 1)) (Chg.zero (l := b2) (h := (c9 + 1)) d32) c37 (by omega)
 have q68 := Chg.step (l := b2) (h := (c9 + 1)) q67 cw40 (by omega)
 have q69 := Chg.step (l := b2) (h := (c9 + 1)) q68 cw55 (by omega)
 have s66 : Chg b2 (c9 + 1) w21 w55 := q69
 refine wl_nil ?_
 refine dx_next s66 ?_
 refine dx_done (by kernel_rfl) ?_
 refine q_n (k23 _ _ ?_)
 refine sx_retc ?_
 have f70 := gw40.chg cw55 (by omega)
 refine sx_ret2 Tryd.results16 ⟨_, rfl, f70.loadA (vs := [.string s15, .bool (ng x18), s18]) (look_lit rfl) Tryd.isAgg26 Tryd.sizeOf26⟩ ⟨_, rfl, gw55.loadA (vs := [.string s15, .bool (ng x37), s37]) (look_lit rfl) Tryd.isAgg26 Tryd.sizeOf26⟩ ?_
 have q71 := Chg.step (l := 0) (h := 0) (Chg.zero (l := 0) (h := 0) (((cb2.t cb4).t cq9).t c11)) c15 (by omega)
 have q72 := Chg.step (l := 0) (h := 0) q71 c18 (by omega)
 have q73 := Chg.step (l := 0) (h := 0) q72 cb19 (by omega)
 have q74 := Chg.step (l := 0) (h := 0) q73 cw21 (by omega)
 have q75 := Chg.step (l := 0) (h := 0) q74 d32 (by omega)
 have q76 := Chg.step (l := 0) (h := 0) q75 c37 (by omega)
 have q77 := Chg.step (l := 0) (h := 0) q76 cw40 (by omega)
 have q78 := Chg.step (l := 0) (h := 0) q77 cw55 (by omega)
 have f79 := f51.chg cw40 (by omega)
 have f80 := f79.chg cw55 (by omega)
 have f81 := f65.chg cw55 (by omega)
 exact ⟨_, _, _, _, _, rfl, (Sv.mono f80.sv (by omega) (by omega)), (Sv.mono f81.sv (by omega) (by omega)), codes_known _ (by assumption), ⟨by omega, by omega⟩, q78⟩

theorem c_iTextMoneyD {w : World} {c : ByteArray} {x : Int} (hG0 : Glob w) (hGT : GlobP w) (hM : MOk c (ng (x)) (dg (x).natAbs)) :
  Ret Tryd.prog 7 [.string (monT c (ng x) (dg x.natAbs))] w fun v w' => ∃ s, v = .tuple #[.agg #[.string (c), .bool (ng (x)), s], .bool (true)] ∧ OwnI w' w.heap.size w'.heap.size s intT (dg (x).natAbs) ∧ Chg 0 0 w w' := by
 have hd := mok_dok hM
 have hs := monT_sz hM hd
 have h := c_iTextMoney (s := monT c (ng x) (dg x.natAbs)) hG0 hGT (by omega); rw [rdM_text hM hd] at h
 exact Calls.mono h fun ev w' ⟨v, he, s, e1, o1, _, hc⟩ => ⟨v, he, s, e1, o1, hc⟩

theorem c_alike {w : World} {c1 : ByteArray} {n1 : Bool} {v1 : Value} {lv1 uv1 : Nat} {z1 : List Int} {c2 : ByteArray} {n2 : Bool} {v2 : Value} {lv2 uv2 : Nat} {z2 : List Int} (hG0 : Glob w) (hv1 : Sl w lv1 uv1 v1 (z1)) (hv2 : Sl w lv2 uv2 v2 (z2)) (h63 : z1.length ≤ 4611686018427387904 ∧ z2.length ≤ 4611686018427387904) :
  Ret Tryd.prog 49 [.agg #[.string c1, .bool n1, v1], .agg #[.string c2, .bool n2, v2]] w fun v w' => v = .bool (decide (Alike c1 n1 z1 c2 n2 z2)) ∧ Chg 0 0 w w' := by
 have hv10 := hv1.fit
 have hv20 := hv2.fit
 refine sx_enter Tryd.func49 rfl Tryd.ntmps49 (nbl rfl) ?_
 refine sx_seq fun K1 k1 => sx_region ?_
 refine sx_box [.string c1, .bool n1, v1] rfl rfl rfl (fun b2 w3 eb2 sb2 fb2 cb2 => ?_)
 have zw3 := cb2.size
 refine sx_box [.string c2, .bool n2, v2] rfl rfl rfl (fun b4 w5 eb4 sb4 fb4 cb4 => ?_)
 have zw5 := cb4.size
 refine av rfl rfl (wl_nil (q_n (k1 _ _ ?_)))
 refine sx_seq fun K6 k6 => sx_region ?_
 have f7 := fb2.ext cb4
 refine sp rfl (px_load rfl (f7.loadA (vs := [.string c1, .bool n1, v1]) (look_lit rfl) Tryd.isAgg26 Tryd.sizeOf26)) ?_
 have f8 := hG0.ext cb2
 have f9 := f8.ext cb4
 have f10 := hv10.ext cb2
 have f11 := f10.ext cb4
 refine sx_call rfl rfl Tryd.call46 (c_iMoneyOk f9 f11 (by omega)) (fun v12 w12 p12 => ?_)
 obtain ⟨rfl, c12⟩ := p12
 have zw12 := c12.size
 refine mv rfl rfl ?_
 refine sx_tmpP (t := 7) rfl (fun h51 => ?_) (fun h51 => ?_)
 ·
  refine sx_guardT rfl rfl rfl ?_
  have f13 := fb4.ext c12
  refine sp rfl (px_load rfl (f13.loadA (vs := [.string c2, .bool n2, v2]) (look_lit rfl) Tryd.isAgg26 Tryd.sizeOf26)) ?_
  refine sx_guardT rfl rfl rfl ?_
  have f14 := f9.ext c12
  have f15 := hv20.ext cb2
  have f16 := f15.ext cb4
  have f17 := f16.ext c12
  refine sx_call rfl rfl Tryd.call46 (c_iMoneyOk f14 f17 (by omega)) (fun v18 w18 p18 => ?_)
  obtain ⟨rfl, c18⟩ := p18
  have zw18 := c18.size
  refine sp rfl (px_pick rfl rfl) ?_
  refine mv rfl rfl ?_
  refine sx_tmpP (t := 11) rfl (fun h51x1 => ?_) (fun h51x1 => ?_)
  ·
   refine sx_guardT rfl rfl rfl ?_
   refine sp rfl (px_field rfl xfld26x0) ?_
   refine sx_guardT rfl rfl rfl ?_
   have f20 := (f7.ext c12).ext c18
   refine sp rfl (px_load rfl (f20.load1 rfl Tryd.isAgg9)) ?_
   refine sx_guardT rfl rfl rfl ?_
   refine sp rfl (px_field rfl xfld26x0) ?_
   refine sx_guardT rfl rfl rfl ?_
   have f21 := f13.ext c18
   refine sp rfl (px_load rfl (f21.load1 rfl Tryd.isAgg9)) ?_
   refine sx_guardT rfl rfl rfl ?_
   refine sp rfl (px_eqS rfl rfl) ?_
   refine sp rfl (px_pick rfl rfl) ?_
   refine av rfl rfl (wl_nil (q_n (k6 _ _ ?_)))
   refine sx_sub (Sub.c 4 rfl .nil) ?_
   refine sx_retc ?_
   refine sx_ret1 Tryd.results49 rfl ?_
   exact ⟨(by first | exact bTrue (by grind [Alike]) | exact bFalse (by grind [Alike]) | exact bIff (by grind [Alike])), (((cb2.t cb4).t c12).t c18)⟩
  refine sx_guardF rfl rfl rfl rfl rfl rfl ?_
  refine sx_guardF rfl rfl rfl rfl rfl rfl ?_
  refine sx_guardF rfl rfl rfl rfl rfl rfl ?_
  refine sx_guardF rfl rfl rfl rfl rfl rfl ?_
  refine sx_guardF rfl rfl rfl rfl rfl rfl ?_
  refine sp rfl (px_pick rfl rfl) ?_
  refine av rfl rfl (wl_nil (q_n (k6 _ _ ?_)))
  refine sx_sub (Sub.c 4 rfl .nil) ?_
  refine sx_retc ?_
  refine sx_ret1 Tryd.results49 rfl ?_
  exact ⟨(by first | exact bTrue (by grind [Alike]) | exact bFalse (by grind [Alike]) | exact bIff (by grind [Alike])), (((cb2.t cb4).t c12).t c18)⟩
 refine sx_guardF rfl rfl rfl rfl rfl rfl ?_
 refine sx_guardF rfl rfl rfl rfl rfl rfl ?_
 refine sp rfl (px_pick rfl rfl) ?_
 refine mv rfl rfl ?_
 refine sx_guardF rfl rfl rfl rfl rfl rfl ?_
 refine sx_guardF rfl rfl rfl rfl rfl rfl ?_
 refine sx_guardF rfl rfl rfl rfl rfl rfl ?_
 refine sx_guardF rfl rfl rfl rfl rfl rfl ?_
 refine sx_guardF rfl rfl rfl rfl rfl rfl ?_
 refine sp rfl (px_pick rfl rfl) ?_
 refine av rfl rfl (wl_nil (q_n (k6 _ _ ?_)))
 refine sx_sub (Sub.c 4 rfl .nil) ?_
 refine sx_retc ?_
 refine sx_ret1 Tryd.results49 rfl ?_
 exact ⟨(by first | exact bTrue (by grind [Alike]) | exact bFalse (by grind [Alike]) | exact bIff (by grind [Alike])), ((cb2.t cb4).t c12)⟩

theorem c_natAdd {w : World} {va : Value} {lva uva : Nat} {m : Nat} {vb : Value} {lvb uvb : Nat} {n : Nat} (hva : Sl w lva uva va (dg m)) (hvb : Sl w lvb uvb vb (dg n)) (hbm : (dg m).length ≤ 1000) (hbn : (dg n).length ≤ 1000) :
  Ret Tryd.prog 87 [va, vb] w fun v w' => ∃ s, v = s ∧ OwnI w' w.heap.size w'.heap.size s intT (dg (m + n)) ∧ Chg 0 0 w w' := by
 have hva0 := hva.fit
 have hvb0 := hvb.fit
 refine sx_enter Tryd.func87 rfl Tryd.ntmps87 (nbl rfl) ?_
 refine sx_seq fun K1 k1 => sx_region ?_
 refine av rfl rfl (wl_nil (q_n (k1 _ _ ?_)))
 refine sx_seq fun K2 k2 => sx_region ?_
 refine mv rfl rfl (sp rfl (px_len rfl Tryd.underlying22 hva0) ?_)
 refine mv rfl rfl (sp rfl (px_len rfl Tryd.underlying22 hvb0) ?_)
 refine sp rfl (px_max rfl rfl) ?_
 refine sp rfl (px_add rfl rfl (by omega)) ?_
 refine sx_make0 (c := max (dg m).length (dg n).length + 1) rfl xelt22 rfl (look_int rfl (by omega)) (by omega) (by unfold maxLen; omega) (fun s3 ws3 fs3 cs3 ls3 => ?_)
 have zws3 := cs3.size
 refine av rfl rfl (wl_nil (q_n (k2 _ _ ?_)))
 refine sx_seq fun K4 k4 => sx_region ?_
 refine av rfl rfl (wl_nil (q_n (k4 _ _ ?_)))
 refine sx_seq fun K5 k5 => ?_
 refine sx_seq fun K6 k6 => sx_region ?_
 refine av rfl rfl (wl_nil (q_n (k6 _ _ ?_)))
 refine sx_block ?_
 refine sx_loop (fun mm aa w' => ∃ (k : Nat) (s : Value) (os : List Int) (c : Nat), Agr 56 [(0, va), (1, vb), (5, s), (6, .int .i64 ((c : Nat) : Int)), (7, .int .i64 ↑k)] aa ∧ Chg w.heap.size ws3.heap.size ws3 w' ∧ Own w' w.heap.size w'.heap.size s intT os.length 1 (os.map (Value.int .i64)) ∧ (mm = max (dg m).length (dg n).length + 1 - k) ∧ (os.length = k) ∧ (Lm os) ∧ (c ≤ 1) ∧ (k ≤ max (dg m).length (dg n).length) ∧ (vl os + Bs ^ k * c = vl ((dg m).take k) + vl ((dg n).take k))) (_) (fun a ha => ⟨0, s3, [], 0, ha.sub (Sub.c 0 rfl (.c 1 rfl (.c 5 rfl (.c 6 (look_int (t := 6) rfl (by first | omega | simp)) (.c 7 (look_int (t := 7) rfl (by first | omega | simp)) .nil))))), Chg.refl _ _ _, (fs3.mono (by omega) (by omega)), rfl, rfl, Lm.nil, by omega, by omega, by simp [vl]⟩) ?_
 rintro mm aa wl7 ⟨k, s, os, c, hAwl7, cwl7, hs_s, hm, hos, hlm, hc, hk, hv⟩
 refine (show cw Tryd.prog 56 _ _ _ wl7 from ?_) aa hAwl7
 clear hAwl7
 have zwl7 := cwl7.size
 have am := (Lm_dg m).getD k
 have bn := (Lm_dg n).getD k
 refine sx_seq fun K8 k8 => ?_
 refine sx_seq fun K9 k9 => sx_region ?_
 refine mv rfl rfl (mv rfl rfl ?_)
 have f10 := hva0.ext cs3
 have f11 := f10.chg cwl7 (by omega)
 refine sp rfl (px_len rfl Tryd.underlying22 f11) ?_
 refine mv rfl rfl ?_
 have f12 := hvb0.ext cs3
 have f13 := f12.chg cwl7 (by omega)
 refine sp rfl (px_len rfl Tryd.underlying22 f13) ?_
 refine sp rfl (px_max rfl rfl) ?_
 refine sp rfl (px_lt rfl rfl) ?_
 refine wl_nil (q_n (k9 _ _ ?_))
 refine sx_condP rfl (fun h105 => ?_) (fun h105 => ?_)
 ·
  refine sx_skip ?_
  refine q_n (k8 _ _ ?_)
  refine sx_seq fun K14 k14 => ?_
  refine sx_block ?_
  refine sx_seq fun K15 k15 => ?_
  refine sx_seq fun K16 k16 => sx_region ?_
  refine mv rfl rfl (mv rfl rfl (sp rfl (px_len rfl Tryd.underlying22 f11) ?_))
  refine sp rfl (px_lt rfl rfl) ?_
  refine wl_nil (q_n (k16 _ _ ?_))
  refine sx_sub (Sub.c 0 rfl (.c 1 rfl (.c 5 rfl (.c 6 rfl (.c 7 rfl (.c 27 rfl .nil)))))) ?_
  refine sx_condP rfl (fun h106 => ?_) (fun h106 => ?_)
  ·
   refine sx_region ?_
   refine mv rfl rfl (mv rfl rfl (mv rfl rfl (sp rfl (px_index1 (j := k) rfl rfl (by omega) Tryd.underlying22 Tryd.sizeOf3 f11 (by omega)) ?_)))
   refine sp rfl (px_load rfl (f11.load1 (at_int (by omega)) Tryd.isAgg3)) ?_
   refine sp rfl (px_add rfl rfl (by omega)) ?_
   refine av rfl rfl (wl_nil (q_n (k15 _ _ ?_)))
   refine sx_seq fun K17 k17 => ?_
   refine sx_seq fun K18 k18 => sx_region ?_
   refine mv rfl rfl (mv rfl rfl (sp rfl (px_len rfl Tryd.underlying22 f13) ?_))
   refine sp rfl (px_lt rfl rfl) ?_
   refine wl_nil (q_n (k18 _ _ ?_))
   refine sx_sub (Sub.c 0 rfl (.c 1 rfl (.c 5 rfl (.c 6 rfl (.c 7 rfl (.c 37 rfl .nil)))))) ?_
   refine sx_condP rfl (fun h109 => ?_) (fun h109 => ?_)
   ·
    refine sx_region ?_
    refine mv rfl rfl (mv rfl rfl (mv rfl rfl (sp rfl (px_index1 (j := k) rfl rfl (by omega) Tryd.underlying22 Tryd.sizeOf3 f13 (by omega)) ?_)))
    refine sp rfl (px_load rfl (f13.load1 (at_int (by omega)) Tryd.isAgg3)) ?_
    refine sp rfl (px_add rfl rfl (by omega)) ?_
    refine av rfl rfl (wl_nil (q_n (k17 _ _ ?_)))
    refine sx_seq fun K19 k19 => sx_region ?_
    refine mv rfl rfl (mv rfl rfl (sp rfl (px_rem rfl rfl (by omega) (by omega)) ?_))
    refine sx_lit1 rfl xelt22 rfl rfl (fun s20 ws20 ss20 fs20 cs20 => ?_)
    have ns20 := Own.norm (f := (Value.int .i64)) (zs := [((((c : Nat) : Int) + ((dg m).getD k 0)) + ((dg n).getD k 0)) % 1000000000]) fs20
    have zws20 := cs20.size
    have f22 := hs_s.ext cs20
    refine sx_append rfl xelt22 rfl rfl f22 ns20.sv one_int (by omega) (by simp only [List.length_cons, List.length_nil]; omega) (by unfold maxLen; simp only [List.length_cons, List.length_nil]; omega) (fun a21 w21 fw21 cw21 => ?_)
    have nw21 := Own.app (f := (Value.int .i64)) (a := os) (b := [((((c : Nat) : Int) + ((dg m).getD k 0)) + ((dg n).getD k 0)) % 1000000000]) fw21
    have zw21 := cw21.size
    refine av rfl rfl (wl_nil (q_n (k19 _ _ ?_)))
    refine sx_sub (Sub.c 0 rfl (.c 1 rfl (.c 5 rfl (.c 6 rfl (.c 7 rfl .nil))))) ?_
    refine sx_region ?_
    refine mv rfl rfl (sp rfl (px_quo rfl rfl (by omega) (by omega) (by omega)) ?_)
    refine av rfl rfl (wl_nil ?_)
    refine q_bn (q_n (k14 _ _ ?_))
    refine sx_region ?_
    refine mv rfl rfl (sp rfl (px_add rfl rfl (by omega)) ?_)
    refine av rfl rfl (wl_nil ?_)
    have q23 := Chg.step (l := w.heap.size) (h := ws3.heap.size) cwl7 cs20 (by omega)
    have q24 := Chg.step (l := w.heap.size) (h := ws3.heap.size) q23 cw21 (by omega)
    have hs : (((((c : Nat) : Int) + ((dg m).getD k 0)) + ((dg n).getD k 0)) : Int) = ((c : Nat) : Int) + (((dg m).getD k 0).toNat : Nat) + (((dg n).getD k 0).toNat : Nat) := by omega
    have hv2 : vl (os ++ [(((((c : Nat) : Int) + ((dg m).getD k 0)) + ((dg n).getD k 0))) % 1000000000]) + Bs ^ (k + 1) * ((((((c : Nat) : Int) + ((dg m).getD k 0)) + ((dg n).getD k 0))) / 1000000000 : Int).toNat = vl ((dg m).take (k + 1)) + vl ((dg n).take (k + 1)) := by
     rw [vl_concat, hos, vl_take_succ', vl_take_succ', Nat.pow_succ]
     exact add_step hs hv
    have hX := mod_bd (s := ((((c : Nat) : Int) + ((dg m).getD k 0)) + ((dg n).getD k 0))) (by omega)
    exact fun a ha => ⟨_, by omega, (k + 1), a21, (os ++ ([((((c : Nat) : Int) + ((dg m).getD k 0)) + ((dg n).getD k 0)) % 1000000000])), ((((((c : Nat) : Int) + ((dg m).getD k 0)) + ((dg n).getD k 0))) / 1000000000 : Int).toNat, ha.sub (Sub.c 0 rfl (.c 1 rfl (.c 5 rfl (.c 6 (look_int (t := 6) rfl (by first | omega | simp)) (.c 7 (look_int (t := 7) rfl (by first | omega | simp)) .nil))))), q24, (nw21.mono (by omega) (by omega)), rfl, by simp [hos], hlm.append (Lm.single hX.1 hX.2), by omega, by omega, hv2⟩
   have gn := getD_ge (zs := dg n) (k := k) (by omega)
   refine sx_skip ?_
   refine q_n (k17 _ _ ?_)
   refine sx_seq fun K25 k25 => sx_region ?_
   refine mv rfl rfl (mv rfl rfl (sp rfl (px_rem rfl rfl (by omega) (by omega)) ?_))
   refine sx_lit1 rfl xelt22 rfl rfl (fun s26 ws26 ss26 fs26 cs26 => ?_)
   have ns26 := Own.norm (f := (Value.int .i64)) (zs := [(((c : Nat) : Int) + ((dg m).getD k 0)) % 1000000000]) fs26
   have zws26 := cs26.size
   have f28 := hs_s.ext cs26
   refine sx_append rfl xelt22 rfl rfl f28 ns26.sv one_int (by omega) (by simp only [List.length_cons, List.length_nil]; omega) (by unfold maxLen; simp only [List.length_cons, List.length_nil]; omega) (fun a27 w27 fw27 cw27 => ?_)
   have nw27 := Own.app (f := (Value.int .i64)) (a := os) (b := [(((c : Nat) : Int) + ((dg m).getD k 0)) % 1000000000]) fw27
   have zw27 := cw27.size
   refine av rfl rfl (wl_nil (q_n (k25 _ _ ?_)))
   refine sx_region ?_
   refine mv rfl rfl (sp rfl (px_quo rfl rfl (by omega) (by omega) (by omega)) ?_)
   refine av rfl rfl (wl_nil ?_)
   refine q_bn (q_n (k14 _ _ ?_))
   refine sx_region ?_
   refine mv rfl rfl (sp rfl (px_add rfl rfl (by omega)) ?_)
   refine av rfl rfl (wl_nil ?_)
   have q29 := Chg.step (l := w.heap.size) (h := ws3.heap.size) cwl7 cs26 (by omega)
   have q30 := Chg.step (l := w.heap.size) (h := ws3.heap.size) q29 cw27 (by omega)
   have hs : ((((c : Nat) : Int) + ((dg m).getD k 0)) : Int) = ((c : Nat) : Int) + (((dg m).getD k 0).toNat : Nat) + (((dg n).getD k 0).toNat : Nat) := by omega
   have hv2 : vl (os ++ [((((c : Nat) : Int) + ((dg m).getD k 0))) % 1000000000]) + Bs ^ (k + 1) * (((((c : Nat) : Int) + ((dg m).getD k 0))) / 1000000000 : Int).toNat = vl ((dg m).take (k + 1)) + vl ((dg n).take (k + 1)) := by
    rw [vl_concat, hos, vl_take_succ', vl_take_succ', Nat.pow_succ]
    exact add_step hs hv
   have hX := mod_bd (s := (((c : Nat) : Int) + ((dg m).getD k 0))) (by omega)
   exact fun a ha => ⟨_, by omega, (k + 1), a27, (os ++ ([(((c : Nat) : Int) + ((dg m).getD k 0)) % 1000000000])), (((((c : Nat) : Int) + ((dg m).getD k 0))) / 1000000000 : Int).toNat, ha.sub (Sub.c 0 rfl (.c 1 rfl (.c 5 rfl (.c 6 (look_int (t := 6) rfl (by first | omega | simp)) (.c 7 (look_int (t := 7) rfl (by first | omega | simp)) .nil))))), q30, (nw27.mono (by omega) (by omega)), rfl, by simp [hos], hlm.append (Lm.single hX.1 hX.2), by omega, by omega, hv2⟩
  have gm := getD_ge (zs := dg m) (k := k) (by omega)
  refine sx_skip ?_
  refine q_n (k15 _ _ ?_)
  refine sx_seq fun K31 k31 => ?_
  refine sx_seq fun K32 k32 => sx_region ?_
  refine mv rfl rfl (mv rfl rfl (sp rfl (px_len rfl Tryd.underlying22 f13) ?_))
  refine sp rfl (px_lt rfl rfl) ?_
  refine wl_nil (q_n (k32 _ _ ?_))
  refine sx_condP rfl (fun h109 => ?_) (fun h109 => ?_)
  ·
   refine sx_region ?_
   refine mv rfl rfl (mv rfl rfl (mv rfl rfl (sp rfl (px_index1 (j := k) rfl rfl (by omega) Tryd.underlying22 Tryd.sizeOf3 f13 (by omega)) ?_)))
   refine sp rfl (px_load rfl (f13.load1 (at_int (by omega)) Tryd.isAgg3)) ?_
   refine sp rfl (px_add rfl rfl (by omega)) ?_
   refine av rfl rfl (wl_nil (q_n (k31 _ _ ?_)))
   refine sx_sub (Sub.c 0 rfl (.c 1 rfl (.c 5 rfl (.c 6 rfl (.c 7 rfl .nil))))) ?_
   refine sx_seq fun K33 k33 => sx_region ?_
   refine mv rfl rfl (mv rfl rfl (sp rfl (px_rem rfl rfl (by omega) (by omega)) ?_))
   refine sx_lit1 rfl xelt22 rfl rfl (fun s34 ws34 ss34 fs34 cs34 => ?_)
   have ns34 := Own.norm (f := (Value.int .i64)) (zs := [(((c : Nat) : Int) + ((dg n).getD k 0)) % 1000000000]) fs34
   have zws34 := cs34.size
   have f36 := hs_s.ext cs34
   refine sx_append rfl xelt22 rfl rfl f36 ns34.sv one_int (by omega) (by simp only [List.length_cons, List.length_nil]; omega) (by unfold maxLen; simp only [List.length_cons, List.length_nil]; omega) (fun a35 w35 fw35 cw35 => ?_)
   have nw35 := Own.app (f := (Value.int .i64)) (a := os) (b := [(((c : Nat) : Int) + ((dg n).getD k 0)) % 1000000000]) fw35
   have zw35 := cw35.size
   refine av rfl rfl (wl_nil (q_n (k33 _ _ ?_)))
   refine sx_region ?_
   refine mv rfl rfl (sp rfl (px_quo rfl rfl (by omega) (by omega) (by omega)) ?_)
   refine av rfl rfl (wl_nil ?_)
   refine q_bn (q_n (k14 _ _ ?_))
   refine sx_region ?_
   refine mv rfl rfl (sp rfl (px_add rfl rfl (by omega)) ?_)
   refine av rfl rfl (wl_nil ?_)
   have q37 := Chg.step (l := w.heap.size) (h := ws3.heap.size) cwl7 cs34 (by omega)
   have q38 := Chg.step (l := w.heap.size) (h := ws3.heap.size) q37 cw35 (by omega)
   have hs : ((((c : Nat) : Int) + ((dg n).getD k 0)) : Int) = ((c : Nat) : Int) + (((dg m).getD k 0).toNat : Nat) + (((dg n).getD k 0).toNat : Nat) := by omega
   have hv2 : vl (os ++ [((((c : Nat) : Int) + ((dg n).getD k 0))) % 1000000000]) + Bs ^ (k + 1) * (((((c : Nat) : Int) + ((dg n).getD k 0))) / 1000000000 : Int).toNat = vl ((dg m).take (k + 1)) + vl ((dg n).take (k + 1)) := by
    rw [vl_concat, hos, vl_take_succ', vl_take_succ', Nat.pow_succ]
    exact add_step hs hv
   have hX := mod_bd (s := (((c : Nat) : Int) + ((dg n).getD k 0))) (by omega)
   exact fun a ha => ⟨_, by omega, (k + 1), a35, (os ++ ([(((c : Nat) : Int) + ((dg n).getD k 0)) % 1000000000])), (((((c : Nat) : Int) + ((dg n).getD k 0))) / 1000000000 : Int).toNat, ha.sub (Sub.c 0 rfl (.c 1 rfl (.c 5 rfl (.c 6 (look_int (t := 6) rfl (by first | omega | simp)) (.c 7 (look_int (t := 7) rfl (by first | omega | simp)) .nil))))), q38, (nw35.mono (by omega) (by omega)), rfl, by simp [hos], hlm.append (Lm.single hX.1 hX.2), by omega, by omega, hv2⟩
  have gn := getD_ge (zs := dg n) (k := k) (by omega)
  refine sx_skip ?_
  refine q_n (k31 _ _ ?_)
  refine sx_seq fun K39 k39 => sx_region ?_
  refine mv rfl rfl (mv rfl rfl (sp rfl (px_rem rfl rfl (by omega) (by omega)) ?_))
  refine sx_lit1 rfl xelt22 rfl rfl (fun s40 ws40 ss40 fs40 cs40 => ?_)
  have ns40 := Own.norm (f := (Value.int .i64)) (zs := [((c : Nat) : Int) % 1000000000]) fs40
  have zws40 := cs40.size
  have f42 := hs_s.ext cs40
  refine sx_append rfl xelt22 rfl rfl f42 ns40.sv one_int (by omega) (by simp only [List.length_cons, List.length_nil]; omega) (by unfold maxLen; simp only [List.length_cons, List.length_nil]; omega) (fun a41 w41 fw41 cw41 => ?_)
  have nw41 := Own.app (f := (Value.int .i64)) (a := os) (b := [((c : Nat) : Int) % 1000000000]) fw41
  have zw41 := cw41.size
  refine av rfl rfl (wl_nil (q_n (k39 _ _ ?_)))
  refine sx_sub (Sub.c 0 rfl (.c 1 rfl (.c 5 rfl (.c 6 rfl (.c 7 rfl .nil))))) ?_
  refine sx_region ?_
  refine mv rfl rfl (sp rfl (px_quo rfl rfl (by omega) (by omega) (by omega)) ?_)
  refine av rfl rfl (wl_nil ?_)
  refine q_bn (q_n (k14 _ _ ?_))
  refine sx_region ?_
  refine mv rfl rfl (sp rfl (px_add rfl rfl (by omega)) ?_)
  refine av rfl rfl (wl_nil ?_)
  have q43 := Chg.step (l := w.heap.size) (h := ws3.heap.size) cwl7 cs40 (by omega)
  have q44 := Chg.step (l := w.heap.size) (h := ws3.heap.size) q43 cw41 (by omega)
  have hs : (((c : Nat) : Int) : Int) = ((c : Nat) : Int) + (((dg m).getD k 0).toNat : Nat) + (((dg n).getD k 0).toNat : Nat) := by omega
  have hv2 : vl (os ++ [(((c : Nat) : Int)) % 1000000000]) + Bs ^ (k + 1) * ((((c : Nat) : Int)) / 1000000000 : Int).toNat = vl ((dg m).take (k + 1)) + vl ((dg n).take (k + 1)) := by
   rw [vl_concat, hos, vl_take_succ', vl_take_succ', Nat.pow_succ]
   exact add_step hs hv
  have hX := mod_bd (s := ((c : Nat) : Int)) (by omega)
  exact fun a ha => ⟨_, by omega, (k + 1), a41, (os ++ ([((c : Nat) : Int) % 1000000000])), ((((c : Nat) : Int)) / 1000000000 : Int).toNat, ha.sub (Sub.c 0 rfl (.c 1 rfl (.c 5 rfl (.c 6 (look_int (t := 6) rfl (by first | omega | simp)) (.c 7 (look_int (t := 7) rfl (by first | omega | simp)) .nil))))), q44, (nw41.mono (by omega) (by omega)), rfl, by simp [hos], hlm.append (Lm.single hX.1 hX.2), by omega, by omega, hv2⟩
 refine sx_exit ?_
 refine q_e (q_e (q_bx (q_n (k5 _ _ ?_))))
 refine sx_seq fun K45 k45 => ?_
 have ek : k = max (dg m).length (dg n).length := by omega
 have hz : Lm (os ++ [((c : Nat) : Int)]) := hlm.append (Lm.single (by omega) (by omega))
 have hvv : vl (os ++ [((c : Nat) : Int)]) = m + n := by rw [vl_concat, hos, Int.toNat_natCast, hv, vl_take_ge (by omega), vl_take_ge (by omega), vl_dg, vl_dg]
 refine sx_region ?_
 refine mv rfl rfl (mv rfl rfl ?_)
 refine sx_lit1 rfl xelt22 rfl rfl (fun s46 ws46 ss46 fs46 cs46 => ?_)
 have ns46 := Own.norm (f := (Value.int .i64)) (zs := [((c : Nat) : Int)]) fs46
 have zws46 := cs46.size
 have f48 := hs_s.ext cs46
 refine sx_append rfl xelt22 rfl rfl f48 ns46.sv one_int (by omega) (by simp only [List.length_cons, List.length_nil]; omega) (by unfold maxLen; simp only [List.length_cons, List.length_nil]; omega) (fun a47 w47 fw47 cw47 => ?_)
 have nw47 := Own.app (f := (Value.int .i64)) (a := os) (b := [((c : Nat) : Int)]) fw47
 have zw47 := cw47.size
 refine sx_call rfl rfl Tryd.call104 (c_trim nw47 (by assumption) (by first | omega | (simp only [List.length_append, List.length_set, List.length_replicate, List.length_cons, List.length_nil] at *; omega))) (fun v49 w49 p49 => ?_)
 obtain ⟨s49, rfl, os_49, c49⟩ := p49
 have zw49 := c49.size
 refine av rfl rfl (wl_nil (q_n (k45 _ _ ?_)))
 refine sx_sub (Sub.c 4 rfl .nil) ?_
 refine sx_retc ?_
 refine sx_ret1 Tryd.results87 rfl ?_
 have hr := os_49
 rw [hvv] at hr
 have q50 := Chg.step (l := 0) (h := 0) (Chg.zero (l := 0) (h := 0) cs3) cwl7 (by omega)
 have q51 := Chg.step (l := 0) (h := 0) q50 cs46 (by omega)
 have q52 := Chg.step (l := 0) (h := 0) q51 cw47 (by omega)
 have q53 := Chg.step (l := 0) (h := 0) q52 c49 (by omega)
 exact ⟨_, rfl, hr.mono (by omega) (by omega), q53⟩

theorem c_natAdd1 {w : World} {va : Value} {lva uva : Nat} {m : Nat} {vb : Value} {lvb uvb : Nat} {ys : List Int} (hva : Sl w lva uva va (dg m)) (hvb : Sl w lvb uvb vb (ys)) (hbm : (dg m).length ≤ 1000) (hy : ys = [1]) :
  Ret Tryd.prog 87 [va, vb] w fun v w' => ∃ s, v = s ∧ OwnI w' w.heap.size w'.heap.size s intT (dg (m + 1)) ∧ Chg 0 0 w w' := by
 rw [hy, ← dg_1] at hvb; exact c_natAdd hva hvb hbm (by rw [dg_1]; simp)

theorem c_natCmp {w : World} {va : Value} {lva uva : Nat} {zs : List Int} {vb : Value} {lvb uvb : Nat} {ys : List Int} (hva : Sl w lva uva va (zs)) (hvb : Sl w lvb uvb vb (ys)) (h63 : zs.length ≤ 4611686018427387904 ∧ ys.length ≤ 4611686018427387904) :
  Ret Tryd.prog 88 [va, vb] w fun v w' => v = .int .i64 (cmpL zs ys) ∧ Chg 0 0 w w' := by
 have hva0 := hva.fit
 have hvb0 := hvb.fit
 have zs0 : zs.drop zs.length = [] := by simp
 have ys0 : ys.drop ys.length = [] := by simp
 refine sx_enter Tryd.func88 rfl Tryd.ntmps88 (nbl rfl) ?_
 refine sx_seq fun K1 k1 => sx_region ?_
 refine av rfl rfl (wl_nil (q_n (k1 _ _ ?_)))
 refine sx_seq fun K2 k2 => ?_
 refine sx_seq fun K3 k3 => sx_region ?_
 refine mv rfl rfl (sp rfl (px_len rfl Tryd.underlying22 hva0) ?_)
 refine mv rfl rfl (sp rfl (px_len rfl Tryd.underlying22 hvb0) ?_)
 refine sp rfl (px_ne rfl rfl) ?_
 refine wl_nil (q_n (k3 _ _ ?_))
 refine sx_condP rfl (fun h76 => ?_) (fun h76 => ?_)
 ·
  refine sx_seq fun K4 k4 => ?_
  refine sx_seq fun K5 k5 => sx_region ?_
  refine mv rfl rfl (sp rfl (px_len rfl Tryd.underlying22 hva0) ?_)
  refine mv rfl rfl (sp rfl (px_len rfl Tryd.underlying22 hvb0) ?_)
  refine sp rfl (px_lt rfl rfl) ?_
  refine wl_nil (q_n (k5 _ _ ?_))
  refine sx_condP rfl (fun h77 => ?_) (fun h77 => ?_)
  ·
   refine sx_seq fun K6 k6 => sx_region ?_
   refine av rfl rfl (wl_nil (q_n (k6 _ _ ?_)))
   refine sx_retc ?_
   refine q_r (q_r (sx_ret1 Tryd.results88 rfl ?_))
   exact ⟨iEq (cmpL_short (by omega)).symm, (Chg.refl 0 0 _)⟩
  refine sx_skip ?_
  refine q_n (k4 _ _ ?_)
  refine sx_seq fun K7 k7 => sx_region ?_
  refine av rfl rfl (wl_nil (q_n (k7 _ _ ?_)))
  refine sx_retc ?_
  refine q_r (sx_ret1 Tryd.results88 rfl ?_)
  exact ⟨iEq (cmpL_long (by omega)).symm, (Chg.refl 0 0 _)⟩
 refine sx_skip ?_
 refine q_n (k2 _ _ ?_)
 refine sx_seq fun K8 k8 => ?_
 refine sx_seq fun K9 k9 => sx_region ?_
 refine mv rfl rfl (sp rfl (px_len rfl Tryd.underlying22 hva0) ?_)
 refine sp rfl (px_sub rfl rfl (by omega)) ?_
 refine av rfl rfl (wl_nil (q_n (k9 _ _ ?_)))
 refine sx_block ?_
 have e00 : zs.length = ys.length := by omega
 have he0 : zs.drop zs.length = ys.drop zs.length := by rw [zs0, e00, ys0]
 refine sx_loop (fun mm aa w' => ∃ (k : Nat), Agr 41 [(0, va), (1, vb), (5, .int .i64 (↑k - 1))] aa ∧ Chg 0 0 w w' ∧ (mm = k) ∧ (k ≤ zs.length) ∧ (zs.drop k = ys.drop k)) (_) (fun a ha => ⟨zs.length, ha.sub (Sub.c 0 rfl (.c 1 rfl (.c 5 (look_int (t := 5) rfl (by first | omega | simp)) .nil))), Chg.refl _ _ _, rfl, by omega, he0⟩) ?_
 rintro mm aa wl10 ⟨k, hAwl10, cwl10, hm, hk, he⟩
 refine (show cw Tryd.prog 41 _ _ _ wl10 from ?_) aa hAwl10
 clear hAwl10
 have zwl10 := cwl10.size
 have hl : zs.length = ys.length := by omega
 refine sx_seq fun K11 k11 => ?_
 refine sx_seq fun K12 k12 => sx_region ?_
 refine mv rfl rfl (sp rfl (px_ge rfl rfl) ?_)
 refine wl_nil (q_n (k12 _ _ ?_))
 refine sx_condP rfl (fun h82 => ?_) (fun h82 => ?_)
 ·
  refine sx_skip ?_
  refine q_n (k11 _ _ ?_)
  refine sx_seq fun K13 k13 => ?_
  refine sx_block ?_
  refine sx_seq fun K14 k14 => ?_
  have f15 := hva0.ext cwl10
  have f16 := hvb0.ext cwl10
  refine dx_region (fun w' => Chg 0 0 wl10 w') (by kernel_rfl) (Chg.zero (Chg.drew _)) ?_
  have d17 := Chg.drew wl10
  have s17 : Chg 0 0 wl10 (World.drew wl10) := Chg.zero (Chg.drew _)
  have y17 : (World.drew wl10).heap.size = wl10.heap.size := rfl
  generalize World.drew wl10 = w17 at *
  have zw17 := d17.size
  refine dt 0 rfl rfl rfl rfl s17 (fun _ hS => px_move rfl) ?_
  refine dt 1 rfl rfl rfl rfl s17 (fun _ hS => px_move rfl) ?_
  refine dt 2 rfl rfl rfl rfl s17 (fun _ hS => px_index1 (j := (k - 1)) rfl rfl (by omega) Tryd.underlying22 Tryd.sizeOf3 ((f15).chg hS (by omega)) (by omega)) ?_
  refine dt 3 rfl rfl rfl rfl s17 (fun _ hS => px_load rfl (((f15).chg hS (by omega)).load1 (at_int (by omega)) Tryd.isAgg3)) ?_
  refine dt 4 rfl rfl rfl rfl s17 (fun _ hS => px_move rfl) ?_
  refine dt 5 rfl rfl rfl rfl s17 (fun _ hS => px_move rfl) ?_
  refine dt 6 rfl rfl rfl rfl s17 (fun _ hS => px_index1 (j := (k - 1)) rfl rfl (by omega) Tryd.underlying22 Tryd.sizeOf3 ((f16).chg hS (by omega)) (by omega)) ?_
  refine dt 7 rfl rfl rfl rfl s17 (fun _ hS => px_load rfl (((f16).chg hS (by omega)).load1 (at_int (by omega)) Tryd.isAgg3)) ?_
  refine dt 8 rfl rfl rfl rfl s17 (fun _ hS => px_ne rfl rfl) ?_
  refine dx_done (by kernel_rfl) ?_
  refine q_n (k14 _ _ ?_)
  refine sx_condP rfl (fun h83 => ?_) (fun h83 => ?_)
  ·
   refine sx_seq fun K18 k18 => ?_
   refine sx_seq fun K19 k19 => ?_
   have f20 := f15.ext d17
   have f21 := f16.ext d17
   refine dx_region (fun w' => Chg 0 0 w17 w') (by kernel_rfl) (Chg.zero (Chg.drew _)) ?_
   have d22 := Chg.drew w17
   have s22 : Chg 0 0 w17 (World.drew w17) := Chg.zero (Chg.drew _)
   have y22 : (World.drew w17).heap.size = w17.heap.size := rfl
   generalize World.drew w17 = w22 at *
   have zw22 := d22.size
   refine dt 0 rfl rfl rfl rfl s22 (fun _ hS => px_move rfl) ?_
   refine dt 1 rfl rfl rfl rfl s22 (fun _ hS => px_move rfl) ?_
   refine dt 2 rfl rfl rfl rfl s22 (fun _ hS => px_index1 (j := (k - 1)) rfl rfl (by omega) Tryd.underlying22 Tryd.sizeOf3 ((f20).chg hS (by omega)) (by omega)) ?_
   refine dt 3 rfl rfl rfl rfl s22 (fun _ hS => px_load rfl (((f20).chg hS (by omega)).load1 (at_int (by omega)) Tryd.isAgg3)) ?_
   refine dt 4 rfl rfl rfl rfl s22 (fun _ hS => px_move rfl) ?_
   refine dt 5 rfl rfl rfl rfl s22 (fun _ hS => px_move rfl) ?_
   refine dt 6 rfl rfl rfl rfl s22 (fun _ hS => px_index1 (j := (k - 1)) rfl rfl (by omega) Tryd.underlying22 Tryd.sizeOf3 ((f21).chg hS (by omega)) (by omega)) ?_
   refine dt 7 rfl rfl rfl rfl s22 (fun _ hS => px_load rfl (((f21).chg hS (by omega)).load1 (at_int (by omega)) Tryd.isAgg3)) ?_
   refine dt 8 rfl rfl rfl rfl s22 (fun _ hS => px_lt rfl rfl) ?_
   refine dx_done (by kernel_rfl) ?_
   refine q_n (k19 _ _ ?_)
   refine sx_sub (Sub.c 0 rfl (.c 1 rfl (.c 5 rfl (.c 40 rfl .nil)))) ?_
   refine sx_condP rfl (fun h84 => ?_) (fun h84 => ?_)
   ·
    refine sx_seq fun K23 k23 => sx_region ?_
    refine av rfl rfl (wl_nil (q_n (k23 _ _ ?_)))
    refine sx_retc ?_
    refine q_r (q_br (q_r (q_r (q_br (q_r (sx_ret1 Tryd.results88 rfl ?_))))))
    have hlt := cmpL_lt hl (k := k - 1) (by omega) (by rw [Nat.sub_add_cancel (by omega)]; exact he) (h84)
    exact ⟨iEq hlt.symm, ((cwl10.t d17).t d22)⟩
   refine sx_skip ?_
   refine q_n (k18 _ _ ?_)
   refine sx_seq fun K24 k24 => sx_region ?_
   refine av rfl rfl (wl_nil (q_n (k24 _ _ ?_)))
   refine sx_retc ?_
   refine q_br (q_r (q_r (q_br (q_r (sx_ret1 Tryd.results88 rfl ?_)))))
   have hlt := cmpL_gt hl (k := k - 1) (by omega) (by rw [Nat.sub_add_cancel (by omega)]; exact he) (by omega)
   exact ⟨iEq hlt.symm, ((cwl10.t d17).t d22)⟩
  refine sx_skip ?_
  refine q_bn (q_n (k13 _ _ ?_))
  refine sx_region ?_
  refine mv rfl rfl (sp rfl (px_sub rfl rfl (by omega)) ?_)
  refine av rfl rfl (wl_nil ?_)
  exact fun a ha => ⟨_, by omega, (k - 1), ha.sub (Sub.c 0 rfl (.c 1 rfl (.c 5 (look_int (t := 5) rfl (by first | omega | simp)) .nil))), (cwl10.t d17), rfl, by omega, drop_succ_eq (by omega) (by omega) (by rw [Nat.sub_add_cancel (by omega)]; exact he) (by omega)⟩
 refine sx_exit ?_
 refine q_e (q_e (q_bx (q_n (k8 _ _ ?_))))
 refine sx_seq fun K25 k25 => sx_region ?_
 refine av rfl rfl (wl_nil (q_n (k25 _ _ ?_)))
 refine sx_retc ?_
 refine sx_ret1 Tryd.results88 rfl ?_
 have e1 : k = 0 := by omega
 subst e1
 have e2 : zs = ys := by simpa using he
 subst e2
 exact ⟨iEq (cmpL_self zs).symm, cwl10⟩

theorem c_natSub {w : World} {va : Value} {lva uva : Nat} {m : Nat} {vb : Value} {lvb uvb : Nat} {n : Nat} (hva : Sl w lva uva va (dg m)) (hvb : Sl w lvb uvb vb (dg n)) (hbm : (dg m).length ≤ 1000) (hbn : (dg n).length ≤ 1000) (hle : n ≤ m) :
  Ret Tryd.prog 89 [va, vb] w fun v w' => ∃ s, v = s ∧ OwnI w' w.heap.size w'.heap.size s intT (dg (m - n)) ∧ Chg 0 0 w w' := by
 have hva0 := hva.fit
 have hvb0 := hvb.fit
 refine sx_enter Tryd.func89 rfl Tryd.ntmps89 (nbl rfl) ?_
 refine sx_seq fun K1 k1 => sx_region ?_
 refine av rfl rfl (wl_nil (q_n (k1 _ _ ?_)))
 refine sx_seq fun K2 k2 => sx_region ?_
 refine mv rfl rfl (sp rfl (px_len rfl Tryd.underlying22 hva0) ?_)
 refine sx_make (c := (dg m).length) rfl xelt22 (rfl) (rfl) (by omega) (by unfold maxLen; omega) (fun s3 ws3 fs3 cs3 ls3 => ?_)
 have ns3 := fs3.made
 have zws3 := cs3.size
 refine av rfl rfl (wl_nil (q_n (k2 _ _ ?_)))
 refine sx_seq fun K4 k4 => sx_region ?_
 refine av rfl rfl (wl_nil (q_n (k4 _ _ ?_)))
 refine sx_seq fun K5 k5 => ?_
 refine sx_seq fun K6 k6 => sx_region ?_
 refine mv rfl rfl ?_
 have f7 := hva0.ext cs3
 refine sp rfl (px_len rfl Tryd.underlying22 f7) ?_
 refine mv rfl rfl (wl_nil (q_n (k6 _ _ ?_)))
 refine sx_block ?_
 refine sx_loop (fun mm aa w' => ∃ (k : Nat) (os : List Int) (c : Nat), Agr 44 [(0, va), (1, vb), (5, s3), (6, .int .i64 ((c : Nat) : Int)), (13, .int .i64 (↑(dg m).length)), (14, .int .i64 ↑k)] aa ∧ Chg w.heap.size ws3.heap.size ws3 w' ∧ Own w' w.heap.size ws3.heap.size s3 intT os.length 1 (os.map (Value.int .i64)) ∧ (mm = (dg m).length - k) ∧ (os.length = (dg m).length) ∧ (Lm os) ∧ (c ≤ 1) ∧ (k ≤ (dg m).length) ∧ (vl ((dg m).take k) + Bs ^ k * c = vl (os.take k) + vl ((dg n).take k))) (_) (fun a ha => ⟨0, List.replicate (dg m).length 0, 0, ha.sub (Sub.c 0 rfl (.c 1 rfl (.c 5 rfl (.c 6 (look_int (t := 6) rfl (by first | omega | simp)) (.c 13 (look_int (t := 13) rfl (by first | omega | simp)) (.c 14 (look_int (t := 14) rfl (by first | omega | simp)) .nil)))))), Chg.refl _ _ _, (ns3.mono (by omega) (by omega)), rfl, by simp, Lm.replicate _, by omega, by omega, by simp [vl]⟩) ?_
 rintro mm aa wl8 ⟨k, os, c, hAwl8, cwl8, hs_s3, hm, hos, hlm, hc, hk, hv⟩
 refine (show cw Tryd.prog 44 _ _ _ wl8 from ?_) aa hAwl8
 clear hAwl8
 have zwl8 := cwl8.size
 have am := (Lm_dg m).getD k
 have bn := (Lm_dg n).getD k
 refine sx_seq fun K9 k9 => sx_region ?_
 refine sp rfl (px_lt rfl rfl) ?_
 refine wl_nil (q_n (k9 _ _ ?_))
 refine sx_seq fun K10 k10 => ?_
 refine sx_condP rfl (fun h122 => ?_) (fun h122 => ?_)
 ·
  refine sx_skip ?_
  refine q_n (k10 _ _ ?_)
  refine sx_seq fun K11 k11 => ?_
  refine sx_block ?_
  refine sx_seq fun K12 k12 => sx_region ?_
  refine mv rfl rfl (av rfl rfl (wl_nil (q_n (k12 _ _ ?_))))
  refine sx_seq fun K13 k13 => sx_region ?_
  refine mv rfl rfl (mv rfl rfl ?_)
  have f14 := f7.chg cwl8 (by omega)
  refine sp rfl (px_index1 (j := k) rfl rfl (by omega) Tryd.underlying22 Tryd.sizeOf3 f14 (by omega)) ?_
  refine sp rfl (px_load rfl (f14.load1 (at_int (by omega)) Tryd.isAgg3)) ?_
  refine mv rfl rfl (sp rfl (px_sub rfl rfl (by omega)) ?_)
  refine av rfl rfl (wl_nil (q_n (k13 _ _ ?_)))
  refine sx_sub (Sub.c 0 rfl (.c 1 rfl (.c 5 rfl (.c 6 rfl (.c 7 rfl (.c 8 rfl (.c 13 rfl (.c 14 rfl .nil)))))))) ?_
  refine sx_seq fun K15 k15 => ?_
  refine sx_seq fun K16 k16 => sx_region ?_
  refine mv rfl rfl (mv rfl rfl ?_)
  have f17 := hvb0.ext cs3
  have f18 := f17.chg cwl8 (by omega)
  refine sp rfl (px_len rfl Tryd.underlying22 f18) ?_
  refine sp rfl (px_lt rfl rfl) ?_
  refine wl_nil (q_n (k16 _ _ ?_))
  refine sx_condP rfl (fun h124 => ?_) (fun h124 => ?_)
  ·
   refine sx_region ?_
   refine mv rfl rfl (mv rfl rfl (mv rfl rfl (sp rfl (px_index1 (j := k) rfl rfl (by omega) Tryd.underlying22 Tryd.sizeOf3 f18 (by omega)) ?_)))
   refine sp rfl (px_load rfl (f18.load1 (at_int (by omega)) Tryd.isAgg3)) ?_
   refine sp rfl (px_sub rfl rfl (by omega)) ?_
   refine av rfl rfl (wl_nil (q_n (k15 _ _ ?_)))
   refine sx_sub (Sub.c 0 rfl (.c 1 rfl (.c 5 rfl (.c 6 rfl (.c 7 rfl (.c 8 rfl (.c 13 rfl (.c 14 rfl .nil)))))))) ?_
   refine sx_seq fun K19 k19 => sx_region ?_
   refine av rfl rfl (wl_nil (q_n (k19 _ _ ?_)))
   refine sx_seq fun K20 k20 => ?_
   refine sx_seq fun K21 k21 => sx_region ?_
   refine mv rfl rfl (sp rfl (px_lt rfl rfl) ?_)
   refine wl_nil (q_n (k21 _ _ ?_))
   refine sx_condP rfl (fun h128 => ?_) (fun h128 => ?_)
   ·
    refine sx_seq fun K22 k22 => sx_region ?_
    refine mv rfl rfl (sp rfl (px_add rfl rfl (by omega)) ?_)
    refine av rfl rfl (wl_nil (q_n (k22 _ _ ?_)))
    refine sx_region ?_
    refine av rfl rfl (wl_nil (q_n (k20 _ _ ?_)))
    refine sx_region ?_
    refine mv rfl rfl (mv rfl rfl (mv rfl rfl (sp rfl (px_index1 (j := k) rfl rfl (by omega) Tryd.underlying22 Tryd.sizeOf3 hs_s3.sv (by omega)) ?_)))
    refine sx_storeO rfl rfl hs_s3 (by first | omega | (simp only [List.length_map]; omega)) Tryd.sizeOf3 rfl (fun w23 sw23 fw23 cw23 => ?_)
    have zw23 := cw23.size
    have nw23 := fw23.set
    refine wl_nil ?_
    refine q_bn (q_n (k11 _ _ ?_))
    refine sx_sub (Sub.c 0 rfl (.c 1 rfl (.c 5 rfl (.c 6 rfl (.c 13 rfl (.c 14 rfl .nil)))))) ?_
    refine sx_region ?_
    refine sp rfl (px_add rfl rfl (by omega)) ?_
    refine mv rfl rfl (wl_nil ?_)
    have q24 := Chg.step (l := w.heap.size) (h := ws3.heap.size) cwl8 cw23 (by omega)
    have hs : ((dg m).getD k 0).toNat + Bs * 1 = ((dg n).getD k 0).toNat + c + ((((((dg m).getD k 0) - ((c : Nat) : Int)) - ((dg n).getD k 0)) + 1000000000) : Int).toNat := by simp only [Bs]; omega
    have hv2 : vl ((dg m).take (k + 1)) + Bs ^ (k + 1) * 1 = vl ((os.set k ((((((dg m).getD k 0) - ((c : Nat) : Int)) - ((dg n).getD k 0)) + 1000000000))).take (k + 1)) + vl ((dg n).take (k + 1)) := by
     rw [vl_take_set (by omega), vl_take_succ', vl_take_succ', Nat.pow_succ]
     exact sub_step hs hv
    exact fun a ha => ⟨_, by omega, (k + 1), ((os).set k (((((dg m).getD k 0) - ((c : Nat) : Int)) - ((dg n).getD k 0)) + 1000000000)), 1, ha.sub (Sub.c 0 rfl (.c 1 rfl (.c 5 rfl (.c 6 (look_int (t := 6) rfl (by first | omega | simp)) (.c 13 rfl (.c 14 (look_int (t := 14) rfl (by first | omega | simp)) .nil)))))), q24, (nw23.mono (by omega) (by omega)), rfl, by simp [hos], hlm.set k (by omega) (by omega), by omega, by omega, hv2⟩
   refine sx_skip ?_
   refine q_n (k20 _ _ ?_)
   refine sx_region ?_
   refine mv rfl rfl (mv rfl rfl (mv rfl rfl (sp rfl (px_index1 (j := k) rfl rfl (by omega) Tryd.underlying22 Tryd.sizeOf3 hs_s3.sv (by omega)) ?_)))
   refine sx_storeO rfl rfl hs_s3 (by first | omega | (simp only [List.length_map]; omega)) Tryd.sizeOf3 rfl (fun w25 sw25 fw25 cw25 => ?_)
   have zw25 := cw25.size
   have nw25 := fw25.set
   refine wl_nil ?_
   refine q_bn (q_n (k11 _ _ ?_))
   refine sx_region ?_
   refine sp rfl (px_add rfl rfl (by omega)) ?_
   refine mv rfl rfl (wl_nil ?_)
   have q26 := Chg.step (l := w.heap.size) (h := ws3.heap.size) cwl8 cw25 (by omega)
   have hs : ((dg m).getD k 0).toNat + Bs * 0 = ((dg n).getD k 0).toNat + c + (((((dg m).getD k 0) - ((c : Nat) : Int)) - ((dg n).getD k 0)) : Int).toNat := by simp only [Bs]; omega
   have hv2 : vl ((dg m).take (k + 1)) + Bs ^ (k + 1) * 0 = vl ((os.set k (((((dg m).getD k 0) - ((c : Nat) : Int)) - ((dg n).getD k 0)))).take (k + 1)) + vl ((dg n).take (k + 1)) := by
    rw [vl_take_set (by omega), vl_take_succ', vl_take_succ', Nat.pow_succ]
    exact sub_step hs hv
   exact fun a ha => ⟨_, by omega, (k + 1), ((os).set k ((((dg m).getD k 0) - ((c : Nat) : Int)) - ((dg n).getD k 0))), 0, ha.sub (Sub.c 0 rfl (.c 1 rfl (.c 5 rfl (.c 6 (look_int (t := 6) rfl (by first | omega | simp)) (.c 13 rfl (.c 14 (look_int (t := 14) rfl (by first | omega | simp)) .nil)))))), q26, (nw25.mono (by omega) (by omega)), rfl, by simp [hos], hlm.set k (by omega) (by omega), by omega, by omega, hv2⟩
  have gn := getD_ge (zs := dg n) (k := k) (by omega)
  refine sx_skip ?_
  refine q_n (k15 _ _ ?_)
  refine sx_seq fun K27 k27 => sx_region ?_
  refine av rfl rfl (wl_nil (q_n (k27 _ _ ?_)))
  refine sx_seq fun K28 k28 => ?_
  refine sx_seq fun K29 k29 => sx_region ?_
  refine mv rfl rfl (sp rfl (px_lt rfl rfl) ?_)
  refine wl_nil (q_n (k29 _ _ ?_))
  refine sx_condP rfl (fun h128 => ?_) (fun h128 => ?_)
  ·
   refine sx_seq fun K30 k30 => sx_region ?_
   refine mv rfl rfl (sp rfl (px_add rfl rfl (by omega)) ?_)
   refine av rfl rfl (wl_nil (q_n (k30 _ _ ?_)))
   refine sx_sub (Sub.c 0 rfl (.c 1 rfl (.c 5 rfl (.c 6 rfl (.c 7 rfl (.c 8 rfl (.c 13 rfl (.c 14 rfl .nil)))))))) ?_
   refine sx_region ?_
   refine av rfl rfl (wl_nil (q_n (k28 _ _ ?_)))
   refine sx_region ?_
   refine mv rfl rfl (mv rfl rfl (mv rfl rfl (sp rfl (px_index1 (j := k) rfl rfl (by omega) Tryd.underlying22 Tryd.sizeOf3 hs_s3.sv (by omega)) ?_)))
   refine sx_storeO rfl rfl hs_s3 (by first | omega | (simp only [List.length_map]; omega)) Tryd.sizeOf3 rfl (fun w31 sw31 fw31 cw31 => ?_)
   have zw31 := cw31.size
   have nw31 := fw31.set
   refine wl_nil ?_
   refine q_bn (q_n (k11 _ _ ?_))
   refine sx_region ?_
   refine sp rfl (px_add rfl rfl (by omega)) ?_
   refine mv rfl rfl (wl_nil ?_)
   have q32 := Chg.step (l := w.heap.size) (h := ws3.heap.size) cwl8 cw31 (by omega)
   have hs : ((dg m).getD k 0).toNat + Bs * 1 = ((dg n).getD k 0).toNat + c + (((((dg m).getD k 0) - ((c : Nat) : Int)) + 1000000000) : Int).toNat := by simp only [Bs]; omega
   have hv2 : vl ((dg m).take (k + 1)) + Bs ^ (k + 1) * 1 = vl ((os.set k (((((dg m).getD k 0) - ((c : Nat) : Int)) + 1000000000))).take (k + 1)) + vl ((dg n).take (k + 1)) := by
    rw [vl_take_set (by omega), vl_take_succ', vl_take_succ', Nat.pow_succ]
    exact sub_step hs hv
   exact fun a ha => ⟨_, by omega, (k + 1), ((os).set k ((((dg m).getD k 0) - ((c : Nat) : Int)) + 1000000000)), 1, ha.sub (Sub.c 0 rfl (.c 1 rfl (.c 5 rfl (.c 6 (look_int (t := 6) rfl (by first | omega | simp)) (.c 13 rfl (.c 14 (look_int (t := 14) rfl (by first | omega | simp)) .nil)))))), q32, (nw31.mono (by omega) (by omega)), rfl, by simp [hos], hlm.set k (by omega) (by omega), by omega, by omega, hv2⟩
  refine sx_skip ?_
  refine q_n (k28 _ _ ?_)
  refine sx_region ?_
  refine mv rfl rfl (mv rfl rfl (mv rfl rfl (sp rfl (px_index1 (j := k) rfl rfl (by omega) Tryd.underlying22 Tryd.sizeOf3 hs_s3.sv (by omega)) ?_)))
  refine sx_storeO rfl rfl hs_s3 (by first | omega | (simp only [List.length_map]; omega)) Tryd.sizeOf3 rfl (fun w33 sw33 fw33 cw33 => ?_)
  have zw33 := cw33.size
  have nw33 := fw33.set
  refine wl_nil ?_
  refine q_bn (q_n (k11 _ _ ?_))
  refine sx_sub (Sub.c 0 rfl (.c 1 rfl (.c 5 rfl (.c 6 rfl (.c 13 rfl (.c 14 rfl .nil)))))) ?_
  refine sx_region ?_
  refine sp rfl (px_add rfl rfl (by omega)) ?_
  refine mv rfl rfl (wl_nil ?_)
  have q34 := Chg.step (l := w.heap.size) (h := ws3.heap.size) cwl8 cw33 (by omega)
  have hs : ((dg m).getD k 0).toNat + Bs * 0 = ((dg n).getD k 0).toNat + c + ((((dg m).getD k 0) - ((c : Nat) : Int)) : Int).toNat := by simp only [Bs]; omega
  have hv2 : vl ((dg m).take (k + 1)) + Bs ^ (k + 1) * 0 = vl ((os.set k ((((dg m).getD k 0) - ((c : Nat) : Int)))).take (k + 1)) + vl ((dg n).take (k + 1)) := by
   rw [vl_take_set (by omega), vl_take_succ', vl_take_succ', Nat.pow_succ]
   exact sub_step hs hv
  exact fun a ha => ⟨_, by omega, (k + 1), ((os).set k (((dg m).getD k 0) - ((c : Nat) : Int))), 0, ha.sub (Sub.c 0 rfl (.c 1 rfl (.c 5 rfl (.c 6 (look_int (t := 6) rfl (by first | omega | simp)) (.c 13 rfl (.c 14 (look_int (t := 14) rfl (by first | omega | simp)) .nil)))))), q34, (nw33.mono (by omega) (by omega)), rfl, by simp [hos], hlm.set k (by omega) (by omega), by omega, by omega, hv2⟩
 refine sx_exit ?_
 refine q_e (q_e (q_bx (q_n (k5 _ _ ?_))))
 refine sx_seq fun K35 k35 => ?_
 have ek : k = (dg m).length := by omega
 have hnm := len_le hle
 subst ek
 rw [List.take_length, vl_dg, vl_take_ge (show (dg n).length ≤ (dg m).length from hnm), vl_dg, ← hos, List.take_length] at hv
 have hend := sub_end hv hle (vl_lt hlm) hc
 have hvv := hend.2
 have hz := hlm
 refine sx_region ?_
 refine mv rfl rfl (sx_call rfl rfl Tryd.call104 (c_trim hs_s3 (by assumption) (by first | omega | (simp only [List.length_append, List.length_set, List.length_replicate, List.length_cons, List.length_nil] at *; omega))) (fun v36 w36 p36 => ?_))
 obtain ⟨s36, rfl, os_36, c36⟩ := p36
 have zw36 := c36.size
 refine av rfl rfl (wl_nil (q_n (k35 _ _ ?_)))
 refine sx_retc ?_
 refine sx_ret1 Tryd.results89 rfl ?_
 have hr := os_36
 rw [hvv] at hr
 have q37 := Chg.step (l := 0) (h := 0) (Chg.zero (l := 0) (h := 0) cs3) cwl8 (by omega)
 have q38 := Chg.step (l := 0) (h := 0) q37 c36 (by omega)
 exact ⟨_, rfl, hr.mono (by omega) (by omega), q38⟩

theorem c_intAdd {w : World} {va : Value} {lva uva : Nat} {x : Int} {vb : Value} {lvb uvb : Nat} {y : Int} (hva : Sl w lva uva va (dg x.natAbs)) (hvb : Sl w lvb uvb vb (dg y.natAbs)) (hbx : (dg x.natAbs).length ≤ 1000) (hby : (dg y.natAbs).length ≤ 1000) :
  Ret Tryd.prog 51 [.agg #[.bool (ng x), va], .agg #[.bool (ng y), vb]] w fun v w' => ∃ s, v = .agg #[.bool (ng (x + y)), s] ∧ OwnI w' w.heap.size w'.heap.size s intT (dg (x + y).natAbs) ∧ Chg 0 0 w w' := by
 have hva0 := hva.fit
 have hvb0 := hvb.fit
 have l2 := len_add x.natAbs y.natAbs
 have l3 := len_le (Nat.sub_le x.natAbs y.natAbs)
 have l4 := len_le (Nat.sub_le y.natAbs x.natAbs)
 refine sx_enter Tryd.func51 rfl Tryd.ntmps51 (nbl rfl) ?_
 refine sx_seq fun K1 k1 => sx_region ?_
 refine sx_box [.bool (ng x), va] rfl rfl rfl (fun b2 w3 eb2 sb2 fb2 cb2 => ?_)
 have zw3 := cb2.size
 refine sx_box [.bool (ng y), vb] rfl rfl rfl (fun b4 w5 eb4 sb4 fb4 cb4 => ?_)
 have zw5 := cb4.size
 refine sx_alloc [.bool false, (.slice none 0 0)] rfl Tryd.zeroValue24 rfl (fun b6 w7 eb6 sb6 fb6 cb6 => ?_)
 have zw7 := cb6.size
 refine wl_nil (q_n (k1 _ _ ?_))
 refine sx_seq fun K8 k8 => ?_
 refine sx_seq fun K9 k9 => sx_region ?_
 refine sp rfl (px_field rfl xfld24x0) ?_
 have f10 := fb2.ext cb4
 have f11 := f10.ext cb6
 refine sp rfl (px_load rfl (f11.load1 rfl Tryd.isAgg4)) ?_
 refine sp rfl (px_field rfl xfld24x0) ?_
 have f12 := fb4.ext cb6
 refine sp rfl (px_load rfl (f12.load1 rfl Tryd.isAgg4)) ?_
 refine sp rfl (px_eqB Tryd.underlying4 rfl rfl) ?_
 refine wl_nil (q_n (k9 _ _ ?_))
 refine sx_condB rfl (fun h46 => ?_) (fun h46 => ?_)
 ·
  refine sx_seq fun K13 k13 => ?_
  have f14 := hva0.ext cb2
  have f15 := f14.ext cb4
  have f16 := f15.ext cb6
  have f17 := hvb0.ext cb2
  have f18 := f17.ext cb4
  have f19 := f18.ext cb6
  refine dx_region (fun w' => Chg b6 (b6 + 1) w7 w') (by kernel_rfl) (Chg.zero (Chg.drew _)) ?_
  have d20 := Chg.drew w7
  have s20 : Chg b6 (b6 + 1) w7 (World.drew w7) := Chg.zero (Chg.drew _)
  have y20 : (World.drew w7).heap.size = w7.heap.size := rfl
  generalize World.drew w7 = w20 at *
  have zw20 := d20.size
  refine dt 0 rfl rfl rfl rfl s20 (fun _ hS => px_field rfl xfld24x0) ?_
  refine dt 1 rfl rfl rfl rfl s20 (fun _ hS => px_load rfl ((f11.chg hS (by omega)).load1 rfl Tryd.isAgg4)) ?_
  refine dt 2 rfl rfl rfl rfl s20 (fun _ hS => px_field rfl xfld24x1) ?_
  refine dt 3 rfl rfl rfl rfl s20 (fun _ hS => px_load rfl ((f11.chg hS (by omega)).load1 rfl Tryd.isAgg22)) ?_
  refine dt 4 rfl rfl rfl rfl s20 (fun _ hS => px_field rfl xfld24x1) ?_
  refine dt 5 rfl rfl rfl rfl s20 (fun _ hS => px_load rfl ((f12.chg hS (by omega)).load1 rfl Tryd.isAgg22)) ?_
  refine dx_eff 6 rfl (by kernel_rfl) ?_
  have f21 := f16.ext d20
  have f22 := f19.ext d20
  refine sx_call rfl rfl Tryd.call87 (c_natAdd f21 f22 (by omega) (by omega)) (fun v23 w23 p23 => ?_)
  obtain ⟨s23, rfl, os_23, c23⟩ := p23
  have zw23 := c23.size
  have s24 : Chg b6 (b6 + 1) w7 w23 := (Chg.zero (l := b6) (h := (b6 + 1)) (d20.t c23))
  refine wl_nil ?_
  refine dx_next s24 ?_
  refine dx_eff 7 rfl (by kernel_rfl) ?_
  refine sx_call rfl rfl Tryd.call69 (c_signed os_23.sv (by omega)) (fun v25 w25 p25 => ?_)
  obtain ⟨rfl, c25⟩ := p25
  have zw25 := c25.size
  have s26 : Chg b6 (b6 + 1) w7 w25 := (Chg.zero (l := b6) (h := (b6 + 1)) ((d20.t c23).t c25))
  refine wl_nil ?_
  refine dx_next s26 ?_
  refine dx_eff 8 rfl (by kernel_rfl) ?_
  have f30 := ((fb6.ext d20).ext c23).ext c25
  have f31 := os_23.ext c25
  refine sx_store (vs := [.bool (nz (ng x) (dg (x.natAbs + y.natAbs))), v23]) rfl rfl f30 rfl Tryd.sizeOf24 (nbl rfl) (one_cons rfl (one_cons f31.one one_nil)) (fun w27 sw27 fw27 cw27 => ?_)
  have zw27 := cw27.size
  have gw27 : Blk w27 b6 [.bool (nz (ng x) (dg (x.natAbs + y.natAbs))), v23] 24 := fw27
  have q33 := Chg.step (l := b6) (h := (b6 + 1)) (Chg.zero (l := b6) (h := (b6 + 1)) ((d20.t c23).t c25)) cw27 (by omega)
  have s32 : Chg b6 (b6 + 1) w7 w27 := q33
  refine wl_nil ?_
  refine dx_next s32 ?_
  refine dx_done (by kernel_rfl) ?_
  refine q_n (k13 _ _ ?_)
  refine sx_sub (Sub.c 2 rfl (.c 3 rfl (.c 4 rfl .nil))) ?_
  refine sx_retc ?_
  refine q_r (sx_ret1 Tryd.results51 ⟨_, rfl, gw27.loadA (vs := [.bool (nz (ng x) (dg (x.natAbs + y.natAbs))), v23]) (look_lit rfl) Tryd.isAgg24 Tryd.sizeOf24⟩ ?_)
  have hh := add_sg h46
  rw [← hh.1, ← hh.2]
  have f34 := f31.chg cw27 (by omega)
  have q35 := Chg.step (l := 0) (h := 0) (Chg.zero (l := 0) (h := 0) (((((cb2.t cb4).t cb6).t d20).t c23).t c25)) cw27 (by omega)
  exact ⟨_, rfl, (Own.mono f34 (by omega) (by omega)), q35⟩
 refine sx_skip ?_
 refine q_n (k8 _ _ ?_)
 refine sx_seq fun K36 k36 => ?_
 refine sx_seq fun K37 k37 => sx_region ?_
 refine sp rfl (px_field rfl xfld24x1) ?_
 refine sp rfl (px_load rfl (f11.load1 rfl Tryd.isAgg22)) ?_
 refine sp rfl (px_field rfl xfld24x1) ?_
 refine sp rfl (px_load rfl (f12.load1 rfl Tryd.isAgg22)) ?_
 have f38 := hva0.ext cb2
 have f39 := f38.ext cb4
 have f40 := f39.ext cb6
 have f41 := hvb0.ext cb2
 have f42 := f41.ext cb4
 have f43 := f42.ext cb6
 refine sx_call rfl rfl Tryd.call88 (c_natCmp f40 f43 (by omega)) (fun v44 w44 p44 => ?_)
 obtain ⟨rfl, c44⟩ := p44
 have zw44 := c44.size
 refine sp rfl (px_lt rfl rfl) ?_
 refine wl_nil (q_n (k37 _ _ ?_))
 refine sx_sub (Sub.c 2 rfl (.c 3 rfl (.c 4 rfl (.c 23 rfl .nil)))) ?_
 refine sx_condP rfl (fun h49 => ?_) (fun h49 => ?_)
 ·
  rw [cmpL_dg] at h49
  have hlt := cmpN_neg.1 h49
  refine sx_region ?_
  have f45 := f12.ext c44
  refine sp rfl (px_load rfl (f45.loadA (vs := [.bool (ng y), vb]) (look_lit rfl) Tryd.isAgg24 Tryd.sizeOf24)) ?_
  have f46 := f11.ext c44
  refine sp rfl (px_load rfl (f46.loadA (vs := [.bool (ng x), va]) (look_lit rfl) Tryd.isAgg24 Tryd.sizeOf24)) ?_
  have f48 := f43.ext c44
  refine sx_store (vs := [.bool (ng y), vb]) rfl rfl f46 rfl Tryd.sizeOf24 (nbl rfl) (one_cons rfl (one_cons f48.one one_nil)) (fun w47 sw47 fw47 cw47 => ?_)
  have zw47 := cw47.size
  have gw47 : Blk w47 b2 [.bool (ng y), vb] 24 := fw47
  have f50 := f45.chg cw47 (by omega)
  have f52 := (f40.ext c44).chg cw47 (by omega)
  refine sx_store (vs := [.bool (ng x), va]) rfl rfl f50 rfl Tryd.sizeOf24 (nbl rfl) (one_cons rfl (one_cons f52.one one_nil)) (fun w49 sw49 fw49 cw49 => ?_)
  have zw49 := cw49.size
  have gw49 : Blk w49 b4 [.bool (ng x), va] 24 := fw49
  refine wl_nil (q_n (k36 _ _ ?_))
  refine sx_seq fun K53 k53 => ?_
  have f54 := gw47.chg cw49 (by omega)
  have f55 := f52.chg cw49 (by omega)
  have f56 := f48.chg cw47 (by omega)
  have f57 := f56.chg cw49 (by omega)
  refine dx_region (fun w' => Chg b6 (b6 + 1) w49 w') (by kernel_rfl) (Chg.zero (Chg.drew _)) ?_
  have d58 := Chg.drew w49
  have s58 : Chg b6 (b6 + 1) w49 (World.drew w49) := Chg.zero (Chg.drew _)
  have y58 : (World.drew w49).heap.size = w49.heap.size := rfl
  generalize World.drew w49 = w58 at *
  have zw58 := d58.size
  refine dt 0 rfl rfl rfl rfl s58 (fun _ hS => px_field rfl xfld24x0) ?_
  refine dt 1 rfl rfl rfl rfl s58 (fun _ hS => px_load rfl ((f54.chg hS (by omega)).load1 rfl Tryd.isAgg4)) ?_
  refine dt 2 rfl rfl rfl rfl s58 (fun _ hS => px_field rfl xfld24x1) ?_
  refine dt 3 rfl rfl rfl rfl s58 (fun _ hS => px_load rfl ((f54.chg hS (by omega)).load1 rfl Tryd.isAgg22)) ?_
  refine dt 4 rfl rfl rfl rfl s58 (fun _ hS => px_field rfl xfld24x1) ?_
  refine dt 5 rfl rfl rfl rfl s58 (fun _ hS => px_load rfl ((gw49.chg hS (by omega)).load1 rfl Tryd.isAgg22)) ?_
  refine dx_eff 6 rfl (by kernel_rfl) ?_
  have f59 := f57.ext d58
  have f60 := f55.ext d58
  refine sx_call rfl rfl Tryd.call89 (c_natSub f59 f60 (by omega) (by omega) (by omega)) (fun v61 w61 p61 => ?_)
  obtain ⟨s61, rfl, os_61, c61⟩ := p61
  have zw61 := c61.size
  have s62 : Chg b6 (b6 + 1) w49 w61 := (Chg.zero (l := b6) (h := (b6 + 1)) (d58.t c61))
  refine wl_nil ?_
  refine dx_next s62 ?_
  refine dx_eff 7 rfl (by kernel_rfl) ?_
  refine sx_call rfl rfl Tryd.call69 (c_signed os_61.sv (by omega)) (fun v63 w63 p63 => ?_)
  obtain ⟨rfl, c63⟩ := p63
  have zw63 := c63.size
  have s64 : Chg b6 (b6 + 1) w49 w63 := (Chg.zero (l := b6) (h := (b6 + 1)) ((d58.t c61).t c63))
  refine wl_nil ?_
  refine dx_next s64 ?_
  refine dx_eff 8 rfl (by kernel_rfl) ?_
  have f67 := (fb6.ext c44).chg cw47 (by omega)
  have f68 := f67.chg cw49 (by omega)
  have f71 := ((f68.ext d58).ext c61).ext c63
  have f72 := os_61.ext c63
  refine sx_store (vs := [.bool (nz (ng y) (dg (y.natAbs - x.natAbs))), v61]) rfl rfl f71 rfl Tryd.sizeOf24 (nbl rfl) (one_cons rfl (one_cons f72.one one_nil)) (fun w65 sw65 fw65 cw65 => ?_)
  have zw65 := cw65.size
  have gw65 : Blk w65 b6 [.bool (nz (ng y) (dg (y.natAbs - x.natAbs))), v61] 24 := fw65
  have q74 := Chg.step (l := b6) (h := (b6 + 1)) (Chg.zero (l := b6) (h := (b6 + 1)) ((d58.t c61).t c63)) cw65 (by omega)
  have s73 : Chg b6 (b6 + 1) w49 w65 := q74
  refine wl_nil ?_
  refine dx_next s73 ?_
  refine dx_done (by kernel_rfl) ?_
  refine q_n (k53 _ _ ?_)
  refine sx_retc ?_
  refine sx_ret1 Tryd.results51 ⟨_, rfl, gw65.loadA (vs := [.bool (nz (ng y) (dg (y.natAbs - x.natAbs))), v61]) (look_lit rfl) Tryd.isAgg24 Tryd.sizeOf24⟩ ?_
  have hh := (sub_sg2 h46 (by omega))
  rw [← hh.1, ← hh.2]
  have f75 := f72.chg cw65 (by omega)
  have q76 := Chg.step (l := 0) (h := 0) (Chg.zero (l := 0) (h := 0) (((cb2.t cb4).t cb6).t c44)) cw47 (by omega)
  have q77 := Chg.step (l := 0) (h := 0) q76 cw49 (by omega)
  have q78 := Chg.step (l := 0) (h := 0) q77 ((d58.t c61).t c63) (by omega)
  have q79 := Chg.step (l := 0) (h := 0) q78 cw65 (by omega)
  exact ⟨_, rfl, (Own.mono f75 (by omega) (by omega)), q79⟩
 rw [cmpL_dg] at h49
 have hge := cmpN_nonneg.1 (Int.not_lt.1 h49)
 refine sx_skip ?_
 refine q_n (k36 _ _ ?_)
 refine sx_seq fun K80 k80 => ?_
 have f81 := f11.ext c44
 have f82 := f12.ext c44
 refine dx_region (fun w' => Chg b6 (b6 + 1) w44 w') (by kernel_rfl) (Chg.zero (Chg.drew _)) ?_
 have d85 := Chg.drew w44
 have s85 : Chg b6 (b6 + 1) w44 (World.drew w44) := Chg.zero (Chg.drew _)
 have y85 : (World.drew w44).heap.size = w44.heap.size := rfl
 generalize World.drew w44 = w85 at *
 have zw85 := d85.size
 refine dt 0 rfl rfl rfl rfl s85 (fun _ hS => px_field rfl xfld24x0) ?_
 refine dt 1 rfl rfl rfl rfl s85 (fun _ hS => px_load rfl ((f81.chg hS (by omega)).load1 rfl Tryd.isAgg4)) ?_
 refine dt 2 rfl rfl rfl rfl s85 (fun _ hS => px_field rfl xfld24x1) ?_
 refine dt 3 rfl rfl rfl rfl s85 (fun _ hS => px_load rfl ((f81.chg hS (by omega)).load1 rfl Tryd.isAgg22)) ?_
 refine dt 4 rfl rfl rfl rfl s85 (fun _ hS => px_field rfl xfld24x1) ?_
 refine dt 5 rfl rfl rfl rfl s85 (fun _ hS => px_load rfl ((f82.chg hS (by omega)).load1 rfl Tryd.isAgg22)) ?_
 refine dx_eff 6 rfl (by kernel_rfl) ?_
 have f86 := (f40.ext c44).ext d85
 have f87 := (f43.ext c44).ext d85
 refine sx_call rfl rfl Tryd.call89 (c_natSub f86 f87 (by omega) (by omega) (by omega)) (fun v88 w88 p88 => ?_)
 obtain ⟨s88, rfl, os_88, c88⟩ := p88
 have zw88 := c88.size
 have s89 : Chg b6 (b6 + 1) w44 w88 := (Chg.zero (l := b6) (h := (b6 + 1)) (d85.t c88))
 refine wl_nil ?_
 refine dx_next s89 ?_
 refine dx_eff 7 rfl (by kernel_rfl) ?_
 refine sx_call rfl rfl Tryd.call69 (c_signed os_88.sv (by omega)) (fun v90 w90 p90 => ?_)
 obtain ⟨rfl, c90⟩ := p90
 have zw90 := c90.size
 have s91 : Chg b6 (b6 + 1) w44 w90 := (Chg.zero (l := b6) (h := (b6 + 1)) ((d85.t c88).t c90))
 refine wl_nil ?_
 refine dx_next s91 ?_
 refine dx_eff 8 rfl (by kernel_rfl) ?_
 have f96 := (((fb6.ext c44).ext d85).ext c88).ext c90
 have f97 := os_88.ext c90
 refine sx_store (vs := [.bool (nz (ng x) (dg (x.natAbs - y.natAbs))), v88]) rfl rfl f96 rfl Tryd.sizeOf24 (nbl rfl) (one_cons rfl (one_cons f97.one one_nil)) (fun w92 sw92 fw92 cw92 => ?_)
 have zw92 := cw92.size
 have gw92 : Blk w92 b6 [.bool (nz (ng x) (dg (x.natAbs - y.natAbs))), v88] 24 := fw92
 have q99 := Chg.step (l := b6) (h := (b6 + 1)) (Chg.zero (l := b6) (h := (b6 + 1)) ((d85.t c88).t c90)) cw92 (by omega)
 have s98 : Chg b6 (b6 + 1) w44 w92 := q99
 refine wl_nil ?_
 refine dx_next s98 ?_
 refine dx_done (by kernel_rfl) ?_
 refine q_n (k80 _ _ ?_)
 refine sx_retc ?_
 refine sx_ret1 Tryd.results51 ⟨_, rfl, gw92.loadA (vs := [.bool (nz (ng x) (dg (x.natAbs - y.natAbs))), v88]) (look_lit rfl) Tryd.isAgg24 Tryd.sizeOf24⟩ ?_
 have hh := sub_sg h46 hge
 rw [← hh.1, ← hh.2]
 have f100 := f97.chg cw92 (by omega)
 have q101 := Chg.step (l := 0) (h := 0) (Chg.zero (l := 0) (h := 0) ((((((cb2.t cb4).t cb6).t c44).t d85).t c88).t c90)) cw92 (by omega)
 exact ⟨_, rfl, (Own.mono f100 (by omega) (by omega)), q101⟩

theorem c_moneyOf {w : World} {c : ByteArray} {va : Value} {lva uva : Nat} {x : Int} (hG0 : Glob w) (hva : OwnI w lva uva va intT (dg x.natAbs)) (hbx : (dg x.natAbs).length ≤ 1000) (hu : uva ≤ w.heap.size) :
  Ret Tryd.prog 50 [.string c, .agg #[.bool (ng x), va]] w fun v w' => ∃ s, v = .tuple #[.agg #[.string ((mR c x).1), .bool ((mR c x).2.1), s], .bool ((mR c x).2.2.2)] ∧ OwnI w' (lva) (uva) s intT ((mR c x).2.2.1) ∧ Chg 0 0 w w' := by
 refine sx_enter Tryd.func50 rfl Tryd.ntmps50 (nbl rfl) ?_
 refine sx_seq fun K1 k1 => sx_region ?_
 refine sx_box [.bool (ng x), va] rfl rfl rfl (fun b2 w3 eb2 sb2 fb2 cb2 => ?_)
 have zw3 := cb2.size
 refine sx_alloc [.string (⟨#[]⟩), .bool false, (.slice none 0 0)] rfl Tryd.zeroValue26 rfl (fun b4 w5 eb4 sb4 fb4 cb4 => ?_)
 have zw5 := cb4.size
 refine av rfl rfl (wl_nil (q_n (k1 _ _ ?_)))
 refine sx_seq fun K6 k6 => ?_
 refine sx_seq fun K7 k7 => sx_region ?_
 refine mv rfl rfl ?_
 have f8 := fb2.ext cb4
 refine sp rfl (px_load rfl (f8.loadA (vs := [.bool (ng x), va]) (look_lit rfl) Tryd.isAgg24 Tryd.sizeOf24)) ?_
 refine sp rfl (px_build rfl (xbld26x0x1 rfl _)) ?_
 refine sx_alloc [.string (⟨#[]⟩), .bool false, (.slice none 0 0)] rfl Tryd.zeroValue26 rfl (fun b9 w10 eb9 sb9 fb9 cb9 => ?_)
 have zw10 := cb9.size
 have f12 := hva.ext cb2
 have f13 := f12.ext cb4
 have f14 := f13.ext cb9
 refine sx_store (vs := [.string c, .bool (ng x), va]) rfl rfl fb9 rfl Tryd.sizeOf26 (nbl rfl) (one_cons rfl (one_cons rfl (one_cons f14.one one_nil))) (fun w11 sw11 fw11 cw11 => ?_)
 have zw11 := cw11.size
 have gw11 : Blk w11 b9 [.string c, .bool (ng x), va] 26 := fw11
 refine wl_nil (q_n (k7 _ _ ?_))
 refine sx_seq fun K15 k15 => sx_region ?_
 refine sp rfl (px_load rfl (gw11.loadA (vs := [.string c, .bool (ng x), va]) (look_lit rfl) Tryd.isAgg26 Tryd.sizeOf26)) ?_
 have f16 := hG0.ext cb2
 have f17 := f16.ext cb4
 have f18 := f17.ext cb9
 have f19 := f18.chg cw11 (by omega)
 have f20 := f14.chg cw11 (by omega)
 refine sx_call rfl rfl Tryd.call46 (c_iMoneyOk f19 f20.sv (by omega)) (fun v21 w21 p21 => ?_)
 obtain ⟨rfl, c21⟩ := p21
 have zw21 := c21.size
 refine wl_nil (q_n (k15 _ _ ?_))
 refine sx_condP rfl (fun h19 => ?_) (fun h19 => ?_)
 ·
  refine sx_seq fun K22 k22 => sx_region ?_
  have f23 := gw11.ext c21
  refine sp rfl (px_load rfl (f23.loadA (vs := [.string c, .bool (ng x), va]) (look_lit rfl) Tryd.isAgg26 Tryd.sizeOf26)) ?_
  have f25 := fb4.ext cb9
  have f26 := f25.chg cw11 (by omega)
  have f27 := f26.ext c21
  have f28 := f20.ext c21
  refine sx_store (vs := [.string c, .bool (ng x), va]) rfl rfl f27 rfl Tryd.sizeOf26 (nbl rfl) (one_cons rfl (one_cons rfl (one_cons f28.one one_nil))) (fun w24 sw24 fw24 cw24 => ?_)
  have zw24 := cw24.size
  have gw24 : Blk w24 b4 [.string c, .bool (ng x), va] 26 := fw24
  refine av rfl rfl (wl_nil (q_n (k22 _ _ ?_)))
  refine sx_retc ?_
  refine q_r (sx_ret2 Tryd.results50 ⟨_, rfl, gw24.loadA (vs := [.string c, .bool (ng x), va]) (look_lit rfl) Tryd.isAgg26 Tryd.sizeOf26⟩ rfl ?_)
  rw [mR_ok (by first | exact h19 | exact Decidable.not_not.1 h19)]
  have q29 := Chg.step (l := 0) (h := 0) (Chg.zero (l := 0) (h := 0) ((cb2.t cb4).t cb9)) cw11 (by omega)
  have q30 := Chg.step (l := 0) (h := 0) q29 c21 (by omega)
  have q31 := Chg.step (l := 0) (h := 0) q30 cw24 (by omega)
  have f32 := f28.chg cw24 (by omega)
  exact ⟨_, rfl, (Own.mono f32 (by omega) (by omega)), q31⟩
 refine sx_skip ?_
 refine q_n (k6 _ _ ?_)
 refine sx_seq fun K33 k33 => sx_region ?_
 refine sp rfl (px_build rfl (xbld26x  _)) ?_
 have f35 := fb4.ext cb9
 have f36 := f35.chg cw11 (by omega)
 have f37 := f36.ext c21
 refine sx_store (vs := [.string (⟨#[]⟩), .bool false, (.slice none 0 0)]) rfl rfl f37 rfl Tryd.sizeOf26 (nbl rfl) (o3 rfl rfl rfl) (fun w34 sw34 fw34 cw34 => ?_)
 have zw34 := cw34.size
 have gw34 : Blk w34 b4 [.string (⟨#[]⟩), .bool false, (.slice none 0 0)] 26 := fw34
 refine av rfl rfl (wl_nil (q_n (k33 _ _ ?_)))
 refine sx_retc ?_
 refine sx_ret2 Tryd.results50 ⟨_, rfl, gw34.loadA (vs := [.string (⟨#[]⟩), .bool false, (.slice none 0 0)]) (look_lit rfl) Tryd.isAgg26 Tryd.sizeOf26⟩ rfl ?_
 rw [mR_no (by first | exact h19 | assumption)]
 have q38 := Chg.step (l := 0) (h := 0) (Chg.zero (l := 0) (h := 0) ((cb2.t cb4).t cb9)) cw11 (by omega)
 have q39 := Chg.step (l := 0) (h := 0) q38 c21 (by omega)
 have q40 := Chg.step (l := 0) (h := 0) q39 cw34 (by omega)
 exact ⟨_, rfl, Own.nil _ _ _ _ _, q40⟩

theorem c_iMoneyAdd {w : World} {c1 : ByteArray} {n1 : Bool} {v1 : Value} {lv1 uv1 : Nat} {z1 : List Int} {c2 : ByteArray} {n2 : Bool} {v2 : Value} {lv2 uv2 : Nat} {z2 : List Int} (hG0 : Glob w) (hv1 : Sl w lv1 uv1 v1 (z1)) (hv2 : Sl w lv2 uv2 v2 (z2)) (h63 : z1.length ≤ 4611686018427387904 ∧ z2.length ≤ 4611686018427387904) :
  Ret Tryd.prog 18 [.agg #[.string c1, .bool n1, v1], .agg #[.string c2, .bool n2, v2]] w fun v w' => ∃ s, v = .tuple #[.agg #[.string ((mBin gAdd c1 n1 z1 c2 n2 z2).1), .bool ((mBin gAdd c1 n1 z1 c2 n2 z2).2.1), s], .bool ((mBin gAdd c1 n1 z1 c2 n2 z2).2.2.2)] ∧ OwnI w' w.heap.size w'.heap.size s intT ((mBin gAdd c1 n1 z1 c2 n2 z2).2.2.1) ∧ ((mBin gAdd c1 n1 z1 c2 n2 z2).2.2.1.length ≤ 4) ∧ Chg 0 0 w w' := by
 have hv10 := hv1.fit
 have hv20 := hv2.fit
 refine sx_enter Tryd.func18 rfl Tryd.ntmps18 (nbl rfl) ?_
 refine sx_seq fun K1 k1 => sx_region ?_
 refine sx_box [.string c1, .bool n1, v1] rfl rfl rfl (fun b2 w3 eb2 sb2 fb2 cb2 => ?_)
 have zw3 := cb2.size
 refine sx_box [.string c2, .bool n2, v2] rfl rfl rfl (fun b4 w5 eb4 sb4 fb4 cb4 => ?_)
 have zw5 := cb4.size
 refine sx_alloc [.string (⟨#[]⟩), .bool false, (.slice none 0 0)] rfl Tryd.zeroValue26 rfl (fun b6 w7 eb6 sb6 fb6 cb6 => ?_)
 have zw7 := cb6.size
 refine av rfl rfl (wl_nil (q_n (k1 _ _ ?_)))
 refine sx_seq fun K8 k8 => ?_
 refine sx_seq fun K9 k9 => sx_region ?_
 have f10 := fb2.ext cb4
 have f11 := f10.ext cb6
 refine sp rfl (px_load rfl (f11.loadA (vs := [.string c1, .bool n1, v1]) (look_lit rfl) Tryd.isAgg26 Tryd.sizeOf26)) ?_
 have f12 := fb4.ext cb6
 refine sp rfl (px_load rfl (f12.loadA (vs := [.string c2, .bool n2, v2]) (look_lit rfl) Tryd.isAgg26 Tryd.sizeOf26)) ?_
 have f13 := hG0.ext cb2
 have f14 := f13.ext cb4
 have f15 := f14.ext cb6
 have f16 := hv10.ext cb2
 have f17 := f16.ext cb4
 have f18 := f17.ext cb6
 have f19 := hv20.ext cb2
 have f20 := f19.ext cb4
 have f21 := f20.ext cb6
 refine sx_call rfl rfl Tryd.call49 (c_alike f15 f18 f21 (by omega)) (fun v22 w22 p22 => ?_)
 obtain ⟨rfl, c22⟩ := p22
 have zw22 := c22.size
 refine sp rfl (px_notP rfl) ?_
 refine wl_nil (q_n (k9 _ _ ?_))
 refine sx_condP rfl (fun h55 => ?_) (fun h55 => ?_)
 ·
  refine sx_seq fun K23 k23 => sx_region ?_
  refine sp rfl (px_build rfl (xbld26x  _)) ?_
  have f25 := fb6.ext c22
  refine sx_store (vs := [.string (⟨#[]⟩), .bool false, (.slice none 0 0)]) rfl rfl f25 rfl Tryd.sizeOf26 (nbl rfl) (o3 rfl rfl rfl) (fun w24 sw24 fw24 cw24 => ?_)
  have zw24 := cw24.size
  have gw24 : Blk w24 b6 [.string (⟨#[]⟩), .bool false, (.slice none 0 0)] 26 := fw24
  refine av rfl rfl (wl_nil (q_n (k23 _ _ ?_)))
  refine sx_retc ?_
  refine q_r (sx_ret2 Tryd.results18 ⟨_, rfl, gw24.loadA (vs := [.string (⟨#[]⟩), .bool false, (.slice none 0 0)]) (look_lit rfl) Tryd.isAgg26 Tryd.sizeOf26⟩ rfl ?_)
  rw [mBin_no (by assumption)]
  have q26 := Chg.step (l := 0) (h := 0) (Chg.zero (l := 0) (h := 0) (((cb2.t cb4).t cb6).t c22)) cw24 (by omega)
  exact ⟨_, rfl, Own.nil _ _ _ _ _, by simp [noM], q26⟩
 have hA := Decidable.not_not.1 h55
 obtain ⟨x1, rfl, rfl, hx1⟩ := hA.1.int
 obtain ⟨x2, rfl, rfl, hx2⟩ := hA.2.1.int
 have la := len_addI x1 x2
 have lb := len_addI x1 (-x2)
 have lc : (dg (-x2).natAbs).length = (dg x2.natAbs).length := by rw [Int.natAbs_neg]
 refine sx_skip ?_
 refine q_n (k8 _ _ ?_)
 refine sx_seq fun K27 k27 => ?_
 have f29 := f11.ext c22
 have f30 := f12.ext c22
 refine dx_region (fun w' => Chg b6 (b6 + 1) w22 w') (by kernel_rfl) (Chg.zero (Chg.drew _)) ?_
 have d33 := Chg.drew w22
 have s33 : Chg b6 (b6 + 1) w22 (World.drew w22) := Chg.zero (Chg.drew _)
 have y33 : (World.drew w22).heap.size = w22.heap.size := rfl
 generalize World.drew w22 = w33 at *
 have zw33 := d33.size
 refine dt 0 rfl rfl rfl rfl s33 (fun _ hS => px_field rfl xfld26x0) ?_
 refine dt 1 rfl rfl rfl rfl s33 (fun _ hS => px_load rfl ((f29.chg hS (by omega)).load1 rfl Tryd.isAgg9)) ?_
 refine dt 2 rfl rfl rfl rfl s33 (fun _ hS => px_field rfl xfld26x1) ?_
 refine dt 3 rfl rfl rfl rfl s33 (fun _ hS => px_load rfl ((f29.chg hS (by omega)).loadA (vs := [.bool (ng x1), v1]) (look_lit rfl) Tryd.isAgg24 Tryd.sizeOf24)) ?_
 refine dt 4 rfl rfl rfl rfl s33 (fun _ hS => px_field rfl xfld26x1) ?_
 refine dt 5 rfl rfl rfl rfl s33 (fun _ hS => px_load rfl ((f30.chg hS (by omega)).loadA (vs := [.bool (ng x2), v2]) (look_lit rfl) Tryd.isAgg24 Tryd.sizeOf24)) ?_
 refine dx_eff 6 rfl (by kernel_rfl) ?_
 have f34 := (f18.ext c22).ext d33
 have f35 := (f21.ext c22).ext d33
 refine sx_call rfl rfl Tryd.call51 (c_intAdd f34 f35 (by omega) (by omega)) (fun v36 w36 p36 => ?_)
 obtain ⟨s36, rfl, os_36, c36⟩ := p36
 have zw36 := c36.size
 have s37 : Chg b6 (b6 + 1) w22 w36 := (Chg.zero (l := b6) (h := (b6 + 1)) (d33.t c36))
 refine wl_nil ?_
 refine dx_next s37 ?_
 refine dx_eff 7 rfl (by kernel_rfl) ?_
 have f39 := ((f15.ext c22).ext d33).ext c36
 refine sx_call rfl rfl Tryd.call50 (c_moneyOf f39 os_36 (by omega) (by omega)) (fun v40 w40 p40 => ?_)
 obtain ⟨s40, rfl, os_40, c40⟩ := p40
 have zw40 := c40.size
 have s41 : Chg b6 (b6 + 1) w22 w40 := (Chg.zero (l := b6) (h := (b6 + 1)) ((d33.t c36).t c40))
 refine wl_nil ?_
 refine dx_next s41 ?_
 refine dt 8 rfl rfl rfl rfl s41 (fun _ hS => px_ex2 rfl rfl) ?_
 refine dt 9 rfl rfl rfl rfl s41 (fun _ hS => px_ex2 rfl rfl) ?_
 refine dx_eff 10 rfl (by kernel_rfl) ?_
 have f46 := (((fb6.ext c22).ext d33).ext c36).ext c40
 refine sx_store (vs := [.string ((mR c1 (x1 + x2)).1), .bool ((mR c1 (x1 + x2)).2.1), s40]) rfl rfl f46 rfl Tryd.sizeOf26 (nbl rfl) (one_cons rfl (one_cons rfl (one_cons os_40.one one_nil))) (fun w42 sw42 fw42 cw42 => ?_)
 have zw42 := cw42.size
 have gw42 : Blk w42 b6 [.string ((mR c1 (x1 + x2)).1), .bool ((mR c1 (x1 + x2)).2.1), s40] 26 := fw42
 have q48 := Chg.step (l := b6) (h := (b6 + 1)) (Chg.zero (l := b6) (h := (b6 + 1)) ((d33.t c36).t c40)) cw42 (by omega)
 have s47 : Chg b6 (b6 + 1) w22 w42 := q48
 refine wl_nil ?_
 refine dx_next s47 ?_
 refine dt 11 rfl rfl rfl rfl s47 (fun _ hS => px_assign rfl) ?_
 refine dx_done (by kernel_rfl) ?_
 refine q_n (k27 _ _ ?_)
 refine sx_sub (Sub.c 4 rfl (.c 5 rfl .nil)) ?_
 refine sx_retc ?_
 refine sx_ret2 Tryd.results18 ⟨_, rfl, gw42.loadA (vs := [.string ((mR c1 (x1 + x2)).1), .bool ((mR c1 (x1 + x2)).2.1), s40]) (look_lit rfl) Tryd.isAgg26 Tryd.sizeOf26⟩ rfl ?_
 rw [mBin_ok hA]
 have q49 := Chg.step (l := 0) (h := 0) (Chg.zero (l := 0) (h := 0) ((((((cb2.t cb4).t cb6).t c22).t d33).t c36).t c40)) cw42 (by omega)
 have f50 := os_40.chg cw42 (by omega)
 exact ⟨_, rfl, (Own.mono f50 (by omega) (by omega)), mR_len, q49⟩

theorem c_iMoneyAddM {w : World} {c1 : ByteArray} {va1 : Value} {lva1 uva1 : Nat} {x1 : Int} {c2 : ByteArray} {va2 : Value} {lva2 uva2 : Nat} {x2 : Int} (hG0 : Glob w) (hva1 : Sl w lva1 uva1 va1 (dg x1.natAbs)) (hva2 : Sl w lva2 uva2 va2 (dg x2.natAbs)) (hM1 : MOk c1 (ng (x1)) (dg (x1).natAbs)) (hM2 : MOk c2 (ng (x2)) (dg (x2).natAbs)) (hc : c1 = c2) (hS : (dg (x1 + x2).natAbs).length ≤ 4) :
  Ret Tryd.prog 18 [.agg #[.string c1, .bool (ng x1), va1], .agg #[.string c2, .bool (ng x2), va2]] w fun v w' => ∃ s, v = .tuple #[.agg #[.string (c1), .bool (ng (x1 + x2)), s], .bool (true)] ∧ OwnI w' w.heap.size w'.heap.size s intT (dg (x1 + x2).natAbs) ∧ Chg 0 0 w w' := by
 have hA : Alike c1 (ng x1) (dg x1.natAbs) c2 (ng x2) (dg x2.natAbs) := ⟨hM1, hM2, hc⟩
 have hl1 := hM1.2.2; have hl2 := hM2.2.2
 have h := c_iMoneyAdd (c1 := c1) (n1 := ng x1) (c2 := c2) (n2 := ng x2) hG0 hva1 hva2 (by omega); rw [mBin_ok hA, show gAdd x1 x2 = x1 + x2 from rfl, mR_ok (mok_len hM1.1 hS)] at h
 exact Calls.mono h fun ev w' ⟨v, he, s, e1, o1, _, hc⟩ => ⟨v, he, s, e1, o1, hc⟩

theorem c_iMoneyAddN {w : World} {c1 : ByteArray} {va1 : Value} {lva1 uva1 : Nat} {x1 : Int} {c2 : ByteArray} {va2 : Value} {lva2 uva2 : Nat} {x2 : Int} (hG0 : Glob w) (hva1 : Sl w lva1 uva1 va1 (dg x1.natAbs)) (hva2 : Sl w lva2 uva2 va2 (dg x2.natAbs)) (hl : (dg x1.natAbs).length ≤ 4 ∧ (dg x2.natAbs).length ≤ 4) (hc : c1 ≠ c2) :
  Ret Tryd.prog 18 [.agg #[.string c1, .bool (ng x1), va1], .agg #[.string c2, .bool (ng x2), va2]] w fun v w' => ∃ s, v = .tuple #[.agg #[.string (⟨#[]⟩), .bool (false), s], .bool (false)] ∧ OwnI w' w.heap.size w'.heap.size s intT ([]) ∧ Chg 0 0 w w' := by
 have h := c_iMoneyAdd (c1 := c1) (n1 := ng x1) (c2 := c2) (n2 := ng x2) hG0 hva1 hva2 (by omega); rw [mBin_no (fun hA => hc hA.2.2)] at h
 exact Calls.mono h fun ev w' ⟨v, he, s, e1, o1, _, hh⟩ => ⟨v, he, s, e1, o1, hh⟩

theorem c_natCopy {w : World} {va : Value} {lva uva : Nat} {zs : List Int} (hva : Sl w lva uva va (zs)) (h63 : zs.length ≤ 1048576) :
  Ret Tryd.prog 90 [va] w fun v w' => ∃ s, v = s ∧ OwnI w' w.heap.size w'.heap.size s intT (zs) ∧ Chg 0 0 w w' := by
 have hva0 := hva.fit
 refine sx_enter Tryd.func90 rfl Tryd.ntmps90 (nbl rfl) ?_
 refine sx_seq fun K1 k1 => sx_region ?_
 refine av rfl rfl (wl_nil (q_n (k1 _ _ ?_)))
 refine sx_seq fun K2 k2 => sx_region ?_
 refine sx_lit0 rfl xelt22 (fun s3 ws3 ss3 fs3 cs3 => ?_)
 have zws3 := cs3.size
 refine mv rfl rfl ?_
 have f5 := hva0.ext cs3
 refine sx_append rfl xelt22 rfl rfl fs3 f5 one_int (by omega) (by omega) (by unfold maxLen; omega) (fun a4 w4 fw4 cw4 => ?_)
 have nw4 := Own.norm (f := (Value.int .i64)) (zs := zs) fw4
 have zw4 := cw4.size
 refine av rfl rfl (wl_nil (q_n (k2 _ _ ?_)))
 refine sx_retc ?_
 refine sx_ret1 Tryd.results90 rfl ?_
 have q6 := Chg.step (l := 0) (h := 0) (Chg.zero (l := 0) (h := 0) cs3) cw4 (by omega)
 exact ⟨_, rfl, Own.mono nw4 (by omega) (by omega), q6⟩

theorem c_intNeg {w : World} {va : Value} {lva uva : Nat} {x : Int} (hva : Sl w lva uva va (dg x.natAbs)) (hbx : (dg x.natAbs).length ≤ 1000) :
  Ret Tryd.prog 52 [.agg #[.bool (ng x), va]] w fun v w' => ∃ s, v = .agg #[.bool (ng (-x)), s] ∧ OwnI w' w.heap.size w'.heap.size s intT (dg (-x).natAbs) ∧ Chg 0 0 w w' := by
 have hva0 := hva.fit
 refine sx_enter Tryd.func52 rfl Tryd.ntmps52 (nbl rfl) ?_
 refine sx_seq fun K1 k1 => sx_region ?_
 refine sx_box [.bool (ng x), va] rfl rfl rfl (fun b2 w3 eb2 sb2 fb2 cb2 => ?_)
 have zw3 := cb2.size
 refine sx_alloc [.bool false, (.slice none 0 0)] rfl Tryd.zeroValue24 rfl (fun b4 w5 eb4 sb4 fb4 cb4 => ?_)
 have zw5 := cb4.size
 refine wl_nil (q_n (k1 _ _ ?_))
 refine sx_seq fun K6 k6 => ?_
 have f7 := fb2.ext cb4
 have f8 := hva0.ext cb2
 have f9 := f8.ext cb4
 refine dx_region (fun w' => Chg b4 (b4 + 1) w5 w') (by kernel_rfl) (Chg.zero (Chg.drew _)) ?_
 have d10 := Chg.drew w5
 have s10 : Chg b4 (b4 + 1) w5 (World.drew w5) := Chg.zero (Chg.drew _)
 have y10 : (World.drew w5).heap.size = w5.heap.size := rfl
 generalize World.drew w5 = w10 at *
 have zw10 := d10.size
 refine dt 0 rfl rfl rfl rfl s10 (fun _ hS => px_field rfl xfld24x0) ?_
 refine dt 1 rfl rfl rfl rfl s10 (fun _ hS => px_load rfl ((f7.chg hS (by omega)).load1 rfl Tryd.isAgg4)) ?_
 refine dt 2 rfl rfl rfl rfl s10 (fun _ hS => px_not rfl) ?_
 refine dt 3 rfl rfl rfl rfl s10 (fun _ hS => px_field rfl xfld24x1) ?_
 refine dt 4 rfl rfl rfl rfl s10 (fun _ hS => px_load rfl ((f7.chg hS (by omega)).load1 rfl Tryd.isAgg22)) ?_
 refine dx_eff 5 rfl (by kernel_rfl) ?_
 have f11 := f9.ext d10
 refine sx_call rfl rfl Tryd.call90 (c_natCopy f11 (by omega)) (fun v12 w12 p12 => ?_)
 obtain ⟨s12, rfl, os_12, c12⟩ := p12
 have zw12 := c12.size
 have s13 : Chg b4 (b4 + 1) w5 w12 := (Chg.zero (l := b4) (h := (b4 + 1)) (d10.t c12))
 refine wl_nil ?_
 refine dx_next s13 ?_
 refine dx_eff 6 rfl (by kernel_rfl) ?_
 refine sx_call rfl rfl Tryd.call69 (c_signed os_12.sv (by omega)) (fun v14 w14 p14 => ?_)
 obtain ⟨rfl, c14⟩ := p14
 have zw14 := c14.size
 have s15 : Chg b4 (b4 + 1) w5 w14 := (Chg.zero (l := b4) (h := (b4 + 1)) ((d10.t c12).t c14))
 refine wl_nil ?_
 refine dx_next s15 ?_
 refine dx_eff 7 rfl (by kernel_rfl) ?_
 have f19 := ((fb4.ext d10).ext c12).ext c14
 have f20 := os_12.ext c14
 refine sx_store (vs := [.bool (nz (!(ng x)) (dg x.natAbs)), v12]) rfl rfl f19 rfl Tryd.sizeOf24 (nbl rfl) (one_cons rfl (one_cons f20.one one_nil)) (fun w16 sw16 fw16 cw16 => ?_)
 have zw16 := cw16.size
 have gw16 : Blk w16 b4 [.bool (nz (!(ng x)) (dg x.natAbs)), v12] 24 := fw16
 have q22 := Chg.step (l := b4) (h := (b4 + 1)) (Chg.zero (l := b4) (h := (b4 + 1)) ((d10.t c12).t c14)) cw16 (by omega)
 have s21 : Chg b4 (b4 + 1) w5 w16 := q22
 refine wl_nil ?_
 refine dx_next s21 ?_
 refine dx_done (by kernel_rfl) ?_
 refine q_n (k6 _ _ ?_)
 refine sx_retc ?_
 refine sx_ret1 Tryd.results52 ⟨_, rfl, gw16.loadA (vs := [.bool (nz (!(ng x)) (dg x.natAbs)), v12]) (look_lit rfl) Tryd.isAgg24 Tryd.sizeOf24⟩ ?_
 have hh := neg_sg x
 rw [← hh.1, ← hh.2]
 have q23 := Chg.step (l := 0) (h := 0) (Chg.zero (l := 0) (h := 0) ((((cb2.t cb4).t d10).t c12).t c14)) cw16 (by omega)
 have f24 := f20.chg cw16 (by omega)
 exact ⟨_, rfl, (Own.mono f24 (by omega) (by omega)), q23⟩

theorem c_iMoneySub {w : World} {c1 : ByteArray} {n1 : Bool} {v1 : Value} {lv1 uv1 : Nat} {z1 : List Int} {c2 : ByteArray} {n2 : Bool} {v2 : Value} {lv2 uv2 : Nat} {z2 : List Int} (hG0 : Glob w) (hv1 : Sl w lv1 uv1 v1 (z1)) (hv2 : Sl w lv2 uv2 v2 (z2)) (h63 : z1.length ≤ 4611686018427387904 ∧ z2.length ≤ 4611686018427387904) :
  Ret Tryd.prog 19 [.agg #[.string c1, .bool n1, v1], .agg #[.string c2, .bool n2, v2]] w fun v w' => ∃ s, v = .tuple #[.agg #[.string ((mBin gSub c1 n1 z1 c2 n2 z2).1), .bool ((mBin gSub c1 n1 z1 c2 n2 z2).2.1), s], .bool ((mBin gSub c1 n1 z1 c2 n2 z2).2.2.2)] ∧ OwnI w' w.heap.size w'.heap.size s intT ((mBin gSub c1 n1 z1 c2 n2 z2).2.2.1) ∧ ((mBin gSub c1 n1 z1 c2 n2 z2).2.2.1.length ≤ 4) ∧ Chg 0 0 w w' := by
 have hv10 := hv1.fit
 have hv20 := hv2.fit
 refine sx_enter Tryd.func19 rfl Tryd.ntmps19 (nbl rfl) ?_
 refine sx_seq fun K1 k1 => sx_region ?_
 refine sx_box [.string c1, .bool n1, v1] rfl rfl rfl (fun b2 w3 eb2 sb2 fb2 cb2 => ?_)
 have zw3 := cb2.size
 refine sx_box [.string c2, .bool n2, v2] rfl rfl rfl (fun b4 w5 eb4 sb4 fb4 cb4 => ?_)
 have zw5 := cb4.size
 refine sx_alloc [.string (⟨#[]⟩), .bool false, (.slice none 0 0)] rfl Tryd.zeroValue26 rfl (fun b6 w7 eb6 sb6 fb6 cb6 => ?_)
 have zw7 := cb6.size
 refine av rfl rfl (wl_nil (q_n (k1 _ _ ?_)))
 refine sx_seq fun K8 k8 => ?_
 refine sx_seq fun K9 k9 => sx_region ?_
 have f10 := fb2.ext cb4
 have f11 := f10.ext cb6
 refine sp rfl (px_load rfl (f11.loadA (vs := [.string c1, .bool n1, v1]) (look_lit rfl) Tryd.isAgg26 Tryd.sizeOf26)) ?_
 have f12 := fb4.ext cb6
 refine sp rfl (px_load rfl (f12.loadA (vs := [.string c2, .bool n2, v2]) (look_lit rfl) Tryd.isAgg26 Tryd.sizeOf26)) ?_
 have f13 := hG0.ext cb2
 have f14 := f13.ext cb4
 have f15 := f14.ext cb6
 have f16 := hv10.ext cb2
 have f17 := f16.ext cb4
 have f18 := f17.ext cb6
 have f19 := hv20.ext cb2
 have f20 := f19.ext cb4
 have f21 := f20.ext cb6
 refine sx_call rfl rfl Tryd.call49 (c_alike f15 f18 f21 (by omega)) (fun v22 w22 p22 => ?_)
 obtain ⟨rfl, c22⟩ := p22
 have zw22 := c22.size
 refine sp rfl (px_notP rfl) ?_
 refine wl_nil (q_n (k9 _ _ ?_))
 refine sx_condP rfl (fun h63 => ?_) (fun h63 => ?_)
 ·
  refine sx_seq fun K23 k23 => sx_region ?_
  refine sp rfl (px_build rfl (xbld26x  _)) ?_
  have f25 := fb6.ext c22
  refine sx_store (vs := [.string (⟨#[]⟩), .bool false, (.slice none 0 0)]) rfl rfl f25 rfl Tryd.sizeOf26 (nbl rfl) (o3 rfl rfl rfl) (fun w24 sw24 fw24 cw24 => ?_)
  have zw24 := cw24.size
  have gw24 : Blk w24 b6 [.string (⟨#[]⟩), .bool false, (.slice none 0 0)] 26 := fw24
  refine av rfl rfl (wl_nil (q_n (k23 _ _ ?_)))
  refine sx_retc ?_
  refine q_r (sx_ret2 Tryd.results19 ⟨_, rfl, gw24.loadA (vs := [.string (⟨#[]⟩), .bool false, (.slice none 0 0)]) (look_lit rfl) Tryd.isAgg26 Tryd.sizeOf26⟩ rfl ?_)
  rw [mBin_no (by assumption)]
  have q26 := Chg.step (l := 0) (h := 0) (Chg.zero (l := 0) (h := 0) (((cb2.t cb4).t cb6).t c22)) cw24 (by omega)
  exact ⟨_, rfl, Own.nil _ _ _ _ _, by simp [noM], q26⟩
 have hA := Decidable.not_not.1 h63
 obtain ⟨x1, rfl, rfl, hx1⟩ := hA.1.int
 obtain ⟨x2, rfl, rfl, hx2⟩ := hA.2.1.int
 have la := len_addI x1 x2
 have lb := len_addI x1 (-x2)
 have lc : (dg (-x2).natAbs).length = (dg x2.natAbs).length := by rw [Int.natAbs_neg]
 refine sx_skip ?_
 refine q_n (k8 _ _ ?_)
 refine sx_seq fun K27 k27 => ?_
 have f29 := f11.ext c22
 have f30 := f12.ext c22
 refine dx_region (fun w' => Chg b6 (b6 + 1) w22 w') (by kernel_rfl) (Chg.zero (Chg.drew _)) ?_
 have d33 := Chg.drew w22
 have s33 : Chg b6 (b6 + 1) w22 (World.drew w22) := Chg.zero (Chg.drew _)
 have y33 : (World.drew w22).heap.size = w22.heap.size := rfl
 generalize World.drew w22 = w33 at *
 have zw33 := d33.size
 refine dt 0 rfl rfl rfl rfl s33 (fun _ hS => px_field rfl xfld26x0) ?_
 refine dt 1 rfl rfl rfl rfl s33 (fun _ hS => px_load rfl ((f29.chg hS (by omega)).load1 rfl Tryd.isAgg9)) ?_
 refine dt 2 rfl rfl rfl rfl s33 (fun _ hS => px_field rfl xfld26x1) ?_
 refine dt 3 rfl rfl rfl rfl s33 (fun _ hS => px_load rfl ((f29.chg hS (by omega)).loadA (vs := [.bool (ng x1), v1]) (look_lit rfl) Tryd.isAgg24 Tryd.sizeOf24)) ?_
 refine dt 4 rfl rfl rfl rfl s33 (fun _ hS => px_field rfl xfld26x1) ?_
 refine dt 5 rfl rfl rfl rfl s33 (fun _ hS => px_load rfl ((f30.chg hS (by omega)).loadA (vs := [.bool (ng x2), v2]) (look_lit rfl) Tryd.isAgg24 Tryd.sizeOf24)) ?_
 refine dx_eff 6 rfl (by kernel_rfl) ?_
 have f34 := (f21.ext c22).ext d33
 refine sx_call rfl rfl Tryd.call52 (c_intNeg f34 (by omega)) (fun v35 w35 p35 => ?_)
 obtain ⟨s35, rfl, os_35, c35⟩ := p35
 have zw35 := c35.size
 have s36 : Chg b6 (b6 + 1) w22 w35 := (Chg.zero (l := b6) (h := (b6 + 1)) (d33.t c35))
 refine wl_nil ?_
 refine dx_next s36 ?_
 refine dx_eff 7 rfl (by kernel_rfl) ?_
 have f38 := ((f18.ext c22).ext d33).ext c35
 refine sx_call rfl rfl Tryd.call51 (c_intAdd f38 os_35.sv (by omega) (by omega)) (fun v39 w39 p39 => ?_)
 obtain ⟨s39, rfl, os_39, c39⟩ := p39
 have zw39 := c39.size
 have s40 : Chg b6 (b6 + 1) w22 w39 := (Chg.zero (l := b6) (h := (b6 + 1)) ((d33.t c35).t c39))
 refine wl_nil ?_
 refine dx_next s40 ?_
 refine dx_eff 8 rfl (by kernel_rfl) ?_
 have f43 := (((f15.ext c22).ext d33).ext c35).ext c39
 refine sx_call rfl rfl Tryd.call50 (c_moneyOf f43 os_39 (by omega) (by omega)) (fun v44 w44 p44 => ?_)
 obtain ⟨s44, rfl, os_44, c44⟩ := p44
 have zw44 := c44.size
 have s45 : Chg b6 (b6 + 1) w22 w44 := (Chg.zero (l := b6) (h := (b6 + 1)) (((d33.t c35).t c39).t c44))
 refine wl_nil ?_
 refine dx_next s45 ?_
 refine dt 9 rfl rfl rfl rfl s45 (fun _ hS => px_ex2 rfl rfl) ?_
 refine dt 10 rfl rfl rfl rfl s45 (fun _ hS => px_ex2 rfl rfl) ?_
 refine dx_eff 11 rfl (by kernel_rfl) ?_
 have f51 := ((((fb6.ext c22).ext d33).ext c35).ext c39).ext c44
 refine sx_store (vs := [.string ((mR c1 (x1 + (-x2))).1), .bool ((mR c1 (x1 + (-x2))).2.1), s44]) rfl rfl f51 rfl Tryd.sizeOf26 (nbl rfl) (one_cons rfl (one_cons rfl (one_cons os_44.one one_nil))) (fun w46 sw46 fw46 cw46 => ?_)
 have zw46 := cw46.size
 have gw46 : Blk w46 b6 [.string ((mR c1 (x1 + (-x2))).1), .bool ((mR c1 (x1 + (-x2))).2.1), s44] 26 := fw46
 have q53 := Chg.step (l := b6) (h := (b6 + 1)) (Chg.zero (l := b6) (h := (b6 + 1)) (((d33.t c35).t c39).t c44)) cw46 (by omega)
 have s52 : Chg b6 (b6 + 1) w22 w46 := q53
 refine wl_nil ?_
 refine dx_next s52 ?_
 refine dt 12 rfl rfl rfl rfl s52 (fun _ hS => px_assign rfl) ?_
 refine dx_done (by kernel_rfl) ?_
 refine q_n (k27 _ _ ?_)
 refine sx_sub (Sub.c 4 rfl (.c 5 rfl .nil)) ?_
 refine sx_retc ?_
 refine sx_ret2 Tryd.results19 ⟨_, rfl, gw46.loadA (vs := [.string ((mR c1 (x1 + (-x2))).1), .bool ((mR c1 (x1 + (-x2))).2.1), s44]) (look_lit rfl) Tryd.isAgg26 Tryd.sizeOf26⟩ rfl ?_
 rw [mBin_ok hA]
 have q54 := Chg.step (l := 0) (h := 0) (Chg.zero (l := 0) (h := 0) (((((((cb2.t cb4).t cb6).t c22).t d33).t c35).t c39).t c44)) cw46 (by omega)
 have f55 := os_44.chg cw46 (by omega)
 exact ⟨_, rfl, (Own.mono f55 (by omega) (by omega)), mR_len, q54⟩

theorem c_iMoneySubM {w : World} {c1 : ByteArray} {va1 : Value} {lva1 uva1 : Nat} {x1 : Int} {c2 : ByteArray} {va2 : Value} {lva2 uva2 : Nat} {x2 : Int} (hG0 : Glob w) (hva1 : Sl w lva1 uva1 va1 (dg x1.natAbs)) (hva2 : Sl w lva2 uva2 va2 (dg x2.natAbs)) (hM1 : MOk c1 (ng (x1)) (dg (x1).natAbs)) (hM2 : MOk c2 (ng (x2)) (dg (x2).natAbs)) (hc : c1 = c2) (hS : (dg (x1 + -x2).natAbs).length ≤ 4) :
  Ret Tryd.prog 19 [.agg #[.string c1, .bool (ng x1), va1], .agg #[.string c2, .bool (ng x2), va2]] w fun v w' => ∃ s, v = .tuple #[.agg #[.string (c1), .bool (ng (x1 + -x2)), s], .bool (true)] ∧ OwnI w' w.heap.size w'.heap.size s intT (dg (x1 + -x2).natAbs) ∧ Chg 0 0 w w' := by
 have hA : Alike c1 (ng x1) (dg x1.natAbs) c2 (ng x2) (dg x2.natAbs) := ⟨hM1, hM2, hc⟩
 have hl1 := hM1.2.2; have hl2 := hM2.2.2
 have h := c_iMoneySub (c1 := c1) (n1 := ng x1) (c2 := c2) (n2 := ng x2) hG0 hva1 hva2 (by omega); rw [mBin_ok hA, show gSub x1 x2 = x1 + -x2 from rfl, mR_ok (mok_len hM1.1 hS)] at h
 exact Calls.mono h fun ev w' ⟨v, he, s, e1, o1, _, hc⟩ => ⟨v, he, s, e1, o1, hc⟩

theorem c_intCmp {w : World} {va : Value} {lva uva : Nat} {x : Int} {vb : Value} {lvb uvb : Nat} {y : Int} (hva : Sl w lva uva va (dg x.natAbs)) (hvb : Sl w lvb uvb vb (dg y.natAbs)) (hbx : (dg x.natAbs).length ≤ 900) (hby : (dg y.natAbs).length ≤ 900) :
  Ret Tryd.prog 53 [.agg #[.bool (ng x), va], .agg #[.bool (ng y), vb]] w fun v w' => v = .int .i64 (cmpI x y) ∧ Chg 0 0 w w' := by
 have hva0 := hva.fit
 have hvb0 := hvb.fit
 refine sx_enter Tryd.func53 rfl Tryd.ntmps53 (nbl rfl) ?_
 refine sx_seq fun K1 k1 => sx_region ?_
 refine sx_box [.bool (ng x), va] rfl rfl rfl (fun b2 w3 eb2 sb2 fb2 cb2 => ?_)
 have zw3 := cb2.size
 refine sx_box [.bool (ng y), vb] rfl rfl rfl (fun b4 w5 eb4 sb4 fb4 cb4 => ?_)
 have zw5 := cb4.size
 refine av rfl rfl (wl_nil (q_n (k1 _ _ ?_)))
 refine sx_seq fun K6 k6 => ?_
 have f7 := fb2.ext cb4
 have f8 := hva0.ext cb2
 have f9 := f8.ext cb4
 have f10 := hvb0.ext cb2
 have f11 := f10.ext cb4
 refine dx_region (fun w' => Chg 0 0 w5 w') (by kernel_rfl) (Chg.zero (Chg.drew _)) ?_
 have d12 := Chg.drew w5
 have s12 : Chg 0 0 w5 (World.drew w5) := Chg.zero (Chg.drew _)
 have y12 : (World.drew w5).heap.size = w5.heap.size := rfl
 generalize World.drew w5 = w12 at *
 have zw12 := d12.size
 refine dt 0 rfl rfl rfl rfl s12 (fun _ hS => px_load rfl ((f7.chg hS (by omega)).loadA (vs := [.bool (ng x), va]) (look_lit rfl) Tryd.isAgg24 Tryd.sizeOf24)) ?_
 refine dt 1 rfl rfl rfl rfl s12 (fun _ hS => px_load rfl ((fb4.chg hS (by omega)).loadA (vs := [.bool (ng y), vb]) (look_lit rfl) Tryd.isAgg24 Tryd.sizeOf24)) ?_
 refine dx_eff 2 rfl (by kernel_rfl) ?_
 have f13 := f11.ext d12
 refine sx_call rfl rfl Tryd.call52 (c_intNeg f13 (by omega)) (fun v14 w14 p14 => ?_)
 obtain ⟨s14, rfl, os_14, c14⟩ := p14
 have zw14 := c14.size
 have s15 : Chg 0 0 w5 w14 := (d12.t c14)
 refine wl_nil ?_
 refine dx_next s15 ?_
 refine dx_eff 3 rfl (by kernel_rfl) ?_
 have f17 := (f9.ext d12).ext c14
 refine sx_call rfl rfl Tryd.call51 (c_intAdd f17 os_14.sv (by omega) (by rw [Int.natAbs_neg]; omega)) (fun v18 w18 p18 => ?_)
 obtain ⟨s18, rfl, os_18, c18⟩ := p18
 have zw18 := c18.size
 have s19 : Chg 0 0 w5 w18 := ((d12.t c14).t c18)
 refine wl_nil ?_
 refine dx_next s19 ?_
 refine dx_eff 4 rfl (by kernel_rfl) ?_
 refine sx_call rfl rfl Tryd.call59 (c_intSign os_18.sv (by have h := len_addI x (-y); rw [Int.natAbs_neg] at h; omega)) (fun v20 w20 p20 => ?_)
 obtain ⟨rfl, c20⟩ := p20
 have zw20 := c20.size
 have s21 : Chg 0 0 w5 w20 := (((d12.t c14).t c18).t c20)
 refine wl_nil ?_
 refine dx_next s21 ?_
 refine dt 5 rfl rfl rfl rfl s21 (fun _ hS => px_assign rfl) ?_
 refine dx_done (by kernel_rfl) ?_
 refine q_n (k6 _ _ ?_)
 refine sx_retc ?_
 refine sx_ret1 Tryd.results53 rfl ?_
 exact ⟨(by rw [cmpI_sign]), (((((cb2.t cb4).t d12).t c14).t c18).t c20)⟩

theorem c_iMoneyCmp {w : World} {c1 : ByteArray} {n1 : Bool} {v1 : Value} {lv1 uv1 : Nat} {z1 : List Int} {c2 : ByteArray} {n2 : Bool} {v2 : Value} {lv2 uv2 : Nat} {z2 : List Int} (hG0 : Glob w) (hv1 : Sl w lv1 uv1 v1 (z1)) (hv2 : Sl w lv2 uv2 v2 (z2)) (h63 : z1.length ≤ 4611686018427387904 ∧ z2.length ≤ 4611686018427387904) :
  Ret Tryd.prog 20 [.agg #[.string c1, .bool n1, v1], .agg #[.string c2, .bool n2, v2]] w fun v w' => v = .tuple #[.int .i64 ((mCmp c1 n1 z1 c2 n2 z2).1), .bool ((mCmp c1 n1 z1 c2 n2 z2).2)] ∧ Chg 0 0 w w' := by
 have hv10 := hv1.fit
 have hv20 := hv2.fit
 refine sx_enter Tryd.func20 rfl Tryd.ntmps20 (nbl rfl) ?_
 refine sx_seq fun K1 k1 => sx_region ?_
 refine sx_box [.string c1, .bool n1, v1] rfl rfl rfl (fun b2 w3 eb2 sb2 fb2 cb2 => ?_)
 have zw3 := cb2.size
 refine sx_box [.string c2, .bool n2, v2] rfl rfl rfl (fun b4 w5 eb4 sb4 fb4 cb4 => ?_)
 have zw5 := cb4.size
 refine av rfl rfl (av rfl rfl (wl_nil (q_n (k1 _ _ ?_))))
 refine sx_seq fun K6 k6 => ?_
 refine sx_seq fun K7 k7 => sx_region ?_
 have f8 := fb2.ext cb4
 refine sp rfl (px_load rfl (f8.loadA (vs := [.string c1, .bool n1, v1]) (look_lit rfl) Tryd.isAgg26 Tryd.sizeOf26)) ?_
 refine sp rfl (px_load rfl (fb4.loadA (vs := [.string c2, .bool n2, v2]) (look_lit rfl) Tryd.isAgg26 Tryd.sizeOf26)) ?_
 have f9 := hG0.ext cb2
 have f10 := f9.ext cb4
 have f11 := hv10.ext cb2
 have f12 := f11.ext cb4
 have f13 := hv20.ext cb2
 have f14 := f13.ext cb4
 refine sx_call rfl rfl Tryd.call49 (c_alike f10 f12 f14 (by omega)) (fun v15 w15 p15 => ?_)
 obtain ⟨rfl, c15⟩ := p15
 have zw15 := c15.size
 refine sp rfl (px_notP rfl) ?_
 refine wl_nil (q_n (k7 _ _ ?_))
 refine sx_condP rfl (fun h87 => ?_) (fun h87 => ?_)
 ·
  refine sx_seq fun K16 k16 => sx_region ?_
  refine av rfl rfl (av rfl rfl (wl_nil (q_n (k16 _ _ ?_))))
  refine sx_retc ?_
  refine q_r (sx_ret2 Tryd.results20 rfl rfl ?_)
  rw [mCmp_no (by assumption)]
  exact ⟨rfl, ((cb2.t cb4).t c15)⟩
 have hA := Decidable.not_not.1 h87
 obtain ⟨x1, rfl, rfl, hx1⟩ := hA.1.int
 obtain ⟨x2, rfl, rfl, hx2⟩ := hA.2.1.int
 have la := len_addI x1 x2
 have lb := len_addI x1 (-x2)
 have lc : (dg (-x2).natAbs).length = (dg x2.natAbs).length := by rw [Int.natAbs_neg]
 refine sx_skip ?_
 refine q_n (k6 _ _ ?_)
 refine sx_seq fun K17 k17 => sx_region ?_
 refine sp rfl (px_field rfl xfld26x1) ?_
 have f18 := f8.ext c15
 refine sp rfl (px_load rfl (f18.loadA (vs := [.bool (ng x1), v1]) (look_lit rfl) Tryd.isAgg24 Tryd.sizeOf24)) ?_
 refine sp rfl (px_field rfl xfld26x1) ?_
 have f19 := fb4.ext c15
 refine sp rfl (px_load rfl (f19.loadA (vs := [.bool (ng x2), v2]) (look_lit rfl) Tryd.isAgg24 Tryd.sizeOf24)) ?_
 have f20 := f12.ext c15
 have f21 := f14.ext c15
 refine sx_call rfl rfl Tryd.call53 (c_intCmp f20 f21 (by omega) (by omega)) (fun v22 w22 p22 => ?_)
 obtain ⟨rfl, c22⟩ := p22
 have zw22 := c22.size
 refine av rfl rfl (av rfl rfl (wl_nil (q_n (k17 _ _ ?_))))
 refine sx_sub (Sub.c 4 rfl (.c 5 rfl .nil)) ?_
 refine sx_retc ?_
 refine sx_ret2 Tryd.results20 rfl rfl ?_
 rw [mCmp_ok hA]
 exact ⟨rfl, (((cb2.t cb4).t c15).t c22)⟩

theorem c_iMoneyCmpM {w : World} {c1 : ByteArray} {va1 : Value} {lva1 uva1 : Nat} {x1 : Int} {c2 : ByteArray} {va2 : Value} {lva2 uva2 : Nat} {x2 : Int} (hG0 : Glob w) (hva1 : Sl w lva1 uva1 va1 (dg x1.natAbs)) (hva2 : Sl w lva2 uva2 va2 (dg x2.natAbs)) (hM1 : MOk c1 (ng (x1)) (dg (x1).natAbs)) (hM2 : MOk c2 (ng (x2)) (dg (x2).natAbs)) (hc : c1 = c2) :
  Ret Tryd.prog 20 [.agg #[.string c1, .bool (ng x1), va1], .agg #[.string c2, .bool (ng x2), va2]] w fun v w' => v = .tuple #[.int .i64 (cmpI x1 x2), .bool (true)] ∧ Chg 0 0 w w' := by
 have hA : Alike c1 (ng x1) (dg x1.natAbs) c2 (ng x2) (dg x2.natAbs) := ⟨hM1, hM2, hc⟩
 have hl1 := hM1.2.2; have hl2 := hM2.2.2
 have h := c_iMoneyCmp (c1 := c1) (n1 := ng x1) (c2 := c2) (n2 := ng x2) hG0 hva1 hva2 (by omega); rw [mCmp_ok hA] at h
 exact h

theorem c_natOf {w : World} {n : Int} (hn : 0 ≤ n ∧ n ≤ 18446744073709551615) :
  Ret Tryd.prog 92 [.int .u64 n] w fun v w' => ∃ s, v = s ∧ OwnI w' w.heap.size w'.heap.size s intT (dg (n).toNat) ∧ Chg 0 0 w w' := by
 have l0 := len_u64 (n := n) (by omega)
 refine sx_enter Tryd.func92 rfl Tryd.ntmps92 (nbl rfl) ?_
 refine sx_seq fun K1 k1 => sx_region ?_
 refine av rfl rfl (wl_nil (q_n (k1 _ _ ?_)))
 refine sx_seq fun K2 k2 => sx_region ?_
 refine sx_lit0 rfl xelt22 (fun s3 ws3 ss3 fs3 cs3 => ?_)
 have zws3 := cs3.size
 refine av rfl rfl (wl_nil (q_n (k2 _ _ ?_)))
 refine sx_seq fun K4 k4 => ?_
 refine sx_block ?_
 refine sx_loop (fun mm aa w' => ∃ (s : Value) (os : List Int) (m : Int), Agr 16 [(0, .int .u64 m), (3, s)] aa ∧ Chg w.heap.size ws3.heap.size ws3 w' ∧ Own w' w.heap.size w'.heap.size s intT os.length 1 (os.map (Value.int .i64)) ∧ (mm = m.toNat) ∧ (Lm os) ∧ (0 ≤ m ∧ m ≤ n) ∧ (vl os + Bs ^ os.length * m.toNat = n.toNat) ∧ (os.length + (dg m.toNat).length = (dg n.toNat).length) ∧ (os.length = 0 ∨ Bs ^ (os.length - 1) ≤ n.toNat)) (_) (fun a ha => ⟨s3, [], n, ha.sub (Sub.c 0 rfl (.c 3 rfl .nil)), Chg.refl _ _ _, (fs3.mono (by omega) (by omega)), rfl, Lm.nil, by omega, by simp [vl], by simp, .inl rfl⟩) ?_
 rintro mm aa wl5 ⟨s, os, m, hAwl5, cwl5, hs_s, hm, hlm, hb, hv, hln, hl⟩
 refine (show cw Tryd.prog 16 _ _ _ wl5 from ?_) aa hAwl5
 clear hAwl5
 have zwl5 := cwl5.size
 refine sx_seq fun K6 k6 => ?_
 refine sx_seq fun K7 k7 => sx_region ?_
 refine mv rfl rfl (sp rfl (px_gt rfl rfl) ?_)
 refine wl_nil (q_n (k7 _ _ ?_))
 refine sx_condP rfl (fun h47 => ?_) (fun h47 => ?_)
 ·
  refine sx_skip ?_
  refine q_n (k6 _ _ ?_)
  refine sx_block ?_
  refine sx_seq fun K8 k8 => sx_region ?_
  refine mv rfl rfl (mv rfl rfl (sp rfl (px_remU rfl rfl (by omega) (by omega)) ?_))
  refine sp rfl (px_convI Tryd.underlying105 Tryd.underlying3 rfl (by omega)) ?_
  refine sx_lit1 rfl xelt22 rfl rfl (fun s9 ws9 ss9 fs9 cs9 => ?_)
  have ns9 := Own.norm (f := (Value.int .i64)) (zs := [m % 1000000000]) fs9
  have zws9 := cs9.size
  have f11 := hs_s.ext cs9
  refine sx_append rfl xelt22 rfl rfl f11 ns9.sv one_int (by omega) (by simp only [List.length_cons, List.length_nil]; omega) (by unfold maxLen; simp only [List.length_cons, List.length_nil]; omega) (fun a10 w10 fw10 cw10 => ?_)
  have nw10 := Own.app (f := (Value.int .i64)) (a := os) (b := [m % 1000000000]) fw10
  have zw10 := cw10.size
  refine av rfl rfl (wl_nil (q_n (k8 _ _ ?_)))
  refine sx_region ?_
  refine mv rfl rfl (sp rfl (px_quoU rfl rfl (by omega) (by omega) (by omega)) ?_)
  refine av rfl rfl (wl_nil ?_)
  have q12 := Chg.step (l := w.heap.size) (h := ws3.heap.size) cwl5 cs9 (by omega)
  have q13 := Chg.step (l := w.heap.size) (h := ws3.heap.size) q12 cw10 (by omega)
  have hmd := mod_bd (s := m) (by omega)
  have hm0 : m / 1000000000 < m := by omega
  exact q_bn (fun a ha => ⟨_, by omega, a10, (os ++ ([m % 1000000000])), (m / 1000000000), ha.sub (Sub.c 0 rfl (.c 3 rfl .nil)), q13, (nw10.mono (by omega) (by omega)), rfl, hlm.append (Lm.single hmd.1 hmd.2), by omega, of_stepI (by omega) hv, by have h9 := of_ln (m := m) (by omega); simp only [List.length_append, List.length_singleton]; omega, .inr (of_len (by omega) hv)⟩)
 refine sx_exit ?_
 refine q_e (q_e (q_bx (q_n (k4 _ _ ?_))))
 refine sx_seq fun K14 k14 => sx_region ?_
 refine mv rfl rfl (av rfl rfl (wl_nil (q_n (k14 _ _ ?_))))
 refine sx_retc ?_
 refine sx_ret1 Tryd.results92 rfl ?_
 have hm0 : m = 0 := by omega
 subst hm0
 have hd : os = dg n.toNat := dg_of hlm (by simpa using hv) hl
 subst hd
 have q15 := Chg.step (l := 0) (h := 0) (Chg.zero (l := 0) (h := 0) cs3) cwl5 (by omega)
 exact ⟨_, rfl, (Own.mono hs_s (by omega) (by omega)), q15⟩

theorem c_iIntOf {w : World} {n : Int} (hn : -9223372036854775808 ≤ n ∧ n ≤ 9223372036854775807) :
  Ret Tryd.prog 55 [.int .i64 n] w fun v w' => ∃ s, v = .agg #[.bool (ng n), s] ∧ OwnI w' w.heap.size w'.heap.size s intT (dg (n).natAbs) ∧ Chg 0 0 w w' := by
 refine sx_enter Tryd.func55 rfl Tryd.ntmps55 (nbl rfl) ?_
 refine sx_seq fun K1 k1 => sx_region ?_
 refine sx_alloc [.bool false, (.slice none 0 0)] rfl Tryd.zeroValue24 rfl (fun b2 w3 eb2 sb2 fb2 cb2 => ?_)
 have zw3 := cb2.size
 refine wl_nil (q_n (k1 _ _ ?_))
 refine sx_seq fun K4 k4 => ?_
 refine sx_seq fun K5 k5 => sx_region ?_
 refine mv rfl rfl (sp rfl (px_lt rfl rfl) ?_)
 refine wl_nil (q_n (k5 _ _ ?_))
 refine sx_condP rfl (fun h23 => ?_) (fun h23 => ?_)
 ·
  refine sx_seq fun K6 k6 => sx_region ?_
  refine mv rfl rfl (sp rfl (px_convUn Tryd.underlying3 Tryd.underlying105 rfl (by omega)) ?_)
  refine sp rfl (px_negU rfl (by omega)) ?_
  refine sx_call rfl rfl Tryd.call92 (c_natOf (by omega)) (fun v7 w7 p7 => ?_)
  obtain ⟨s7, rfl, os_7, c7⟩ := p7
  have zw7 := c7.size
  refine sp rfl (px_build rfl (xbld24x0x1 rfl os_7.one _)) ?_
  have f9 := fb2.ext c7
  refine sx_store (vs := [.bool true, v7]) rfl rfl f9 rfl Tryd.sizeOf24 (nbl rfl) (one_cons rfl (one_cons os_7.one one_nil)) (fun w8 sw8 fw8 cw8 => ?_)
  have zw8 := cw8.size
  have gw8 : Blk w8 b2 [.bool true, v7] 24 := fw8
  refine wl_nil (q_n (k6 _ _ ?_))
  refine sx_retc ?_
  refine q_r (sx_ret1 Tryd.results55 ⟨_, rfl, gw8.loadA (vs := [.bool true, v7]) (look_lit rfl) Tryd.isAgg24 Tryd.sizeOf24⟩ ?_)
  have e1 : (18446744073709551616 - (n + 18446744073709551616)).toNat = n.natAbs := by omega
  have e2 : ng n = true := ng_true.2 (by omega)
  rw [e2, ← e1]
  have q10 := Chg.step (l := 0) (h := 0) (Chg.zero (l := 0) (h := 0) (cb2.t c7)) cw8 (by omega)
  have f11 := os_7.chg cw8 (by omega)
  exact ⟨_, rfl, (Own.mono f11 (by omega) (by omega)), q10⟩
 refine sx_skip ?_
 refine q_n (k4 _ _ ?_)
 refine sx_seq fun K12 k12 => sx_region ?_
 refine mv rfl rfl (sp rfl (px_convU Tryd.underlying3 Tryd.underlying105 rfl (by omega)) ?_)
 refine sx_call rfl rfl Tryd.call92 (c_natOf (by omega)) (fun v13 w13 p13 => ?_)
 obtain ⟨s13, rfl, os_13, c13⟩ := p13
 have zw13 := c13.size
 refine sp rfl (px_build rfl (xbld24x0x1 rfl os_13.one _)) ?_
 have f15 := fb2.ext c13
 refine sx_store (vs := [.bool false, v13]) rfl rfl f15 rfl Tryd.sizeOf24 (nbl rfl) (one_cons rfl (one_cons os_13.one one_nil)) (fun w14 sw14 fw14 cw14 => ?_)
 have zw14 := cw14.size
 have gw14 : Blk w14 b2 [.bool false, v13] 24 := fw14
 refine wl_nil (q_n (k12 _ _ ?_))
 refine sx_retc ?_
 refine sx_ret1 Tryd.results55 ⟨_, rfl, gw14.loadA (vs := [.bool false, v13]) (look_lit rfl) Tryd.isAgg24 Tryd.sizeOf24⟩ ?_
 have e1 : n.toNat = n.natAbs := by omega
 have e2 : ng n = false := ng_false.2 (by omega)
 rw [e2, ← e1]
 have q16 := Chg.step (l := 0) (h := 0) (Chg.zero (l := 0) (h := 0) (cb2.t c13)) cw14 (by omega)
 have f17 := os_13.chg cw14 (by omega)
 exact ⟨_, rfl, (Own.mono f17 (by omega) (by omega)), q16⟩

theorem c_natMul {w : World} {va : Value} {lva uva : Nat} {m : Nat} {vb : Value} {lvb uvb : Nat} {n : Nat} (hva : Sl w lva uva va (dg m)) (hvb : Sl w lvb uvb vb (dg n)) (hbm : (dg m).length ≤ 1000) (hbn : (dg n).length ≤ 1000) :
  Ret Tryd.prog 91 [va, vb] w fun v w' => ∃ s, v = s ∧ OwnI w' w.heap.size w'.heap.size s intT (dg (m * n)) ∧ Chg 0 0 w w' := by
 have hva0 := hva.fit
 have hvb0 := hvb.fit
 refine sx_enter Tryd.func91 rfl Tryd.ntmps91 (nbl rfl) ?_
 refine sx_seq fun K1 k1 => sx_region ?_
 refine av rfl rfl (wl_nil (q_n (k1 _ _ ?_)))
 refine sx_seq fun K2 k2 => sx_region ?_
 refine mv rfl rfl (sp rfl (px_len rfl Tryd.underlying22 hva0) ?_)
 refine mv rfl rfl (sp rfl (px_len rfl Tryd.underlying22 hvb0) ?_)
 refine sp rfl (px_add rfl rfl (by omega)) ?_
 refine sp rfl (px_add rfl rfl (by omega)) ?_
 refine sx_make (c := (dg m).length + (dg n).length + 1) rfl xelt22 (look_int rfl (by omega)) (look_int rfl (by omega)) (by omega) (by unfold maxLen; omega) (fun s3 ws3 fs3 cs3 ls3 => ?_)
 have ns3 := fs3.made
 have zws3 := cs3.size
 refine av rfl rfl (wl_nil (q_n (k2 _ _ ?_)))
 refine sx_seq fun K4 k4 => ?_
 refine sx_seq fun K5 k5 => sx_region ?_
 refine mv rfl rfl ?_
 have f6 := hva0.ext cs3
 refine sp rfl (px_len rfl Tryd.underlying22 f6) ?_
 refine mv rfl rfl (wl_nil (q_n (k5 _ _ ?_)))
 refine sx_block ?_
 refine sx_loop (fun mm aa w' => ∃ (k : Nat) (os : List Int), Agr 79 [(1, vb), (5, s3), (19, va), (20, .int .i64 (↑(dg m).length)), (21, .int .i64 ↑k)] aa ∧ Chg w.heap.size ws3.heap.size ws3 w' ∧ Own w' w.heap.size ws3.heap.size s3 intT os.length 1 (os.map (Value.int .i64)) ∧ (mm = (dg m).length - k) ∧ (k ≤ (dg m).length) ∧ (os.length = (dg m).length + (dg n).length + 1) ∧ (Lm os) ∧ (∀ i, k + (dg n).length ≤ i → os.getD i 0 = 0) ∧ (vl os = vl ((dg m).take k) * n)) (_) (fun a ha => ⟨0, List.replicate ((dg m).length + (dg n).length + 1) 0, ha.sub (Sub.c 1 rfl (.c 5 rfl (.c 19 rfl (.c 20 (look_int (t := 20) rfl (by first | omega | simp)) (.c 21 (look_int (t := 21) rfl (by first | omega | simp)) .nil))))), Chg.refl _ _ _, (ns3.mono (by omega) (by omega)), rfl, by omega, by simp, Lm.replicate _, fun i _ => zero_rep _ i (Nat.zero_le _), by rw [vl_replicate, List.take_zero]; simp [vl]⟩) ?_
 rintro mm aa wl7 ⟨k, os, hAwl7, cwl7, hs_s3, hm, hk, hos, hlm, hz, hv⟩
 refine (show cw Tryd.prog 79 _ _ _ wl7 from ?_) aa hAwl7
 clear hAwl7
 have zwl7 := cwl7.size
 have am := (Lm_dg m).getD k
 refine sx_seq fun K8 k8 => sx_region ?_
 refine sp rfl (px_lt rfl rfl) ?_
 refine wl_nil (q_n (k8 _ _ ?_))
 refine sx_seq fun K9 k9 => ?_
 refine sx_condP rfl (fun h140 => ?_) (fun h140 => ?_)
 ·
  refine sx_skip ?_
  refine q_n (k9 _ _ ?_)
  refine sx_seq fun K10 k10 => ?_
  refine sx_block ?_
  refine sx_seq fun K11 k11 => sx_region ?_
  refine mv rfl rfl ?_
  have f12 := f6.chg cwl7 (by omega)
  refine sp rfl (px_index1 (j := k) rfl rfl (by omega) Tryd.underlying22 Tryd.sizeOf3 f12 (by first | omega | (simp only [List.length_set]; omega))) ?_
  refine sp rfl (px_load rfl (f12.load1 (at_int (by omega)) Tryd.isAgg3)) ?_
  refine av rfl rfl (av rfl rfl (wl_nil (q_n (k11 _ _ ?_))))
  refine sx_seq fun K13 k13 => sx_region ?_
  refine av rfl rfl (wl_nil (q_n (k13 _ _ ?_)))
  refine sx_seq fun K14 k14 => ?_
  refine sx_seq fun K15 k15 => sx_region ?_
  refine mv rfl rfl ?_
  have f16 := hvb0.ext cs3
  have f17 := f16.chg cwl7 (by omega)
  refine sp rfl (px_len rfl Tryd.underlying22 f17) ?_
  refine mv rfl rfl (wl_nil (q_n (k15 _ _ ?_)))
  refine sx_sub (Sub.c 1 rfl (.c 5 rfl (.c 6 rfl (.c 7 rfl (.c 8 rfl (.c 19 rfl (.c 20 rfl (.c 21 rfl (.c 26 rfl (.c 27 rfl (.c 28 rfl .nil))))))))))) ?_
  refine sx_block ?_
  refine sx_loop (fun mm aa w' => ∃ (j : Nat) (o2 : List Int) (c : Int), Agr 79 [(1, vb), (5, s3), (6, .int .i64 ↑k), (7, .int .i64 ((dg m).getD k 0)), (8, .int .i64 c), (19, va), (20, .int .i64 (↑(dg m).length)), (21, .int .i64 ↑k), (26, vb), (27, .int .i64 (↑(dg n).length)), (28, .int .i64 ↑j)] aa ∧ Chg w.heap.size ws3.heap.size wl7 w' ∧ Own w' w.heap.size ws3.heap.size s3 intT o2.length 1 (o2.map (Value.int .i64)) ∧ (mm = (dg n).length - j) ∧ (j ≤ (dg n).length) ∧ (o2.length = (dg m).length + (dg n).length + 1) ∧ (Lm o2) ∧ (∀ i, k + (dg n).length ≤ i → o2.getD i 0 = 0) ∧ (0 ≤ c ∧ c < 1000000000) ∧ (vl o2 + Bs ^ (k + j) * c.toNat = vl os + Bs ^ k * (((dg m).getD k 0).toNat * vl ((dg n).take j)))) (_) (fun a ha => ⟨0, os, 0, ha.sub (Sub.c 1 rfl (.c 5 rfl (.c 6 rfl (.c 7 rfl (.c 8 (look_int (t := 8) rfl (by first | omega | simp)) (.c 19 rfl (.c 20 rfl (.c 21 rfl (.c 26 rfl (.c 27 (look_int (t := 27) rfl (by first | omega | simp)) (.c 28 (look_int (t := 28) rfl (by first | omega | simp)) .nil))))))))))), Chg.refl _ _ _, hs_s3, rfl, by omega, hos, hlm, hz, by omega, by simp [vl]⟩) ?_
  rintro mm aa wl18 ⟨j, o2, c, hAwl18, cwl18, hs_s3, hm, hj, hos2, hlm2, hz2, hc, hv2⟩
  refine (show cw Tryd.prog 79 _ _ _ wl18 from ?_) aa hAwl18
  clear hAwl18
  have zwl18 := cwl18.size
  have bn := (Lm_dg n).getD j
  have on := hlm2.getD (k + j)
  have hxy := mul_limb am.1 am.2 bn.1 bn.2
  refine sx_seq fun K19 k19 => sx_region ?_
  refine sp rfl (px_lt rfl rfl) ?_
  refine wl_nil (q_n (k19 _ _ ?_))
  refine sx_seq fun K20 k20 => ?_
  refine sx_condP rfl (fun h142 => ?_) (fun h142 => ?_)
  ·
   refine sx_skip ?_
   refine q_n (k20 _ _ ?_)
   refine sx_seq fun K21 k21 => ?_
   refine sx_block ?_
   refine sx_seq fun K22 k22 => sx_region ?_
   refine mv rfl rfl ?_
   have f23 := f17.chg cwl18 (by omega)
   refine sp rfl (px_index1 (j := j) rfl rfl (by omega) Tryd.underlying22 Tryd.sizeOf3 f23 (by first | omega | (simp only [List.length_set]; omega))) ?_
   refine sp rfl (px_load rfl (f23.load1 (at_int (by omega)) Tryd.isAgg3)) ?_
   refine av rfl rfl (av rfl rfl (wl_nil (q_n (k22 _ _ ?_))))
   refine sx_sub (Sub.c 1 rfl (.c 5 rfl (.c 6 rfl (.c 7 rfl (.c 8 rfl (.c 9 rfl (.c 10 rfl (.c 19 rfl (.c 20 rfl (.c 21 rfl (.c 26 rfl (.c 27 rfl (.c 28 rfl .nil))))))))))))) ?_
   refine sx_seq fun K24 k24 => sx_region ?_
   refine mv rfl rfl (mv rfl rfl (mv rfl rfl (mv rfl rfl (sp rfl (px_add rfl rfl (by omega)) ?_))))
   refine sp rfl (px_index1 (j := (k + j)) rfl rfl (by omega) Tryd.underlying22 Tryd.sizeOf3 hs_s3.sv (by first | omega | (simp only [List.length_set]; omega))) ?_
   refine sp rfl (px_load rfl (hs_s3.sv.load1 (at_int (by omega)) Tryd.isAgg3)) ?_
   refine mv rfl rfl (mv rfl rfl (sp rfl (px_mul rfl rfl (by omega)) ?_))
   refine sp rfl (px_add rfl rfl (by omega)) ?_
   refine sp rfl (px_add rfl rfl (by omega)) ?_
   refine av rfl rfl (wl_nil (q_n (k24 _ _ ?_)))
   refine sx_sub (Sub.c 1 rfl (.c 5 rfl (.c 6 rfl (.c 7 rfl (.c 8 rfl (.c 9 rfl (.c 19 rfl (.c 20 rfl (.c 21 rfl (.c 26 rfl (.c 27 rfl (.c 28 rfl .nil)))))))))))) ?_
   refine sx_seq fun K25 k25 => sx_region ?_
   refine mv rfl rfl (mv rfl rfl (mv rfl rfl (sp rfl (px_add rfl rfl (by omega)) ?_)))
   refine mv rfl rfl (sp rfl (px_rem rfl rfl (by omega) (by omega)) ?_)
   refine sp rfl (px_index1 (j := (k + j)) rfl rfl (by omega) Tryd.underlying22 Tryd.sizeOf3 hs_s3.sv (by first | omega | (simp only [List.length_set]; omega))) ?_
   refine sx_storeO rfl rfl hs_s3 (by first | omega | (simp only [List.length_map]; omega)) Tryd.sizeOf3 rfl (fun w26 sw26 fw26 cw26 => ?_)
   have zw26 := cw26.size
   have nw26 := fw26.set
   refine wl_nil (q_n (k25 _ _ ?_))
   refine sx_sub (Sub.c 1 rfl (.c 5 rfl (.c 6 rfl (.c 7 rfl (.c 8 rfl (.c 19 rfl (.c 20 rfl (.c 21 rfl (.c 26 rfl (.c 27 rfl (.c 28 rfl .nil))))))))))) ?_
   refine sx_region ?_
   refine mv rfl rfl (sp rfl (px_quo rfl rfl (by omega) (by omega) (by omega)) ?_)
   refine av rfl rfl (wl_nil ?_)
   refine q_bn (q_n (k21 _ _ ?_))
   refine sx_region ?_
   refine sp rfl (px_add rfl rfl (by omega)) ?_
   refine mv rfl rfl (wl_nil ?_)
   have q27 := Chg.step (l := w.heap.size) (h := ws3.heap.size) cwl18 cw26 (by omega)
   have hs : (c + (((o2).getD (k + j) 0) + (((dg m).getD k 0) * ((dg n).getD j 0)))) = c + (o2.getD (k + j) 0 + (dg m).getD k 0 * (dg n).getD j 0) := by omega
   have hm2 := mul_step (V := vl os) hc.1 am.1 on.1 bn.1 (by omega) (by omega) hs hv2
   exact fun a ha => ⟨_, by omega, (j + 1), ((o2).set (k + j) ((c + (((o2).getD (k + j) 0) + (((dg m).getD k 0) * ((dg n).getD j 0)))) % 1000000000)), ((c + (((o2).getD (k + j) 0) + (((dg m).getD k 0) * ((dg n).getD j 0)))) / 1000000000), ha.sub (Sub.c 1 rfl (.c 5 rfl (.c 6 rfl (.c 7 rfl (.c 8 (look_int (t := 8) rfl (by first | omega | simp)) (.c 19 rfl (.c 20 rfl (.c 21 rfl (.c 26 rfl (.c 27 rfl (.c 28 (look_int (t := 28) rfl (by first | omega | simp)) .nil))))))))))), q27, (nw26.mono (by omega) (by omega)), rfl, by omega, by simpa using hos2, hlm2.set _ (by omega) (by omega), zero_set' hz2 (by omega), by omega, hm2⟩
  refine sx_exit ?_
  refine q_e (q_e (q_bx (q_n (k14 _ _ ?_))))
  refine sx_seq fun K28 k28 => sx_region ?_
  refine mv rfl rfl (mv rfl rfl ?_)
  have f29 := f17.chg cwl18 (by omega)
  refine sp rfl (px_len rfl Tryd.underlying22 f29) ?_
  refine sp rfl (px_add rfl rfl (by omega)) ?_
  refine av rfl rfl (wl_nil (q_n (k28 _ _ ?_)))
  refine sx_sub (Sub.c 1 rfl (.c 5 rfl (.c 8 rfl (.c 11 rfl (.c 19 rfl (.c 20 rfl (.c 21 rfl .nil))))))) ?_
  refine sx_block ?_
  have ej : j = (dg n).length := by omega
  rw [ej, List.take_length, vl_dg] at hv2
  refine sx_loop (fun mm aa w' => ∃ (q : Nat) (o3 : List Int) (e : Int), Agr 79 [(1, vb), (5, s3), (8, .int .i64 e), (11, .int .i64 ↑q), (19, va), (20, .int .i64 (↑(dg m).length)), (21, .int .i64 ↑k)] aa ∧ Chg w.heap.size ws3.heap.size wl18 w' ∧ Own w' w.heap.size ws3.heap.size s3 intT o3.length 1 (o3.map (Value.int .i64)) ∧ (mm = k + (dg n).length + 1 - q) ∧ (o3.length = (dg m).length + (dg n).length + 1) ∧ (Lm o3) ∧ (∀ i, q ≤ i → o3.getD i 0 = 0) ∧ (0 ≤ e ∧ e < 1000000000) ∧ (q = k + (dg n).length ∨ (q = k + (dg n).length + 1 ∧ e = 0)) ∧ (vl o3 + Bs ^ q * e.toNat = vl os + Bs ^ k * (((dg m).getD k 0).toNat * n))) (_) (fun a ha => ⟨(k + (dg n).length), o2, c, ha.sub (Sub.c 1 rfl (.c 5 rfl (.c 8 (look_int (t := 8) rfl (by first | omega | simp)) (.c 11 (look_int (t := 11) rfl (by first | omega | simp)) (.c 19 rfl (.c 20 rfl (.c 21 rfl .nil))))))), Chg.refl _ _ _, hs_s3, rfl, hos2, hlm2, hz2, by omega, .inl rfl, hv2⟩) ?_
  rintro mm aa wl30 ⟨q, o3, e, hAwl30, cwl30, hs_s3, hm, hos3, hlm3, hz3, he, hq, hv3⟩
  refine (show cw Tryd.prog 79 _ _ _ wl30 from ?_) aa hAwl30
  clear hAwl30
  have zwl30 := cwl30.size
  have on := hlm3.getD q
  have oz := hz3 q (Nat.le_refl _)
  refine sx_seq fun K31 k31 => ?_
  refine sx_seq fun K32 k32 => sx_region ?_
  refine mv rfl rfl (sp rfl (px_gt rfl rfl) ?_)
  refine wl_nil (q_n (k32 _ _ ?_))
  refine sx_condP rfl (fun h147 => ?_) (fun h147 => ?_)
  ·
   refine sx_skip ?_
   refine q_n (k31 _ _ ?_)
   refine sx_seq fun K33 k33 => ?_
   refine sx_block ?_
   refine sx_seq fun K34 k34 => sx_region ?_
   refine mv rfl rfl (mv rfl rfl (mv rfl rfl (sp rfl (px_index1 (j := q) rfl rfl (by omega) Tryd.underlying22 Tryd.sizeOf3 hs_s3.sv (by first | omega | (simp only [List.length_set]; omega))) ?_)))
   refine sp rfl (px_load rfl (hs_s3.sv.load1 (at_int (by omega)) Tryd.isAgg3)) ?_
   refine sp rfl (px_add rfl rfl (by omega)) ?_
   refine av rfl rfl (wl_nil (q_n (k34 _ _ ?_)))
   refine sx_sub (Sub.c 1 rfl (.c 5 rfl (.c 8 rfl (.c 11 rfl (.c 19 rfl (.c 20 rfl (.c 21 rfl .nil))))))) ?_
   refine sx_seq fun K35 k35 => sx_region ?_
   refine mv rfl rfl (mv rfl rfl (mv rfl rfl (sp rfl (px_rem rfl rfl (by omega) (by omega)) ?_)))
   refine sp rfl (px_index1 (j := q) rfl rfl (by omega) Tryd.underlying22 Tryd.sizeOf3 hs_s3.sv (by first | omega | (simp only [List.length_set]; omega))) ?_
   refine sx_storeO rfl rfl hs_s3 (by first | omega | (simp only [List.length_map]; omega)) Tryd.sizeOf3 rfl (fun w36 sw36 fw36 cw36 => ?_)
   have zw36 := cw36.size
   have nw36 := fw36.set
   refine wl_nil (q_n (k35 _ _ ?_))
   refine sx_region ?_
   refine mv rfl rfl (sp rfl (px_quo rfl rfl (by omega) (by omega) (by omega)) ?_)
   refine av rfl rfl (wl_nil ?_)
   refine q_bn (q_n (k33 _ _ ?_))
   refine sx_region ?_
   refine mv rfl rfl (sp rfl (px_add rfl rfl (by omega)) ?_)
   refine av rfl rfl (wl_nil ?_)
   have q37 := Chg.step (l := w.heap.size) (h := ws3.heap.size) cwl30 cw36 (by omega)
   have hs : (e + ((o3).getD q 0)) = e + o3.getD q 0 := by omega
   have hm3 := carry_gen (by omega) he.1 on.1 hs hv3
   exact fun a ha => ⟨_, by omega, (q + 1), ((o3).set q ((e + ((o3).getD q 0)) % 1000000000)), ((e + ((o3).getD q 0)) / 1000000000), ha.sub (Sub.c 1 rfl (.c 5 rfl (.c 8 (look_int (t := 8) rfl (by first | omega | simp)) (.c 11 (look_int (t := 11) rfl (by first | omega | simp)) (.c 19 rfl (.c 20 rfl (.c 21 rfl .nil))))))), q37, (nw36.mono (by omega) (by omega)), rfl, by simpa using hos3, hlm3.set _ (by omega) (by omega), zero_set hz3 (by omega), by omega, .inr (by omega), hm3⟩
  refine sx_exit ?_
  refine q_e (q_e (q_bx (q_bn (q_n (k10 _ _ ?_)))))
  have e0 : e = 0 := by omega
  subst e0
  have hosR := hos3
  have hlmR := hlm3
  have hzR : ∀ i, k + (dg n).length + 1 ≤ i → o3.getD i 0 = 0 := fun i hi => hz3 i (by omega)
  have hvR : vl o3 = vl os + Bs ^ k * (((dg m).getD k 0).toNat * n) := by simpa using hv3
  refine sx_region ?_
  refine sp rfl (px_add rfl rfl (by omega)) ?_
  refine mv rfl rfl (wl_nil ?_)
  have q38 := Chg.step (l := w.heap.size) (h := ws3.heap.size) cwl7 cwl18 (by omega)
  have q39 := Chg.step (l := w.heap.size) (h := ws3.heap.size) q38 cwl30 (by omega)
  have hrow := mul_row (P := Bs ^ k) (a := ((dg m).getD k 0).toNat) hv
  rw [← vl_take_succ'] at hrow
  exact fun a ha => ⟨_, by omega, (k + 1), o3, ha.sub (Sub.c 1 rfl (.c 5 rfl (.c 19 rfl (.c 20 rfl (.c 21 (look_int (t := 21) rfl (by first | omega | simp)) .nil))))), q39, (hs_s3.mono (by omega) (by omega)), rfl, by omega, by simpa using hosR, hlmR, fun i hi => hzR i (by omega), hvR.trans hrow⟩
 refine sx_exit ?_
 refine q_e (q_e (q_bx (q_n (k4 _ _ ?_))))
 refine sx_seq fun K40 k40 => ?_
 have ek : k = (dg m).length := by omega
 rw [ek, List.take_length, vl_dg] at hv
 have hzz := hlm
 refine sx_region ?_
 refine mv rfl rfl (sx_call rfl rfl Tryd.call104 (c_trim hs_s3 (by assumption) (by first | omega | (simp only [List.length_append, List.length_set, List.length_replicate, List.length_cons, List.length_nil] at *; omega))) (fun v41 w41 p41 => ?_))
 obtain ⟨s41, rfl, os_41, c41⟩ := p41
 have zw41 := c41.size
 refine av rfl rfl (wl_nil (q_n (k40 _ _ ?_)))
 refine sx_retc ?_
 refine sx_ret1 Tryd.results91 rfl ?_
 have hr := os_41
 rw [hv] at hr
 have q42 := Chg.step (l := 0) (h := 0) (Chg.zero (l := 0) (h := 0) cs3) cwl7 (by omega)
 have q43 := Chg.step (l := 0) (h := 0) q42 c41 (by omega)
 exact ⟨_, rfl, hr.mono (by omega) (by omega), q43⟩

theorem c_natMulS {w : World} {va : Value} {lva uva : Nat} {m : Nat} {vb : Value} {lvb uvb : Nat} {ys : List Int} (hva : Sl w lva uva va (dg m)) (hvb : Sl w lvb uvb vb (ys)) (hbm : (dg m).length ≤ 1000) (hbn : ys.length ≤ 1000) (hy : ys = dg (vl ys)) :
  Ret Tryd.prog 91 [va, vb] w fun v w' => ∃ s, v = s ∧ OwnI w' w.heap.size w'.heap.size s intT (dg (m * vl ys)) ∧ Chg 0 0 w w' := by
 have hl : (dg (vl ys)).length ≤ 1000 := by rw [← hy]; exact hbn
 rw [hy] at hvb; exact c_natMul hva hvb hbm hl

theorem c_intMul {w : World} {va : Value} {lva uva : Nat} {x : Int} {vb : Value} {lvb uvb : Nat} {y : Int} (hva : Sl w lva uva va (dg x.natAbs)) (hvb : Sl w lvb uvb vb (dg y.natAbs)) (hbx : (dg x.natAbs).length ≤ 1000) (hby : (dg y.natAbs).length ≤ 1000) :
  Ret Tryd.prog 54 [.agg #[.bool (ng x), va], .agg #[.bool (ng y), vb]] w fun v w' => ∃ s, v = .agg #[.bool (ng (x * y)), s] ∧ OwnI w' w.heap.size w'.heap.size s intT (dg (x * y).natAbs) ∧ Chg 0 0 w w' := by
 have hva0 := hva.fit
 have hvb0 := hvb.fit
 have l1 := len_mul x.natAbs y.natAbs
 refine sx_enter Tryd.func54 rfl Tryd.ntmps54 (nbl rfl) ?_
 refine sx_seq fun K1 k1 => sx_region ?_
 refine sx_box [.bool (ng x), va] rfl rfl rfl (fun b2 w3 eb2 sb2 fb2 cb2 => ?_)
 have zw3 := cb2.size
 refine sx_box [.bool (ng y), vb] rfl rfl rfl (fun b4 w5 eb4 sb4 fb4 cb4 => ?_)
 have zw5 := cb4.size
 refine sx_alloc [.bool false, (.slice none 0 0)] rfl Tryd.zeroValue24 rfl (fun b6 w7 eb6 sb6 fb6 cb6 => ?_)
 have zw7 := cb6.size
 refine wl_nil (q_n (k1 _ _ ?_))
 refine sx_seq fun K8 k8 => ?_
 have f9 := fb2.ext cb4
 have f10 := f9.ext cb6
 have f11 := fb4.ext cb6
 have f12 := hva0.ext cb2
 have f13 := f12.ext cb4
 have f14 := f13.ext cb6
 have f15 := hvb0.ext cb2
 have f16 := f15.ext cb4
 have f17 := f16.ext cb6
 refine dx_region (fun w' => Chg b6 (b6 + 1) w7 w') (by kernel_rfl) (Chg.zero (Chg.drew _)) ?_
 have d18 := Chg.drew w7
 have s18 : Chg b6 (b6 + 1) w7 (World.drew w7) := Chg.zero (Chg.drew _)
 have y18 : (World.drew w7).heap.size = w7.heap.size := rfl
 generalize World.drew w7 = w18 at *
 have zw18 := d18.size
 refine dt 0 rfl rfl rfl rfl s18 (fun _ hS => px_field rfl xfld24x0) ?_
 refine dt 1 rfl rfl rfl rfl s18 (fun _ hS => px_load rfl ((f10.chg hS (by omega)).load1 rfl Tryd.isAgg4)) ?_
 refine dt 2 rfl rfl rfl rfl s18 (fun _ hS => px_field rfl xfld24x0) ?_
 refine dt 3 rfl rfl rfl rfl s18 (fun _ hS => px_load rfl ((f11.chg hS (by omega)).load1 rfl Tryd.isAgg4)) ?_
 refine dt 4 rfl rfl rfl rfl s18 (fun _ hS => px_neB Tryd.underlying4 rfl rfl) ?_
 refine dt 5 rfl rfl rfl rfl s18 (fun _ hS => px_field rfl xfld24x1) ?_
 refine dt 6 rfl rfl rfl rfl s18 (fun _ hS => px_load rfl ((f10.chg hS (by omega)).load1 rfl Tryd.isAgg22)) ?_
 refine dt 7 rfl rfl rfl rfl s18 (fun _ hS => px_field rfl xfld24x1) ?_
 refine dt 8 rfl rfl rfl rfl s18 (fun _ hS => px_load rfl ((f11.chg hS (by omega)).load1 rfl Tryd.isAgg22)) ?_
 refine dx_eff 9 rfl (by kernel_rfl) ?_
 have f19 := f14.ext d18
 have f20 := f17.ext d18
 refine sx_call rfl rfl Tryd.call91 (c_natMul f19 f20 (by omega) (by omega)) (fun v21 w21 p21 => ?_)
 obtain ⟨s21, rfl, os_21, c21⟩ := p21
 have zw21 := c21.size
 have s22 : Chg b6 (b6 + 1) w7 w21 := (Chg.zero (l := b6) (h := (b6 + 1)) (d18.t c21))
 refine wl_nil ?_
 refine dx_next s22 ?_
 refine dx_eff 10 rfl (by kernel_rfl) ?_
 refine sx_call rfl rfl Tryd.call69 (c_signed os_21.sv (by omega)) (fun v23 w23 p23 => ?_)
 obtain ⟨rfl, c23⟩ := p23
 have zw23 := c23.size
 have s24 : Chg b6 (b6 + 1) w7 w23 := (Chg.zero (l := b6) (h := (b6 + 1)) ((d18.t c21).t c23))
 refine wl_nil ?_
 refine dx_next s24 ?_
 refine dx_eff 11 rfl (by kernel_rfl) ?_
 have f28 := ((fb6.ext d18).ext c21).ext c23
 have f29 := os_21.ext c23
 refine sx_store (vs := [.bool (nz ((ng x) != (ng y)) (dg (x.natAbs * y.natAbs))), v21]) rfl rfl f28 rfl Tryd.sizeOf24 (nbl rfl) (one_cons rfl (one_cons f29.one one_nil)) (fun w25 sw25 fw25 cw25 => ?_)
 have zw25 := cw25.size
 have gw25 : Blk w25 b6 [.bool (nz ((ng x) != (ng y)) (dg (x.natAbs * y.natAbs))), v21] 24 := fw25
 have q31 := Chg.step (l := b6) (h := (b6 + 1)) (Chg.zero (l := b6) (h := (b6 + 1)) ((d18.t c21).t c23)) cw25 (by omega)
 have s30 : Chg b6 (b6 + 1) w7 w25 := q31
 refine wl_nil ?_
 refine dx_next s30 ?_
 refine dx_done (by kernel_rfl) ?_
 refine q_n (k8 _ _ ?_)
 refine sx_sub (Sub.c 4 rfl .nil) ?_
 refine sx_retc ?_
 refine sx_ret1 Tryd.results54 ⟨_, rfl, gw25.loadA (vs := [.bool (nz ((ng x) != (ng y)) (dg (x.natAbs * y.natAbs))), v21]) (look_lit rfl) Tryd.isAgg24 Tryd.sizeOf24⟩ ?_
 have hh := mul_sg x y
 rw [← hh.1, ← hh.2]
 have q32 := Chg.step (l := 0) (h := 0) (Chg.zero (l := 0) (h := 0) (((((cb2.t cb4).t cb6).t d18).t c21).t c23)) cw25 (by omega)
 have f33 := f29.chg cw25 (by omega)
 exact ⟨_, rfl, (Own.mono f33 (by omega) (by omega)), q32⟩

theorem c_iMoneyTimes {w : World} {c1 : ByteArray} {n1 : Bool} {v1 : Value} {lv1 uv1 : Nat} {z1 : List Int} {k : Int} (hG0 : Glob w) (hv1 : Sl w lv1 uv1 v1 (z1)) (h63 : z1.length ≤ 4611686018427387904) (bik : -9223372036854775808 ≤ k ∧ k ≤ 9223372036854775807) :
  Ret Tryd.prog 21 [.agg #[.string c1, .bool n1, v1], .int .i64 k] w fun v w' => ∃ s, v = .tuple #[.agg #[.string ((mUn (uTimes k) c1 n1 z1).1), .bool ((mUn (uTimes k) c1 n1 z1).2.1), s], .bool ((mUn (uTimes k) c1 n1 z1).2.2.2)] ∧ OwnI w' w.heap.size w'.heap.size s intT ((mUn (uTimes k) c1 n1 z1).2.2.1) ∧ ((mUn (uTimes k) c1 n1 z1).2.2.1.length ≤ 4) ∧ Chg 0 0 w w' := by
 have hv10 := hv1.fit
 have lk := len_i64 bik
 refine sx_enter Tryd.func21 rfl Tryd.ntmps21 (nbl rfl) ?_
 refine sx_seq fun K1 k1 => sx_region ?_
 refine sx_box [.string c1, .bool n1, v1] rfl rfl rfl (fun b2 w3 eb2 sb2 fb2 cb2 => ?_)
 have zw3 := cb2.size
 refine sx_alloc [.string (⟨#[]⟩), .bool false, (.slice none 0 0)] rfl Tryd.zeroValue26 rfl (fun b4 w5 eb4 sb4 fb4 cb4 => ?_)
 have zw5 := cb4.size
 refine av rfl rfl (wl_nil (q_n (k1 _ _ ?_)))
 refine sx_seq fun K6 k6 => ?_
 refine sx_seq fun K7 k7 => sx_region ?_
 have f8 := fb2.ext cb4
 refine sp rfl (px_load rfl (f8.loadA (vs := [.string c1, .bool n1, v1]) (look_lit rfl) Tryd.isAgg26 Tryd.sizeOf26)) ?_
 have f9 := hG0.ext cb2
 have f10 := f9.ext cb4
 have f11 := hv10.ext cb2
 have f12 := f11.ext cb4
 refine sx_call rfl rfl Tryd.call46 (c_iMoneyOk f10 f12 (by omega)) (fun v13 w13 p13 => ?_)
 obtain ⟨rfl, c13⟩ := p13
 have zw13 := c13.size
 refine sp rfl (px_notP rfl) ?_
 refine wl_nil (q_n (k7 _ _ ?_))
 refine sx_condP rfl (fun h79 => ?_) (fun h79 => ?_)
 ·
  refine sx_seq fun K14 k14 => sx_region ?_
  refine sp rfl (px_build rfl (xbld26x  _)) ?_
  have f16 := fb4.ext c13
  refine sx_store (vs := [.string (⟨#[]⟩), .bool false, (.slice none 0 0)]) rfl rfl f16 rfl Tryd.sizeOf26 (nbl rfl) (o3 rfl rfl rfl) (fun w15 sw15 fw15 cw15 => ?_)
  have zw15 := cw15.size
  have gw15 : Blk w15 b4 [.string (⟨#[]⟩), .bool false, (.slice none 0 0)] 26 := fw15
  refine av rfl rfl (wl_nil (q_n (k14 _ _ ?_)))
  refine sx_retc ?_
  refine q_r (sx_ret2 Tryd.results21 ⟨_, rfl, gw15.loadA (vs := [.string (⟨#[]⟩), .bool false, (.slice none 0 0)]) (look_lit rfl) Tryd.isAgg26 Tryd.sizeOf26⟩ rfl ?_)
  rw [mUn_no (by assumption)]
  have q17 := Chg.step (l := 0) (h := 0) (Chg.zero (l := 0) (h := 0) ((cb2.t cb4).t c13)) cw15 (by omega)
  exact ⟨_, rfl, Own.nil _ _ _ _ _, by simp [noM], q17⟩
 have hA := Decidable.not_not.1 h79
 obtain ⟨x1, rfl, rfl, hx1⟩ := hA.int
 have lc : (dg (-x1).natAbs).length = (dg x1.natAbs).length := by rw [Int.natAbs_neg]
 have lm := len_mulI x1 k
 refine sx_skip ?_
 refine q_n (k6 _ _ ?_)
 refine sx_seq fun K18 k18 => ?_
 have f20 := f8.ext c13
 refine dx_region (fun w' => Chg b4 (b4 + 1) w13 w') (by kernel_rfl) (Chg.zero (Chg.drew _)) ?_
 have d22 := Chg.drew w13
 have s22 : Chg b4 (b4 + 1) w13 (World.drew w13) := Chg.zero (Chg.drew _)
 have y22 : (World.drew w13).heap.size = w13.heap.size := rfl
 generalize World.drew w13 = w22 at *
 have zw22 := d22.size
 refine dt 0 rfl rfl rfl rfl s22 (fun _ hS => px_field rfl xfld26x0) ?_
 refine dt 1 rfl rfl rfl rfl s22 (fun _ hS => px_load rfl ((f20.chg hS (by omega)).load1 rfl Tryd.isAgg9)) ?_
 refine dt 2 rfl rfl rfl rfl s22 (fun _ hS => px_field rfl xfld26x1) ?_
 refine dt 3 rfl rfl rfl rfl s22 (fun _ hS => px_load rfl ((f20.chg hS (by omega)).loadA (vs := [.bool (ng x1), v1]) (look_lit rfl) Tryd.isAgg24 Tryd.sizeOf24)) ?_
 refine dt 4 rfl rfl rfl rfl s22 (fun _ hS => px_move rfl) ?_
 refine dx_eff 5 rfl (by kernel_rfl) ?_
 refine sx_call rfl rfl Tryd.call55 (c_iIntOf (by omega)) (fun v23 w23 p23 => ?_)
 obtain ⟨s23, rfl, os_23, c23⟩ := p23
 have zw23 := c23.size
 have s24 : Chg b4 (b4 + 1) w13 w23 := (Chg.zero (l := b4) (h := (b4 + 1)) (d22.t c23))
 refine wl_nil ?_
 refine dx_next s24 ?_
 refine dx_eff 6 rfl (by kernel_rfl) ?_
 have f26 := ((f12.ext c13).ext d22).ext c23
 refine sx_call rfl rfl Tryd.call54 (c_intMul f26 os_23.sv (by omega) (by omega)) (fun v27 w27 p27 => ?_)
 obtain ⟨s27, rfl, os_27, c27⟩ := p27
 have zw27 := c27.size
 have s28 : Chg b4 (b4 + 1) w13 w27 := (Chg.zero (l := b4) (h := (b4 + 1)) ((d22.t c23).t c27))
 refine wl_nil ?_
 refine dx_next s28 ?_
 refine dx_eff 7 rfl (by kernel_rfl) ?_
 have f31 := (((f10.ext c13).ext d22).ext c23).ext c27
 refine sx_call rfl rfl Tryd.call50 (c_moneyOf f31 os_27 (by omega) (by omega)) (fun v32 w32 p32 => ?_)
 obtain ⟨s32, rfl, os_32, c32⟩ := p32
 have zw32 := c32.size
 have s33 : Chg b4 (b4 + 1) w13 w32 := (Chg.zero (l := b4) (h := (b4 + 1)) (((d22.t c23).t c27).t c32))
 refine wl_nil ?_
 refine dx_next s33 ?_
 refine dt 8 rfl rfl rfl rfl s33 (fun _ hS => px_ex2 rfl rfl) ?_
 refine dt 9 rfl rfl rfl rfl s33 (fun _ hS => px_ex2 rfl rfl) ?_
 refine dx_eff 10 rfl (by kernel_rfl) ?_
 have f39 := ((((fb4.ext c13).ext d22).ext c23).ext c27).ext c32
 refine sx_store (vs := [.string ((mR c1 (x1 * (k))).1), .bool ((mR c1 (x1 * (k))).2.1), s32]) rfl rfl f39 rfl Tryd.sizeOf26 (nbl rfl) (one_cons rfl (one_cons rfl (one_cons os_32.one one_nil))) (fun w34 sw34 fw34 cw34 => ?_)
 have zw34 := cw34.size
 have gw34 : Blk w34 b4 [.string ((mR c1 (x1 * (k))).1), .bool ((mR c1 (x1 * (k))).2.1), s32] 26 := fw34
 have q41 := Chg.step (l := b4) (h := (b4 + 1)) (Chg.zero (l := b4) (h := (b4 + 1)) (((d22.t c23).t c27).t c32)) cw34 (by omega)
 have s40 : Chg b4 (b4 + 1) w13 w34 := q41
 refine wl_nil ?_
 refine dx_next s40 ?_
 refine dt 11 rfl rfl rfl rfl s40 (fun _ hS => px_assign rfl) ?_
 refine dx_done (by kernel_rfl) ?_
 refine q_n (k18 _ _ ?_)
 refine sx_sub (Sub.c 4 rfl (.c 5 rfl .nil)) ?_
 refine sx_retc ?_
 refine sx_ret2 Tryd.results21 ⟨_, rfl, gw34.loadA (vs := [.string ((mR c1 (x1 * (k))).1), .bool ((mR c1 (x1 * (k))).2.1), s32]) (look_lit rfl) Tryd.isAgg26 Tryd.sizeOf26⟩ rfl ?_
 rw [mUn_ok hA]
 have q42 := Chg.step (l := 0) (h := 0) (Chg.zero (l := 0) (h := 0) ((((((cb2.t cb4).t c13).t d22).t c23).t c27).t c32)) cw34 (by omega)
 have f43 := os_32.chg cw34 (by omega)
 exact ⟨_, rfl, (Own.mono f43 (by omega) (by omega)), mR_len, q42⟩

theorem c_iMoneyTimesM {w : World} {c1 : ByteArray} {va1 : Value} {lva1 uva1 : Nat} {x1 : Int} {k : Int} (hG0 : Glob w) (hva1 : Sl w lva1 uva1 va1 (dg x1.natAbs)) (hM1 : MOk c1 (ng (x1)) (dg (x1).natAbs)) (hk : k = 2) (hS : (dg (x1 * k).natAbs).length ≤ 4) :
  Ret Tryd.prog 21 [.agg #[.string c1, .bool (ng x1), va1], .int .i64 k] w fun v w' => ∃ s, v = .tuple #[.agg #[.string (c1), .bool (ng (x1 * k)), s], .bool (true)] ∧ OwnI w' w.heap.size w'.heap.size s intT (dg (x1 * k).natAbs) ∧ Chg 0 0 w w' := by
 have hl1 := hM1.2.2
 have h := c_iMoneyTimes (c1 := c1) (n1 := ng x1) (k := k) hG0 hva1 (by omega) (by omega); rw [mUn_ok hM1, show uTimes k x1 = x1 * k from rfl, mR_ok (mok_len hM1.1 hS)] at h
 exact Calls.mono h fun ev w' ⟨v, he, s, e1, o1, _, hc⟩ => ⟨v, he, s, e1, o1, hc⟩

theorem c_sameInts {w : World} {va : Value} {lva uva : Nat} {zs : List Int} {vb : Value} {lvb uvb : Nat} {ys : List Int} (hva : Sl w lva uva va (zs)) (hvb : Sl w lvb uvb vb (ys)) (h63 : zs.length ≤ 4611686018427387904 ∧ ys.length ≤ 4611686018427387904) :
  Ret Tryd.prog 93 [va, vb] w fun v w' => v = .bool (decide (zs = ys)) ∧ Chg 0 0 w w' := by
 have hva0 := hva.fit
 have hvb0 := hvb.fit
 have hneq : zs.length ≠ ys.length → zs ≠ ys := fun h e => h (by rw [e])
 refine sx_enter Tryd.func93 rfl Tryd.ntmps93 (nbl rfl) ?_
 refine sx_seq fun K1 k1 => sx_region ?_
 refine av rfl rfl (wl_nil (q_n (k1 _ _ ?_)))
 refine sx_seq fun K2 k2 => ?_
 refine sx_seq fun K3 k3 => sx_region ?_
 refine mv rfl rfl (sp rfl (px_len rfl Tryd.underlying22 hva0) ?_)
 refine mv rfl rfl (sp rfl (px_len rfl Tryd.underlying22 hvb0) ?_)
 refine sp rfl (px_ne rfl rfl) ?_
 refine wl_nil (q_n (k3 _ _ ?_))
 refine sx_condP rfl (fun h169 => ?_) (fun h169 => ?_)
 ·
  refine sx_seq fun K4 k4 => sx_region ?_
  refine av rfl rfl (wl_nil (q_n (k4 _ _ ?_)))
  refine sx_retc ?_
  refine q_r (sx_ret1 Tryd.results93 rfl ?_)
  exact ⟨bFalse (hneq (by omega)), (Chg.refl 0 0 _)⟩
 refine sx_skip ?_
 refine q_n (k2 _ _ ?_)
 refine sx_seq fun K5 k5 => ?_
 refine sx_seq fun K6 k6 => sx_region ?_
 refine mv rfl rfl (sp rfl (px_len rfl Tryd.underlying22 hva0) ?_)
 refine mv rfl rfl (wl_nil (q_n (k6 _ _ ?_)))
 refine sx_block ?_
 refine sx_loop (fun mm aa w' => ∃ (k : Nat), Agr 26 [(0, va), (1, vb), (12, .int .i64 ↑zs.length), (13, .int .i64 ↑k)] aa ∧ Chg 0 0 w w' ∧ (mm = zs.length - k) ∧ (k ≤ zs.length) ∧ (zs.take k = ys.take k)) (_) (fun a ha => ⟨0, ha.sub (Sub.c 0 rfl (.c 1 rfl (.c 12 (look_int (t := 12) rfl (by first | omega | simp)) (.c 13 (look_int (t := 13) rfl (by first | omega | simp)) .nil)))), Chg.refl _ _ _, rfl, by omega, by simp⟩) ?_
 rintro mm aa wl7 ⟨k, hAwl7, cwl7, hm, hk, he⟩
 refine (show cw Tryd.prog 26 _ _ _ wl7 from ?_) aa hAwl7
 clear hAwl7
 have zwl7 := cwl7.size
 refine sx_seq fun K8 k8 => sx_region ?_
 refine sp rfl (px_lt rfl rfl) ?_
 refine wl_nil (q_n (k8 _ _ ?_))
 refine sx_seq fun K9 k9 => ?_
 refine sx_condP rfl (fun h172 => ?_) (fun h172 => ?_)
 ·
  refine sx_skip ?_
  refine q_n (k9 _ _ ?_)
  refine sx_seq fun K10 k10 => ?_
  refine sx_block ?_
  refine sx_seq fun K11 k11 => sx_region ?_
  refine mv rfl rfl (av rfl rfl (wl_nil (q_n (k11 _ _ ?_))))
  refine sx_seq fun K12 k12 => ?_
  have f13 := hva0.ext cwl7
  have f14 := hvb0.ext cwl7
  refine dx_region (fun w' => Chg 0 0 wl7 w') (by kernel_rfl) (Chg.zero (Chg.drew _)) ?_
  have d15 := Chg.drew wl7
  have s15 : Chg 0 0 wl7 (World.drew wl7) := Chg.zero (Chg.drew _)
  have y15 : (World.drew wl7).heap.size = wl7.heap.size := rfl
  generalize World.drew wl7 = w15 at *
  have zw15 := d15.size
  refine dt 0 rfl rfl rfl rfl s15 (fun _ hS => px_move rfl) ?_
  refine dt 1 rfl rfl rfl rfl s15 (fun _ hS => px_move rfl) ?_
  refine dt 2 rfl rfl rfl rfl s15 (fun _ hS => px_index1 (j := k) rfl rfl (by omega) Tryd.underlying22 Tryd.sizeOf3 ((f13).chg hS (by omega)) (by omega)) ?_
  refine dt 3 rfl rfl rfl rfl s15 (fun _ hS => px_load rfl (((f13).chg hS (by omega)).load1 (at_int (by omega)) Tryd.isAgg3)) ?_
  refine dt 4 rfl rfl rfl rfl s15 (fun _ hS => px_move rfl) ?_
  refine dt 5 rfl rfl rfl rfl s15 (fun _ hS => px_move rfl) ?_
  refine dt 6 rfl rfl rfl rfl s15 (fun _ hS => px_index1 (j := k) rfl rfl (by omega) Tryd.underlying22 Tryd.sizeOf3 ((f14).chg hS (by omega)) (by omega)) ?_
  refine dt 7 rfl rfl rfl rfl s15 (fun _ hS => px_load rfl (((f14).chg hS (by omega)).load1 (at_int (by omega)) Tryd.isAgg3)) ?_
  refine dt 8 rfl rfl rfl rfl s15 (fun _ hS => px_ne rfl rfl) ?_
  refine dx_done (by kernel_rfl) ?_
  refine q_n (k12 _ _ ?_)
  refine sx_sub (Sub.c 0 rfl (.c 1 rfl (.c 12 rfl (.c 13 rfl (.c 24 rfl .nil))))) ?_
  refine sx_condP rfl (fun h173 => ?_) (fun h173 => ?_)
  ·
   refine sx_seq fun K16 k16 => sx_region ?_
   refine av rfl rfl (wl_nil (q_n (k16 _ _ ?_)))
   refine sx_retc ?_
   refine q_br (q_r (q_r (q_br (q_r (sx_ret1 Tryd.results93 rfl ?_)))))
   exact ⟨bFalse (ne_of_getD h173), (cwl7.t d15)⟩
  refine sx_skip ?_
  refine q_bn (q_n (k10 _ _ ?_))
  refine sx_region ?_
  refine sp rfl (px_add rfl rfl (by omega)) ?_
  refine mv rfl rfl (wl_nil ?_)
  exact fun a ha => ⟨_, by omega, (k + 1), ha.sub (Sub.c 0 rfl (.c 1 rfl (.c 12 rfl (.c 13 (look_int (t := 13) rfl (by first | omega | simp)) .nil)))), (cwl7.t d15), rfl, by omega, take_succ_eq he (by omega) (by omega) (Decidable.not_not.1 h173)⟩
 refine sx_exit ?_
 refine q_e (q_e (q_bx (q_n (k5 _ _ ?_))))
 refine sx_seq fun K17 k17 => sx_region ?_
 refine av rfl rfl (wl_nil (q_n (k17 _ _ ?_)))
 refine sx_retc ?_
 refine sx_ret1 Tryd.results93 rfl ?_
 have e1 : k = zs.length := by omega
 rw [e1, List.take_length, List.take_of_length_le (by omega)] at he
 exact ⟨bTrue he, cwl7⟩

theorem c_intSame {w : World} {n1 : Bool} {v1 : Value} {lv1 uv1 : Nat} {z1 : List Int} {n2 : Bool} {v2 : Value} {lv2 uv2 : Nat} {z2 : List Int} (hv1 : Sl w lv1 uv1 v1 (z1)) (hv2 : Sl w lv2 uv2 v2 (z2)) (h63 : z1.length ≤ 4611686018427387904 ∧ z2.length ≤ 4611686018427387904) :
  Ret Tryd.prog 56 [.agg #[.bool n1, v1], .agg #[.bool n2, v2]] w fun v w' => v = .bool (decide (n1 = n2 ∧ z1 = z2)) ∧ Chg 0 0 w w' := by
 have hv10 := hv1.fit
 have hv20 := hv2.fit
 refine sx_enter Tryd.func56 rfl Tryd.ntmps56 (nbl rfl) ?_
 refine sx_seq fun K1 k1 => sx_region ?_
 refine sx_box [.bool n1, v1] rfl rfl rfl (fun b2 w3 eb2 sb2 fb2 cb2 => ?_)
 have zw3 := cb2.size
 refine sx_box [.bool n2, v2] rfl rfl rfl (fun b4 w5 eb4 sb4 fb4 cb4 => ?_)
 have zw5 := cb4.size
 refine av rfl rfl (wl_nil (q_n (k1 _ _ ?_)))
 refine sx_seq fun K6 k6 => sx_region ?_
 refine sp rfl (px_field rfl xfld24x0) ?_
 have f7 := fb2.ext cb4
 refine sp rfl (px_load rfl (f7.load1 rfl Tryd.isAgg4)) ?_
 refine sp rfl (px_field rfl xfld24x0) ?_
 refine sp rfl (px_load rfl (fb4.load1 rfl Tryd.isAgg4)) ?_
 refine sp rfl (px_eqB Tryd.underlying4 rfl rfl) ?_
 refine mv rfl rfl ?_
 refine sx_tmpB (t := 10) rfl (fun h165 => ?_) (fun h165 => ?_)
 ·
  refine sx_guardT rfl rfl rfl ?_
  refine sp rfl (px_field rfl xfld24x1) ?_
  refine sx_guardT rfl rfl rfl ?_
  refine sp rfl (px_load rfl (f7.load1 rfl Tryd.isAgg22)) ?_
  refine sx_guardT rfl rfl rfl ?_
  refine sp rfl (px_field rfl xfld24x1) ?_
  refine sx_guardT rfl rfl rfl ?_
  refine sp rfl (px_load rfl (fb4.load1 rfl Tryd.isAgg22)) ?_
  refine sx_guardT rfl rfl rfl ?_
  have f8 := hv10.ext cb2
  have f9 := f8.ext cb4
  have f10 := hv20.ext cb2
  have f11 := f10.ext cb4
  refine sx_call rfl rfl Tryd.call93 (c_sameInts f9 f11 (by omega)) (fun v12 w12 p12 => ?_)
  obtain ⟨rfl, c12⟩ := p12
  have zw12 := c12.size
  refine sp rfl (px_pick rfl rfl) ?_
  refine av rfl rfl (wl_nil (q_n (k6 _ _ ?_)))
  refine sx_sub (Sub.c 4 rfl .nil) ?_
  refine sx_retc ?_
  refine sx_ret1 Tryd.results56 rfl ?_
  exact ⟨(by first | exact bTrue (by grind) | exact bFalse (by grind) | exact bIff (by grind)), ((cb2.t cb4).t c12)⟩
 refine sx_guardF rfl rfl rfl rfl rfl rfl ?_
 refine sx_guardF rfl rfl rfl rfl rfl rfl ?_
 refine sx_guardF rfl rfl rfl rfl rfl rfl ?_
 refine sx_guardF rfl rfl rfl rfl rfl rfl ?_
 refine sx_guardF rfl rfl rfl rfl rfl rfl ?_
 refine sp rfl (px_pick rfl rfl) ?_
 refine av rfl rfl (wl_nil (q_n (k6 _ _ ?_)))
 refine sx_sub (Sub.c 4 rfl .nil) ?_
 refine sx_retc ?_
 refine sx_ret1 Tryd.results56 rfl ?_
 exact ⟨(by first | exact bTrue (by grind) | exact bFalse (by grind) | exact bIff (by grind)), (cb2.t cb4)⟩

theorem c_iMoneySame {w : World} {c1 : ByteArray} {n1 : Bool} {v1 : Value} {lv1 uv1 : Nat} {z1 : List Int} {c2 : ByteArray} {n2 : Bool} {v2 : Value} {lv2 uv2 : Nat} {z2 : List Int} (hv1 : Sl w lv1 uv1 v1 (z1)) (hv2 : Sl w lv2 uv2 v2 (z2)) (h63 : z1.length ≤ 4611686018427387904 ∧ z2.length ≤ 4611686018427387904) :
  Ret Tryd.prog 22 [.agg #[.string c1, .bool n1, v1], .agg #[.string c2, .bool n2, v2]] w fun v w' => v = .bool (decide (c1 = c2 ∧ n1 = n2 ∧ z1 = z2)) ∧ Chg 0 0 w w' := by
 have hv10 := hv1.fit
 have hv20 := hv2.fit
 refine sx_enter Tryd.func22 rfl Tryd.ntmps22 (nbl rfl) ?_
 refine sx_seq fun K1 k1 => sx_region ?_
 refine sx_box [.string c1, .bool n1, v1] rfl rfl rfl (fun b2 w3 eb2 sb2 fb2 cb2 => ?_)
 have zw3 := cb2.size
 refine sx_box [.string c2, .bool n2, v2] rfl rfl rfl (fun b4 w5 eb4 sb4 fb4 cb4 => ?_)
 have zw5 := cb4.size
 refine av rfl rfl (wl_nil (q_n (k1 _ _ ?_)))
 refine sx_seq fun K6 k6 => sx_region ?_
 refine sp rfl (px_field rfl xfld26x0) ?_
 have f7 := fb2.ext cb4
 refine sp rfl (px_load rfl (f7.load1 rfl Tryd.isAgg9)) ?_
 refine sp rfl (px_field rfl xfld26x0) ?_
 refine sp rfl (px_load rfl (fb4.load1 rfl Tryd.isAgg9)) ?_
 refine sp rfl (px_eqS rfl rfl) ?_
 refine mv rfl rfl ?_
 refine sx_tmpP (t := 10) rfl (fun h94 => ?_) (fun h94 => ?_)
 ·
  refine sx_guardT rfl rfl rfl ?_
  refine sp rfl (px_field rfl xfld26x1) ?_
  refine sx_guardT rfl rfl rfl ?_
  refine sp rfl (px_load rfl (f7.loadA (vs := [.bool n1, v1]) (look_lit rfl) Tryd.isAgg24 Tryd.sizeOf24)) ?_
  refine sx_guardT rfl rfl rfl ?_
  refine sp rfl (px_field rfl xfld26x1) ?_
  refine sx_guardT rfl rfl rfl ?_
  refine sp rfl (px_load rfl (fb4.loadA (vs := [.bool n2, v2]) (look_lit rfl) Tryd.isAgg24 Tryd.sizeOf24)) ?_
  refine sx_guardT rfl rfl rfl ?_
  have f8 := hv10.ext cb2
  have f9 := f8.ext cb4
  have f10 := hv20.ext cb2
  have f11 := f10.ext cb4
  refine sx_call rfl rfl Tryd.call56 (c_intSame f9 f11 (by omega)) (fun v12 w12 p12 => ?_)
  obtain ⟨rfl, c12⟩ := p12
  have zw12 := c12.size
  refine sp rfl (px_pick rfl rfl) ?_
  refine av rfl rfl (wl_nil (q_n (k6 _ _ ?_)))
  refine sx_sub (Sub.c 4 rfl .nil) ?_
  refine sx_retc ?_
  refine sx_ret1 Tryd.results22 rfl ?_
  exact ⟨(by first | exact bTrue (by grind) | exact bFalse (by grind) | exact bIff (by grind)), ((cb2.t cb4).t c12)⟩
 refine sx_guardF rfl rfl rfl rfl rfl rfl ?_
 refine sx_guardF rfl rfl rfl rfl rfl rfl ?_
 refine sx_guardF rfl rfl rfl rfl rfl rfl ?_
 refine sx_guardF rfl rfl rfl rfl rfl rfl ?_
 refine sx_guardF rfl rfl rfl rfl rfl rfl ?_
 refine sp rfl (px_pick rfl rfl) ?_
 refine av rfl rfl (wl_nil (q_n (k6 _ _ ?_)))
 refine sx_sub (Sub.c 4 rfl .nil) ?_
 refine sx_retc ?_
 refine sx_ret1 Tryd.results22 rfl ?_
 exact ⟨(by first | exact bTrue (by grind) | exact bFalse (by grind) | exact bIff (by grind)), (cb2.t cb4)⟩

theorem c_intsOk {w : World} {n1 : Bool} {v1 : Value} {lv1 uv1 : Nat} {z1 : List Int} {n2 : Bool} {v2 : Value} {lv2 uv2 : Nat} {z2 : List Int} (hv1 : Sl w lv1 uv1 v1 (z1)) (hv2 : Sl w lv2 uv2 v2 (z2)) (h63 : z1.length ≤ 4611686018427387904 ∧ z2.length ≤ 4611686018427387904) :
  Ret Tryd.prog 57 [.agg #[.bool n1, v1], .agg #[.bool n2, v2]] w fun v w' => v = .bool (decide (IOk n1 z1 ∧ IOk n2 z2)) ∧ Chg 0 0 w w' := by
 have hv10 := hv1.fit
 have hv20 := hv2.fit
 refine sx_enter Tryd.func57 rfl Tryd.ntmps57 (nbl rfl) ?_
 refine sx_seq fun K1 k1 => sx_region ?_
 refine sx_box [.bool n1, v1] rfl rfl rfl (fun b2 w3 eb2 sb2 fb2 cb2 => ?_)
 have zw3 := cb2.size
 refine sx_box [.bool n2, v2] rfl rfl rfl (fun b4 w5 eb4 sb4 fb4 cb4 => ?_)
 have zw5 := cb4.size
 refine av rfl rfl (wl_nil (q_n (k1 _ _ ?_)))
 refine sx_seq fun K6 k6 => sx_region ?_
 have f7 := fb2.ext cb4
 refine sp rfl (px_load rfl (f7.loadA (vs := [.bool n1, v1]) (look_lit rfl) Tryd.isAgg24 Tryd.sizeOf24)) ?_
 have f8 := hv10.ext cb2
 have f9 := f8.ext cb4
 refine sx_call rfl rfl Tryd.call58 (c_iIntOk f9 (by omega)) (fun v10 w10 p10 => ?_)
 obtain ⟨rfl, c10⟩ := p10
 have zw10 := c10.size
 refine mv rfl rfl ?_
 refine sx_tmpP (t := 7) rfl (fun h13 => ?_) (fun h13 => ?_)
 ·
  refine sx_guardT rfl rfl rfl ?_
  have f11 := fb4.ext c10
  refine sp rfl (px_load rfl (f11.loadA (vs := [.bool n2, v2]) (look_lit rfl) Tryd.isAgg24 Tryd.sizeOf24)) ?_
  refine sx_guardT rfl rfl rfl ?_
  have f12 := hv20.ext cb2
  have f13 := f12.ext cb4
  have f14 := f13.ext c10
  refine sx_call rfl rfl Tryd.call58 (c_iIntOk f14 (by omega)) (fun v15 w15 p15 => ?_)
  obtain ⟨rfl, c15⟩ := p15
  have zw15 := c15.size
  refine sp rfl (px_pick rfl rfl) ?_
  refine av rfl rfl (wl_nil (q_n (k6 _ _ ?_)))
  refine sx_retc ?_
  refine sx_ret1 Tryd.results57 rfl ?_
  exact ⟨(by first | exact bTrue (by grind) | exact bFalse (by grind) | exact bIff (by grind)), (((cb2.t cb4).t c10).t c15)⟩
 refine sx_guardF rfl rfl rfl rfl rfl rfl ?_
 refine sx_guardF rfl rfl rfl rfl rfl rfl ?_
 refine sp rfl (px_pick rfl rfl) ?_
 refine av rfl rfl (wl_nil (q_n (k6 _ _ ?_)))
 refine sx_retc ?_
 refine sx_ret1 Tryd.results57 rfl ?_
 exact ⟨(by first | exact bTrue (by grind) | exact bFalse (by grind) | exact bIff (by grind)), ((cb2.t cb4).t c10)⟩

theorem c_iIntCmpK {w : World} {va : Value} {lva uva : Nat} {x : Int} {vb : Value} {lvb uvb : Nat} {y : Int} (hva : Sl w lva uva va (dg x.natAbs)) (hvb : Sl w lvb uvb vb (dg y.natAbs)) (hbx : (dg x.natAbs).length ≤ 50) (hby : (dg y.natAbs).length ≤ 50) :
  Ret Tryd.prog 23 [.agg #[.bool (ng x), va], .agg #[.bool (ng y), vb]] w fun v w' => v = .int .i64 (cmpI x y) ∧ Chg 0 0 w w' := by
 have hva0 := hva.fit
 have hvb0 := hvb.fit
 refine sx_enter Tryd.func23 rfl Tryd.ntmps23 (nbl rfl) ?_
 refine sx_seq fun K1 k1 => sx_region ?_
 refine sx_box [.bool (ng x), va] rfl rfl rfl (fun b2 w3 eb2 sb2 fb2 cb2 => ?_)
 have zw3 := cb2.size
 refine sx_box [.bool (ng y), vb] rfl rfl rfl (fun b4 w5 eb4 sb4 fb4 cb4 => ?_)
 have zw5 := cb4.size
 refine av rfl rfl (wl_nil (q_n (k1 _ _ ?_)))
 refine sx_seq fun K6 k6 => ?_
 refine sx_seq fun K7 k7 => sx_region ?_
 have f8 := fb2.ext cb4
 refine sp rfl (px_load rfl (f8.loadA (vs := [.bool (ng x), va]) (look_lit rfl) Tryd.isAgg24 Tryd.sizeOf24)) ?_
 refine sp rfl (px_load rfl (fb4.loadA (vs := [.bool (ng y), vb]) (look_lit rfl) Tryd.isAgg24 Tryd.sizeOf24)) ?_
 have f9 := hva0.ext cb2
 have f10 := f9.ext cb4
 have f11 := hvb0.ext cb2
 have f12 := f11.ext cb4
 refine sx_call rfl rfl Tryd.call57 (c_intsOk f10 f12 (by omega)) (fun v13 w13 p13 => ?_)
 obtain ⟨rfl, c13⟩ := p13
 have zw13 := c13.size
 refine sp rfl (px_notP rfl) ?_
 refine wl_nil (q_n (k7 _ _ ?_))
 have h114 : ¬ (¬ (IOk (ng x) (dg x.natAbs) ∧ IOk (ng y) (dg y.natAbs))) := fun h => h ⟨IOk_ng (by omega), IOk_ng (by omega)⟩
 refine sx_condPF rfl h114 ?_
 refine sx_skip ?_
 refine q_n (k6 _ _ ?_)
 refine sx_seq fun K14 k14 => sx_region ?_
 have f15 := f8.ext c13
 refine sp rfl (px_load rfl (f15.loadA (vs := [.bool (ng x), va]) (look_lit rfl) Tryd.isAgg24 Tryd.sizeOf24)) ?_
 have f16 := fb4.ext c13
 refine sp rfl (px_load rfl (f16.loadA (vs := [.bool (ng y), vb]) (look_lit rfl) Tryd.isAgg24 Tryd.sizeOf24)) ?_
 have f17 := f10.ext c13
 have f18 := f12.ext c13
 refine sx_call rfl rfl Tryd.call53 (c_intCmp f17 f18 (by omega) (by omega)) (fun v19 w19 p19 => ?_)
 obtain ⟨rfl, c19⟩ := p19
 have zw19 := c19.size
 refine av rfl rfl (wl_nil (q_n (k14 _ _ ?_)))
 refine sx_retc ?_
 refine sx_ret1 Tryd.results23 rfl ?_
 exact ⟨rfl, (((cb2.t cb4).t c13).t c19)⟩

end Go.Proofs.YtoeclobdbblohaaDoor
