/- Contracts of functions of the program: what each call returns, and that it changes nothing that was. Conditions: as each says. -/
import Derived.Test.YtoeclobdbblohaaGreatDoorTy
import Derived.Test.YtoeclobdbblohaaGreatDoorNatJ
import Derived.Test.YtoeclobdbblohaaGreatDoorSxB
import Derived.Test.YtoeclobdbblohaaGreatDoorPair
import Derived.Test.YtoeclobdbblohaaGreatDoorSxW
import Derived.Test.YtoeclobdbblohaaGreatDoorNatI
import Derived.Test.YtoeclobdbblohaaGreatDoorTab
import Derived.Test.YtoeclobdbblohaaGreatDoorLay
import Derived.Test.YtoeclobdbblohaaGreatDoorLayB
import Derived.Test.YtoeclobdbblohaaGreatDoorNatX
import Derived.Test.YtoeclobdbblohaaGreatDoorSxP
import Derived.Test.YtoeclobdbblohaaGreatDoorP0
import Derived.Test.YtoeclobdbblohaaGreatDoorP1
import Derived.Test.YtoeclobdbblohaaGreatDoorP2
import Derived.Test.YtoeclobdbblohaaGreatDoorP3
import Derived.Test.YtoeclobdbblohaaGreatDoorP4
import Derived.Test.YtoeclobdbblohaaGreatDoorNatDx
set_option linter.unusedVariables false
set_option linter.unusedSimpArgs false
namespace Go.Proofs.YtoeclobdbblohaaGreatDoor
open Go Go.RowKit
set_option maxRecDepth 100000
set_option maxHeartbeats 1000000
theorem law_FnPut {w : World} {vb : Value} {lvb uvb : Nat} {bs : List Int} (hG0 : Glob w) (hGT : GlobP w) (hvb : SlB w lvb uvb vb (bs)) (hb8 : ∀ j, j < bs.length → 0 ≤ bs.getD j 0 ∧ bs.getD j 0 ≤ 255) (hbs : bs.length ≤ 9223372036854775807) :
  Ret Tryz.prog 4 [vb] w fun v w' => v = .bool (true) ∧ Chg 0 0 w w' := by
 have hGTl := hGT.lt
 have hvb0 := hvb.fit
 have hG0l : 0 < w.heap.size := by obtain ⟨T, fz, h1⟩ := hG0; rcases Nat.lt_or_ge 0 w.heap.size with h2 | h2; exact h2; simp [Array.getElem?_eq_none h2] at h1
 refine sx_enter Tryz.func4 rfl Tryz.ntmps4 (nbl rfl) ?_
 refine sx_seq fun K1 k1 => sx_region ?_
 refine av rfl rfl (wl_nil (q_n (k1 _ _ ?_)))
 refine sx_seq fun K2 k2 => ?_
 refine sx_seq fun K3 k3 => sx_region ?_
 refine mv rfl rfl (sp rfl (px_len rfl Tryz.underlying22 hvb0) ?_)
 refine sp rfl (px_gt rfl rfl) ?_
 refine wl_nil (q_n (k3 _ _ ?_))
 refine sx_condP rfl (fun h485 => ?_) (fun h485 => ?_)
 ·
  refine sx_seq fun K4 k4 => sx_region ?_
  refine av rfl rfl (wl_nil (q_n (k4 _ _ ?_)))
  refine sx_retc ?_
  refine q_r (sx_ret1 Tryz.results4 rfl ?_)
  exact ⟨rfl, (Chg.refl 0 0 _)⟩
 refine sx_skip ?_
 refine q_n (k2 _ _ ?_)
 refine sx_seq fun K5 k5 => sx_region ?_
 refine mv rfl rfl (sx_call rfl rfl Tryz.call19 (c_MakeRates hvb0 (by assumption) (by omega)) (fun v6 w6 p6 => ?_))
 obtain ⟨s6, qv6, ts6, us6, a6, b6, rfl, os_6, hT6, hsm6, hlen6, c6⟩ := p6
 have zw6 := c6.size
 have hTT := hT6
 have hsmm := hsm6
 have hln7 := hlen6
 have hl12 := hTT.2.1
 have hzs := sm_hz hsmm
 refine mv rfl rfl (sp rfl (px_ex3 rfl rfl) ?_)
 refine sp rfl (px_ex3 rfl rfl) ?_
 refine sp rfl (px_ex3 rfl rfl) ?_
 refine sx_alloc [.string (⟨#[]⟩), (.slice none 0 0)] rfl Tryz.zeroValue47 rfl (fun b7 w8 eb7 sb7 fb7 cb7 => ?_)
 have zw8 := cb7.size
 have f10 := os_6.ext cb7
 refine sx_store (vs := [.string qv6, s6]) rfl rfl fb7 rfl Tryz.sizeOf47 (nbl rfl) (one_cons rfl (one_cons f10.one one_nil)) (fun w9 sw9 fw9 cw9 => ?_)
 have zw9 := cw9.size
 have gw9 : Blk w9 b7 [.string qv6, s6] 47 := fw9
 refine av rfl rfl (av rfl rfl (wl_nil (q_n (k5 _ _ ?_))))
 refine sx_seq fun K11 k11 => ?_
 refine sx_seq fun K12 k12 => sx_region ?_
 refine mv rfl rfl (sx_call rfl rfl Tryz.call20 (c_sCurKnown) (fun v13 w13 p13 => ?_))
 obtain ⟨rfl, c13⟩ := p13
 have zw13 := c13.size
 refine sp rfl (px_notP rfl) ?_
 refine mv rfl rfl ?_
 refine sx_tmpP (t := 29) rfl (fun h489 => ?_) (fun h489 => ?_)
 ·
  refine sx_guardF rfl rfl rfl rfl rfl rfl ?_
  refine sx_guardF rfl rfl rfl rfl rfl rfl ?_
  refine sx_guardF rfl rfl rfl rfl rfl rfl ?_
  refine sp rfl (px_pick rfl rfl) ?_
  refine mv rfl rfl ?_
  refine sx_guardF rfl rfl rfl rfl rfl rfl ?_
  refine sx_guardF rfl rfl rfl rfl rfl rfl ?_
  refine sx_guardF rfl rfl rfl rfl rfl rfl ?_
  refine sp rfl (px_pick rfl rfl) ?_
  refine wl_nil (q_n (k12 _ _ ?_))
  refine sx_sub (Sub.c 0 rfl (.c 2 rfl (.c 3 rfl (.c 4 rfl (.c 5 rfl (.c 38 rfl .nil)))))) ?_
  refine sx_condT rfl ?_
  refine sx_seq fun K14 k14 => sx_region ?_
  refine av rfl rfl (wl_nil (q_n (k14 _ _ ?_)))
  refine sx_retc ?_
  refine q_r (sx_ret1 Tryz.results4 rfl ?_)
  have q15 := Chg.step (l := 0) (h := 0) (Chg.zero (l := 0) (h := 0) (c6.t cb7)) cw9 (by omega)
  have q16 := Chg.step (l := 0) (h := 0) q15 c13 (by omega)
  exact ⟨rfl, q16⟩
 refine sx_guardT rfl rfl rfl ?_
 refine mv rfl rfl ?_
 refine sx_guardT rfl rfl rfl ?_
 refine sx_call rfl rfl Tryz.call20 (c_sCurKnown) (fun v17 w17 p17 => ?_)
 obtain ⟨rfl, c17⟩ := p17
 have zw17 := c17.size
 refine sx_guardT rfl rfl rfl ?_
 refine sp rfl (px_notP rfl) ?_
 refine sp rfl (px_pick rfl rfl) ?_
 refine mv rfl rfl ?_
 refine sx_tmpP (t := 34) rfl (fun h489x1 => ?_) (fun h489x1 => ?_)
 ·
  refine sx_guardF rfl rfl rfl rfl rfl rfl ?_
  refine sx_guardF rfl rfl rfl rfl rfl rfl ?_
  refine sx_guardF rfl rfl rfl rfl rfl rfl ?_
  refine sp rfl (px_pick rfl rfl) ?_
  refine wl_nil (q_n (k12 _ _ ?_))
  refine sx_sub (Sub.c 0 rfl (.c 2 rfl (.c 3 rfl (.c 4 rfl (.c 5 rfl (.c 38 rfl .nil)))))) ?_
  refine sx_condT rfl ?_
  refine sx_seq fun K18 k18 => sx_region ?_
  refine av rfl rfl (wl_nil (q_n (k18 _ _ ?_)))
  refine sx_retc ?_
  refine q_r (sx_ret1 Tryz.results4 rfl ?_)
  have q19 := Chg.step (l := 0) (h := 0) (Chg.zero (l := 0) (h := 0) (c6.t cb7)) cw9 (by omega)
  have q20 := Chg.step (l := 0) (h := 0) q19 (c13.t c17) (by omega)
  exact ⟨rfl, q20⟩
 refine sx_guardT rfl rfl rfl ?_
 refine mv rfl rfl ?_
 refine sx_guardT rfl rfl rfl ?_
 refine mv rfl rfl ?_
 refine sx_guardT rfl rfl rfl ?_
 refine sp rfl (px_eqS rfl rfl) ?_
 refine sp rfl (px_pick rfl rfl) ?_
 refine wl_nil (q_n (k12 _ _ ?_))
 refine sx_sub (Sub.c 0 rfl (.c 2 rfl (.c 3 rfl (.c 4 rfl (.c 5 rfl (.c 38 rfl .nil)))))) ?_
 refine sx_condP rfl (fun h489x2 => ?_) (fun h489x2 => ?_)
 ·
  refine sx_seq fun K21 k21 => sx_region ?_
  refine av rfl rfl (wl_nil (q_n (k21 _ _ ?_)))
  refine sx_retc ?_
  refine q_r (sx_ret1 Tryz.results4 rfl ?_)
  have q22 := Chg.step (l := 0) (h := 0) (Chg.zero (l := 0) (h := 0) (c6.t cb7)) cw9 (by omega)
  have q23 := Chg.step (l := 0) (h := 0) q22 (c13.t c17) (by omega)
  exact ⟨rfl, q23⟩
 refine sx_skip ?_
 refine q_n (k11 _ _ ?_)
 refine sx_seq fun K24 k24 => sx_region ?_
 refine mv rfl rfl (mv rfl rfl (mv rfl rfl ?_))
 have f26 := (hvb0.ext c6).ext cb7
 have f27 := f26.chg cw9 (by omega)
 have f29 := (f27.ext c13).ext c17
 refine sx_call rfl rfl Tryz.call22 (c_MakeNum f29 (by assumption) (by omega) (by omega)) (fun v30 w30 p30 => ?_)
 obtain ⟨x30, rfl, hx30, c30⟩ := p30
 have zw30 := c30.size
 have hxn := hx30
 have hPr := rate_new (x := 1 + x30) (Decidable.not_not.1 h489) (Decidable.not_not.1 h489x1) h489x2 ⟨by omega, by omega⟩
 have hPl : (dg (1 + x30).natAbs).length ≤ 2 := hPr.2.2.2.2.2
 refine sp rfl (px_add rfl rfl (by omega)) ?_
 refine sx_call rfl rfl Tryz.call21 (c_iIntOf (by omega)) (fun v31 w31 p31 => ?_)
 obtain ⟨s31, rfl, os_31, c31⟩ := p31
 have zw31 := c31.size
 refine sp rfl (px_build rfl (xbld27x0x1 rfl _)) ?_
 refine sp rfl (px_build rfl (xbld54x0x1x2 rfl rfl _)) ?_
 refine sx_alloc [.string (⟨#[]⟩), .string (⟨#[]⟩), .bool false, (.slice none 0 0), .int .i64 0] rfl Tryz.zeroValue54 rfl (fun b32 w33 eb32 sb32 fb32 cb32 => ?_)
 have zw33 := cb32.size
 have f35 := os_31.ext cb32
 refine sx_store (vs := [.string a6, .string b6, .bool (ng (1 + x30)), s31, .int .i64 2]) rfl rfl fb32 rfl Tryz.sizeOf54 (nbl rfl) (one_cons rfl (one_cons rfl (one_cons rfl (one_cons f35.one (o1 rfl))))) (fun w34 sw34 fw34 cw34 => ?_)
 have zw34 := cw34.size
 have gw34 : Blk w34 b32 [.string a6, .string b6, .bool (ng (1 + x30)), s31, .int .i64 2] 54 := fw34
 refine wl_nil (q_n (k24 _ _ ?_))
 refine sx_sub (Sub.c 2 rfl (.c 3 rfl (.c 4 rfl (.c 5 rfl (.c 6 rfl .nil))))) ?_
 refine sx_seq fun K36 k36 => sx_region ?_
 have f41 := ((((gw9.ext c13).ext c17).ext c30).ext c31).ext cb32
 have f42 := f41.chg cw34 (by omega)
 refine sp rfl (px_load rfl (f42.loadA (vs := [.string qv6, s6]) (look_lit rfl) Tryz.isAgg47 Tryz.sizeOf47)) ?_
 refine sp rfl (px_load rfl (gw34.loadA (vs := [.string a6, .string b6, .bool (ng (1 + x30)), s31, .int .i64 2]) (look_lit rfl) Tryz.isAgg54 Tryz.sizeOf54)) ?_
 have f44 := (hG0.ext c6).ext cb7
 have f45 := f44.chg cw9 (by omega)
 have f50 := ((((f45.ext c13).ext c17).ext c30).ext c31).ext cb32
 have f51 := f50.chg cw34 (by omega)
 have f52 := f10.chg cw9 (by omega)
 have f57 := ((((f52.ext c13).ext c17).ext c30).ext c31).ext cb32
 have f58 := f57.chg cw34 (by omega)
 have f59 := f35.chg cw34 (by omega)
 refine sx_call rfl rfl Tryz.call23 (c_iRatePutP f51 f58 f59.sv (by assumption) (by assumption) (by assumption) (by assumption)) (fun v60 w60 p60 => ?_)
 obtain ⟨s60, us60, rfl, os_60, hR260, hz260, hl260, c60⟩ := p60
 have zw60 := c60.size
 have hRR := hR260
 have hzz2 := hz260
 have hll2 := hl260
 refine mv rfl rfl (sp rfl (px_ex2 rfl rfl) ?_)
 refine sp rfl (px_ex2 rfl rfl) ?_
 refine sx_alloc [.string (⟨#[]⟩), (.slice none 0 0)] rfl Tryz.zeroValue47 rfl (fun b61 w62 eb61 sb61 fb61 cb61 => ?_)
 have zw62 := cb61.size
 have f64 := os_60.ext cb61
 refine sx_store (vs := [.string qv6, s60]) rfl rfl fb61 rfl Tryz.sizeOf47 (nbl rfl) (one_cons rfl (one_cons (f64).toS.one one_nil)) (fun w63 sw63 fw63 cw63 => ?_)
 have zw63 := cw63.size
 have gw63 : Blk w63 b61 [.string qv6, s60] 47 := fw63
 refine av rfl rfl (wl_nil (q_n (k36 _ _ ?_)))
 refine sx_seq fun K65 k65 => sx_region ?_
 have f67 := (gw34.ext c60).ext cb61
 have f68 := f67.chg cw63 (by omega)
 refine sp rfl (px_load rfl (f68.loadA (vs := [.string a6, .string b6, .bool (ng (1 + x30)), s31, .int .i64 2]) (look_lit rfl) Tryz.isAgg54 Tryz.sizeOf54)) ?_
 have f70 := (f51.ext c60).ext cb61
 have f71 := f70.chg cw63 (by omega)
 have f73 := (hGT.ext c6).ext cb7
 have f74 := f73.chg cw9 (by omega)
 have f79 := ((((f74.ext c13).ext c17).ext c30).ext c31).ext cb32
 have f80 := f79.chg cw34 (by omega)
 have f82 := (f80.ext c60).ext cb61
 have f83 := f82.chg cw63 (by omega)
 have f85 := (f59.ext c60).ext cb61
 have f86 := f85.chg cw63 (by omega)
 refine sx_call rfl rfl Tryz.call25 (c_iRateText f71 f83 f86.sv (by omega)) (fun v87 w87 p87 => ?_)
 obtain ⟨rfl, c87⟩ := p87
 have zw87 := c87.size
 have f88 := f71.ext c87
 have f89 := f83.ext c87
 refine sx_call rfl rfl Tryz.call24 (c_iTextRateD f88 f89 (by assumption)) (fun v90 w90 p90 => ?_)
 obtain ⟨s90, rfl, os_90, c90⟩ := p90
 have zw90 := c90.size
 refine mv rfl rfl (sp rfl (px_ex2 rfl rfl) ?_)
 refine sp rfl (px_ex2 rfl rfl) ?_
 refine sx_alloc [.string (⟨#[]⟩), .string (⟨#[]⟩), .bool false, (.slice none 0 0), .int .i64 0] rfl Tryz.zeroValue54 rfl (fun b91 w92 eb91 sb91 fb91 cb91 => ?_)
 have zw92 := cb91.size
 have f94 := os_90.ext cb91
 refine sx_store (vs := [.string a6, .string b6, .bool (ng (1 + x30)), s90, .int .i64 (2 : Int)]) rfl rfl fb91 rfl Tryz.sizeOf54 (nbl rfl) (one_cons rfl (one_cons rfl (one_cons rfl (one_cons f94.one (o1 rfl))))) (fun w93 sw93 fw93 cw93 => ?_)
 have zw93 := cw93.size
 have gw93 : Blk w93 b91 [.string a6, .string b6, .bool (ng (1 + x30)), s90, .int .i64 (2 : Int)] 54 := fw93
 refine av rfl rfl (wl_nil (q_n (k65 _ _ ?_)))
 refine sx_sub (Sub.c 2 rfl (.c 3 rfl (.c 4 rfl (.c 5 rfl (.c 6 rfl (.c 7 rfl (.c 8 rfl (.c 9 rfl (.c 10 rfl .nil))))))))) ?_
 refine sx_seq fun K95 k95 => sx_region ?_
 have f98 := ((gw63.ext c87).ext c90).ext cb91
 have f99 := f98.chg cw93 (by omega)
 refine sp rfl (px_load rfl (f99.loadA (vs := [.string qv6, s60]) (look_lit rfl) Tryz.isAgg47 Tryz.sizeOf47)) ?_
 refine mv rfl rfl (mv rfl rfl ?_)
 have f101 := (f88.ext c90).ext cb91
 have f102 := f101.chg cw93 (by omega)
 have f103 := f64.chg cw63 (by omega)
 have f106 := ((f103.ext c87).ext c90).ext cb91
 have f107 := f106.chg cw93 (by omega)
 refine sx_call rfl rfl Tryz.call26 (c_iRateOfK f102 (f107).toS (by omega) (by first | assumption | exact fun i hi => Nat.le_trans (hzz i hi) (by omega))) (fun v108 w108 p108 => ?_)
 obtain ⟨s108, t108, ls108, us108, lt108, ut108, x108, e108, rfl, os_108, ot_108, hd108, hX108, hv108, hl108, c108⟩ := p108
 have zw108 := c108.size
 have hX5 := hX108
 have hv5 := hv108
 have hph := put_hit hRR
 refine mv rfl rfl (sp rfl (px_ex2 rfl rfl) ?_)
 refine sp rfl (px_ex2 rfl rfl) ?_
 refine sx_alloc [.bool false, (.slice none 0 0), (.slice none 0 0)] rfl Tryz.zeroValue37 rfl (fun b109 w110 eb109 sb109 fb109 cb109 => ?_)
 have zw110 := cb109.size
 have f112 := ot_108.ext cb109
 have f113 := os_108.ext cb109
 refine sx_store (vs := [.bool (ng x108), s108, t108]) rfl rfl fb109 rfl Tryz.sizeOf37 (nbl rfl) (one_cons rfl (one_cons f113.one (one_cons f112.one one_nil))) (fun w111 sw111 fw111 cw111 => ?_)
 have zw111 := cw111.size
 have gw111 : Blk w111 b109 [.bool (ng x108), s108, t108] 37 := fw111
 refine av rfl rfl (wl_nil (q_n (k95 _ _ ?_)))
 refine sx_sub (Sub.c 2 rfl (.c 3 rfl (.c 4 rfl (.c 5 rfl (.c 6 rfl (.c 7 rfl (.c 8 rfl (.c 9 rfl (.c 10 rfl (.c 11 rfl (.c 12 rfl .nil))))))))))) ?_
 refine sx_seq fun K114 k114 => ?_
 refine sx_seq fun K115 k115 => ?_
 have f117 := (f102.ext c108).ext cb109
 have f118 := f117.chg cw111 (by omega)
 have f120 := (f89.ext c90).ext cb91
 have f121 := f120.chg cw93 (by omega)
 have f123 := (f121.ext c108).ext cb109
 have f124 := f123.chg cw111 (by omega)
 have f126 := (f42.ext c60).ext cb61
 have f127 := f126.chg cw63 (by omega)
 have f130 := ((f127.ext c87).ext c90).ext cb91
 have f131 := f130.chg cw93 (by omega)
 have f133 := (f131.ext c108).ext cb109
 have f134 := f133.chg cw111 (by omega)
 have f137 := ((f68.ext c87).ext c90).ext cb91
 have f138 := f137.chg cw93 (by omega)
 have f140 := (f138.ext c108).ext cb109
 have f141 := f140.chg cw111 (by omega)
 have f143 := (f99.ext c108).ext cb109
 have f144 := f143.chg cw111 (by omega)
 have f146 := (gw93.ext c108).ext cb109
 have f147 := f146.chg cw111 (by omega)
 have f150 := ((f29.ext c30).ext c31).ext cb32
 have f151 := f150.chg cw34 (by omega)
 have f153 := (f151.ext c60).ext cb61
 have f154 := f153.chg cw63 (by omega)
 have f157 := ((f154.ext c87).ext c90).ext cb91
 have f158 := f157.chg cw93 (by omega)
 have f160 := (f158.ext c108).ext cb109
 have f161 := f160.chg cw111 (by omega)
 have f163 := (f58.ext c60).ext cb61
 have f164 := f163.chg cw63 (by omega)
 have f167 := ((f164.ext c87).ext c90).ext cb91
 have f168 := f167.chg cw93 (by omega)
 have f170 := (f168.ext c108).ext cb109
 have f171 := f170.chg cw111 (by omega)
 have f174 := ((f86.ext c87).ext c90).ext cb91
 have f175 := f174.chg cw93 (by omega)
 have f177 := (f175.ext c108).ext cb109
 have f178 := f177.chg cw111 (by omega)
 have f180 := (f107.ext c108).ext cb109
 have f181 := f180.chg cw111 (by omega)
 have f182 := f94.chg cw93 (by omega)
 have f184 := (f182.ext c108).ext cb109
 have f185 := f184.chg cw111 (by omega)
 have f186 := f113.chg cw111 (by omega)
 have f187 := f112.chg cw111 (by omega)
 refine dx_region (fun w' => Chg 0 0 w111 w') (by kernel_rfl) (Chg.zero (Chg.drew _)) ?_
 have d188 := Chg.drew w111
 have s188 : Chg 0 0 w111 (World.drew w111) := Chg.zero (Chg.drew _)
 have y188 : (World.drew w111).heap.size = w111.heap.size := rfl
 generalize World.drew w111 = w188 at *
 have zw188 := d188.size
 refine dt 0 rfl rfl rfl rfl s188 (fun _ hS => px_move rfl) ?_
 refine dt 1 rfl rfl rfl rfl s188 (fun _ hS => px_not rfl) ?_
 refine dt 2 rfl rfl rfl rfl s188 (fun _ hS => px_move rfl) ?_
 refine dx_takeG 3 rfl rfl rfl rfl rfl rfl (by kernel_rfl) (by kernel_rfl) (by kernel_rfl) s188 (fun _ hS => px_move rfl) ?_
 refine dx_takeG 4 rfl rfl rfl rfl rfl rfl (by kernel_rfl) (by kernel_rfl) (by kernel_rfl) s188 (fun _ hS => px_not rfl) ?_
 refine dt 5 rfl rfl rfl rfl s188 (fun _ hS => px_pick rfl rfl) ?_
 refine dt 6 rfl rfl rfl rfl s188 (fun _ hS => px_move rfl) ?_
 refine dx_takeG 7 rfl rfl rfl rfl rfl rfl (by kernel_rfl) (by kernel_rfl) (by kernel_rfl) s188 (fun _ hS => px_move rfl) ?_
 refine dx_takeG 8 rfl rfl rfl rfl rfl rfl (by kernel_rfl) (by kernel_rfl) (by kernel_rfl) s188 (fun _ hS => px_notP rfl) ?_
 refine dt 9 rfl rfl rfl rfl s188 (fun _ hS => px_pick rfl rfl) ?_
 refine dt 10 rfl rfl rfl rfl s188 (fun _ hS => px_move rfl) ?_
 have h496 : ¬ (¬ (how qv6 (putR ts6 (a6, b6, ng ((1 + x30)), dg (((1 + x30))).natAbs, (2 : Int))) a6 b6 ≠ 0)) := fun h => h (fun h0 => absurd (hph.1.symm.trans h0) (by decide))
 refine dx_tmpPF (t := 76) rfl h496 ?_
 refine dx_takeG 11 rfl rfl rfl rfl rfl rfl (by kernel_rfl) (by kernel_rfl) (by kernel_rfl) s188 (fun _ hS => px_load rfl ((f147.chg hS (by omega)).loadA (vs := [.string a6, .string b6, .bool (ng (1 + x30)), s90, .int .i64 (2 : Int)]) (look_lit rfl) Tryz.isAgg54 Tryz.sizeOf54)) ?_
 refine dx_takeG 13 rfl rfl rfl rfl rfl rfl (by kernel_rfl) (by kernel_rfl) (by kernel_rfl) s188 (fun _ hS => px_load rfl ((f141.chg hS (by omega)).loadA (vs := [.string a6, .string b6, .bool (ng (1 + x30)), s31, .int .i64 2]) (look_lit rfl) Tryz.isAgg54 Tryz.sizeOf54)) ?_
 refine dx_eff 12 rfl (by kernel_rfl) ?_
 refine sx_guardT rfl rfl rfl ?_
 have f189 := f118.ext d188
 have f190 := f124.ext d188
 have f191 := f185.ext d188
 refine sx_call rfl rfl Tryz.call25 (c_iRateText f189 f190 f191.sv (by omega)) (fun v192 w192 p192 => ?_)
 obtain ⟨rfl, c192⟩ := p192
 have zw192 := c192.size
 have s193 : Chg 0 0 w111 w192 := (d188.t c192)
 refine wl_nil ?_
 refine dx_next s193 ?_
 refine dx_eff 14 rfl (by kernel_rfl) ?_
 refine sx_guardT rfl rfl rfl ?_
 have f194 := f189.ext c192
 have f195 := f190.ext c192
 have f197 := (f178.ext d188).ext c192
 refine sx_call rfl rfl Tryz.call25 (c_iRateText f194 f195 f197.sv (by omega)) (fun v198 w198 p198 => ?_)
 obtain ⟨rfl, c198⟩ := p198
 have zw198 := c198.size
 have s199 : Chg 0 0 w111 w198 := ((d188.t c192).t c198)
 refine wl_nil ?_
 refine dx_next s199 ?_
 refine dx_takeG 15 rfl rfl rfl rfl rfl rfl (by kernel_rfl) (by kernel_rfl) (by kernel_rfl) s199 (fun _ hS => px_neS rfl rfl) ?_
 refine dt 16 rfl rfl rfl rfl s199 (fun _ hS => px_pick rfl rfl) ?_
 refine dt 17 rfl rfl rfl rfl s199 (fun _ hS => px_move rfl) ?_
 have h496x1 : ¬ (ratT a6 b6 (ng (1 + x30)) (dg ((1 + x30)).natAbs) (2 : Int) ≠ ratT a6 b6 (ng (1 + x30)) (dg ((1 + x30)).natAbs) (2 : Int)) := fun h => h rfl
 refine dx_tmpPF (t := 83) rfl h496x1 ?_
 refine dx_takeG 18 rfl rfl rfl rfl rfl rfl (by kernel_rfl) (by kernel_rfl) (by kernel_rfl) s199 (fun _ hS => px_load rfl ((gw111.chg hS (by omega)).loadA (vs := [.bool (ng x108), s108, t108]) (look_lit rfl) Tryz.isAgg37 Tryz.sizeOf37)) ?_
 refine dx_takeG 19 rfl rfl rfl rfl rfl rfl (by kernel_rfl) (by kernel_rfl) (by kernel_rfl) s199 (fun _ hS => px_field rfl xfld54x2) ?_
 refine dx_takeG 20 rfl rfl rfl rfl rfl rfl (by kernel_rfl) (by kernel_rfl) (by kernel_rfl) s199 (fun _ hS => px_load rfl ((f141.chg hS (by omega)).loadA (vs := [.bool (ng (1 + x30)), s31, .int .i64 2]) (look_lit rfl) Tryz.isAgg27 Tryz.sizeOf27)) ?_
 refine dx_eff 21 rfl (by kernel_rfl) ?_
 refine sx_guardT rfl rfl rfl ?_
 have f200 := f197.ext c198
 refine sx_call rfl rfl Tryz.call11 (c_iDecRatK f200.sv (Nat.le_trans hPr.2.2.2.2.2 (by decide)) (Pos_rate hPr)) (fun v201 w201 p201 => ?_)
 obtain ⟨s201, t201, ls201, us201, lt201, ut201, x201, e201, rfl, os_201, ot_201, hd201, hK201, hv201, c201⟩ := p201
 have zw201 := c201.size
 have s202 : Chg 0 0 w111 w201 := (((d188.t c192).t c198).t c201)
 refine wl_nil ?_
 refine dx_next s202 ?_
 refine dx_eff 22 rfl (by kernel_rfl) ?_
 refine sx_guardT rfl rfl rfl ?_
 have f206 := (((f186.ext d188).ext c192).ext c198).ext c201
 have f210 := (((f187.ext d188).ext c192).ext c198).ext c201
 refine sx_call rfl rfl Tryz.call15 (c_iRatCmpK f206.sv f210.sv os_201.sv ot_201.sv (by first | assumption | exact (hX5 (fun h0 => absurd (hph.1.symm.trans h0) (by decide))).1 | exact (hX6 (fun h0 => absurd (hh.1.symm.trans h0) (by decide))).1) (by assumption)) (fun v211 w211 p211 => ?_)
 obtain ⟨rfl, c211⟩ := p211
 have zw211 := c211.size
 have s212 : Chg 0 0 w111 w211 := ((((d188.t c192).t c198).t c201).t c211)
 refine wl_nil ?_
 refine dx_next s212 ?_
 refine dx_takeG 23 rfl rfl rfl rfl rfl rfl (by kernel_rfl) (by kernel_rfl) (by kernel_rfl) s212 (fun _ hS => px_ne rfl rfl) ?_
 refine dt 24 rfl rfl rfl rfl s212 (fun _ hS => px_pick rfl rfl) ?_
 refine dt 25 rfl rfl rfl rfl s212 (fun _ hS => px_move rfl) ?_
 have h496x2 : ¬ ((cmpI ((x108) * ((e201 : Nat) : Int)) ((x201) * ((e108 : Nat) : Int)) : Int) ≠ 0) := Decidable.not_not.2 (cmp_same hv5 (hph.2.trans (by assumption)))
 refine dx_tmpPF (t := 91) rfl h496x2 ?_
 refine dx_takeG 26 rfl rfl rfl rfl rfl rfl (by kernel_rfl) (by kernel_rfl) (by kernel_rfl) s212 (fun _ hS => px_load rfl ((f144.chg hS (by omega)).loadA (vs := [.string qv6, s60]) (look_lit rfl) Tryz.isAgg47 Tryz.sizeOf47)) ?_
 refine dx_eff 27 rfl (by kernel_rfl) ?_
 refine sx_guardT rfl rfl rfl ?_
 have f215 := ((f194.ext c198).ext c201).ext c211
 have f220 := ((((f181.ext d188).ext c192).ext c198).ext c201).ext c211
 refine sx_call rfl rfl Tryz.call27 (c_iRatesOk f215 (f220).toS (by omega) (by first | assumption | exact fun i hi => Nat.le_trans (hzz i hi) (by omega))) (fun v221 w221 p221 => ?_)
 obtain ⟨rfl, c221⟩ := p221
 have zw221 := c221.size
 have s222 : Chg 0 0 w111 w221 := (((((d188.t c192).t c198).t c201).t c211).t c221)
 refine wl_nil ?_
 refine dx_next s222 ?_
 refine dx_takeG 28 rfl rfl rfl rfl rfl rfl (by kernel_rfl) (by kernel_rfl) (by kernel_rfl) s222 (fun _ hS => px_notP rfl) ?_
 refine dt 29 rfl rfl rfl rfl s222 (fun _ hS => px_pick rfl rfl) ?_
 refine dx_done (by kernel_rfl) ?_
 refine q_n (k115 _ _ ?_)
 refine sx_sub (Sub.c 2 rfl (.c 3 rfl (.c 4 rfl (.c 5 rfl (.c 7 rfl (.c 95 rfl .nil)))))) ?_
 have h496x3 : ¬ (¬ (RsOk qv6 (putR ts6 (a6, b6, ng ((1 + x30)), dg (((1 + x30))).natAbs, (2 : Int))))) := fun h => h hRR
 refine sx_condPF rfl h496x3 ?_
 refine sx_skip ?_
 refine q_n (k114 _ _ ?_)
 refine sx_seq fun K223 k223 => ?_
 refine sx_seq fun K224 k224 => sx_region ?_
 refine sp rfl (px_field rfl xfld47x1) ?_
 have f230 := (((((f134.ext d188).ext c192).ext c198).ext c201).ext c211).ext c221
 refine sp rfl (px_load rfl (f230.load1 rfl Tryz.isAgg45)) ?_
 have f236 := (((((f171.ext d188).ext c192).ext c198).ext c201).ext c211).ext c221
 refine sp rfl (px_len rfl Tryz.underlying45 f236.sv) ?_
 refine mv rfl rfl (wl_nil (q_n (k224 _ _ ?_)))
 refine sx_block ?_
 have f243 := (((((f144.ext d188).ext c192).ext c198).ext c201).ext c211).ext c221
 refine sx_loop (fun mm aa w' => ∃ (k : Nat), Agr 131 [(3, .pointer (some ⟨b7, 0, none⟩)), (4, .string a6), (5, .string b6), (7, .pointer (some ⟨b61, 0, none⟩)), (97, s6), (98, .int .i64 (↑((ts6).length))), (99, .int .i64 ↑k)] aa ∧ Chg 0 0 w221 w' ∧ Blk w' b7 [.string qv6, s6] 47 ∧ Blk w' b61 [.string qv6, s60] 47 ∧ (mm = ts6.length - k) ∧ (k ≤ ts6.length)) (_) (fun a ha => ⟨0, ha.sub (Sub.c 3 rfl (.c 4 rfl (.c 5 rfl (.c 7 rfl (.c 97 rfl (.c 98 rfl (.c 99 (look_int (t := 99) rfl (by first | omega | simp)) .nil))))))), Chg.refl _ _ _, f230, f243, rfl, by omega⟩) ?_
 rintro mm aa wl237 ⟨k, hAwl237, cwl237, hb_b7, hb_b61, hm, hk⟩
 refine (show cw Tryz.prog 131 _ _ _ wl237 from ?_) aa hAwl237
 clear hAwl237
 have zwl237 := cwl237.size
 refine sx_seq fun K244 k244 => sx_region ?_
 refine sp rfl (px_lt rfl rfl) ?_
 refine wl_nil (q_n (k244 _ _ ?_))
 refine sx_seq fun K245 k245 => ?_
 refine sx_condP rfl (fun h499 => ?_) (fun h499 => ?_)
 ·
  refine sx_skip ?_
  refine q_n (k245 _ _ ?_)
  refine sx_seq fun K246 k246 => ?_
  refine sx_block ?_
  refine sx_seq fun K247 k247 => sx_region ?_
  have f248 := f236.ext cwl237
  refine sp rfl (px_indexK (j := k) rfl rfl (by omega) Tryz.underlying45 Tryz.sizeOf54 f248.sv (by omega)) ?_
  refine sp rfl (px_load rfl (f248.sv.loadA (rt_look f248.len (by omega)) Tryz.isAgg54 Tryz.sizeOf54)) ?_
  refine sx_alloc [.string (⟨#[]⟩), .string (⟨#[]⟩), .bool false, (.slice none 0 0), .int .i64 0] rfl Tryz.zeroValue54 rfl (fun b249 w250 eb249 sb249 fb249 cb249 => ?_)
  have zw250 := cb249.size
  have f252 := (f248.nest k (by omega)).ext cb249
  refine sx_store (vs := [.string ((ts6.getD k rt0).1), .string ((ts6.getD k rt0).2.1), .bool ((ts6.getD k rt0).2.2.1), (us6.getD k vz), .int .i64 ((ts6.getD k rt0).2.2.2.2)]) rfl rfl fb249 rfl Tryz.sizeOf54 (nbl rfl) (one_cons rfl (one_cons rfl (one_cons rfl (one_cons f252.one (o1 rfl))))) (fun w251 sw251 fw251 cw251 => ?_)
  have zw251 := cw251.size
  have gw251 : Blk w251 b249 [.string ((ts6.getD k rt0).1), .string ((ts6.getD k rt0).2.1), .bool ((ts6.getD k rt0).2.2.1), (us6.getD k vz), .int .i64 ((ts6.getD k rt0).2.2.2.2)] 54 := fw251
  refine wl_nil (q_n (k247 _ _ ?_))
  refine sx_seq fun K253 k253 => sx_region ?_
  have f254 := hb_b61.ext cb249
  have f255 := f254.chg cw251 (by omega)
  refine sp rfl (px_load rfl (f255.loadA (vs := [.string qv6, s60]) (look_lit rfl) Tryz.isAgg47 Tryz.sizeOf47)) ?_
  refine sp rfl (px_field rfl xfld54x0) ?_
  refine sp rfl (px_load rfl (gw251.load1 rfl Tryz.isAgg9)) ?_
  refine sp rfl (px_field rfl xfld54x1) ?_
  refine sp rfl (px_load rfl (gw251.load1 rfl Tryz.isAgg9)) ?_
  have f257 := (f215.ext c221).ext cwl237
  have f258 := f257.ext cb249
  have f259 := f258.chg cw251 (by omega)
  have f261 := (f220.ext c221).ext cwl237
  have f262 := f261.ext cb249
  have f263 := f262.chg cw251 (by omega)
  refine sx_call rfl rfl Tryz.call26 (c_iRateOfK f259 (f263).toS (by omega) (by first | assumption | exact fun i hi => Nat.le_trans (hzz i hi) (by omega))) (fun v264 w264 p264 => ?_)
  obtain ⟨s264, t264, ls264, us264, lt264, ut264, x264, e264, rfl, os_264, ot_264, hd264, hX264, hv264, hl264, c264⟩ := p264
  have zw264 := c264.size
  have hX6 := hX264
  have hv6 := hv264
  refine mv rfl rfl (sp rfl (px_ex2 rfl rfl) ?_)
  refine sp rfl (px_ex2 rfl rfl) ?_
  refine sx_alloc [.bool false, (.slice none 0 0), (.slice none 0 0)] rfl Tryz.zeroValue37 rfl (fun b265 w266 eb265 sb265 fb265 cb265 => ?_)
  have zw266 := cb265.size
  have f268 := ot_264.ext cb265
  have f269 := os_264.ext cb265
  refine sx_store (vs := [.bool (ng x264), s264, t264]) rfl rfl fb265 rfl Tryz.sizeOf37 (nbl rfl) (one_cons rfl (one_cons f269.one (one_cons f268.one one_nil))) (fun w267 sw267 fw267 cw267 => ?_)
  have zw267 := cw267.size
  have gw267 : Blk w267 b265 [.bool (ng x264), s264, t264] 37 := fw267
  refine av rfl rfl (wl_nil (q_n (k253 _ _ ?_)))
  refine sx_sub (Sub.c 3 rfl (.c 4 rfl (.c 5 rfl (.c 7 rfl (.c 14 rfl (.c 15 rfl (.c 97 rfl (.c 98 rfl (.c 99 rfl .nil))))))))) ?_
  refine sx_seq fun K270 k270 => ?_
  by_cases ph501 : (ts6.getD k rt0).1 ≠ a6
  ·
   have hh := put_other hRR (k := k) (by omega) (fun e => ph501 e.1)
   have f272 := (f259.ext c264).ext cb265
   have f273 := f272.chg cw267 (by omega)
   have f278 := ((((f195.ext c198).ext c201).ext c211).ext c221).ext cwl237
   have f279 := f278.ext cb249
   have f280 := f279.chg cw251 (by omega)
   have f282 := (f280.ext c264).ext cb265
   have f283 := f282.chg cw267 (by omega)
   have f284 := hb_b7.ext cb249
   have f285 := f284.chg cw251 (by omega)
   have f287 := (f285.ext c264).ext cb265
   have f288 := f287.chg cw267 (by omega)
   have f295 := ((((((f141.ext d188).ext c192).ext c198).ext c201).ext c211).ext c221).ext cwl237
   have f296 := f295.ext cb249
   have f297 := f296.chg cw251 (by omega)
   have f299 := (f297.ext c264).ext cb265
   have f300 := f299.chg cw267 (by omega)
   have f302 := (f255.ext c264).ext cb265
   have f303 := f302.chg cw267 (by omega)
   have f310 := ((((((f147.ext d188).ext c192).ext c198).ext c201).ext c211).ext c221).ext cwl237
   have f311 := f310.ext cb249
   have f312 := f311.chg cw251 (by omega)
   have f314 := (f312.ext c264).ext cb265
   have f315 := f314.chg cw267 (by omega)
   have f322 := ((((((gw111.ext d188).ext c192).ext c198).ext c201).ext c211).ext c221).ext cwl237
   have f323 := f322.ext cb249
   have f324 := f323.chg cw251 (by omega)
   have f326 := (f324.ext c264).ext cb265
   have f327 := f326.chg cw267 (by omega)
   have f329 := (gw251.ext c264).ext cb265
   have f330 := f329.chg cw267 (by omega)
   have f337 := ((((((f161.ext d188).ext c192).ext c198).ext c201).ext c211).ext c221).ext cwl237
   have f338 := f337.ext cb249
   have f339 := f338.chg cw251 (by omega)
   have f341 := (f339.ext c264).ext cb265
   have f342 := f341.chg cw267 (by omega)
   have f343 := f248.ext cb249
   have f344 := f343.chg cw251 (by omega)
   have f346 := (f344.ext c264).ext cb265
   have f347 := f346.chg cw267 (by omega)
   have f351 := (((f200.ext c201).ext c211).ext c221).ext cwl237
   have f352 := f351.ext cb249
   have f353 := f352.chg cw251 (by omega)
   have f355 := (f353.ext c264).ext cb265
   have f356 := f355.chg cw267 (by omega)
   have f358 := (f263.ext c264).ext cb265
   have f359 := f358.chg cw267 (by omega)
   have f365 := (((((f191.ext c192).ext c198).ext c201).ext c211).ext c221).ext cwl237
   have f366 := f365.ext cb249
   have f367 := f366.chg cw251 (by omega)
   have f369 := (f367.ext c264).ext cb265
   have f370 := f369.chg cw267 (by omega)
   have f373 := ((f206.ext c211).ext c221).ext cwl237
   have f374 := f373.ext cb249
   have f375 := f374.chg cw251 (by omega)
   have f377 := (f375.ext c264).ext cb265
   have f378 := f377.chg cw267 (by omega)
   have f381 := ((f210.ext c211).ext c221).ext cwl237
   have f382 := f381.ext cb249
   have f383 := f382.chg cw251 (by omega)
   have f385 := (f383.ext c264).ext cb265
   have f386 := f385.chg cw267 (by omega)
   have f389 := ((ot_201.ext c211).ext c221).ext cwl237
   have f390 := f389.ext cb249
   have f391 := f390.chg cw251 (by omega)
   have f393 := (f391.ext c264).ext cb265
   have f394 := f393.chg cw267 (by omega)
   have f395 := f252.chg cw251 (by omega)
   have f397 := (f395.ext c264).ext cb265
   have f398 := f397.chg cw267 (by omega)
   have f399 := f269.chg cw267 (by omega)
   have f400 := f268.chg cw267 (by omega)
   refine dx_region (fun w' => Chg 0 0 w267 w') (by kernel_rfl) (Chg.zero (Chg.drew _)) ?_
   have d401 := Chg.drew w267
   have s401 : Chg 0 0 w267 (World.drew w267) := Chg.zero (Chg.drew _)
   have y401 : (World.drew w267).heap.size = w267.heap.size := rfl
   generalize World.drew w267 = w401 at *
   have zw401 := d401.size
   refine dt 0 rfl rfl rfl rfl s401 (fun _ hS => px_field rfl xfld54x0) ?_
   refine dt 1 rfl rfl rfl rfl s401 (fun _ hS => px_load rfl ((f330.chg hS (by omega)).load1 rfl Tryz.isAgg9)) ?_
   refine dt 2 rfl rfl rfl rfl s401 (fun _ hS => px_move rfl) ?_
   refine dt 3 rfl rfl rfl rfl s401 (fun _ hS => px_neS rfl rfl) ?_
   refine dt 4 rfl rfl rfl rfl s401 (fun _ hS => px_move rfl) ?_
   have h501 : (ts6.getD k rt0).1 ≠ a6 := by first | omega | exact ph501
   refine dx_tmpPT (t := 116) rfl h501 ?_
   refine dx_skip 5 rfl rfl rfl rfl rfl rfl rfl (by kernel_rfl) (by kernel_rfl) (by kernel_rfl) s401 ?_
   refine dx_skip 6 rfl rfl rfl rfl rfl rfl rfl (by kernel_rfl) (by kernel_rfl) (by kernel_rfl) s401 ?_
   refine dx_skip 7 rfl rfl rfl rfl rfl rfl rfl (by kernel_rfl) (by kernel_rfl) (by kernel_rfl) s401 ?_
   refine dx_skip 8 rfl rfl rfl rfl rfl rfl rfl (by kernel_rfl) (by kernel_rfl) (by kernel_rfl) s401 ?_
   refine dt 9 rfl rfl rfl rfl s401 (fun _ hS => px_pick rfl rfl) ?_
   refine dt 10 rfl rfl rfl rfl s401 (fun _ hS => px_move rfl) ?_
   refine dx_takeG 11 rfl rfl rfl rfl rfl rfl (by kernel_rfl) (by kernel_rfl) (by kernel_rfl) s401 (fun _ hS => px_load rfl ((gw267.chg hS (by omega)).loadA (vs := [.bool (ng x264), s264, t264]) (look_lit rfl) Tryz.isAgg37 Tryz.sizeOf37)) ?_
   refine dx_takeG 12 rfl rfl rfl rfl rfl rfl (by kernel_rfl) (by kernel_rfl) (by kernel_rfl) s401 (fun _ hS => px_field rfl xfld54x2) ?_
   refine dx_takeG 13 rfl rfl rfl rfl rfl rfl (by kernel_rfl) (by kernel_rfl) (by kernel_rfl) s401 (fun _ hS => px_load rfl ((f330.chg hS (by omega)).loadA (vs := [.bool ((ts6.getD k rt0).2.2.1), (us6.getD k vz), .int .i64 ((ts6.getD k rt0).2.2.2.2)]) (look_lit rfl) Tryz.isAgg27 Tryz.sizeOf27)) ?_
   refine dx_eff 14 rfl (by kernel_rfl) ?_
   refine sx_guardT rfl rfl rfl ?_
   have f402 := f398.ext d401
   refine sx_call rfl rfl Tryz.call11 (c_iDecRatK f402 (hzs k (by omega)) (Pos_rate (hTT.2.2.1 k (by omega)))) (fun v403 w403 p403 => ?_)
   obtain ⟨s403, t403, ls403, us403, lt403, ut403, x403, e403, rfl, os_403, ot_403, hd403, hK403, hv403, c403⟩ := p403
   have zw403 := c403.size
   have s404 : Chg 0 0 w267 w403 := (d401.t c403)
   refine wl_nil ?_
   refine dx_next s404 ?_
   refine dx_eff 15 rfl (by kernel_rfl) ?_
   refine sx_guardT rfl rfl rfl ?_
   have f406 := (f399.ext d401).ext c403
   have f408 := (f400.ext d401).ext c403
   refine sx_call rfl rfl Tryz.call15 (c_iRatCmpK f406.sv f408.sv os_403.sv ot_403.sv (by first | assumption | exact (hX5 (fun h0 => absurd (hph.1.symm.trans h0) (by decide))).1 | exact (hX6 (fun h0 => absurd (hh.1.symm.trans h0) (by decide))).1) (by assumption)) (fun v409 w409 p409 => ?_)
   obtain ⟨rfl, c409⟩ := p409
   have zw409 := c409.size
   have s410 : Chg 0 0 w267 w409 := ((d401.t c403).t c409)
   refine wl_nil ?_
   refine dx_next s410 ?_
   refine dx_takeG 16 rfl rfl rfl rfl rfl rfl (by kernel_rfl) (by kernel_rfl) (by kernel_rfl) s410 (fun _ hS => px_ne rfl rfl) ?_
   refine dt 17 rfl rfl rfl rfl s410 (fun _ hS => px_pick rfl rfl) ?_
   refine dx_done (by kernel_rfl) ?_
   refine q_n (k270 _ _ ?_)
   refine sx_sub (Sub.c 3 rfl (.c 4 rfl (.c 5 rfl (.c 7 rfl (.c 97 rfl (.c 98 rfl (.c 99 rfl (.c 129 rfl .nil)))))))) ?_
   have h501x1 : ¬ ((cmpI ((x264) * ((e403 : Nat) : Int)) ((x403) * ((e264 : Nat) : Int)) : Int) ≠ 0) := Decidable.not_not.2 (cmp_same hv6 (hh.2.trans (by assumption)))
   refine sx_condPF rfl h501x1 ?_
   refine sx_skip ?_
   refine q_bn (q_n (k246 _ _ ?_))
   refine sx_region ?_
   refine sp rfl (px_add rfl rfl (by omega)) ?_
   refine mv rfl rfl (wl_nil ?_)
   have q411 := Chg.step (l := 0) (h := 0) (Chg.zero (l := 0) (h := 0) (cwl237.t cb249)) cw251 (by omega)
   have q412 := Chg.step (l := 0) (h := 0) q411 (c264.t cb265) (by omega)
   have q413 := Chg.step (l := 0) (h := 0) q412 cw267 (by omega)
   have q414 := Chg.step (l := 0) (h := 0) q413 ((d401.t c403).t c409) (by omega)
   have f417 := ((f288.ext d401).ext c403).ext c409
   have f420 := ((f303.ext d401).ext c403).ext c409
   exact fun a ha => ⟨_, by omega, (k + 1), ha.sub (Sub.c 3 rfl (.c 4 rfl (.c 5 rfl (.c 7 rfl (.c 97 rfl (.c 98 rfl (.c 99 (look_int (t := 99) rfl (by first | omega | simp)) .nil))))))), q414, f417, f420, rfl, by omega⟩
  by_cases ph501x1 : (ts6.getD k rt0).2.1 ≠ b6
  ·
   have hh := put_other hRR (k := k) (by omega) (fun e => ph501x1 e.2)
   have f422 := (f259.ext c264).ext cb265
   have f423 := f422.chg cw267 (by omega)
   have f428 := ((((f195.ext c198).ext c201).ext c211).ext c221).ext cwl237
   have f429 := f428.ext cb249
   have f430 := f429.chg cw251 (by omega)
   have f432 := (f430.ext c264).ext cb265
   have f433 := f432.chg cw267 (by omega)
   have f434 := hb_b7.ext cb249
   have f435 := f434.chg cw251 (by omega)
   have f437 := (f435.ext c264).ext cb265
   have f438 := f437.chg cw267 (by omega)
   have f445 := ((((((f141.ext d188).ext c192).ext c198).ext c201).ext c211).ext c221).ext cwl237
   have f446 := f445.ext cb249
   have f447 := f446.chg cw251 (by omega)
   have f449 := (f447.ext c264).ext cb265
   have f450 := f449.chg cw267 (by omega)
   have f452 := (f255.ext c264).ext cb265
   have f453 := f452.chg cw267 (by omega)
   have f460 := ((((((f147.ext d188).ext c192).ext c198).ext c201).ext c211).ext c221).ext cwl237
   have f461 := f460.ext cb249
   have f462 := f461.chg cw251 (by omega)
   have f464 := (f462.ext c264).ext cb265
   have f465 := f464.chg cw267 (by omega)
   have f472 := ((((((gw111.ext d188).ext c192).ext c198).ext c201).ext c211).ext c221).ext cwl237
   have f473 := f472.ext cb249
   have f474 := f473.chg cw251 (by omega)
   have f476 := (f474.ext c264).ext cb265
   have f477 := f476.chg cw267 (by omega)
   have f479 := (gw251.ext c264).ext cb265
   have f480 := f479.chg cw267 (by omega)
   have f487 := ((((((f161.ext d188).ext c192).ext c198).ext c201).ext c211).ext c221).ext cwl237
   have f488 := f487.ext cb249
   have f489 := f488.chg cw251 (by omega)
   have f491 := (f489.ext c264).ext cb265
   have f492 := f491.chg cw267 (by omega)
   have f493 := f248.ext cb249
   have f494 := f493.chg cw251 (by omega)
   have f496 := (f494.ext c264).ext cb265
   have f497 := f496.chg cw267 (by omega)
   have f501 := (((f200.ext c201).ext c211).ext c221).ext cwl237
   have f502 := f501.ext cb249
   have f503 := f502.chg cw251 (by omega)
   have f505 := (f503.ext c264).ext cb265
   have f506 := f505.chg cw267 (by omega)
   have f508 := (f263.ext c264).ext cb265
   have f509 := f508.chg cw267 (by omega)
   have f515 := (((((f191.ext c192).ext c198).ext c201).ext c211).ext c221).ext cwl237
   have f516 := f515.ext cb249
   have f517 := f516.chg cw251 (by omega)
   have f519 := (f517.ext c264).ext cb265
   have f520 := f519.chg cw267 (by omega)
   have f523 := ((f206.ext c211).ext c221).ext cwl237
   have f524 := f523.ext cb249
   have f525 := f524.chg cw251 (by omega)
   have f527 := (f525.ext c264).ext cb265
   have f528 := f527.chg cw267 (by omega)
   have f531 := ((f210.ext c211).ext c221).ext cwl237
   have f532 := f531.ext cb249
   have f533 := f532.chg cw251 (by omega)
   have f535 := (f533.ext c264).ext cb265
   have f536 := f535.chg cw267 (by omega)
   have f539 := ((ot_201.ext c211).ext c221).ext cwl237
   have f540 := f539.ext cb249
   have f541 := f540.chg cw251 (by omega)
   have f543 := (f541.ext c264).ext cb265
   have f544 := f543.chg cw267 (by omega)
   have f545 := f252.chg cw251 (by omega)
   have f547 := (f545.ext c264).ext cb265
   have f548 := f547.chg cw267 (by omega)
   have f549 := f269.chg cw267 (by omega)
   have f550 := f268.chg cw267 (by omega)
   refine dx_region (fun w' => Chg 0 0 w267 w') (by kernel_rfl) (Chg.zero (Chg.drew _)) ?_
   have d551 := Chg.drew w267
   have s551 : Chg 0 0 w267 (World.drew w267) := Chg.zero (Chg.drew _)
   have y551 : (World.drew w267).heap.size = w267.heap.size := rfl
   generalize World.drew w267 = w551 at *
   have zw551 := d551.size
   refine dt 0 rfl rfl rfl rfl s551 (fun _ hS => px_field rfl xfld54x0) ?_
   refine dt 1 rfl rfl rfl rfl s551 (fun _ hS => px_load rfl ((f480.chg hS (by omega)).load1 rfl Tryz.isAgg9)) ?_
   refine dt 2 rfl rfl rfl rfl s551 (fun _ hS => px_move rfl) ?_
   refine dt 3 rfl rfl rfl rfl s551 (fun _ hS => px_neS rfl rfl) ?_
   refine dt 4 rfl rfl rfl rfl s551 (fun _ hS => px_move rfl) ?_
   have h501 : ¬ ((ts6.getD k rt0).1 ≠ a6) := by first | omega | exact ph501
   refine dx_tmpPF (t := 116) rfl h501 ?_
   refine dx_takeG 5 rfl rfl rfl rfl rfl rfl (by kernel_rfl) (by kernel_rfl) (by kernel_rfl) s551 (fun _ hS => px_field rfl xfld54x1) ?_
   refine dx_takeG 6 rfl rfl rfl rfl rfl rfl (by kernel_rfl) (by kernel_rfl) (by kernel_rfl) s551 (fun _ hS => px_load rfl ((f480.chg hS (by omega)).load1 rfl Tryz.isAgg9)) ?_
   refine dx_takeG 7 rfl rfl rfl rfl rfl rfl (by kernel_rfl) (by kernel_rfl) (by kernel_rfl) s551 (fun _ hS => px_move rfl) ?_
   refine dx_takeG 8 rfl rfl rfl rfl rfl rfl (by kernel_rfl) (by kernel_rfl) (by kernel_rfl) s551 (fun _ hS => px_neS rfl rfl) ?_
   refine dt 9 rfl rfl rfl rfl s551 (fun _ hS => px_pick rfl rfl) ?_
   refine dt 10 rfl rfl rfl rfl s551 (fun _ hS => px_move rfl) ?_
   have h501x1 : (ts6.getD k rt0).2.1 ≠ b6 := by first | omega | exact ph501x1
   refine dx_tmpPT (t := 122) rfl h501x1 ?_
   refine dx_takeG 11 rfl rfl rfl rfl rfl rfl (by kernel_rfl) (by kernel_rfl) (by kernel_rfl) s551 (fun _ hS => px_load rfl ((gw267.chg hS (by omega)).loadA (vs := [.bool (ng x264), s264, t264]) (look_lit rfl) Tryz.isAgg37 Tryz.sizeOf37)) ?_
   refine dx_takeG 12 rfl rfl rfl rfl rfl rfl (by kernel_rfl) (by kernel_rfl) (by kernel_rfl) s551 (fun _ hS => px_field rfl xfld54x2) ?_
   refine dx_takeG 13 rfl rfl rfl rfl rfl rfl (by kernel_rfl) (by kernel_rfl) (by kernel_rfl) s551 (fun _ hS => px_load rfl ((f480.chg hS (by omega)).loadA (vs := [.bool ((ts6.getD k rt0).2.2.1), (us6.getD k vz), .int .i64 ((ts6.getD k rt0).2.2.2.2)]) (look_lit rfl) Tryz.isAgg27 Tryz.sizeOf27)) ?_
   refine dx_eff 14 rfl (by kernel_rfl) ?_
   refine sx_guardT rfl rfl rfl ?_
   have f552 := f548.ext d551
   refine sx_call rfl rfl Tryz.call11 (c_iDecRatK f552 (hzs k (by omega)) (Pos_rate (hTT.2.2.1 k (by omega)))) (fun v553 w553 p553 => ?_)
   obtain ⟨s553, t553, ls553, us553, lt553, ut553, x553, e553, rfl, os_553, ot_553, hd553, hK553, hv553, c553⟩ := p553
   have zw553 := c553.size
   have s554 : Chg 0 0 w267 w553 := (d551.t c553)
   refine wl_nil ?_
   refine dx_next s554 ?_
   refine dx_eff 15 rfl (by kernel_rfl) ?_
   refine sx_guardT rfl rfl rfl ?_
   have f556 := (f549.ext d551).ext c553
   have f558 := (f550.ext d551).ext c553
   refine sx_call rfl rfl Tryz.call15 (c_iRatCmpK f556.sv f558.sv os_553.sv ot_553.sv (by first | assumption | exact (hX5 (fun h0 => absurd (hph.1.symm.trans h0) (by decide))).1 | exact (hX6 (fun h0 => absurd (hh.1.symm.trans h0) (by decide))).1) (by assumption)) (fun v559 w559 p559 => ?_)
   obtain ⟨rfl, c559⟩ := p559
   have zw559 := c559.size
   have s560 : Chg 0 0 w267 w559 := ((d551.t c553).t c559)
   refine wl_nil ?_
   refine dx_next s560 ?_
   refine dx_takeG 16 rfl rfl rfl rfl rfl rfl (by kernel_rfl) (by kernel_rfl) (by kernel_rfl) s560 (fun _ hS => px_ne rfl rfl) ?_
   refine dt 17 rfl rfl rfl rfl s560 (fun _ hS => px_pick rfl rfl) ?_
   refine dx_done (by kernel_rfl) ?_
   refine q_n (k270 _ _ ?_)
   refine sx_sub (Sub.c 3 rfl (.c 4 rfl (.c 5 rfl (.c 7 rfl (.c 97 rfl (.c 98 rfl (.c 99 rfl (.c 129 rfl .nil)))))))) ?_
   have h501x2 : ¬ ((cmpI ((x264) * ((e553 : Nat) : Int)) ((x553) * ((e264 : Nat) : Int)) : Int) ≠ 0) := Decidable.not_not.2 (cmp_same hv6 (hh.2.trans (by assumption)))
   refine sx_condPF rfl h501x2 ?_
   refine sx_skip ?_
   refine q_bn (q_n (k246 _ _ ?_))
   refine sx_region ?_
   refine sp rfl (px_add rfl rfl (by omega)) ?_
   refine mv rfl rfl (wl_nil ?_)
   have q561 := Chg.step (l := 0) (h := 0) (Chg.zero (l := 0) (h := 0) (cwl237.t cb249)) cw251 (by omega)
   have q562 := Chg.step (l := 0) (h := 0) q561 (c264.t cb265) (by omega)
   have q563 := Chg.step (l := 0) (h := 0) q562 cw267 (by omega)
   have q564 := Chg.step (l := 0) (h := 0) q563 ((d551.t c553).t c559) (by omega)
   have f567 := ((f438.ext d551).ext c553).ext c559
   have f570 := ((f453.ext d551).ext c553).ext c559
   exact fun a ha => ⟨_, by omega, (k + 1), ha.sub (Sub.c 3 rfl (.c 4 rfl (.c 5 rfl (.c 7 rfl (.c 97 rfl (.c 98 rfl (.c 99 (look_int (t := 99) rfl (by first | omega | simp)) .nil))))))), q564, f567, f570, rfl, by omega⟩
  have f572 := (f259.ext c264).ext cb265
  have f573 := f572.chg cw267 (by omega)
  have f578 := ((((f195.ext c198).ext c201).ext c211).ext c221).ext cwl237
  have f579 := f578.ext cb249
  have f580 := f579.chg cw251 (by omega)
  have f582 := (f580.ext c264).ext cb265
  have f583 := f582.chg cw267 (by omega)
  have f584 := hb_b7.ext cb249
  have f585 := f584.chg cw251 (by omega)
  have f587 := (f585.ext c264).ext cb265
  have f588 := f587.chg cw267 (by omega)
  have f595 := ((((((f141.ext d188).ext c192).ext c198).ext c201).ext c211).ext c221).ext cwl237
  have f596 := f595.ext cb249
  have f597 := f596.chg cw251 (by omega)
  have f599 := (f597.ext c264).ext cb265
  have f600 := f599.chg cw267 (by omega)
  have f602 := (f255.ext c264).ext cb265
  have f603 := f602.chg cw267 (by omega)
  have f610 := ((((((f147.ext d188).ext c192).ext c198).ext c201).ext c211).ext c221).ext cwl237
  have f611 := f610.ext cb249
  have f612 := f611.chg cw251 (by omega)
  have f614 := (f612.ext c264).ext cb265
  have f615 := f614.chg cw267 (by omega)
  have f622 := ((((((gw111.ext d188).ext c192).ext c198).ext c201).ext c211).ext c221).ext cwl237
  have f623 := f622.ext cb249
  have f624 := f623.chg cw251 (by omega)
  have f626 := (f624.ext c264).ext cb265
  have f627 := f626.chg cw267 (by omega)
  have f629 := (gw251.ext c264).ext cb265
  have f630 := f629.chg cw267 (by omega)
  have f637 := ((((((f161.ext d188).ext c192).ext c198).ext c201).ext c211).ext c221).ext cwl237
  have f638 := f637.ext cb249
  have f639 := f638.chg cw251 (by omega)
  have f641 := (f639.ext c264).ext cb265
  have f642 := f641.chg cw267 (by omega)
  have f643 := f248.ext cb249
  have f644 := f643.chg cw251 (by omega)
  have f646 := (f644.ext c264).ext cb265
  have f647 := f646.chg cw267 (by omega)
  have f651 := (((f200.ext c201).ext c211).ext c221).ext cwl237
  have f652 := f651.ext cb249
  have f653 := f652.chg cw251 (by omega)
  have f655 := (f653.ext c264).ext cb265
  have f656 := f655.chg cw267 (by omega)
  have f658 := (f263.ext c264).ext cb265
  have f659 := f658.chg cw267 (by omega)
  have f665 := (((((f191.ext c192).ext c198).ext c201).ext c211).ext c221).ext cwl237
  have f666 := f665.ext cb249
  have f667 := f666.chg cw251 (by omega)
  have f669 := (f667.ext c264).ext cb265
  have f670 := f669.chg cw267 (by omega)
  have f673 := ((f206.ext c211).ext c221).ext cwl237
  have f674 := f673.ext cb249
  have f675 := f674.chg cw251 (by omega)
  have f677 := (f675.ext c264).ext cb265
  have f678 := f677.chg cw267 (by omega)
  have f681 := ((f210.ext c211).ext c221).ext cwl237
  have f682 := f681.ext cb249
  have f683 := f682.chg cw251 (by omega)
  have f685 := (f683.ext c264).ext cb265
  have f686 := f685.chg cw267 (by omega)
  have f689 := ((ot_201.ext c211).ext c221).ext cwl237
  have f690 := f689.ext cb249
  have f691 := f690.chg cw251 (by omega)
  have f693 := (f691.ext c264).ext cb265
  have f694 := f693.chg cw267 (by omega)
  have f695 := f252.chg cw251 (by omega)
  have f697 := (f695.ext c264).ext cb265
  have f698 := f697.chg cw267 (by omega)
  have f699 := f269.chg cw267 (by omega)
  have f700 := f268.chg cw267 (by omega)
  refine dx_region (fun w' => Chg 0 0 w267 w') (by kernel_rfl) (Chg.zero (Chg.drew _)) ?_
  have d701 := Chg.drew w267
  have s701 : Chg 0 0 w267 (World.drew w267) := Chg.zero (Chg.drew _)
  have y701 : (World.drew w267).heap.size = w267.heap.size := rfl
  generalize World.drew w267 = w701 at *
  have zw701 := d701.size
  refine dt 0 rfl rfl rfl rfl s701 (fun _ hS => px_field rfl xfld54x0) ?_
  refine dt 1 rfl rfl rfl rfl s701 (fun _ hS => px_load rfl ((f630.chg hS (by omega)).load1 rfl Tryz.isAgg9)) ?_
  refine dt 2 rfl rfl rfl rfl s701 (fun _ hS => px_move rfl) ?_
  refine dt 3 rfl rfl rfl rfl s701 (fun _ hS => px_neS rfl rfl) ?_
  refine dt 4 rfl rfl rfl rfl s701 (fun _ hS => px_move rfl) ?_
  have h501 : ¬ ((ts6.getD k rt0).1 ≠ a6) := by first | omega | exact ph501
  refine dx_tmpPF (t := 116) rfl h501 ?_
  refine dx_takeG 5 rfl rfl rfl rfl rfl rfl (by kernel_rfl) (by kernel_rfl) (by kernel_rfl) s701 (fun _ hS => px_field rfl xfld54x1) ?_
  refine dx_takeG 6 rfl rfl rfl rfl rfl rfl (by kernel_rfl) (by kernel_rfl) (by kernel_rfl) s701 (fun _ hS => px_load rfl ((f630.chg hS (by omega)).load1 rfl Tryz.isAgg9)) ?_
  refine dx_takeG 7 rfl rfl rfl rfl rfl rfl (by kernel_rfl) (by kernel_rfl) (by kernel_rfl) s701 (fun _ hS => px_move rfl) ?_
  refine dx_takeG 8 rfl rfl rfl rfl rfl rfl (by kernel_rfl) (by kernel_rfl) (by kernel_rfl) s701 (fun _ hS => px_neS rfl rfl) ?_
  refine dt 9 rfl rfl rfl rfl s701 (fun _ hS => px_pick rfl rfl) ?_
  refine dt 10 rfl rfl rfl rfl s701 (fun _ hS => px_move rfl) ?_
  have h501x1 : ¬ ((ts6.getD k rt0).2.1 ≠ b6) := by first | omega | exact ph501x1
  refine dx_tmpPF (t := 122) rfl h501x1 ?_
  refine dx_skip 11 rfl rfl rfl rfl rfl rfl rfl (by kernel_rfl) (by kernel_rfl) (by kernel_rfl) s701 ?_
  refine dx_skip 12 rfl rfl rfl rfl rfl rfl rfl (by kernel_rfl) (by kernel_rfl) (by kernel_rfl) s701 ?_
  refine dx_skip 13 rfl rfl rfl rfl rfl rfl rfl (by kernel_rfl) (by kernel_rfl) (by kernel_rfl) s701 ?_
  refine dx_skip 14 rfl rfl rfl rfl rfl rfl rfl (by kernel_rfl) (by kernel_rfl) (by kernel_rfl) s701 ?_
  refine dx_skip 15 rfl rfl rfl rfl rfl rfl rfl (by kernel_rfl) (by kernel_rfl) (by kernel_rfl) s701 ?_
  refine dx_skip 16 rfl rfl rfl rfl rfl rfl rfl (by kernel_rfl) (by kernel_rfl) (by kernel_rfl) s701 ?_
  refine dt 17 rfl rfl rfl rfl s701 (fun _ hS => px_pick rfl rfl) ?_
  refine dx_done (by kernel_rfl) ?_
  refine q_n (k270 _ _ ?_)
  refine sx_sub (Sub.c 3 rfl (.c 4 rfl (.c 5 rfl (.c 7 rfl (.c 97 rfl (.c 98 rfl (.c 99 rfl (.c 129 rfl .nil)))))))) ?_
  refine sx_condF rfl ?_
  refine sx_skip ?_
  refine q_bn (q_n (k246 _ _ ?_))
  refine sx_region ?_
  refine sp rfl (px_add rfl rfl (by omega)) ?_
  refine mv rfl rfl (wl_nil ?_)
  have q702 := Chg.step (l := 0) (h := 0) (Chg.zero (l := 0) (h := 0) (cwl237.t cb249)) cw251 (by omega)
  have q703 := Chg.step (l := 0) (h := 0) q702 (c264.t cb265) (by omega)
  have q704 := Chg.step (l := 0) (h := 0) q703 cw267 (by omega)
  have q705 := Chg.step (l := 0) (h := 0) q704 d701 (by omega)
  have f706 := f588.ext d701
  have f707 := f603.ext d701
  exact fun a ha => ⟨_, by omega, (k + 1), ha.sub (Sub.c 3 rfl (.c 4 rfl (.c 5 rfl (.c 7 rfl (.c 97 rfl (.c 98 rfl (.c 99 (look_int (t := 99) rfl (by first | omega | simp)) .nil))))))), q705, f706, f707, rfl, by omega⟩
 refine sx_exit ?_
 refine q_e (q_e (q_bx (q_n (k223 _ _ ?_))))
 refine sx_seq fun K708 k708 => sx_region ?_
 refine av rfl rfl (wl_nil (q_n (k708 _ _ ?_)))
 refine sx_retc ?_
 refine sx_ret1 Tryz.results4 rfl ?_
 have q709 := Chg.step (l := 0) (h := 0) (Chg.zero (l := 0) (h := 0) (c6.t cb7)) cw9 (by omega)
 have q710 := Chg.step (l := 0) (h := 0) q709 ((((c13.t c17).t c30).t c31).t cb32) (by omega)
 have q711 := Chg.step (l := 0) (h := 0) q710 cw34 (by omega)
 have q712 := Chg.step (l := 0) (h := 0) q711 (c60.t cb61) (by omega)
 have q713 := Chg.step (l := 0) (h := 0) q712 cw63 (by omega)
 have q714 := Chg.step (l := 0) (h := 0) q713 ((c87.t c90).t cb91) (by omega)
 have q715 := Chg.step (l := 0) (h := 0) q714 cw93 (by omega)
 have q716 := Chg.step (l := 0) (h := 0) q715 (c108.t cb109) (by omega)
 have q717 := Chg.step (l := 0) (h := 0) q716 cw111 (by omega)
 have q718 := Chg.step (l := 0) (h := 0) q717 ((((((d188.t c192).t c198).t c201).t c211).t c221).t cwl237) (by omega)
 exact ⟨rfl, q718⟩

end Go.Proofs.YtoeclobdbblohaaGreatDoor
