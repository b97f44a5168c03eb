/- Contracts of functions of the program: what each call returns, and that it changes nothing that was. Conditions: as each says. -/
import Derived.Test.YtoeclobdbblohaaDoorTy
import Derived.Test.YtoeclobdbblohaaDoorNatI
import Derived.Test.YtoeclobdbblohaaDoorNatQ
import Derived.Test.YtoeclobdbblohaaDoorSxW
import Derived.Test.YtoeclobdbblohaaDoorSxB
import Derived.Test.YtoeclobdbblohaaDoorTab
import Derived.Test.YtoeclobdbblohaaDoorLay
import Derived.Test.YtoeclobdbblohaaDoorLayB
import Derived.Test.YtoeclobdbblohaaDoorNatX
import Derived.Test.YtoeclobdbblohaaDoorSxP
import Derived.Test.YtoeclobdbblohaaDoorL3
import Derived.Test.YtoeclobdbblohaaDoorL4
import Derived.Test.YtoeclobdbblohaaDoorL5
import Derived.Test.YtoeclobdbblohaaDoorNatJ
import Derived.Test.YtoeclobdbblohaaDoorNatDx
import Derived.Test.YtoeclobdbblohaaDoorSxE
set_option linter.unusedVariables false
set_option linter.unusedSimpArgs false
namespace Go.Proofs.YtoeclobdbblohaaDoor
open Go Go.RowKit
set_option maxRecDepth 100000
set_option maxHeartbeats 1000000
theorem law_FnMoney {w : World} {vb : Value} {lvb uvb : Nat} {bs : List Int} (hG0 : Glob w) (hGT : GlobP w) (hvb : SlB w lvb uvb vb (bs)) (hb8 : ∀ j, j < bs.length → 0 ≤ bs.getD j 0 ∧ bs.getD j 0 ≤ 255) (hbs : bs.length ≤ 9223372036854775807) :
  Ret Tryd.prog 5 [vb] w fun v w' => v = .bool (true) ∧ Chg 0 0 w w' := by
 have hGTl := hGT.lt
 have hvb0 := hvb.fit
 have hG0l : 0 < w.heap.size := by obtain ⟨T, fz, h1⟩ := hG0; rcases Nat.lt_or_ge 0 w.heap.size with h2 | h2; exact h2; simp [Array.getElem?_eq_none h2] at h1
 refine sx_enter Tryd.func5 rfl Tryd.ntmps5 (nbl rfl) ?_
 refine sx_seq fun K1 k1 => sx_region ?_
 refine av rfl rfl (wl_nil (q_n (k1 _ _ ?_)))
 refine sx_seq fun K2 k2 => ?_
 refine sx_seq fun K3 k3 => sx_region ?_
 refine mv rfl rfl (sp rfl (px_len rfl Tryd.underlying40 hvb0) ?_)
 refine sp rfl (px_gt rfl rfl) ?_
 refine wl_nil (q_n (k3 _ _ ?_))
 refine sx_condP rfl (fun h413 => ?_) (fun h413 => ?_)
 ·
  refine sx_seq fun K4 k4 => sx_region ?_
  refine av rfl rfl (wl_nil (q_n (k4 _ _ ?_)))
  refine sx_retc ?_
  refine q_r (sx_ret1 Tryd.results5 rfl ?_)
  exact ⟨rfl, (Chg.refl 0 0 _)⟩
 refine sx_skip ?_
 refine q_n (k2 _ _ ?_)
 refine sx_seq fun K5 k5 => sx_region ?_
 refine mv rfl rfl (sx_call rfl rfl Tryd.call16 (c_MakeMoneys hvb0 (by assumption) (by omega)) (fun v6 w6 p6 => ?_))
 obtain ⟨s6, x6, t6, y6, cc6, rfl, os_6, ot_6, hk6, hx6, c6⟩ := p6
 have zw6 := c6.size
 have hkk := hk6
 have hbx := hx6
 have hl3 := len3 hbx.1 hbx.2
 have hl4 := len3 hbx.1 hbx.1
 have hm1 := mok_len (x := x6) hkk (by omega)
 have hm2 := mok_len (x := y6) hkk (by omega)
 have hm3 := mok_len (x := x6 + y6) hkk hl3.1
 have hm4 := mok_len (x := -x6) hkk (by omega)
 refine mv rfl rfl (sp rfl (px_ex2 rfl rfl) ?_)
 refine sp rfl (px_ex2 rfl rfl) ?_
 refine sx_alloc [.string (⟨#[]⟩), .bool false, (.slice none 0 0)] rfl Tryd.zeroValue26 rfl (fun b7 w8 eb7 sb7 fb7 cb7 => ?_)
 have zw8 := cb7.size
 refine sx_alloc [.string (⟨#[]⟩), .bool false, (.slice none 0 0)] rfl Tryd.zeroValue26 rfl (fun b9 w10 eb9 sb9 fb9 cb9 => ?_)
 have zw10 := cb9.size
 have f12 := fb7.ext cb9
 have f13 := os_6.ext cb7
 have f14 := f13.ext cb9
 refine sx_store (vs := [.string cc6, .bool (ng (x6)), s6]) rfl rfl f12 rfl Tryd.sizeOf26 (nbl rfl) (one_cons rfl (one_cons rfl (one_cons f14.one one_nil))) (fun w11 sw11 fw11 cw11 => ?_)
 have zw11 := cw11.size
 have gw11 : Blk w11 b7 [.string cc6, .bool (ng (x6)), s6] 26 := fw11
 have f16 := fb9.chg cw11 (by omega)
 have f17 := ot_6.ext cb7
 have f18 := f17.ext cb9
 have f19 := f18.chg cw11 (by omega)
 refine sx_store (vs := [.string cc6, .bool (ng (y6)), t6]) rfl rfl f16 rfl Tryd.sizeOf26 (nbl rfl) (one_cons rfl (one_cons rfl (one_cons f19.one one_nil))) (fun w15 sw15 fw15 cw15 => ?_)
 have zw15 := cw15.size
 have gw15 : Blk w15 b9 [.string cc6, .bool (ng (y6)), t6] 26 := fw15
 refine wl_nil (q_n (k5 _ _ ?_))
 refine sx_seq fun K20 k20 => sx_region ?_
 have f21 := gw11.chg cw15 (by omega)
 refine sp rfl (px_load rfl (f21.loadA (vs := [.string cc6, .bool (ng (x6)), s6]) (look_lit rfl) Tryd.isAgg26 Tryd.sizeOf26)) ?_
 have f23 := (hG0.ext c6).ext cb7
 have f24 := f23.ext cb9
 have f25 := f24.chg cw11 (by omega)
 have f26 := f25.chg cw15 (by omega)
 have f28 := (hGT.ext c6).ext cb7
 have f29 := f28.ext cb9
 have f30 := f29.chg cw11 (by omega)
 have f31 := f30.chg cw15 (by omega)
 have f32 := f14.chg cw11 (by omega)
 have f33 := f32.chg cw15 (by omega)
 refine sx_call rfl rfl Tryd.call17 (c_iMoneyText f26 f31 f33 (by omega)) (fun v34 w34 p34 => ?_)
 obtain ⟨rfl, c34⟩ := p34
 have zw34 := c34.size
 have f35 := f26.ext c34
 have f36 := f31.ext c34
 refine sx_call rfl rfl Tryd.call7 (c_iTextMoneyD f35 f36 (by assumption)) (fun v37 w37 p37 => ?_)
 obtain ⟨s37, rfl, os_37, c37⟩ := p37
 have zw37 := c37.size
 refine mv rfl rfl (sp rfl (px_ex2 rfl rfl) ?_)
 refine sp rfl (px_ex2 rfl rfl) ?_
 refine sx_alloc [.string (⟨#[]⟩), .bool false, (.slice none 0 0)] rfl Tryd.zeroValue26 rfl (fun b38 w39 eb38 sb38 fb38 cb38 => ?_)
 have zw39 := cb38.size
 have f41 := os_37.ext cb38
 refine sx_store (vs := [.string cc6, .bool (ng ((x6))), s37]) rfl rfl fb38 rfl Tryd.sizeOf26 (nbl rfl) (one_cons rfl (one_cons rfl (one_cons f41.one one_nil))) (fun w40 sw40 fw40 cw40 => ?_)
 have zw40 := cw40.size
 have gw40 : Blk w40 b38 [.string cc6, .bool (ng ((x6))), s37] 26 := fw40
 refine av rfl rfl (wl_nil (q_n (k20 _ _ ?_)))
 refine sx_sub (Sub.c 2 rfl (.c 3 rfl (.c 4 rfl (.c 5 rfl (.c 6 rfl .nil))))) ?_
 refine sx_seq fun K42 k42 => sx_region ?_
 have f45 := ((f21.ext c34).ext c37).ext cb38
 have f46 := f45.chg cw40 (by omega)
 refine sp rfl (px_load rfl (f46.loadA (vs := [.string cc6, .bool (ng (x6)), s6]) (look_lit rfl) Tryd.isAgg26 Tryd.sizeOf26)) ?_
 have f49 := ((gw15.ext c34).ext c37).ext cb38
 have f50 := f49.chg cw40 (by omega)
 refine sp rfl (px_load rfl (f50.loadA (vs := [.string cc6, .bool (ng (y6)), t6]) (look_lit rfl) Tryd.isAgg26 Tryd.sizeOf26)) ?_
 have f52 := (f35.ext c37).ext cb38
 have f53 := f52.chg cw40 (by omega)
 have f56 := ((f33.ext c34).ext c37).ext cb38
 have f57 := f56.chg cw40 (by omega)
 have f58 := f19.chg cw15 (by omega)
 have f61 := ((f58.ext c34).ext c37).ext cb38
 have f62 := f61.chg cw40 (by omega)
 refine sx_call rfl rfl Tryd.call18 (c_iMoneyAddM f53 f57 f62 (by assumption) (by assumption) (by first | rfl | assumption | exact eur_usd (by assumption)) (by first | exact hl3.1 | exact hl4.1)) (fun v63 w63 p63 => ?_)
 obtain ⟨s63, rfl, os_63, c63⟩ := p63
 have zw63 := c63.size
 refine mv rfl rfl (sp rfl (px_ex2 rfl rfl) ?_)
 refine sp rfl (px_ex2 rfl rfl) ?_
 refine sx_alloc [.string (⟨#[]⟩), .bool false, (.slice none 0 0)] rfl Tryd.zeroValue26 rfl (fun b64 w65 eb64 sb64 fb64 cb64 => ?_)
 have zw65 := cb64.size
 have f67 := os_63.ext cb64
 refine sx_store (vs := [.string cc6, .bool (ng ((x6) + (y6))), s63]) rfl rfl fb64 rfl Tryd.sizeOf26 (nbl rfl) (one_cons rfl (one_cons rfl (one_cons f67.one one_nil))) (fun w66 sw66 fw66 cw66 => ?_)
 have zw66 := cw66.size
 have gw66 : Blk w66 b64 [.string cc6, .bool (ng ((x6) + (y6))), s63] 26 := fw66
 refine av rfl rfl (wl_nil (q_n (k42 _ _ ?_)))
 refine sx_seq fun K68 k68 => sx_region ?_
 refine sp rfl (px_load rfl (gw66.loadA (vs := [.string cc6, .bool (ng ((x6) + (y6))), s63]) (look_lit rfl) Tryd.isAgg26 Tryd.sizeOf26)) ?_
 have f70 := (f50.ext c63).ext cb64
 have f71 := f70.chg cw66 (by omega)
 refine sp rfl (px_load rfl (f71.loadA (vs := [.string cc6, .bool (ng (y6)), t6]) (look_lit rfl) Tryd.isAgg26 Tryd.sizeOf26)) ?_
 have f73 := (f53.ext c63).ext cb64
 have f74 := f73.chg cw66 (by omega)
 have f75 := f67.chg cw66 (by omega)
 have f77 := (f62.ext c63).ext cb64
 have f78 := f77.chg cw66 (by omega)
 refine sx_call rfl rfl Tryd.call19 (c_iMoneySubM f74 f75.sv f78 (by assumption) (by assumption) (rfl) (by rw [back_sub]; omega)) (fun v79 w79 p79 => ?_)
 obtain ⟨s79, rfl, os_79, c79⟩ := p79
 have zw79 := c79.size
 refine mv rfl rfl (sp rfl (px_ex2 rfl rfl) ?_)
 refine sp rfl (px_ex2 rfl rfl) ?_
 refine sx_alloc [.string (⟨#[]⟩), .bool false, (.slice none 0 0)] rfl Tryd.zeroValue26 rfl (fun b80 w81 eb80 sb80 fb80 cb80 => ?_)
 have zw81 := cb80.size
 have f83 := os_79.ext cb80
 refine sx_store (vs := [.string cc6, .bool (ng (((x6) + (y6)) + -(y6))), s79]) rfl rfl fb80 rfl Tryd.sizeOf26 (nbl rfl) (one_cons rfl (one_cons rfl (one_cons f83.one one_nil))) (fun w82 sw82 fw82 cw82 => ?_)
 have zw82 := cw82.size
 have gw82 : Blk w82 b80 [.string cc6, .bool (ng (((x6) + (y6)) + -(y6))), s79] 26 := fw82
 refine av rfl rfl (wl_nil (q_n (k68 _ _ ?_)))
 refine sx_sub (Sub.c 2 rfl (.c 3 rfl (.c 4 rfl (.c 5 rfl (.c 6 rfl (.c 8 rfl (.c 9 rfl (.c 10 rfl .nil)))))))) ?_
 refine sx_seq fun K84 k84 => sx_region ?_
 have f86 := (f46.ext c63).ext cb64
 have f87 := f86.chg cw66 (by omega)
 have f89 := (f87.ext c79).ext cb80
 have f90 := f89.chg cw82 (by omega)
 refine sp rfl (px_load rfl (f90.loadA (vs := [.string cc6, .bool (ng (x6)), s6]) (look_lit rfl) Tryd.isAgg26 Tryd.sizeOf26)) ?_
 have f92 := (f71.ext c79).ext cb80
 have f93 := f92.chg cw82 (by omega)
 refine sp rfl (px_load rfl (f93.loadA (vs := [.string cc6, .bool (ng (y6)), t6]) (look_lit rfl) Tryd.isAgg26 Tryd.sizeOf26)) ?_
 have f95 := (f74.ext c79).ext cb80
 have f96 := f95.chg cw82 (by omega)
 have f98 := (f57.ext c63).ext cb64
 have f99 := f98.chg cw66 (by omega)
 have f101 := (f99.ext c79).ext cb80
 have f102 := f101.chg cw82 (by omega)
 have f104 := (f78.ext c79).ext cb80
 have f105 := f104.chg cw82 (by omega)
 refine sx_call rfl rfl Tryd.call20 (c_iMoneyCmpM f96 f102 f105 (by assumption) (by assumption) (rfl)) (fun v106 w106 p106 => ?_)
 obtain ⟨rfl, c106⟩ := p106
 have zw106 := c106.size
 refine mv rfl rfl (sp rfl (px_ex2 rfl rfl) ?_)
 refine sp rfl (px_ex2 rfl rfl) ?_
 refine av rfl rfl (av rfl rfl (wl_nil (q_n (k84 _ _ ?_))))
 refine sx_sub (Sub.c 2 rfl (.c 3 rfl (.c 4 rfl (.c 5 rfl (.c 6 rfl (.c 8 rfl (.c 9 rfl (.c 10 rfl (.c 11 rfl (.c 12 rfl .nil)))))))))) ?_
 refine sx_seq fun K107 k107 => sx_region ?_
 have f108 := f90.ext c106
 refine sp rfl (px_load rfl (f108.loadA (vs := [.string cc6, .bool (ng (x6)), s6]) (look_lit rfl) Tryd.isAgg26 Tryd.sizeOf26)) ?_
 have f109 := f96.ext c106
 have f110 := f102.ext c106
 refine sx_call rfl rfl Tryd.call21 (c_iMoneyTimesM f109 f110 (by assumption) (rfl) (hl3.2.1)) (fun v111 w111 p111 => ?_)
 obtain ⟨s111, rfl, os_111, c111⟩ := p111
 have zw111 := c111.size
 refine mv rfl rfl (sp rfl (px_ex2 rfl rfl) ?_)
 refine sp rfl (px_ex2 rfl rfl) ?_
 refine sx_alloc [.string (⟨#[]⟩), .bool false, (.slice none 0 0)] rfl Tryd.zeroValue26 rfl (fun b112 w113 eb112 sb112 fb112 cb112 => ?_)
 have zw113 := cb112.size
 have f115 := os_111.ext cb112
 refine sx_store (vs := [.string cc6, .bool (ng ((x6) * (2 : Int))), s111]) rfl rfl fb112 rfl Tryd.sizeOf26 (nbl rfl) (one_cons rfl (one_cons rfl (one_cons f115.one one_nil))) (fun w114 sw114 fw114 cw114 => ?_)
 have zw114 := cw114.size
 have gw114 : Blk w114 b112 [.string cc6, .bool (ng ((x6) * (2 : Int))), s111] 26 := fw114
 refine av rfl rfl (wl_nil (q_n (k107 _ _ ?_)))
 refine sx_sub (Sub.c 2 rfl (.c 3 rfl (.c 4 rfl (.c 5 rfl (.c 6 rfl (.c 8 rfl (.c 9 rfl (.c 10 rfl (.c 11 rfl (.c 12 rfl (.c 13 rfl (.c 14 rfl .nil)))))))))))) ?_
 refine sx_seq fun K116 k116 => sx_region ?_
 have f118 := (f108.ext c111).ext cb112
 have f119 := f118.chg cw114 (by omega)
 refine sp rfl (px_load rfl (f119.loadA (vs := [.string cc6, .bool (ng (x6)), s6]) (look_lit rfl) Tryd.isAgg26 Tryd.sizeOf26)) ?_
 refine sp rfl (px_load rfl (f119.loadA (vs := [.string cc6, .bool (ng (x6)), s6]) (look_lit rfl) Tryd.isAgg26 Tryd.sizeOf26)) ?_
 have f121 := (f109.ext c111).ext cb112
 have f122 := f121.chg cw114 (by omega)
 have f124 := (f110.ext c111).ext cb112
 have f125 := f124.chg cw114 (by omega)
 refine sx_call rfl rfl Tryd.call18 (c_iMoneyAddM f122 f125 f125 (by assumption) (by assumption) (by first | rfl | assumption | exact eur_usd (by assumption)) (by first | exact hl3.1 | exact hl4.1)) (fun v126 w126 p126 => ?_)
 obtain ⟨s126, rfl, os_126, c126⟩ := p126
 have zw126 := c126.size
 refine mv rfl rfl (sp rfl (px_ex2 rfl rfl) ?_)
 refine sp rfl (px_ex2 rfl rfl) ?_
 refine sx_alloc [.string (⟨#[]⟩), .bool false, (.slice none 0 0)] rfl Tryd.zeroValue26 rfl (fun b127 w128 eb127 sb127 fb127 cb127 => ?_)
 have zw128 := cb127.size
 have f130 := os_126.ext cb127
 refine sx_store (vs := [.string cc6, .bool (ng ((x6) + (x6))), s126]) rfl rfl fb127 rfl Tryd.sizeOf26 (nbl rfl) (one_cons rfl (one_cons rfl (one_cons f130.one one_nil))) (fun w129 sw129 fw129 cw129 => ?_)
 have zw129 := cw129.size
 have gw129 : Blk w129 b127 [.string cc6, .bool (ng ((x6) + (x6))), s126] 26 := fw129
 refine av rfl rfl (wl_nil (q_n (k116 _ _ ?_)))
 refine sx_sub (Sub.c 2 rfl (.c 3 rfl (.c 4 rfl (.c 5 rfl (.c 6 rfl (.c 8 rfl (.c 9 rfl (.c 10 rfl (.c 11 rfl (.c 12 rfl (.c 13 rfl (.c 14 rfl (.c 15 rfl (.c 16 rfl .nil)))))))))))))) ?_
 refine sx_seq fun K131 k131 => ?_
 refine sx_seq fun K132 k132 => sx_region ?_
 refine mv rfl rfl (sp rfl (px_not rfl) ?_)
 refine mv rfl rfl ?_
 refine sx_guardT rfl rfl rfl ?_
 have f134 := (gw40.ext c63).ext cb64
 have f135 := f134.chg cw66 (by omega)
 have f137 := (f135.ext c79).ext cb80
 have f138 := f137.chg cw82 (by omega)
 have f141 := ((f138.ext c106).ext c111).ext cb112
 have f142 := f141.chg cw114 (by omega)
 have f144 := (f142.ext c126).ext cb127
 have f145 := f144.chg cw129 (by omega)
 refine sp rfl (px_load rfl (f145.loadA (vs := [.string cc6, .bool (ng ((x6))), s37]) (look_lit rfl) Tryd.isAgg26 Tryd.sizeOf26)) ?_
 refine sx_guardT rfl rfl rfl ?_
 have f147 := (f119.ext c126).ext cb127
 have f148 := f147.chg cw129 (by omega)
 refine sp rfl (px_load rfl (f148.loadA (vs := [.string cc6, .bool (ng (x6)), s6]) (look_lit rfl) Tryd.isAgg26 Tryd.sizeOf26)) ?_
 refine sx_guardT rfl rfl rfl ?_
 have f149 := f41.chg cw40 (by omega)
 have f151 := (f149.ext c63).ext cb64
 have f152 := f151.chg cw66 (by omega)
 have f154 := (f152.ext c79).ext cb80
 have f155 := f154.chg cw82 (by omega)
 have f158 := ((f155.ext c106).ext c111).ext cb112
 have f159 := f158.chg cw114 (by omega)
 have f161 := (f159.ext c126).ext cb127
 have f162 := f161.chg cw129 (by omega)
 have f164 := (f125.ext c126).ext cb127
 have f165 := f164.chg cw129 (by omega)
 refine sx_call rfl rfl Tryd.call22 (c_iMoneySame f162.sv f165 (by first | omega | (rw [back_sub]; omega))) (fun v166 w166 p166 => ?_)
 obtain ⟨rfl, c166⟩ := p166
 have zw166 := c166.size
 refine sx_guardT rfl rfl rfl ?_
 refine sp rfl (px_notP rfl) ?_
 refine sp rfl (px_pick rfl rfl) ?_
 refine mv rfl rfl ?_
 have h423 : ¬ (¬ (cc6 = cc6 ∧ (ng ((x6))) = (ng (x6)) ∧ (dg ((x6)).natAbs) = (dg (x6).natAbs))) := fun h => h ⟨rfl, rfl, rfl⟩
 refine sx_tmpPF (t := 75) rfl h423 ?_
 refine sx_guardT rfl rfl rfl ?_
 refine mv rfl rfl ?_
 refine sx_guardT rfl rfl rfl ?_
 refine sp rfl (px_not rfl) ?_
 refine sp rfl (px_pick rfl rfl) ?_
 refine mv rfl rfl ?_
 refine sx_guardT rfl rfl rfl ?_
 refine mv rfl rfl ?_
 refine sx_guardT rfl rfl rfl ?_
 refine sp rfl (px_not rfl) ?_
 refine sp rfl (px_pick rfl rfl) ?_
 refine mv rfl rfl ?_
 refine sx_guardT rfl rfl rfl ?_
 have f169 := ((gw82.ext c106).ext c111).ext cb112
 have f170 := f169.chg cw114 (by omega)
 have f172 := (f170.ext c126).ext cb127
 have f173 := f172.chg cw129 (by omega)
 have f174 := f173.ext c166
 refine sp rfl (px_load rfl (f174.loadA (vs := [.string cc6, .bool (ng (((x6) + (y6)) + -(y6))), s79]) (look_lit rfl) Tryd.isAgg26 Tryd.sizeOf26)) ?_
 refine sx_guardT rfl rfl rfl ?_
 have f175 := f148.ext c166
 refine sp rfl (px_load rfl (f175.loadA (vs := [.string cc6, .bool (ng (x6)), s6]) (look_lit rfl) Tryd.isAgg26 Tryd.sizeOf26)) ?_
 refine sx_guardT rfl rfl rfl ?_
 have f176 := f83.chg cw82 (by omega)
 have f179 := ((f176.ext c106).ext c111).ext cb112
 have f180 := f179.chg cw114 (by omega)
 have f182 := (f180.ext c126).ext cb127
 have f183 := f182.chg cw129 (by omega)
 have f184 := f183.ext c166
 have f185 := f165.ext c166
 refine sx_call rfl rfl Tryd.call22 (c_iMoneySame f184.sv f185 (by first | omega | (rw [back_sub]; omega))) (fun v186 w186 p186 => ?_)
 obtain ⟨rfl, c186⟩ := p186
 have zw186 := c186.size
 refine sx_guardT rfl rfl rfl ?_
 refine sp rfl (px_notP rfl) ?_
 refine sp rfl (px_pick rfl rfl) ?_
 refine mv rfl rfl ?_
 have h423x1 : ¬ (¬ (cc6 = cc6 ∧ (ng (((x6) + (y6)) + -(y6))) = (ng (x6)) ∧ (dg (((x6) + (y6)) + -(y6)).natAbs) = (dg (x6).natAbs))) := fun h => h (by rw [back_sub]; exact ⟨rfl, rfl, rfl⟩)
 refine sx_tmpPF (t := 89) rfl h423x1 ?_
 refine sx_guardT rfl rfl rfl ?_
 refine mv rfl rfl ?_
 refine sx_guardT rfl rfl rfl ?_
 refine sp rfl (px_not rfl) ?_
 refine sp rfl (px_pick rfl rfl) ?_
 refine mv rfl rfl ?_
 refine sx_guardT rfl rfl rfl ?_
 refine mv rfl rfl ?_
 refine sx_guardT rfl rfl rfl ?_
 refine sp rfl (px_field rfl xfld26x1) ?_
 refine sx_guardT rfl rfl rfl ?_
 have f187 := f175.ext c186
 refine sp rfl (px_load rfl (f187.loadA (vs := [.bool (ng (x6)), s6]) (look_lit rfl) Tryd.isAgg24 Tryd.sizeOf24)) ?_
 refine sx_guardT rfl rfl rfl ?_
 refine sp rfl (px_field rfl xfld26x1) ?_
 refine sx_guardT rfl rfl rfl ?_
 have f190 := ((f93.ext c106).ext c111).ext cb112
 have f191 := f190.chg cw114 (by omega)
 have f193 := (f191.ext c126).ext cb127
 have f194 := f193.chg cw129 (by omega)
 have f196 := (f194.ext c166).ext c186
 refine sp rfl (px_load rfl (f196.loadA (vs := [.bool (ng (y6)), t6]) (look_lit rfl) Tryd.isAgg24 Tryd.sizeOf24)) ?_
 refine sx_guardT rfl rfl rfl ?_
 have f197 := f185.ext c186
 have f200 := ((f105.ext c106).ext c111).ext cb112
 have f201 := f200.chg cw114 (by omega)
 have f203 := (f201.ext c126).ext cb127
 have f204 := f203.chg cw129 (by omega)
 have f206 := (f204.ext c166).ext c186
 refine sx_call rfl rfl Tryd.call23 (c_iIntCmpK f197 f206 (by first | omega | (rw [Int.natAbs_neg]; omega)) (by first | omega | (rw [Int.natAbs_neg]; omega))) (fun v207 w207 p207 => ?_)
 obtain ⟨rfl, c207⟩ := p207
 have zw207 := c207.size
 refine sx_guardT rfl rfl rfl ?_
 refine sp rfl (px_ne rfl rfl) ?_
 refine sp rfl (px_pick rfl rfl) ?_
 refine mv rfl rfl ?_
 have h423x2 : ¬ ((cmpI (x6) (y6) : Int) ≠ cmpI (x6) (y6)) := fun h => h rfl
 refine sx_tmpPF (t := 102) rfl h423x2 ?_
 refine sx_guardT rfl rfl rfl ?_
 refine mv rfl rfl ?_
 refine sx_guardT rfl rfl rfl ?_
 refine sp rfl (px_not rfl) ?_
 refine sp rfl (px_pick rfl rfl) ?_
 refine mv rfl rfl ?_
 refine sx_guardT rfl rfl rfl ?_
 refine mv rfl rfl ?_
 refine sx_guardT rfl rfl rfl ?_
 refine sp rfl (px_not rfl) ?_
 refine sp rfl (px_pick rfl rfl) ?_
 refine mv rfl rfl ?_
 refine sx_guardT rfl rfl rfl ?_
 have f209 := (gw114.ext c126).ext cb127
 have f210 := f209.chg cw129 (by omega)
 have f213 := ((f210.ext c166).ext c186).ext c207
 refine sp rfl (px_load rfl (f213.loadA (vs := [.string cc6, .bool (ng ((x6) * (2 : Int))), s111]) (look_lit rfl) Tryd.isAgg26 Tryd.sizeOf26)) ?_
 refine sx_guardT rfl rfl rfl ?_
 have f216 := ((gw129.ext c166).ext c186).ext c207
 refine sp rfl (px_load rfl (f216.loadA (vs := [.string cc6, .bool (ng ((x6) + (x6))), s126]) (look_lit rfl) Tryd.isAgg26 Tryd.sizeOf26)) ?_
 refine sx_guardT rfl rfl rfl ?_
 have f217 := f115.chg cw114 (by omega)
 have f219 := (f217.ext c126).ext cb127
 have f220 := f219.chg cw129 (by omega)
 have f223 := ((f220.ext c166).ext c186).ext c207
 have f224 := f130.chg cw129 (by omega)
 have f227 := ((f224.ext c166).ext c186).ext c207
 refine sx_call rfl rfl Tryd.call22 (c_iMoneySame f223.sv f227.sv (by first | omega | (rw [back_sub]; omega))) (fun v228 w228 p228 => ?_)
 obtain ⟨rfl, c228⟩ := p228
 have zw228 := c228.size
 refine sx_guardT rfl rfl rfl ?_
 refine sp rfl (px_notP rfl) ?_
 refine sp rfl (px_pick rfl rfl) ?_
 refine wl_nil (q_n (k132 _ _ ?_))
 refine sx_sub (Sub.c 2 rfl (.c 3 rfl (.c 4 rfl (.c 115 rfl .nil)))) ?_
 have h423x3 : ¬ (¬ (cc6 = cc6 ∧ (ng ((x6) * (2 : Int))) = (ng ((x6) + (x6))) ∧ (dg ((x6) * (2 : Int)).natAbs) = (dg ((x6) + (x6)).natAbs))) := fun h => h (by rw [twice]; exact ⟨rfl, rfl, rfl⟩)
 refine sx_condPF rfl h423x3 ?_
 refine sx_skip ?_
 refine q_n (k131 _ _ ?_)
 refine sx_seq fun K229 k229 => sx_region ?_
 have f231 := (f196.ext c207).ext c228
 refine sp rfl (px_load rfl (f231.loadA (vs := [.string cc6, .bool (ng (y6)), t6]) (look_lit rfl) Tryd.isAgg26 Tryd.sizeOf26)) ?_
 refine sx_alloc [.string (⟨#[]⟩), .bool false, (.slice none 0 0)] rfl Tryd.zeroValue26 rfl (fun b232 w233 eb232 sb232 fb232 cb232 => ?_)
 have zw233 := cb232.size
 have f237 := ((f206.ext c207).ext c228).ext cb232
 refine sx_store (vs := [.string cc6, .bool (ng (y6)), t6]) rfl rfl fb232 rfl Tryd.sizeOf26 (nbl rfl) (one_cons rfl (one_cons rfl (one_cons f237.one one_nil))) (fun w234 sw234 fw234 cw234 => ?_)
 have zw234 := cw234.size
 have gw234 : Blk w234 b232 [.string cc6, .bool (ng (y6)), t6] 26 := fw234
 refine wl_nil (q_n (k229 _ _ ?_))
 refine sx_seq fun K238 k238 => sx_region ?_
 refine sp rfl (px_field rfl xfld26x0) ?_
 refine sx_store (vs := [.string (⟨#[69, 85, 82]⟩)]) rfl rfl gw234 rfl Tryd.sizeOf9 (nbl rfl) (o1 rfl) (fun w239 sw239 fw239 cw239 => ?_)
 have zw239 := cw239.size
 have gw239 : Blk w239 b232 [.string (⟨#[69, 85, 82]⟩), .bool (ng (y6)), t6] 26 := fw239
 refine wl_nil (q_n (k238 _ _ ?_))
 refine sx_seq fun K240 k240 => ?_
 refine sx_seq fun K241 k241 => sx_region ?_
 refine sp rfl (px_field rfl xfld26x0) ?_
 have f244 := ((f187.ext c207).ext c228).ext cb232
 have f245 := f244.chg cw234 (by omega)
 have f246 := f245.chg cw239 (by omega)
 refine sp rfl (px_load rfl (f246.load1 rfl Tryd.isAgg9)) ?_
 refine sp rfl (px_eqS rfl rfl) ?_
 refine wl_nil (q_n (k241 _ _ ?_))
 refine sx_condP rfl (fun h428 => ?_) (fun h428 => ?_)
 ·
  refine sx_region ?_
  refine sp rfl (px_field rfl xfld26x0) ?_
  refine sx_store (vs := [.string (⟨#[85, 83, 68]⟩)]) rfl rfl gw239 rfl Tryd.sizeOf9 (nbl rfl) (o1 rfl) (fun w247 sw247 fw247 cw247 => ?_)
  have zw247 := cw247.size
  have gw247 : Blk w247 b232 [.string (⟨#[85, 83, 68]⟩), .bool (ng (y6)), t6] 26 := fw247
  refine wl_nil (q_n (k240 _ _ ?_))
  refine sx_seq fun K248 k248 => sx_region ?_
  have f249 := f246.chg cw247 (by omega)
  refine sp rfl (px_load rfl (f249.loadA (vs := [.string cc6, .bool (ng (x6)), s6]) (look_lit rfl) Tryd.isAgg26 Tryd.sizeOf26)) ?_
  refine sp rfl (px_load rfl (gw247.loadA (vs := [.string (⟨#[85, 83, 68]⟩), .bool (ng (y6)), t6]) (look_lit rfl) Tryd.isAgg26 Tryd.sizeOf26)) ?_
  have f251 := (f122.ext c126).ext cb127
  have f252 := f251.chg cw129 (by omega)
  have f257 := ((((f252.ext c166).ext c186).ext c207).ext c228).ext cb232
  have f258 := f257.chg cw234 (by omega)
  have f259 := f258.chg cw239 (by omega)
  have f260 := f259.chg cw247 (by omega)
  have f263 := ((f197.ext c207).ext c228).ext cb232
  have f264 := f263.chg cw234 (by omega)
  have f265 := f264.chg cw239 (by omega)
  have f266 := f265.chg cw247 (by omega)
  have f267 := f237.chg cw234 (by omega)
  have f268 := f267.chg cw239 (by omega)
  have f269 := f268.chg cw247 (by omega)
  refine sx_call rfl rfl Tryd.call18 (c_iMoneyAddN f260 f266 f269 (by omega) (by first | rfl | assumption | exact eur_usd (by assumption))) (fun v270 w270 p270 => ?_)
  obtain ⟨s270, rfl, os_270, c270⟩ := p270
  have zw270 := c270.size
  refine mv rfl rfl (sp rfl (px_ex2 rfl rfl) ?_)
  refine sp rfl (px_ex2 rfl rfl) ?_
  refine sx_alloc [.string (⟨#[]⟩), .bool false, (.slice none 0 0)] rfl Tryd.zeroValue26 rfl (fun b271 w272 eb271 sb271 fb271 cb271 => ?_)
  have zw272 := cb271.size
  have f274 := os_270.ext cb271
  refine sx_store (vs := [.string (⟨#[]⟩), .bool false, s270]) rfl rfl fb271 rfl Tryd.sizeOf26 (nbl rfl) (one_cons rfl (one_cons rfl (one_cons f274.one one_nil))) (fun w273 sw273 fw273 cw273 => ?_)
  have zw273 := cw273.size
  have gw273 : Blk w273 b271 [.string (⟨#[]⟩), .bool false, s270] 26 := fw273
  refine av rfl rfl (wl_nil (q_n (k248 _ _ ?_)))
  refine sx_sub (Sub.c 2 rfl (.c 3 rfl (.c 19 rfl .nil))) ?_
  refine sx_seq fun K275 k275 => sx_region ?_
  have f277 := (f249.ext c270).ext cb271
  have f278 := f277.chg cw273 (by omega)
  refine sp rfl (px_load rfl (f278.loadA (vs := [.string cc6, .bool (ng (x6)), s6]) (look_lit rfl) Tryd.isAgg26 Tryd.sizeOf26)) ?_
  have f280 := (f260.ext c270).ext cb271
  have f281 := f280.chg cw273 (by omega)
  have f283 := (f266.ext c270).ext cb271
  have f284 := f283.chg cw273 (by omega)
  refine sx_call rfl rfl Tryd.call24 (c_iMoneyNegM f281 f284 (by assumption)) (fun v285 w285 p285 => ?_)
  obtain ⟨s285, rfl, os_285, c285⟩ := p285
  have zw285 := c285.size
  refine mv rfl rfl (sp rfl (px_ex2 rfl rfl) ?_)
  refine sp rfl (px_ex2 rfl rfl) ?_
  refine sx_alloc [.string (⟨#[]⟩), .bool false, (.slice none 0 0)] rfl Tryd.zeroValue26 rfl (fun b286 w287 eb286 sb286 fb286 cb286 => ?_)
  have zw287 := cb286.size
  have f289 := os_285.ext cb286
  refine sx_store (vs := [.string cc6, .bool (ng (-(x6))), s285]) rfl rfl fb286 rfl Tryd.sizeOf26 (nbl rfl) (one_cons rfl (one_cons rfl (one_cons f289.one one_nil))) (fun w288 sw288 fw288 cw288 => ?_)
  have zw288 := cw288.size
  have gw288 : Blk w288 b286 [.string cc6, .bool (ng (-(x6))), s285] 26 := fw288
  refine av rfl rfl (wl_nil (q_n (k275 _ _ ?_)))
  refine sx_seq fun K290 k290 => sx_region ?_
  refine sp rfl (px_field rfl xfld26x0) ?_
  have f292 := (f278.ext c285).ext cb286
  have f293 := f292.chg cw288 (by omega)
  refine sp rfl (px_load rfl (f293.load1 rfl Tryd.isAgg9)) ?_
  refine sp rfl (px_load rfl (f293.loadA (vs := [.string cc6, .bool (ng (x6)), s6]) (look_lit rfl) Tryd.isAgg26 Tryd.sizeOf26)) ?_
  refine sp rfl (px_load rfl (gw288.loadA (vs := [.string cc6, .bool (ng (-(x6))), s285]) (look_lit rfl) Tryd.isAgg26 Tryd.sizeOf26)) ?_
  refine sx_lit2A3 rfl xelt51 rfl rfl (fun s294 ws294 ss294 fs294 cs294 => ?_)
  have zws294 := cs294.size
  have f296 := (f284.ext c285).ext cb286
  have f297 := f296.chg cw288 (by omega)
  have f298 := f297.ext cs294
  have f299 := f289.chg cw288 (by omega)
  have f300 := f299.ext cs294
  have ms294 : MtS ws294 0 ws294.heap.size s294 ([(cc6, ng (x6), dg (x6).natAbs), (cc6, ng (-(x6)), dg (-(x6)).natAbs)] : List Mt) [s6, s285] := MtS.two (r0 := (cc6, ng (x6), dg (x6).natAbs)) (r1 := (cc6, ng (-(x6)), dg (-(x6)).natAbs)) fs294 (f298) (f300.sv)
  have f302 := (f281.ext c285).ext cb286
  have f303 := f302.chg cw288 (by omega)
  have f304 := f303.ext cs294
  refine sx_call rfl rfl Tryd.call25 (c_iMoneySumM f304 ms294 (by simp only [List.length_cons, List.length_nil]; omega) (by assumption) (two_all (by assumption) (by assumption)) (two_zero)) (fun v305 w305 p305 => ?_)
  obtain ⟨s305, rfl, os_305, c305⟩ := p305
  have zw305 := c305.size
  refine mv rfl rfl (sp rfl (px_ex2 rfl rfl) ?_)
  refine sp rfl (px_ex2 rfl rfl) ?_
  refine sx_alloc [.string (⟨#[]⟩), .bool false, (.slice none 0 0)] rfl Tryd.zeroValue26 rfl (fun b306 w307 eb306 sb306 fb306 cb306 => ?_)
  have zw307 := cb306.size
  have f309 := os_305.ext cb306
  refine sx_store (vs := [.string cc6, .bool (ng ((0 : Int))), s305]) rfl rfl fb306 rfl Tryd.sizeOf26 (nbl rfl) (one_cons rfl (one_cons rfl (one_cons f309.one one_nil))) (fun w308 sw308 fw308 cw308 => ?_)
  have zw308 := cw308.size
  have gw308 : Blk w308 b306 [.string cc6, .bool (ng ((0 : Int))), s305] 26 := fw308
  refine av rfl rfl (wl_nil (q_n (k290 _ _ ?_)))
  refine sx_sub (Sub.c 2 rfl (.c 19 rfl (.c 21 rfl (.c 22 rfl (.c 23 rfl .nil))))) ?_
  refine sx_seq fun K310 k310 => sx_region ?_
  refine mv rfl rfl (sp rfl (px_not rfl) ?_)
  refine mv rfl rfl ?_
  refine sx_guardT rfl rfl rfl ?_
  refine mv rfl rfl (sp rfl (px_pick rfl rfl) ?_)
  refine mv rfl rfl ?_
  refine sx_guardT rfl rfl rfl ?_
  refine mv rfl rfl (sp rfl (px_pick rfl rfl) ?_)
  refine mv rfl rfl ?_
  refine sx_guardT rfl rfl rfl ?_
  refine sp rfl (px_field rfl xfld26x1) ?_
  refine sx_guardT rfl rfl rfl ?_
  refine sp rfl (px_load rfl (gw308.loadA (vs := [.bool (ng ((0 : Int))), s305]) (look_lit rfl) Tryd.isAgg24 Tryd.sizeOf24)) ?_
  refine sx_guardT rfl rfl rfl ?_
  have f311 := f309.chg cw308 (by omega)
  refine sx_call rfl rfl Tryd.call26 (c_iIntSignK f311.sv (by first | omega | exact len_nil0)) (fun v312 w312 p312 => ?_)
  obtain ⟨rfl, c312⟩ := p312
  have zw312 := c312.size
  refine sx_guardT rfl rfl rfl ?_
  refine sp rfl (px_eq rfl rfl) ?_
  refine sp rfl (px_pick rfl rfl) ?_
  refine av rfl rfl (wl_nil (q_n (k310 _ _ ?_)))
  refine sx_sub (Sub.c 2 rfl .nil) ?_
  refine sx_retc ?_
  refine sx_ret1 Tryd.results5 rfl ?_
  have q313 := Chg.step (l := 0) (h := 0) (Chg.zero (l := 0) (h := 0) ((c6.t cb7).t cb9)) cw11 (by omega)
  have q314 := Chg.step (l := 0) (h := 0) q313 cw15 (by omega)
  have q315 := Chg.step (l := 0) (h := 0) q314 ((c34.t c37).t cb38) (by omega)
  have q316 := Chg.step (l := 0) (h := 0) q315 cw40 (by omega)
  have q317 := Chg.step (l := 0) (h := 0) q316 (c63.t cb64) (by omega)
  have q318 := Chg.step (l := 0) (h := 0) q317 cw66 (by omega)
  have q319 := Chg.step (l := 0) (h := 0) q318 (c79.t cb80) (by omega)
  have q320 := Chg.step (l := 0) (h := 0) q319 cw82 (by omega)
  have q321 := Chg.step (l := 0) (h := 0) q320 ((c106.t c111).t cb112) (by omega)
  have q322 := Chg.step (l := 0) (h := 0) q321 cw114 (by omega)
  have q323 := Chg.step (l := 0) (h := 0) q322 (c126.t cb127) (by omega)
  have q324 := Chg.step (l := 0) (h := 0) q323 cw129 (by omega)
  have q325 := Chg.step (l := 0) (h := 0) q324 ((((c166.t c186).t c207).t c228).t cb232) (by omega)
  have q326 := Chg.step (l := 0) (h := 0) q325 cw234 (by omega)
  have q327 := Chg.step (l := 0) (h := 0) q326 cw239 (by omega)
  have q328 := Chg.step (l := 0) (h := 0) q327 cw247 (by omega)
  have q329 := Chg.step (l := 0) (h := 0) q328 (c270.t cb271) (by omega)
  have q330 := Chg.step (l := 0) (h := 0) q329 cw273 (by omega)
  have q331 := Chg.step (l := 0) (h := 0) q330 (c285.t cb286) (by omega)
  have q332 := Chg.step (l := 0) (h := 0) q331 cw288 (by omega)
  have q333 := Chg.step (l := 0) (h := 0) q332 ((cs294.t c305).t cb306) (by omega)
  have q334 := Chg.step (l := 0) (h := 0) q333 cw308 (by omega)
  have q335 := Chg.step (l := 0) (h := 0) q334 c312 (by omega)
  exact ⟨(by first | rfl | exact (bTrue rfl).symm), q335⟩
 refine sx_skip ?_
 refine q_n (k240 _ _ ?_)
 refine sx_seq fun K336 k336 => sx_region ?_
 refine sp rfl (px_load rfl (f246.loadA (vs := [.string cc6, .bool (ng (x6)), s6]) (look_lit rfl) Tryd.isAgg26 Tryd.sizeOf26)) ?_
 refine sp rfl (px_load rfl (gw239.loadA (vs := [.string (⟨#[69, 85, 82]⟩), .bool (ng (y6)), t6]) (look_lit rfl) Tryd.isAgg26 Tryd.sizeOf26)) ?_
 have f338 := (f122.ext c126).ext cb127
 have f339 := f338.chg cw129 (by omega)
 have f344 := ((((f339.ext c166).ext c186).ext c207).ext c228).ext cb232
 have f345 := f344.chg cw234 (by omega)
 have f346 := f345.chg cw239 (by omega)
 have f349 := ((f197.ext c207).ext c228).ext cb232
 have f350 := f349.chg cw234 (by omega)
 have f351 := f350.chg cw239 (by omega)
 have f352 := f237.chg cw234 (by omega)
 have f353 := f352.chg cw239 (by omega)
 refine sx_call rfl rfl Tryd.call18 (c_iMoneyAddN f346 f351 f353 (by omega) (by first | rfl | assumption | exact eur_usd (by assumption))) (fun v354 w354 p354 => ?_)
 obtain ⟨s354, rfl, os_354, c354⟩ := p354
 have zw354 := c354.size
 refine mv rfl rfl (sp rfl (px_ex2 rfl rfl) ?_)
 refine sp rfl (px_ex2 rfl rfl) ?_
 refine sx_alloc [.string (⟨#[]⟩), .bool false, (.slice none 0 0)] rfl Tryd.zeroValue26 rfl (fun b355 w356 eb355 sb355 fb355 cb355 => ?_)
 have zw356 := cb355.size
 have f358 := os_354.ext cb355
 refine sx_store (vs := [.string (⟨#[]⟩), .bool false, s354]) rfl rfl fb355 rfl Tryd.sizeOf26 (nbl rfl) (one_cons rfl (one_cons rfl (one_cons f358.one one_nil))) (fun w357 sw357 fw357 cw357 => ?_)
 have zw357 := cw357.size
 have gw357 : Blk w357 b355 [.string (⟨#[]⟩), .bool false, s354] 26 := fw357
 refine av rfl rfl (wl_nil (q_n (k336 _ _ ?_)))
 refine sx_sub (Sub.c 2 rfl (.c 3 rfl (.c 19 rfl .nil))) ?_
 refine sx_seq fun K359 k359 => sx_region ?_
 have f361 := (f246.ext c354).ext cb355
 have f362 := f361.chg cw357 (by omega)
 refine sp rfl (px_load rfl (f362.loadA (vs := [.string cc6, .bool (ng (x6)), s6]) (look_lit rfl) Tryd.isAgg26 Tryd.sizeOf26)) ?_
 have f364 := (f346.ext c354).ext cb355
 have f365 := f364.chg cw357 (by omega)
 have f367 := (f351.ext c354).ext cb355
 have f368 := f367.chg cw357 (by omega)
 refine sx_call rfl rfl Tryd.call24 (c_iMoneyNegM f365 f368 (by assumption)) (fun v369 w369 p369 => ?_)
 obtain ⟨s369, rfl, os_369, c369⟩ := p369
 have zw369 := c369.size
 refine mv rfl rfl (sp rfl (px_ex2 rfl rfl) ?_)
 refine sp rfl (px_ex2 rfl rfl) ?_
 refine sx_alloc [.string (⟨#[]⟩), .bool false, (.slice none 0 0)] rfl Tryd.zeroValue26 rfl (fun b370 w371 eb370 sb370 fb370 cb370 => ?_)
 have zw371 := cb370.size
 have f373 := os_369.ext cb370
 refine sx_store (vs := [.string cc6, .bool (ng (-(x6))), s369]) rfl rfl fb370 rfl Tryd.sizeOf26 (nbl rfl) (one_cons rfl (one_cons rfl (one_cons f373.one one_nil))) (fun w372 sw372 fw372 cw372 => ?_)
 have zw372 := cw372.size
 have gw372 : Blk w372 b370 [.string cc6, .bool (ng (-(x6))), s369] 26 := fw372
 refine av rfl rfl (wl_nil (q_n (k359 _ _ ?_)))
 refine sx_seq fun K374 k374 => sx_region ?_
 refine sp rfl (px_field rfl xfld26x0) ?_
 have f376 := (f362.ext c369).ext cb370
 have f377 := f376.chg cw372 (by omega)
 refine sp rfl (px_load rfl (f377.load1 rfl Tryd.isAgg9)) ?_
 refine sp rfl (px_load rfl (f377.loadA (vs := [.string cc6, .bool (ng (x6)), s6]) (look_lit rfl) Tryd.isAgg26 Tryd.sizeOf26)) ?_
 refine sp rfl (px_load rfl (gw372.loadA (vs := [.string cc6, .bool (ng (-(x6))), s369]) (look_lit rfl) Tryd.isAgg26 Tryd.sizeOf26)) ?_
 refine sx_lit2A3 rfl xelt51 rfl rfl (fun s378 ws378 ss378 fs378 cs378 => ?_)
 have zws378 := cs378.size
 have f380 := (f368.ext c369).ext cb370
 have f381 := f380.chg cw372 (by omega)
 have f382 := f381.ext cs378
 have f383 := f373.chg cw372 (by omega)
 have f384 := f383.ext cs378
 have ms378 : MtS ws378 0 ws378.heap.size s378 ([(cc6, ng (x6), dg (x6).natAbs), (cc6, ng (-(x6)), dg (-(x6)).natAbs)] : List Mt) [s6, s369] := MtS.two (r0 := (cc6, ng (x6), dg (x6).natAbs)) (r1 := (cc6, ng (-(x6)), dg (-(x6)).natAbs)) fs378 (f382) (f384.sv)
 have f386 := (f365.ext c369).ext cb370
 have f387 := f386.chg cw372 (by omega)
 have f388 := f387.ext cs378
 refine sx_call rfl rfl Tryd.call25 (c_iMoneySumM f388 ms378 (by simp only [List.length_cons, List.length_nil]; omega) (by assumption) (two_all (by assumption) (by assumption)) (two_zero)) (fun v389 w389 p389 => ?_)
 obtain ⟨s389, rfl, os_389, c389⟩ := p389
 have zw389 := c389.size
 refine mv rfl rfl (sp rfl (px_ex2 rfl rfl) ?_)
 refine sp rfl (px_ex2 rfl rfl) ?_
 refine sx_alloc [.string (⟨#[]⟩), .bool false, (.slice none 0 0)] rfl Tryd.zeroValue26 rfl (fun b390 w391 eb390 sb390 fb390 cb390 => ?_)
 have zw391 := cb390.size
 have f393 := os_389.ext cb390
 refine sx_store (vs := [.string cc6, .bool (ng ((0 : Int))), s389]) rfl rfl fb390 rfl Tryd.sizeOf26 (nbl rfl) (one_cons rfl (one_cons rfl (one_cons f393.one one_nil))) (fun w392 sw392 fw392 cw392 => ?_)
 have zw392 := cw392.size
 have gw392 : Blk w392 b390 [.string cc6, .bool (ng ((0 : Int))), s389] 26 := fw392
 refine av rfl rfl (wl_nil (q_n (k374 _ _ ?_)))
 refine sx_sub (Sub.c 2 rfl (.c 19 rfl (.c 21 rfl (.c 22 rfl (.c 23 rfl .nil))))) ?_
 refine sx_seq fun K394 k394 => sx_region ?_
 refine mv rfl rfl (sp rfl (px_not rfl) ?_)
 refine mv rfl rfl ?_
 refine sx_guardT rfl rfl rfl ?_
 refine mv rfl rfl (sp rfl (px_pick rfl rfl) ?_)
 refine mv rfl rfl ?_
 refine sx_guardT rfl rfl rfl ?_
 refine mv rfl rfl (sp rfl (px_pick rfl rfl) ?_)
 refine mv rfl rfl ?_
 refine sx_guardT rfl rfl rfl ?_
 refine sp rfl (px_field rfl xfld26x1) ?_
 refine sx_guardT rfl rfl rfl ?_
 refine sp rfl (px_load rfl (gw392.loadA (vs := [.bool (ng ((0 : Int))), s389]) (look_lit rfl) Tryd.isAgg24 Tryd.sizeOf24)) ?_
 refine sx_guardT rfl rfl rfl ?_
 have f395 := f393.chg cw392 (by omega)
 refine sx_call rfl rfl Tryd.call26 (c_iIntSignK f395.sv (by first | omega | exact len_nil0)) (fun v396 w396 p396 => ?_)
 obtain ⟨rfl, c396⟩ := p396
 have zw396 := c396.size
 refine sx_guardT rfl rfl rfl ?_
 refine sp rfl (px_eq rfl rfl) ?_
 refine sp rfl (px_pick rfl rfl) ?_
 refine av rfl rfl (wl_nil (q_n (k394 _ _ ?_)))
 refine sx_sub (Sub.c 2 rfl .nil) ?_
 refine sx_retc ?_
 refine sx_ret1 Tryd.results5 rfl ?_
 have q397 := Chg.step (l := 0) (h := 0) (Chg.zero (l := 0) (h := 0) ((c6.t cb7).t cb9)) cw11 (by omega)
 have q398 := Chg.step (l := 0) (h := 0) q397 cw15 (by omega)
 have q399 := Chg.step (l := 0) (h := 0) q398 ((c34.t c37).t cb38) (by omega)
 have q400 := Chg.step (l := 0) (h := 0) q399 cw40 (by omega)
 have q401 := Chg.step (l := 0) (h := 0) q400 (c63.t cb64) (by omega)
 have q402 := Chg.step (l := 0) (h := 0) q401 cw66 (by omega)
 have q403 := Chg.step (l := 0) (h := 0) q402 (c79.t cb80) (by omega)
 have q404 := Chg.step (l := 0) (h := 0) q403 cw82 (by omega)
 have q405 := Chg.step (l := 0) (h := 0) q404 ((c106.t c111).t cb112) (by omega)
 have q406 := Chg.step (l := 0) (h := 0) q405 cw114 (by omega)
 have q407 := Chg.step (l := 0) (h := 0) q406 (c126.t cb127) (by omega)
 have q408 := Chg.step (l := 0) (h := 0) q407 cw129 (by omega)
 have q409 := Chg.step (l := 0) (h := 0) q408 ((((c166.t c186).t c207).t c228).t cb232) (by omega)
 have q410 := Chg.step (l := 0) (h := 0) q409 cw234 (by omega)
 have q411 := Chg.step (l := 0) (h := 0) q410 cw239 (by omega)
 have q412 := Chg.step (l := 0) (h := 0) q411 (c354.t cb355) (by omega)
 have q413 := Chg.step (l := 0) (h := 0) q412 cw357 (by omega)
 have q414 := Chg.step (l := 0) (h := 0) q413 (c369.t cb370) (by omega)
 have q415 := Chg.step (l := 0) (h := 0) q414 cw372 (by omega)
 have q416 := Chg.step (l := 0) (h := 0) q415 ((cs378.t c389).t cb390) (by omega)
 have q417 := Chg.step (l := 0) (h := 0) q416 cw392 (by omega)
 have q418 := Chg.step (l := 0) (h := 0) q417 c396 (by omega)
 exact ⟨(by first | rfl | exact (bTrue rfl).symm), q418⟩

end Go.Proofs.YtoeclobdbblohaaDoor
