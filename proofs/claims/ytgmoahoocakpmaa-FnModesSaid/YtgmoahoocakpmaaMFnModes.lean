/- Contracts of functions of the program: what each call returns, and that it changes nothing that was. Conditions: as each says. -/
import Derived.Test.YtgmoahoocakpmaaTy
import Derived.Test.YtgmoahoocakpmaaNatK
import Derived.Test.YtgmoahoocakpmaaSxW
import Derived.Test.YtgmoahoocakpmaaNatS
import Derived.Test.YtgmoahoocakpmaaSxP
import Derived.Test.YtgmoahoocakpmaaRm
import Derived.Test.YtgmoahoocakpmaaL1
import Derived.Test.YtgmoahoocakpmaaL3
import Derived.Test.YtgmoahoocakpmaaL4
set_option linter.unusedVariables false
set_option linter.unusedSimpArgs false
namespace Go.Proofs.Ytgmoahoocakpmaa
open Go Go.RowKit
set_option maxRecDepth 100000
set_option maxHeartbeats 1000000
theorem law_FnModes {w : World} {vb : Value} {lvb uvb : Nat} {bs : List Int} (hvb : SlB w lvb uvb vb (bs)) (hb8 : ∀ j, j < bs.length → 0 ≤ bs.getD j 0 ∧ bs.getD j 0 ≤ 255) (hbs : bs.length ≤ 9223372036854775807) :
  Ret Try.prog 3 [vb] w fun v w' => v = .bool (true) ∧ Chg 0 0 w w' := by
 have hvb0 := hvb.fit
 refine sx_enter Try.func3 rfl Try.ntmps3 (nbl rfl) ?_
 refine sx_seq fun K1 k1 => sx_region ?_
 refine av rfl rfl (wl_nil (q_n (k1 _ _ ?_)))
 refine sx_seq fun K2 k2 => ?_
 refine sx_seq fun K3 k3 => sx_region ?_
 refine mv rfl rfl (sp rfl (px_len rfl Try.underlying22 hvb0) ?_)
 refine sp rfl (px_gt rfl rfl) ?_
 refine wl_nil (q_n (k3 _ _ ?_))
 refine sx_condP rfl (fun h274 => ?_) (fun h274 => ?_)
 ·
  refine sx_seq fun K4 k4 => sx_region ?_
  refine av rfl rfl (wl_nil (q_n (k4 _ _ ?_)))
  refine sx_retc ?_
  refine q_r (sx_ret1 Try.results3 rfl ?_)
  exact ⟨rfl, (Chg.refl 0 0 _)⟩
 refine sx_skip ?_
 refine q_n (k2 _ _ ?_)
 refine sx_seq fun K5 k5 => sx_region ?_
 refine mv rfl rfl (sx_call rfl rfl Try.call5 (c_MakeNear hvb0 (by assumption) (by omega)) (fun v6 w6 p6 => ?_))
 obtain ⟨s6, t6, ls6, us6, lt6, ut6, x6, e6, rfl, os_6, ot_6, hd6, hK6, hx56, he56, c6⟩ := p6
 have zw6 := c6.size
 refine sx_alloc [.bool false, (.slice none 0 0), (.slice none 0 0)] rfl Try.zeroValue27 rfl (fun b7 w8 eb7 sb7 fb7 cb7 => ?_)
 have zw8 := cb7.size
 have f10 := ot_6.ext cb7
 have f11 := os_6.ext cb7
 refine sx_store (vs := [.bool (ng x6), s6, t6]) rfl rfl fb7 rfl Try.sizeOf27 (nbl rfl) (one_cons rfl (one_cons f11.one (one_cons f10.one one_nil))) (fun w9 sw9 fw9 cw9 => ?_)
 have zw9 := cw9.size
 have gw9 : Blk w9 b7 [.bool (ng x6), s6, t6] 27 := fw9
 refine wl_nil (q_n (k5 _ _ ?_))
 refine sx_seq fun K12 k12 => sx_region ?_
 refine sp rfl (px_load rfl (gw9.loadA (vs := [.bool (ng x6), s6, t6]) (look_lit rfl) Try.isAgg27 Try.sizeOf27)) ?_
 have f13 := f11.chg cw9 (by omega)
 have f14 := f10.chg cw9 (by omega)
 refine sx_call rfl rfl Try.call6 (c_iRatNegK f13.sv f14.sv (by assumption)) (fun v15 w15 p15 => ?_)
 obtain ⟨s15, t15, ls15, us15, lt15, ut15, rfl, os_15, ot_15, hd15, hK15, c15⟩ := p15
 have zw15 := c15.size
 refine mv rfl rfl (sp rfl (px_ex2 rfl rfl) ?_)
 refine sp rfl (px_ex2 rfl rfl) ?_
 refine sx_alloc [.bool false, (.slice none 0 0), (.slice none 0 0)] rfl Try.zeroValue27 rfl (fun b16 w17 eb16 sb16 fb16 cb16 => ?_)
 have zw17 := cb16.size
 have f19 := ot_15.ext cb16
 have f20 := os_15.ext cb16
 refine sx_store (vs := [.bool (ng (-(x6))), s15, t15]) rfl rfl fb16 rfl Try.sizeOf27 (nbl rfl) (one_cons rfl (one_cons f20.one (one_cons f19.one one_nil))) (fun w18 sw18 fw18 cw18 => ?_)
 have zw18 := cw18.size
 have gw18 : Blk w18 b16 [.bool (ng (-(x6))), s15, t15] 27 := fw18
 refine av rfl rfl (wl_nil (q_n (k12 _ _ ?_)))
 refine sx_sub (Sub.c 2 rfl (.c 3 rfl (.c 4 rfl (.c 5 rfl .nil)))) ?_
 refine sx_seq fun K21 k21 => sx_region ?_
 have f23 := (gw9.ext c15).ext cb16
 have f24 := f23.chg cw18 (by omega)
 refine sp rfl (px_load rfl (f24.loadA (vs := [.bool (ng x6), s6, t6]) (look_lit rfl) Try.isAgg27 Try.sizeOf27)) ?_
 have f26 := (f13.ext c15).ext cb16
 have f27 := f26.chg cw18 (by omega)
 have f29 := (f14.ext c15).ext cb16
 have f30 := f29.chg cw18 (by omega)
 refine sx_call rfl rfl Try.call7 (c_iRatFloorK f27.sv f30.sv (by assumption)) (fun v31 w31 p31 => ?_)
 obtain ⟨s31, rfl, os_31, hl31, c31⟩ := p31
 have zw31 := c31.size
 refine mv rfl rfl (sp rfl (px_ex2 rfl rfl) ?_)
 refine sp rfl (px_ex2 rfl rfl) ?_
 refine sx_alloc [.bool false, (.slice none 0 0)] rfl Try.zeroValue25 rfl (fun b32 w33 eb32 sb32 fb32 cb32 => ?_)
 have zw33 := cb32.size
 have f35 := os_31.ext cb32
 refine sx_store (vs := [.bool (ng (rqI (x6) e6 2)), s31]) rfl rfl fb32 rfl Try.sizeOf25 (nbl rfl) (one_cons rfl (one_cons f35.one one_nil)) (fun w34 sw34 fw34 cw34 => ?_)
 have zw34 := cw34.size
 have gw34 : Blk w34 b32 [.bool (ng (rqI (x6) e6 2)), s31] 25 := fw34
 refine av rfl rfl (wl_nil (q_n (k21 _ _ ?_)))
 refine sx_seq fun K36 k36 => sx_region ?_
 have f38 := (f24.ext c31).ext cb32
 have f39 := f38.chg cw34 (by omega)
 refine sp rfl (px_load rfl (f39.loadA (vs := [.bool (ng x6), s6, t6]) (look_lit rfl) Try.isAgg27 Try.sizeOf27)) ?_
 have f41 := (f27.ext c31).ext cb32
 have f42 := f41.chg cw34 (by omega)
 have f44 := (f30.ext c31).ext cb32
 have f45 := f44.chg cw34 (by omega)
 refine sx_call rfl rfl Try.call8 (c_iRatRoundK f42.sv f45.sv (by assumption) (by first | omega | (rw [turn_tab (by omega)]; exact turn_bd (by omega)))) (fun v46 w46 p46 => ?_)
 obtain ⟨s46, rfl, os_46, hl46, c46⟩ := p46
 have zw46 := c46.size
 refine mv rfl rfl (sp rfl (px_ex2 rfl rfl) ?_)
 refine sp rfl (px_ex2 rfl rfl) ?_
 refine sx_alloc [.bool false, (.slice none 0 0)] rfl Try.zeroValue25 rfl (fun b47 w48 eb47 sb47 fb47 cb47 => ?_)
 have zw48 := cb47.size
 have f50 := os_46.ext cb47
 refine sx_store (vs := [.bool (ng (rqI (x6) e6 (3 : Int))), s46]) rfl rfl fb47 rfl Try.sizeOf25 (nbl rfl) (one_cons rfl (one_cons f50.one one_nil)) (fun w49 sw49 fw49 cw49 => ?_)
 have zw49 := cw49.size
 have gw49 : Blk w49 b47 [.bool (ng (rqI (x6) e6 (3 : Int))), s46] 25 := fw49
 refine av rfl rfl (wl_nil (q_n (k36 _ _ ?_)))
 refine sx_sub (Sub.c 2 rfl (.c 3 rfl (.c 4 rfl (.c 5 rfl (.c 6 rfl (.c 7 rfl (.c 8 rfl (.c 9 rfl .nil)))))))) ?_
 refine sx_seq fun K51 k51 => sx_region ?_
 refine sx_lit7 rfl xelt23 rfl rfl rfl rfl rfl rfl rfl rfl rfl rfl rfl rfl rfl rfl (fun s52 ws52 ss52 fs52 cs52 => ?_)
 have ns52 := Own.norm (f := (Value.int .i64)) (zs := [0, 1, 3, 2, 4, 5, 6]) fs52
 have zws52 := cs52.size
 refine av rfl rfl (wl_nil (q_n (k51 _ _ ?_)))
 refine sx_seq fun K53 k53 => ?_
 refine sx_seq fun K54 k54 => sx_region ?_
 refine mv rfl rfl (sp rfl (px_len rfl Try.underlying23 ns52.sv) ?_)
 refine mv rfl rfl (wl_nil (q_n (k54 _ _ ?_)))
 refine sx_block ?_
 have f57 := (f39.ext c46).ext cb47
 have f58 := f57.chg cw49 (by omega)
 have f59 := f58.ext cs52
 have f61 := (gw18.ext c31).ext cb32
 have f62 := f61.chg cw34 (by omega)
 have f64 := (f62.ext c46).ext cb47
 have f65 := f64.chg cw49 (by omega)
 have f66 := f65.ext cs52
 have f68 := (gw34.ext c46).ext cb47
 have f69 := f68.chg cw49 (by omega)
 have f70 := f69.ext cs52
 have f71 := gw49.ext cs52
 refine sx_loop (fun mm aa w' => ∃ (k : Nat), Agr 116 [(3, .pointer (some ⟨b7, 0, none⟩)), (4, .pointer (some ⟨b16, 0, none⟩)), (5, .bool true), (6, .pointer (some ⟨b32, 0, none⟩)), (7, .bool true), (8, .pointer (some ⟨b47, 0, none⟩)), (9, .bool true), (42, s52), (43, .int .i64 (↑(([0, 1, 3, 2, 4, 5, 6]).length))), (44, .int .i64 ↑k)] aa ∧ Chg 0 0 ws52 w' ∧ Blk w' b7 [.bool (ng x6), s6, t6] 27 ∧ Blk w' b16 [.bool (ng (-(x6))), s15, t15] 27 ∧ Blk w' b32 [.bool (ng (rqI (x6) e6 2)), s31] 25 ∧ Blk w' b47 [.bool (ng (rqI (x6) e6 (3 : Int))), s46] 25 ∧ (mm = 7 - k) ∧ (k ≤ 7)) (_) (fun a ha => ⟨0, ha.sub (Sub.c 3 rfl (.c 4 rfl (.c 5 rfl (.c 6 rfl (.c 7 rfl (.c 8 rfl (.c 9 rfl (.c 42 rfl (.c 43 rfl (.c 44 (look_int (t := 44) rfl (by first | omega | simp)) .nil)))))))))), Chg.refl _ _ _, f59, f66, f70, f71, rfl, by omega⟩) ?_
 rintro mm aa wl55 ⟨k, hAwl55, cwl55, hb_b7, hb_b16, hb_b32, hb_b47, hm, hk⟩
 refine (show cw Try.prog 116 _ _ _ wl55 from ?_) aa hAwl55
 clear hAwl55
 have zwl55 := cwl55.size
 have hlen7 : ([0, 1, 3, 2, 4, 5, 6] : List Int).length = 7 := rfl
 have htt := fun (h : k < 7) => turn_tab h
 have htb := fun (h : k < 7) => turn_bd (m := (k : Int)) (by omega)
 refine sx_seq fun K72 k72 => sx_region ?_
 refine sp rfl (px_lt rfl rfl) ?_
 refine wl_nil (q_n (k72 _ _ ?_))
 refine sx_seq fun K73 k73 => ?_
 refine sx_condP rfl (fun h282 => ?_) (fun h282 => ?_)
 ·
  refine sx_skip ?_
  refine q_n (k73 _ _ ?_)
  refine sx_seq fun K74 k74 => ?_
  refine sx_block ?_
  refine sx_seq fun K75 k75 => sx_region ?_
  refine mv rfl rfl ?_
  have f76 := ns52.ext cwl55
  refine sp rfl (px_index1 (j := k) rfl rfl (by omega) Try.underlying23 Try.sizeOf3 f76.sv (by omega)) ?_
  refine sp rfl (px_load rfl (f76.sv.load1 (at_int (by omega)) Try.isAgg3)) ?_
  refine av rfl rfl (av rfl rfl (wl_nil (q_n (k75 _ _ ?_))))
  refine sx_sub (Sub.c 3 rfl (.c 4 rfl (.c 5 rfl (.c 6 rfl (.c 7 rfl (.c 8 rfl (.c 9 rfl (.c 11 rfl (.c 12 rfl (.c 42 rfl (.c 43 rfl (.c 44 rfl .nil)))))))))))) ?_
  refine sx_seq fun K77 k77 => sx_region ?_
  refine sp rfl (px_load rfl (hb_b7.loadA (vs := [.bool (ng x6), s6, t6]) (look_lit rfl) Try.isAgg27 Try.sizeOf27)) ?_
  refine mv rfl rfl ?_
  have f79 := (f42.ext c46).ext cb47
  have f80 := f79.chg cw49 (by omega)
  have f81 := f80.ext cs52
  have f82 := f81.ext cwl55
  have f84 := (f45.ext c46).ext cb47
  have f85 := f84.chg cw49 (by omega)
  have f86 := f85.ext cs52
  have f87 := f86.ext cwl55
  refine sx_call rfl rfl Try.call8 (c_iRatRoundK f82.sv f87.sv (by assumption) (by first | omega | (rw [turn_tab (by omega)]; exact turn_bd (by omega)))) (fun v88 w88 p88 => ?_)
  obtain ⟨s88, rfl, os_88, hl88, c88⟩ := p88
  have zw88 := c88.size
  refine mv rfl rfl (sp rfl (px_ex2 rfl rfl) ?_)
  refine sp rfl (px_ex2 rfl rfl) ?_
  refine sx_alloc [.bool false, (.slice none 0 0)] rfl Try.zeroValue25 rfl (fun b89 w90 eb89 sb89 fb89 cb89 => ?_)
  have zw90 := cb89.size
  have f92 := os_88.ext cb89
  refine sx_store (vs := [.bool (ng (rqI (x6) e6 ↑k)), s88]) rfl rfl fb89 rfl Try.sizeOf25 (nbl rfl) (one_cons rfl (one_cons f92.one one_nil)) (fun w91 sw91 fw91 cw91 => ?_)
  have zw91 := cw91.size
  have gw91 : Blk w91 b89 [.bool (ng (rqI (x6) e6 ↑k)), s88] 25 := fw91
  refine av rfl rfl (wl_nil (q_n (k77 _ _ ?_)))
  refine sx_sub (Sub.c 3 rfl (.c 4 rfl (.c 5 rfl (.c 6 rfl (.c 7 rfl (.c 8 rfl (.c 9 rfl (.c 11 rfl (.c 12 rfl (.c 13 rfl (.c 42 rfl (.c 43 rfl (.c 44 rfl .nil))))))))))))) ?_
  refine sx_seq fun K93 k93 => sx_region ?_
  have f95 := (hb_b16.ext c88).ext cb89
  have f96 := f95.chg cw91 (by omega)
  refine sp rfl (px_load rfl (f96.loadA (vs := [.bool (ng (-(x6))), s15, t15]) (look_lit rfl) Try.isAgg27 Try.sizeOf27)) ?_
  refine mv rfl rfl ?_
  have f97 := f20.chg cw18 (by omega)
  have f99 := (f97.ext c31).ext cb32
  have f100 := f99.chg cw34 (by omega)
  have f102 := (f100.ext c46).ext cb47
  have f103 := f102.chg cw49 (by omega)
  have f104 := f103.ext cs52
  have f105 := f104.ext cwl55
  have f107 := (f105.ext c88).ext cb89
  have f108 := f107.chg cw91 (by omega)
  have f109 := f19.chg cw18 (by omega)
  have f111 := (f109.ext c31).ext cb32
  have f112 := f111.chg cw34 (by omega)
  have f114 := (f112.ext c46).ext cb47
  have f115 := f114.chg cw49 (by omega)
  have f116 := f115.ext cs52
  have f117 := f116.ext cwl55
  have f119 := (f117.ext c88).ext cb89
  have f120 := f119.chg cw91 (by omega)
  refine sx_call rfl rfl Try.call8 (c_iRatRoundK f108.sv f120.sv (by assumption) (by first | omega | (rw [turn_tab (by omega)]; exact turn_bd (by omega)))) (fun v121 w121 p121 => ?_)
  obtain ⟨s121, rfl, os_121, hl121, c121⟩ := p121
  have zw121 := c121.size
  refine mv rfl rfl (sp rfl (px_ex2 rfl rfl) ?_)
  refine sp rfl (px_ex2 rfl rfl) ?_
  refine sx_alloc [.bool false, (.slice none 0 0)] rfl Try.zeroValue25 rfl (fun b122 w123 eb122 sb122 fb122 cb122 => ?_)
  have zw123 := cb122.size
  have f125 := os_121.ext cb122
  refine sx_store (vs := [.bool (ng (rqI (-(x6)) e6 (([0, 1, 3, 2, 4, 5, 6]).getD k 0))), s121]) rfl rfl fb122 rfl Try.sizeOf25 (nbl rfl) (one_cons rfl (one_cons f125.one one_nil)) (fun w124 sw124 fw124 cw124 => ?_)
  have zw124 := cw124.size
  have gw124 : Blk w124 b122 [.bool (ng (rqI (-(x6)) e6 (([0, 1, 3, 2, 4, 5, 6]).getD k 0))), s121] 25 := fw124
  refine av rfl rfl (wl_nil (q_n (k93 _ _ ?_)))
  refine sx_sub (Sub.c 3 rfl (.c 4 rfl (.c 5 rfl (.c 6 rfl (.c 7 rfl (.c 8 rfl (.c 9 rfl (.c 11 rfl (.c 13 rfl (.c 15 rfl (.c 42 rfl (.c 43 rfl (.c 44 rfl .nil))))))))))))) ?_
  refine sx_seq fun K126 k126 => sx_region ?_
  refine mv rfl rfl (sx_call rfl rfl Try.call10 (c_RmName (by omega)) (fun v127 w127 p127 => ?_))
  obtain ⟨rfl, c127⟩ := p127
  have zw127 := c127.size
  refine sx_call rfl rfl Try.call9 (c_NameRm (by omega)) (fun v128 w128 p128 => ?_)
  obtain ⟨rfl, c128⟩ := p128
  have zw128 := c128.size
  refine mv rfl rfl (sp rfl (px_ex2 rfl rfl) ?_)
  refine sp rfl (px_ex2 rfl rfl) ?_
  refine av rfl rfl (av rfl rfl (wl_nil (q_n (k126 _ _ ?_))))
  refine sx_sub (Sub.c 3 rfl (.c 4 rfl (.c 5 rfl (.c 6 rfl (.c 7 rfl (.c 8 rfl (.c 9 rfl (.c 11 rfl (.c 13 rfl (.c 15 rfl (.c 17 rfl (.c 18 rfl (.c 42 rfl (.c 43 rfl (.c 44 rfl .nil))))))))))))))) ?_
  refine sx_seq fun K129 k129 => ?_
  have f131 := (hb_b7.ext c88).ext cb89
  have f132 := f131.chg cw91 (by omega)
  have f134 := (f132.ext c121).ext cb122
  have f135 := f134.chg cw124 (by omega)
  have f139 := (f96.ext c121).ext cb122
  have f140 := f139.chg cw124 (by omega)
  have f144 := (hb_b32.ext c88).ext cb89
  have f145 := f144.chg cw91 (by omega)
  have f147 := (f145.ext c121).ext cb122
  have f148 := f147.chg cw124 (by omega)
  have f150 := (f148.ext c127).ext c128
  have f152 := (hb_b47.ext c88).ext cb89
  have f153 := f152.chg cw91 (by omega)
  have f155 := (f153.ext c121).ext cb122
  have f156 := f155.chg cw124 (by omega)
  have f158 := (f156.ext c127).ext c128
  have f160 := (gw91.ext c121).ext cb122
  have f161 := f160.chg cw124 (by omega)
  have f163 := (f161.ext c127).ext c128
  have f165 := (gw124.ext c127).ext c128
  have f167 := (hvb0.ext c6).ext cb7
  have f168 := f167.chg cw9 (by omega)
  have f170 := (f168.ext c15).ext cb16
  have f171 := f170.chg cw18 (by omega)
  have f173 := (f171.ext c31).ext cb32
  have f174 := f173.chg cw34 (by omega)
  have f176 := (f174.ext c46).ext cb47
  have f177 := f176.chg cw49 (by omega)
  have f178 := f177.ext cs52
  have f179 := f178.ext cwl55
  have f181 := (f179.ext c88).ext cb89
  have f182 := f181.chg cw91 (by omega)
  have f184 := (f182.ext c121).ext cb122
  have f185 := f184.chg cw124 (by omega)
  have f187 := (f185.ext c127).ext c128
  have f189 := (f82.ext c88).ext cb89
  have f190 := f189.chg cw91 (by omega)
  have f192 := (f190.ext c121).ext cb122
  have f193 := f192.chg cw124 (by omega)
  have f195 := (f193.ext c127).ext c128
  have f197 := (f87.ext c88).ext cb89
  have f198 := f197.chg cw91 (by omega)
  have f200 := (f198.ext c121).ext cb122
  have f201 := f200.chg cw124 (by omega)
  have f203 := (f201.ext c127).ext c128
  have f205 := (f108.ext c121).ext cb122
  have f206 := f205.chg cw124 (by omega)
  have f208 := (f206.ext c127).ext c128
  have f210 := (f120.ext c121).ext cb122
  have f211 := f210.chg cw124 (by omega)
  have f213 := (f211.ext c127).ext c128
  have f214 := f35.chg cw34 (by omega)
  have f216 := (f214.ext c46).ext cb47
  have f217 := f216.chg cw49 (by omega)
  have f218 := f217.ext cs52
  have f219 := f218.ext cwl55
  have f221 := (f219.ext c88).ext cb89
  have f222 := f221.chg cw91 (by omega)
  have f224 := (f222.ext c121).ext cb122
  have f225 := f224.chg cw124 (by omega)
  have f228 := f50.chg cw49 (by omega)
  have f229 := f228.ext cs52
  have f230 := f229.ext cwl55
  have f232 := (f230.ext c88).ext cb89
  have f233 := f232.chg cw91 (by omega)
  have f235 := (f233.ext c121).ext cb122
  have f236 := f235.chg cw124 (by omega)
  have f240 := (f76.ext c88).ext cb89
  have f241 := f240.chg cw91 (by omega)
  have f243 := (f241.ext c121).ext cb122
  have f244 := f243.chg cw124 (by omega)
  have f246 := (f244.ext c127).ext c128
  have f247 := f92.chg cw91 (by omega)
  have f249 := (f247.ext c121).ext cb122
  have f250 := f249.chg cw124 (by omega)
  have f253 := f125.chg cw124 (by omega)
  refine dx_region (fun w' => Chg 0 0 w128 w') (by kernel_rfl) (Chg.zero (Chg.drew _)) ?_
  have d256 := Chg.drew w128
  have s256 : Chg 0 0 w128 (World.drew w128) := Chg.zero (Chg.drew _)
  have y256 : (World.drew w128).heap.size = w128.heap.size := rfl
  generalize World.drew w128 = w256 at *
  have zw256 := d256.size
  refine dt 0 rfl rfl rfl rfl s256 (fun _ hS => px_load rfl ((f150.chg hS (by omega)).loadA (vs := [.bool (ng (rqI (x6) e6 2)), s31]) (look_lit rfl) Try.isAgg25 Try.sizeOf25)) ?_
  refine dt 1 rfl rfl rfl rfl s256 (fun _ hS => px_load rfl ((f163.chg hS (by omega)).loadA (vs := [.bool (ng (rqI (x6) e6 ↑k)), s88]) (look_lit rfl) Try.isAgg25 Try.sizeOf25)) ?_
  refine dx_eff 2 rfl (by kernel_rfl) ?_
  have f257 := ((f225.ext c127).ext c128).ext d256
  have f258 := ((f250.ext c127).ext c128).ext d256
  refine sx_call rfl rfl Try.call11 (c_iIntCmpK f257.sv f258.sv (by first | omega | (rw [Int.natAbs_neg]; omega)) (by first | omega | (rw [Int.natAbs_neg]; omega))) (fun v259 w259 p259 => ?_)
  obtain ⟨rfl, c259⟩ := p259
  have zw259 := c259.size
  have s260 : Chg 0 0 w128 w259 := (d256.t c259)
  refine wl_nil ?_
  refine dx_next s260 ?_
  refine dt 3 rfl rfl rfl rfl s260 (fun _ hS => px_gt rfl rfl) ?_
  refine dt 4 rfl rfl rfl rfl s260 (fun _ hS => px_move rfl) ?_
  have h286 : ¬ ((0 : Int) < cmpI (rqI (x6) e6 2) (rqI (x6) e6 ↑k)) := cmpI_le (rqI_order _ _ _).1
  refine dx_tmpPF (t := 71) rfl h286 ?_
  refine dx_takeG 5 rfl rfl rfl rfl rfl rfl (by kernel_rfl) (by kernel_rfl) (by kernel_rfl) s260 (fun _ hS => px_load rfl ((f163.chg hS (by omega)).loadA (vs := [.bool (ng (rqI (x6) e6 ↑k)), s88]) (look_lit rfl) Try.isAgg25 Try.sizeOf25)) ?_
  refine dx_takeG 6 rfl rfl rfl rfl rfl rfl (by kernel_rfl) (by kernel_rfl) (by kernel_rfl) s260 (fun _ hS => px_load rfl ((f158.chg hS (by omega)).loadA (vs := [.bool (ng (rqI (x6) e6 (3 : Int))), s46]) (look_lit rfl) Try.isAgg25 Try.sizeOf25)) ?_
  refine dx_eff 7 rfl (by kernel_rfl) ?_
  refine sx_guardT rfl rfl rfl ?_
  have f261 := f258.ext c259
  have f263 := (((f236.ext c127).ext c128).ext d256).ext c259
  refine sx_call rfl rfl Try.call11 (c_iIntCmpK f261.sv f263.sv (by first | omega | (rw [Int.natAbs_neg]; omega)) (by first | omega | (rw [Int.natAbs_neg]; omega))) (fun v264 w264 p264 => ?_)
  obtain ⟨rfl, c264⟩ := p264
  have zw264 := c264.size
  have s265 : Chg 0 0 w128 w264 := ((d256.t c259).t c264)
  refine wl_nil ?_
  refine dx_next s265 ?_
  refine dx_takeG 8 rfl rfl rfl rfl rfl rfl (by kernel_rfl) (by kernel_rfl) (by kernel_rfl) s265 (fun _ hS => px_gt rfl rfl) ?_
  refine dt 9 rfl rfl rfl rfl s265 (fun _ hS => px_pick rfl rfl) ?_
  refine dt 10 rfl rfl rfl rfl s265 (fun _ hS => px_move rfl) ?_
  have h286x1 : ¬ ((0 : Int) < cmpI (rqI (x6) e6 ↑k) (rqI (x6) e6 (3 : Int))) := cmpI_le (rqI_order _ _ _).2
  refine dx_tmpPF (t := 77) rfl h286x1 ?_
  refine dx_takeG 11 rfl rfl rfl rfl rfl rfl (by kernel_rfl) (by kernel_rfl) (by kernel_rfl) s265 (fun _ hS => px_load rfl ((f163.chg hS (by omega)).loadA (vs := [.bool (ng (rqI (x6) e6 ↑k)), s88]) (look_lit rfl) Try.isAgg25 Try.sizeOf25)) ?_
  refine dx_takeG 12 rfl rfl rfl rfl rfl rfl (by kernel_rfl) (by kernel_rfl) (by kernel_rfl) s265 (fun _ hS => px_load rfl ((f165.chg hS (by omega)).loadA (vs := [.bool (ng (rqI (-(x6)) e6 (([0, 1, 3, 2, 4, 5, 6]).getD k 0))), s121]) (look_lit rfl) Try.isAgg25 Try.sizeOf25)) ?_
  refine dx_eff 13 rfl (by kernel_rfl) ?_
  refine sx_guardT rfl rfl rfl ?_
  have f268 := ((((f253.ext c127).ext c128).ext d256).ext c259).ext c264
  refine sx_call rfl rfl Try.call12 (c_iIntNegK f268.sv (by omega)) (fun v269 w269 p269 => ?_)
  obtain ⟨s269, rfl, os_269, c269⟩ := p269
  have zw269 := c269.size
  have s270 : Chg 0 0 w128 w269 := (((d256.t c259).t c264).t c269)
  refine wl_nil ?_
  refine dx_next s270 ?_
  refine dx_eff 14 rfl (by kernel_rfl) ?_
  refine sx_guardT rfl rfl rfl ?_
  have f272 := (f261.ext c264).ext c269
  refine sx_call rfl rfl Try.call11 (c_iIntCmpK f272.sv os_269.sv (by first | omega | (rw [Int.natAbs_neg]; omega)) (by first | omega | (rw [Int.natAbs_neg]; omega))) (fun v273 w273 p273 => ?_)
  obtain ⟨rfl, c273⟩ := p273
  have zw273 := c273.size
  have s274 : Chg 0 0 w128 w273 := ((((d256.t c259).t c264).t c269).t c273)
  refine wl_nil ?_
  refine dx_next s274 ?_
  refine dx_takeG 15 rfl rfl rfl rfl rfl rfl (by kernel_rfl) (by kernel_rfl) (by kernel_rfl) s274 (fun _ hS => px_ne rfl rfl) ?_
  refine dt 16 rfl rfl rfl rfl s274 (fun _ hS => px_pick rfl rfl) ?_
  refine dt 17 rfl rfl rfl rfl s274 (fun _ hS => px_move rfl) ?_
  have h286x2 : ¬ ((cmpI (rqI (x6) e6 ↑k) (-(rqI (-(x6)) e6 (([0, 1, 3, 2, 4, 5, 6]).getD k 0))) : Int) ≠ 0) := Decidable.not_not.2 (cmpI_eq0 (by rw [turn_tab (by omega)]; exact rqI_turn _ _ (by omega)))
  refine dx_tmpPF (t := 84) rfl h286x2 ?_
  refine dx_takeG 18 rfl rfl rfl rfl rfl rfl (by kernel_rfl) (by kernel_rfl) (by kernel_rfl) s274 (fun _ hS => px_move rfl) ?_
  refine dx_takeG 19 rfl rfl rfl rfl rfl rfl (by kernel_rfl) (by kernel_rfl) (by kernel_rfl) s274 (fun _ hS => px_not rfl) ?_
  refine dt 20 rfl rfl rfl rfl s274 (fun _ hS => px_pick rfl rfl) ?_
  refine dt 21 rfl rfl rfl rfl s274 (fun _ hS => px_move rfl) ?_
  refine dx_takeG 22 rfl rfl rfl rfl rfl rfl (by kernel_rfl) (by kernel_rfl) (by kernel_rfl) s274 (fun _ hS => px_move rfl) ?_
  refine dx_takeG 23 rfl rfl rfl rfl rfl rfl (by kernel_rfl) (by kernel_rfl) (by kernel_rfl) s274 (fun _ hS => px_move rfl) ?_
  refine dx_takeG 24 rfl rfl rfl rfl rfl rfl (by kernel_rfl) (by kernel_rfl) (by kernel_rfl) s274 (fun _ hS => px_ne rfl rfl) ?_
  refine dt 25 rfl rfl rfl rfl s274 (fun _ hS => px_pick rfl rfl) ?_
  refine dx_done (by kernel_rfl) ?_
  refine q_n (k129 _ _ ?_)
  refine sx_sub (Sub.c 3 rfl (.c 4 rfl (.c 5 rfl (.c 6 rfl (.c 7 rfl (.c 8 rfl (.c 9 rfl (.c 42 rfl (.c 43 rfl (.c 44 rfl (.c 92 rfl .nil))))))))))) ?_
  have h286x3 : ¬ ((↑k : Int) ≠ ↑k) := fun h => h rfl
  refine sx_condPF rfl h286x3 ?_
  refine sx_skip ?_
  refine q_bn (q_n (k74 _ _ ?_))
  refine sx_region ?_
  refine sp rfl (px_add rfl rfl (by omega)) ?_
  refine mv rfl rfl (wl_nil ?_)
  have q275 := Chg.step (l := 0) (h := 0) (Chg.zero (l := 0) (h := 0) ((cwl55.t c88).t cb89)) cw91 (by omega)
  have q276 := Chg.step (l := 0) (h := 0) q275 (c121.t cb122) (by omega)
  have q277 := Chg.step (l := 0) (h := 0) q276 cw124 (by omega)
  have q278 := Chg.step (l := 0) (h := 0) q277 ((((((c127.t c128).t d256).t c259).t c264).t c269).t c273) (by omega)
  have f283 := ((((((f135.ext c127).ext c128).ext d256).ext c259).ext c264).ext c269).ext c273
  have f288 := ((((((f140.ext c127).ext c128).ext d256).ext c259).ext c264).ext c269).ext c273
  have f293 := ((((f150.ext d256).ext c259).ext c264).ext c269).ext c273
  have f298 := ((((f158.ext d256).ext c259).ext c264).ext c269).ext c273
  exact fun a ha => ⟨_, by omega, (k + 1), ha.sub (Sub.c 3 rfl (.c 4 rfl (.c 5 rfl (.c 6 rfl (.c 7 rfl (.c 8 rfl (.c 9 rfl (.c 42 rfl (.c 43 rfl (.c 44 (look_int (t := 44) rfl (by first | omega | simp)) .nil)))))))))), q278, f283, f288, f293, f298, rfl, by omega⟩
 refine sx_exit ?_
 refine q_e (q_e (q_bx (q_n (k53 _ _ ?_))))
 refine sx_seq fun K299 k299 => sx_region ?_
 refine sp rfl (px_load rfl (hb_b7.loadA (vs := [.bool (ng x6), s6, t6]) (look_lit rfl) Try.isAgg27 Try.sizeOf27)) ?_
 have f301 := (f42.ext c46).ext cb47
 have f302 := f301.chg cw49 (by omega)
 have f303 := f302.ext cs52
 have f304 := f303.ext cwl55
 have f306 := (f45.ext c46).ext cb47
 have f307 := f306.chg cw49 (by omega)
 have f308 := f307.ext cs52
 have f309 := f308.ext cwl55
 refine sx_call rfl rfl Try.call8 (c_iRatRoundK f304.sv f309.sv (by assumption) (by first | omega | (rw [turn_tab (by omega)]; exact turn_bd (by omega)))) (fun v310 w310 p310 => ?_)
 obtain ⟨s310, rfl, os_310, hl310, c310⟩ := p310
 have zw310 := c310.size
 refine mv rfl rfl (sp rfl (px_ex2 rfl rfl) ?_)
 refine sp rfl (px_ex2 rfl rfl) ?_
 refine sx_alloc [.bool false, (.slice none 0 0)] rfl Try.zeroValue25 rfl (fun b311 w312 eb311 sb311 fb311 cb311 => ?_)
 have zw312 := cb311.size
 have f314 := os_310.ext cb311
 refine sx_store (vs := [.bool (ng (rqI (x6) e6 (6 : Int))), s310]) rfl rfl fb311 rfl Try.sizeOf25 (nbl rfl) (one_cons rfl (one_cons f314.one one_nil)) (fun w313 sw313 fw313 cw313 => ?_)
 have zw313 := cw313.size
 have gw313 : Blk w313 b311 [.bool (ng (rqI (x6) e6 (6 : Int))), s310] 25 := fw313
 refine av rfl rfl (wl_nil (q_n (k299 _ _ ?_)))
 refine sx_sub (Sub.c 3 rfl (.c 5 rfl (.c 7 rfl (.c 9 rfl (.c 19 rfl .nil))))) ?_
 refine sx_seq fun K315 k315 => sx_region ?_
 refine mv rfl rfl (mv rfl rfl ?_)
 refine sx_guardT rfl rfl rfl ?_
 refine mv rfl rfl (sp rfl (px_pick rfl rfl) ?_)
 refine mv rfl rfl ?_
 refine sx_guardT rfl rfl rfl ?_
 refine mv rfl rfl (sp rfl (px_pick rfl rfl) ?_)
 refine mv rfl rfl ?_
 refine sx_guardT rfl rfl rfl ?_
 have f317 := (hb_b7.ext c310).ext cb311
 have f318 := f317.chg cw313 (by omega)
 refine sp rfl (px_load rfl (f318.loadA (vs := [.bool (ng x6), s6, t6]) (look_lit rfl) Try.isAgg27 Try.sizeOf27)) ?_
 refine sx_guardT rfl rfl rfl ?_
 have f320 := (f304.ext c310).ext cb311
 have f321 := f320.chg cw313 (by omega)
 have f323 := (f309.ext c310).ext cb311
 have f324 := f323.chg cw313 (by omega)
 refine sx_call rfl rfl Try.call13 (c_iRatHalfK f321.sv f324.sv (by assumption)) (fun v325 w325 p325 => ?_)
 obtain ⟨rfl, c325⟩ := p325
 have zw325 := c325.size
 refine sx_guardT rfl rfl rfl ?_
 refine sp rfl (px_notP rfl) ?_
 refine sx_guardT rfl rfl rfl ?_
 refine mv rfl rfl ?_
 refine sx_tmpP (t := 110) rfl (fun h291 => ?_) (fun h291 => ?_)
 ·
  refine sx_guardF rfl rfl rfl rfl rfl rfl ?_
  refine sx_guardF rfl rfl rfl rfl rfl rfl ?_
  refine sx_guardF rfl rfl rfl rfl rfl rfl ?_
  refine sx_guardT rfl rfl rfl ?_
  refine sp rfl (px_pick rfl rfl) ?_
  refine sp rfl (px_pick rfl rfl) ?_
  refine av rfl rfl (wl_nil (q_n (k315 _ _ ?_)))
  refine sx_sub (Sub.c 2 rfl .nil) ?_
  refine sx_retc ?_
  refine sx_ret1 Try.results3 rfl ?_
  have q326 := Chg.step (l := 0) (h := 0) (Chg.zero (l := 0) (h := 0) (c6.t cb7)) cw9 (by omega)
  have q327 := Chg.step (l := 0) (h := 0) q326 (c15.t cb16) (by omega)
  have q328 := Chg.step (l := 0) (h := 0) q327 cw18 (by omega)
  have q329 := Chg.step (l := 0) (h := 0) q328 (c31.t cb32) (by omega)
  have q330 := Chg.step (l := 0) (h := 0) q329 cw34 (by omega)
  have q331 := Chg.step (l := 0) (h := 0) q330 (c46.t cb47) (by omega)
  have q332 := Chg.step (l := 0) (h := 0) q331 cw49 (by omega)
  have q333 := Chg.step (l := 0) (h := 0) q332 (((cs52.t cwl55).t c310).t cb311) (by omega)
  have q334 := Chg.step (l := 0) (h := 0) q333 cw313 (by omega)
  have q335 := Chg.step (l := 0) (h := 0) q334 c325 (by omega)
  exact ⟨rfl, q335⟩
 refine sx_guardT rfl rfl rfl ?_
 refine sp rfl (px_field rfl xfld25x1) ?_
 refine sx_guardT rfl rfl rfl ?_
 have f336 := gw313.ext c325
 refine sp rfl (px_load rfl (f336.load1 rfl Try.isAgg23)) ?_
 refine sx_guardT rfl rfl rfl ?_
 have f337 := f314.chg cw313 (by omega)
 have f338 := f337.ext c325
 refine sx_call rfl rfl Try.call14 (c_sNatEven f338.sv (by omega)) (fun v339 w339 p339 => ?_)
 obtain ⟨rfl, c339⟩ := p339
 have zw339 := c339.size
 refine sx_guardT rfl rfl rfl ?_
 refine sp rfl (px_pick rfl rfl) ?_
 refine sp rfl (px_pick rfl rfl) ?_
 refine av rfl rfl (wl_nil (q_n (k315 _ _ ?_)))
 refine sx_sub (Sub.c 2 rfl .nil) ?_
 refine sx_retc ?_
 refine sx_ret1 Try.results3 rfl ?_
 have q340 := Chg.step (l := 0) (h := 0) (Chg.zero (l := 0) (h := 0) (c6.t cb7)) cw9 (by omega)
 have q341 := Chg.step (l := 0) (h := 0) q340 (c15.t cb16) (by omega)
 have q342 := Chg.step (l := 0) (h := 0) q341 cw18 (by omega)
 have q343 := Chg.step (l := 0) (h := 0) q342 (c31.t cb32) (by omega)
 have q344 := Chg.step (l := 0) (h := 0) q343 cw34 (by omega)
 have q345 := Chg.step (l := 0) (h := 0) q344 (c46.t cb47) (by omega)
 have q346 := Chg.step (l := 0) (h := 0) q345 cw49 (by omega)
 have q347 := Chg.step (l := 0) (h := 0) q346 (((cs52.t cwl55).t c310).t cb311) (by omega)
 have q348 := Chg.step (l := 0) (h := 0) q347 cw313 (by omega)
 have q349 := Chg.step (l := 0) (h := 0) q348 (c325.t c339) (by omega)
 exact ⟨(bTrue (by have h2 := Decidable.not_not.1 h291; subst h2; have hh := rqI_even (x := x6) (ROk_iff.1 (by assumption)).2.2.2; omega)).symm, q349⟩

end Go.Proofs.Ytgmoahoocakpmaa
