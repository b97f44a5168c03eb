/- Contracts of functions of the program: what each call returns, and that it changes nothing that was. Conditions: as each says. -/
import Derived.Test.YtgmoahoocakpmaaTy
import Derived.Test.YtgmoahoocakpmaaNatK
import Derived.Test.YtgmoahoocakpmaaSxW
import Derived.Test.YtgmoahoocakpmaaNatS
import Derived.Test.YtgmoahoocakpmaaSxP
import Derived.Test.YtgmoahoocakpmaaRm
import Derived.Test.YtgmoahoocakpmaaL1
import Derived.Test.YtgmoahoocakpmaaL2
import Derived.Test.YtgmoahoocakpmaaL3
import Derived.Test.YtgmoahoocakpmaaL4
set_option linter.unusedVariables false
set_option linter.unusedSimpArgs false
namespace Go.Proofs.Ytgmoahoocakpmaa
open Go Go.RowKit
set_option maxRecDepth 100000
set_option maxHeartbeats 1000000
theorem law_FnRound {w : World} {vb : Value} {lvb uvb : Nat} {bs : List Int} (hvb : SlB w lvb uvb vb (bs)) (hb8 : ∀ j, j < bs.length → 0 ≤ bs.getD j 0 ∧ bs.getD j 0 ≤ 255) (hbs : bs.length ≤ 9223372036854775807) :
  Ret Try.prog 4 [vb] w fun v w' => v = .bool (true) ∧ Chg 0 0 w w' := by
 have hvb0 := hvb.fit
 have ld1 : (dg 1).length ≤ 1 := by rw [dg_1]; decide
 refine sx_enter Try.func4 rfl Try.ntmps4 (nbl rfl) ?_
 refine sx_seq fun K1 k1 => sx_region ?_
 refine av rfl rfl (wl_nil (q_n (k1 _ _ ?_)))
 refine sx_seq fun K2 k2 => ?_
 refine sx_seq fun K3 k3 => sx_region ?_
 refine mv rfl rfl (sp rfl (px_len rfl Try.underlying22 hvb0) ?_)
 refine sp rfl (px_gt rfl rfl) ?_
 refine wl_nil (q_n (k3 _ _ ?_))
 refine sx_condP rfl (fun h250 => ?_) (fun h250 => ?_)
 ·
  refine sx_seq fun K4 k4 => sx_region ?_
  refine av rfl rfl (wl_nil (q_n (k4 _ _ ?_)))
  refine sx_retc ?_
  refine q_r (sx_ret1 Try.results4 rfl ?_)
  exact ⟨rfl, (Chg.refl 0 0 _)⟩
 refine sx_skip ?_
 refine q_n (k2 _ _ ?_)
 refine sx_seq fun K5 k5 => sx_region ?_
 refine mv rfl rfl (sx_call rfl rfl Try.call5 (c_MakeNear hvb0 (by assumption) (by omega)) (fun v6 w6 p6 => ?_))
 obtain ⟨s6, t6, ls6, us6, lt6, ut6, x6, e6, rfl, os_6, ot_6, hd6, hK6, hx56, he56, c6⟩ := p6
 have zw6 := c6.size
 refine sx_alloc [.bool false, (.slice none 0 0), (.slice none 0 0)] rfl Try.zeroValue27 rfl (fun b7 w8 eb7 sb7 fb7 cb7 => ?_)
 have zw8 := cb7.size
 have f10 := ot_6.ext cb7
 have f11 := os_6.ext cb7
 refine sx_store (vs := [.bool (ng x6), s6, t6]) rfl rfl fb7 rfl Try.sizeOf27 (nbl rfl) (one_cons rfl (one_cons f11.one (one_cons f10.one one_nil))) (fun w9 sw9 fw9 cw9 => ?_)
 have zw9 := cw9.size
 have gw9 : Blk w9 b7 [.bool (ng x6), s6, t6] 27 := fw9
 refine wl_nil (q_n (k5 _ _ ?_))
 refine sx_seq fun K12 k12 => ?_
 refine sx_seq fun K13 k13 => sx_region ?_
 refine av rfl rfl (wl_nil (q_n (k13 _ _ ?_)))
 refine sx_block ?_
 refine sx_loop (fun mm aa w' => ∃ (m : Int), Agr 93 [(3, .pointer (some ⟨b7, 0, none⟩)), (4, .int .i64 m)] aa ∧ Chg 0 0 w9 w' ∧ Blk w' b7 [.bool (ng x6), s6, t6] 27 ∧ (mm = (7 - m).toNat) ∧ (0 ≤ m ∧ m ≤ 7)) (_) (fun a ha => ⟨0, ha.sub (Sub.c 3 rfl (.c 4 (look_int (t := 4) rfl (by first | omega | simp)) .nil)), Chg.refl _ _ _, gw9, rfl, by omega⟩) ?_
 rintro mm aa wl14 ⟨m, hAwl14, cwl14, hb_b7, hm, hm⟩
 refine (show cw Try.prog 93 _ _ _ wl14 from ?_) aa hAwl14
 clear hAwl14
 have zwl14 := cwl14.size
 refine sx_seq fun K15 k15 => ?_
 refine sx_seq fun K16 k16 => sx_region ?_
 refine mv rfl rfl (sp rfl (px_le rfl rfl) ?_)
 refine wl_nil (q_n (k16 _ _ ?_))
 refine sx_condP rfl (fun h254 => ?_) (fun h254 => ?_)
 ·
  refine sx_skip ?_
  refine q_n (k15 _ _ ?_)
  refine sx_seq fun K17 k17 => ?_
  refine sx_block ?_
  refine sx_seq fun K18 k18 => sx_region ?_
  refine sp rfl (px_load rfl (hb_b7.loadA (vs := [.bool (ng x6), s6, t6]) (look_lit rfl) Try.isAgg27 Try.sizeOf27)) ?_
  refine mv rfl rfl ?_
  have f19 := f11.chg cw9 (by omega)
  have f20 := f19.ext cwl14
  have f21 := f10.chg cw9 (by omega)
  have f22 := f21.ext cwl14
  refine sx_call rfl rfl Try.call15 (c_iRatRestK f20.sv f22.sv (by assumption) (by omega) (by omega)) (fun v23 w23 p23 => ?_)
  obtain ⟨s23, t23, u23, ls23, us23, lt23, ut23, lu23, uu23, rfl, os_23, ot_23, ou_23, hd23, hl23, hK23, c23⟩ := p23
  have zw23 := c23.size
  refine mv rfl rfl (sp rfl (px_ex3 rfl rfl) ?_)
  refine sp rfl (px_ex3 rfl rfl) ?_
  refine sp rfl (px_ex3 rfl rfl) ?_
  refine sx_alloc [.bool false, (.slice none 0 0)] rfl Try.zeroValue25 rfl (fun b24 w25 eb24 sb24 fb24 cb24 => ?_)
  have zw25 := cb24.size
  refine sx_alloc [.bool false, (.slice none 0 0), (.slice none 0 0)] rfl Try.zeroValue27 rfl (fun b26 w27 eb26 sb26 fb26 cb26 => ?_)
  have zw27 := cb26.size
  have f29 := fb24.ext cb26
  have f30 := os_23.ext cb24
  have f31 := f30.ext cb26
  refine sx_store (vs := [.bool (ng (rqI (x6) e6 m)), s23]) rfl rfl f29 rfl Try.sizeOf25 (nbl rfl) (one_cons rfl (one_cons f31.one one_nil)) (fun w28 sw28 fw28 cw28 => ?_)
  have zw28 := cw28.size
  have gw28 : Blk w28 b24 [.bool (ng (rqI (x6) e6 m)), s23] 25 := fw28
  have f33 := fb26.chg cw28 (by omega)
  have f34 := ou_23.ext cb24
  have f35 := f34.ext cb26
  have f36 := f35.chg cw28 (by omega)
  have f37 := ot_23.ext cb24
  have f38 := f37.ext cb26
  have f39 := f38.chg cw28 (by omega)
  refine sx_store (vs := [.bool (ng ((x6) + -rqI (x6) e6 m * ((e6 : Nat) : Int))), t23, u23]) rfl rfl f33 rfl Try.sizeOf27 (nbl rfl) (one_cons rfl (one_cons f39.one (one_cons f36.one one_nil))) (fun w32 sw32 fw32 cw32 => ?_)
  have zw32 := cw32.size
  have gw32 : Blk w32 b26 [.bool (ng ((x6) + -rqI (x6) e6 m * ((e6 : Nat) : Int))), t23, u23] 27 := fw32
  refine av rfl rfl (wl_nil (q_n (k18 _ _ ?_)))
  refine sx_seq fun K40 k40 => sx_region ?_
  have f42 := (hb_b7.ext c23).ext cb24
  have f43 := f42.ext cb26
  have f44 := f43.chg cw28 (by omega)
  have f45 := f44.chg cw32 (by omega)
  refine sp rfl (px_load rfl (f45.loadA (vs := [.bool (ng x6), s6, t6]) (look_lit rfl) Try.isAgg27 Try.sizeOf27)) ?_
  refine mv rfl rfl ?_
  have f47 := (f20.ext c23).ext cb24
  have f48 := f47.ext cb26
  have f49 := f48.chg cw28 (by omega)
  have f50 := f49.chg cw32 (by omega)
  have f52 := (f22.ext c23).ext cb24
  have f53 := f52.ext cb26
  have f54 := f53.chg cw28 (by omega)
  have f55 := f54.chg cw32 (by omega)
  refine sx_call rfl rfl Try.call8 (c_iRatRoundK f50.sv f55.sv (by assumption) (by omega)) (fun v56 w56 p56 => ?_)
  obtain ⟨s56, rfl, os_56, hl56, c56⟩ := p56
  have zw56 := c56.size
  refine mv rfl rfl (sp rfl (px_ex2 rfl rfl) ?_)
  refine sp rfl (px_ex2 rfl rfl) ?_
  refine sx_alloc [.bool false, (.slice none 0 0)] rfl Try.zeroValue25 rfl (fun b57 w58 eb57 sb57 fb57 cb57 => ?_)
  have zw58 := cb57.size
  have f60 := os_56.ext cb57
  refine sx_store (vs := [.bool (ng (rqI (x6) e6 m)), s56]) rfl rfl fb57 rfl Try.sizeOf25 (nbl rfl) (one_cons rfl (one_cons f60.one one_nil)) (fun w59 sw59 fw59 cw59 => ?_)
  have zw59 := cw59.size
  have gw59 : Blk w59 b57 [.bool (ng (rqI (x6) e6 m)), s56] 25 := fw59
  refine av rfl rfl (wl_nil (q_n (k40 _ _ ?_)))
  refine sx_sub (Sub.c 3 rfl (.c 4 rfl (.c 5 rfl (.c 6 rfl (.c 7 rfl (.c 8 rfl (.c 9 rfl .nil))))))) ?_
  refine sx_seq fun K61 k61 => sx_region ?_
  have f62 := gw28.chg cw32 (by omega)
  have f64 := (f62.ext c56).ext cb57
  have f65 := f64.chg cw59 (by omega)
  refine sp rfl (px_load rfl (f65.loadA (vs := [.bool (ng (rqI (x6) e6 m)), s23]) (look_lit rfl) Try.isAgg25 Try.sizeOf25)) ?_
  have f66 := f31.chg cw28 (by omega)
  have f67 := f66.chg cw32 (by omega)
  have f69 := (f67.ext c56).ext cb57
  have f70 := f69.chg cw59 (by omega)
  refine sx_call rfl rfl Try.call16 (c_iRatIntK f70.sv (by omega)) (fun v71 w71 p71 => ?_)
  obtain ⟨s71, t71, ls71, us71, lt71, ut71, rfl, os_71, ot_71, hd71, hK71, c71⟩ := p71
  have zw71 := c71.size
  refine mv rfl rfl (sp rfl (px_ex2 rfl rfl) ?_)
  refine sp rfl (px_ex2 rfl rfl) ?_
  refine sx_alloc [.bool false, (.slice none 0 0), (.slice none 0 0)] rfl Try.zeroValue27 rfl (fun b72 w73 eb72 sb72 fb72 cb72 => ?_)
  have zw73 := cb72.size
  have f75 := ot_71.ext cb72
  have f76 := os_71.ext cb72
  refine sx_store (vs := [.bool (ng (rqI (x6) e6 m)), s71, t71]) rfl rfl fb72 rfl Try.sizeOf27 (nbl rfl) (one_cons rfl (one_cons f76.one (one_cons f75.one one_nil))) (fun w74 sw74 fw74 cw74 => ?_)
  have zw74 := cw74.size
  have gw74 : Blk w74 b72 [.bool (ng (rqI (x6) e6 m)), s71, t71] 27 := fw74
  refine av rfl rfl (wl_nil (q_n (k61 _ _ ?_)))
  refine sx_seq fun K77 k77 => sx_region ?_
  refine sp rfl (px_load rfl (gw74.loadA (vs := [.bool (ng (rqI (x6) e6 m)), s71, t71]) (look_lit rfl) Try.isAgg27 Try.sizeOf27)) ?_
  have f79 := (gw32.ext c56).ext cb57
  have f80 := f79.chg cw59 (by omega)
  have f82 := (f80.ext c71).ext cb72
  have f83 := f82.chg cw74 (by omega)
  refine sp rfl (px_load rfl (f83.loadA (vs := [.bool (ng ((x6) + -rqI (x6) e6 m * ((e6 : Nat) : Int))), t23, u23]) (look_lit rfl) Try.isAgg27 Try.sizeOf27)) ?_
  have f84 := f76.chg cw74 (by omega)
  have f85 := f75.chg cw74 (by omega)
  have f86 := f39.chg cw32 (by omega)
  have f88 := (f86.ext c56).ext cb57
  have f89 := f88.chg cw59 (by omega)
  have f91 := (f89.ext c71).ext cb72
  have f92 := f91.chg cw74 (by omega)
  have f93 := f36.chg cw32 (by omega)
  have f95 := (f93.ext c56).ext cb57
  have f96 := f95.chg cw59 (by omega)
  have f98 := (f96.ext c71).ext cb72
  have f99 := f98.chg cw74 (by omega)
  refine sx_call rfl rfl Try.call17 (c_iRatAddK f84.sv f85.sv f92.sv f99.sv (by assumption) (by assumption) (by omega)) (fun v100 w100 p100 => ?_)
  obtain ⟨s100, t100, ls100, us100, lt100, ut100, xx100, ee100, rfl, os_100, ot_100, hd100, hK100, hv100, c100⟩ := p100
  have zw100 := c100.size
  refine mv rfl rfl (sp rfl (px_ex2 rfl rfl) ?_)
  refine sp rfl (px_ex2 rfl rfl) ?_
  refine sx_alloc [.bool false, (.slice none 0 0), (.slice none 0 0)] rfl Try.zeroValue27 rfl (fun b101 w102 eb101 sb101 fb101 cb101 => ?_)
  have zw102 := cb101.size
  have f104 := ot_100.ext cb101
  have f105 := os_100.ext cb101
  refine sx_store (vs := [.bool (ng xx100), s100, t100]) rfl rfl fb101 rfl Try.sizeOf27 (nbl rfl) (one_cons rfl (one_cons f105.one (one_cons f104.one one_nil))) (fun w103 sw103 fw103 cw103 => ?_)
  have zw103 := cw103.size
  have gw103 : Blk w103 b101 [.bool (ng xx100), s100, t100] 27 := fw103
  refine av rfl rfl (wl_nil (q_n (k77 _ _ ?_)))
  refine sx_sub (Sub.c 3 rfl (.c 4 rfl (.c 5 rfl (.c 6 rfl (.c 7 rfl (.c 8 rfl (.c 9 rfl (.c 11 rfl (.c 12 rfl (.c 13 rfl .nil)))))))))) ?_
  refine sx_seq fun K106 k106 => ?_
  refine sx_seq fun K107 k107 => sx_region ?_
  refine mv rfl rfl (sp rfl (px_not rfl) ?_)
  refine mv rfl rfl ?_
  refine sx_guardT rfl rfl rfl ?_
  refine mv rfl rfl ?_
  refine sx_guardT rfl rfl rfl ?_
  refine sp rfl (px_not rfl) ?_
  refine sp rfl (px_pick rfl rfl) ?_
  refine mv rfl rfl ?_
  refine sx_guardT rfl rfl rfl ?_
  refine mv rfl rfl ?_
  refine sx_guardT rfl rfl rfl ?_
  refine sp rfl (px_not rfl) ?_
  refine sp rfl (px_pick rfl rfl) ?_
  refine mv rfl rfl ?_
  refine sx_guardT rfl rfl rfl ?_
  refine mv rfl rfl ?_
  refine sx_guardT rfl rfl rfl ?_
  refine sp rfl (px_not rfl) ?_
  refine sp rfl (px_pick rfl rfl) ?_
  refine mv rfl rfl ?_
  refine sx_guardT rfl rfl rfl ?_
  have f109 := (f65.ext c71).ext cb72
  have f110 := f109.chg cw74 (by omega)
  have f112 := (f110.ext c100).ext cb101
  have f113 := f112.chg cw103 (by omega)
  refine sp rfl (px_load rfl (f113.loadA (vs := [.bool (ng (rqI (x6) e6 m)), s23]) (look_lit rfl) Try.isAgg25 Try.sizeOf25)) ?_
  refine sx_guardT rfl rfl rfl ?_
  have f115 := (gw59.ext c71).ext cb72
  have f116 := f115.chg cw74 (by omega)
  have f118 := (f116.ext c100).ext cb101
  have f119 := f118.chg cw103 (by omega)
  refine sp rfl (px_load rfl (f119.loadA (vs := [.bool (ng (rqI (x6) e6 m)), s56]) (look_lit rfl) Try.isAgg25 Try.sizeOf25)) ?_
  refine sx_guardT rfl rfl rfl ?_
  have f121 := (f70.ext c71).ext cb72
  have f122 := f121.chg cw74 (by omega)
  have f124 := (f122.ext c100).ext cb101
  have f125 := f124.chg cw103 (by omega)
  have f126 := f60.chg cw59 (by omega)
  have f128 := (f126.ext c71).ext cb72
  have f129 := f128.chg cw74 (by omega)
  have f131 := (f129.ext c100).ext cb101
  have f132 := f131.chg cw103 (by omega)
  refine sx_call rfl rfl Try.call11 (c_iIntCmpK f125.sv f132.sv (by first | omega | (rw [Int.natAbs_neg]; omega)) (by first | omega | (rw [Int.natAbs_neg]; omega))) (fun v133 w133 p133 => ?_)
  obtain ⟨rfl, c133⟩ := p133
  have zw133 := c133.size
  refine sx_guardT rfl rfl rfl ?_
  refine sp rfl (px_ne rfl rfl) ?_
  refine sp rfl (px_pick rfl rfl) ?_
  refine mv rfl rfl ?_
  have h259 : ¬ ((cmpI (rqI (x6) e6 m) (rqI (x6) e6 m) : Int) ≠ 0) := Decidable.not_not.2 (cmpI_eq0 rfl)
  refine sx_tmpPF (t := 67) rfl h259 ?_
  refine sx_guardT rfl rfl rfl ?_
  have f134 := gw103.ext c133
  refine sp rfl (px_load rfl (f134.loadA (vs := [.bool (ng xx100), s100, t100]) (look_lit rfl) Try.isAgg27 Try.sizeOf27)) ?_
  refine sx_guardT rfl rfl rfl ?_
  have f136 := (f45.ext c56).ext cb57
  have f137 := f136.chg cw59 (by omega)
  have f139 := (f137.ext c71).ext cb72
  have f140 := f139.chg cw74 (by omega)
  have f142 := (f140.ext c100).ext cb101
  have f143 := f142.chg cw103 (by omega)
  have f144 := f143.ext c133
  refine sp rfl (px_load rfl (f144.loadA (vs := [.bool (ng x6), s6, t6]) (look_lit rfl) Try.isAgg27 Try.sizeOf27)) ?_
  refine sx_guardT rfl rfl rfl ?_
  have f145 := f105.chg cw103 (by omega)
  have f146 := f145.ext c133
  have f147 := f104.chg cw103 (by omega)
  have f148 := f147.ext c133
  have f150 := (f50.ext c56).ext cb57
  have f151 := f150.chg cw59 (by omega)
  have f153 := (f151.ext c71).ext cb72
  have f154 := f153.chg cw74 (by omega)
  have f156 := (f154.ext c100).ext cb101
  have f157 := f156.chg cw103 (by omega)
  have f158 := f157.ext c133
  have f160 := (f55.ext c56).ext cb57
  have f161 := f160.chg cw59 (by omega)
  have f163 := (f161.ext c71).ext cb72
  have f164 := f163.chg cw74 (by omega)
  have f166 := (f164.ext c100).ext cb101
  have f167 := f166.chg cw103 (by omega)
  have f168 := f167.ext c133
  refine sx_call rfl rfl Try.call18 (c_iRatCmpK f146.sv f148.sv f158.sv f168.sv (by assumption) (by assumption)) (fun v169 w169 p169 => ?_)
  obtain ⟨rfl, c169⟩ := p169
  have zw169 := c169.size
  refine sx_guardT rfl rfl rfl ?_
  refine sp rfl (px_ne rfl rfl) ?_
  refine sp rfl (px_pick rfl rfl) ?_
  refine mv rfl rfl ?_
  have h259x1 : ¬ ((cmpI ((xx100) * ((e6 : Nat) : Int)) ((x6) * ((ee100 : Nat) : Int)) : Int) ≠ 0) := Decidable.not_not.2 (back_cmp (by assumption))
  refine sx_tmpPF (t := 73) rfl h259x1 ?_
  refine sx_guardT rfl rfl rfl ?_
  have f171 := (f83.ext c100).ext cb101
  have f172 := f171.chg cw103 (by omega)
  have f174 := (f172.ext c133).ext c169
  refine sp rfl (px_load rfl (f174.loadA (vs := [.bool (ng ((x6) + -rqI (x6) e6 m * ((e6 : Nat) : Int))), t23, u23]) (look_lit rfl) Try.isAgg27 Try.sizeOf27)) ?_
  refine sx_guardT rfl rfl rfl ?_
  have f176 := (f92.ext c100).ext cb101
  have f177 := f176.chg cw103 (by omega)
  have f179 := (f177.ext c133).ext c169
  have f181 := (f99.ext c100).ext cb101
  have f182 := f181.chg cw103 (by omega)
  have f184 := (f182.ext c133).ext c169
  refine sx_call rfl rfl Try.call19 (c_small f179.sv f184.sv (by assumption)) (fun v185 w185 p185 => ?_)
  obtain ⟨rfl, c185⟩ := p185
  have zw185 := c185.size
  refine sx_guardT rfl rfl rfl ?_
  refine sp rfl (px_notP rfl) ?_
  refine sp rfl (px_pick rfl rfl) ?_
  refine wl_nil (q_n (k107 _ _ ?_))
  refine sx_sub (Sub.c 3 rfl (.c 4 rfl (.c 6 rfl (.c 77 rfl .nil)))) ?_
  have h259x2 : ¬ (¬ ((((x6) + -rqI (x6) e6 m * ((e6 : Nat) : Int))).natAbs < e6)) := fun h => h (rq_strict _ (ROk_iff.1 (by assumption)).1 _)
  refine sx_condPF rfl h259x2 ?_
  refine sx_skip ?_
  refine q_n (k106 _ _ ?_)
  refine sx_seq fun K186 k186 => ?_
  refine sx_seq fun K187 k187 => ?_
  have f189 := (f144.ext c169).ext c185
  have f192 := ((f113.ext c133).ext c169).ext c185
  have f193 := f174.ext c185
  have f196 := ((f119.ext c133).ext c169).ext c185
  have f198 := (gw74.ext c100).ext cb101
  have f199 := f198.chg cw103 (by omega)
  have f202 := ((f199.ext c133).ext c169).ext c185
  have f204 := (f134.ext c169).ext c185
  have f206 := (hvb0.ext c6).ext cb7
  have f207 := f206.chg cw9 (by omega)
  have f208 := f207.ext cwl14
  have f210 := (f208.ext c23).ext cb24
  have f211 := f210.ext cb26
  have f212 := f211.chg cw28 (by omega)
  have f213 := f212.chg cw32 (by omega)
  have f215 := (f213.ext c56).ext cb57
  have f216 := f215.chg cw59 (by omega)
  have f218 := (f216.ext c71).ext cb72
  have f219 := f218.chg cw74 (by omega)
  have f221 := (f219.ext c100).ext cb101
  have f222 := f221.chg cw103 (by omega)
  have f225 := ((f222.ext c133).ext c169).ext c185
  have f232 := ((f125.ext c133).ext c169).ext c185
  have f237 := ((f132.ext c133).ext c169).ext c185
  have f239 := (f84.ext c100).ext cb101
  have f240 := f239.chg cw103 (by omega)
  have f243 := ((f240.ext c133).ext c169).ext c185
  have f245 := (f85.ext c100).ext cb101
  have f246 := f245.chg cw103 (by omega)
  have f249 := ((f246.ext c133).ext c169).ext c185
  have f251 := (f146.ext c169).ext c185
  have f253 := (f148.ext c169).ext c185
  refine dx_region (fun w' => Chg 0 0 w185 w') (by kernel_rfl) (Chg.zero (Chg.drew _)) ?_
  have d254 := Chg.drew w185
  have s254 : Chg 0 0 w185 (World.drew w185) := Chg.zero (Chg.drew _)
  have y254 : (World.drew w185).heap.size = w185.heap.size := rfl
  generalize World.drew w185 = w254 at *
  have zw254 := d254.size
  refine dt 0 rfl rfl rfl rfl s254 (fun _ hS => px_load rfl ((f189.chg hS (by omega)).loadA (vs := [.bool (ng x6), s6, t6]) (look_lit rfl) Try.isAgg27 Try.sizeOf27)) ?_
  refine dt 2 rfl rfl rfl rfl s254 (fun _ hS => px_load rfl ((f193.chg hS (by omega)).loadA (vs := [.bool (ng ((x6) + -rqI (x6) e6 m * ((e6 : Nat) : Int))), t23, u23]) (look_lit rfl) Try.isAgg27 Try.sizeOf27)) ?_
  refine dx_eff 1 rfl (by kernel_rfl) ?_
  have f255 := ((f158.ext c169).ext c185).ext d254
  have f256 := ((f168.ext c169).ext c185).ext d254
  refine sx_call rfl rfl Try.call20 (c_iRatWhole f255.sv f256.sv (by omega)) (fun v257 w257 p257 => ?_)
  obtain ⟨rfl, c257⟩ := p257
  have zw257 := c257.size
  have s258 : Chg 0 0 w185 w257 := (d254.t c257)
  refine wl_nil ?_
  refine dx_next s258 ?_
  refine dx_eff 3 rfl (by kernel_rfl) ?_
  have f260 := ((f179.ext c185).ext d254).ext c257
  have f262 := ((f184.ext c185).ext d254).ext c257
  refine sx_call rfl rfl Try.call21 (c_iRatSignK f260.sv f262.sv (by assumption)) (fun v263 w263 p263 => ?_)
  obtain ⟨rfl, c263⟩ := p263
  have zw263 := c263.size
  have s264 : Chg 0 0 w185 w263 := ((d254.t c257).t c263)
  refine wl_nil ?_
  refine dx_next s264 ?_
  refine dt 4 rfl rfl rfl rfl s264 (fun _ hS => px_eq rfl rfl) ?_
  refine dt 5 rfl rfl rfl rfl s264 (fun _ hS => px_neB Try.underlying4 rfl rfl) ?_
  refine dx_done (by kernel_rfl) ?_
  refine q_n (k187 _ _ ?_)
  have h262 : ((decide (ROk (ng x6) (dg (x6).natAbs) (dg e6) ∧ (dg e6) = [1])) != (decide (((((x6) + -rqI (x6) e6 m * ((e6 : Nat) : Int))).sign : Int) = 0))) = false := bne_dec (whole_rest (by assumption) _)
  refine sx_condBF rfl h262 ?_
  refine sx_skip ?_
  refine q_n (k186 _ _ ?_)
  refine sx_seq fun K265 k265 => sx_region ?_
  refine mv rfl rfl (sp rfl (px_ge rfl rfl) ?_)
  refine mv rfl rfl ?_
  refine sx_tmpP (t := 86) rfl (fun h265 => ?_) (fun h265 => ?_)
  ·
   refine sx_guardT rfl rfl rfl ?_
   have f268 := ((f193.ext d254).ext c257).ext c263
   refine sp rfl (px_load rfl (f268.loadA (vs := [.bool (ng ((x6) + -rqI (x6) e6 m * ((e6 : Nat) : Int))), t23, u23]) (look_lit rfl) Try.isAgg27 Try.sizeOf27)) ?_
   refine sx_guardT rfl rfl rfl ?_
   have f269 := f260.ext c263
   have f270 := f262.ext c263
   refine sx_call rfl rfl Try.call22 (c_size f269.sv f270.sv (by assumption)) (fun v271 w271 p271 => ?_)
   obtain ⟨s271, t271, rfl, os_271, ot_271, hK271, c271⟩ := p271
   have zw271 := c271.size
   refine sx_guardT rfl rfl rfl ?_
   refine sx_call rfl rfl Try.call23 (c_half) (fun v272 w272 p272 => ?_)
   obtain ⟨s272, t272, ls272, us272, lt272, ut272, rfl, os_272, ot_272, hd272, hK272, c272⟩ := p272
   have zw272 := c272.size
   refine sx_guardT rfl rfl rfl ?_
   have f273 := os_271.ext c272
   have f274 := ot_271.ext c272
   refine sx_call rfl rfl Try.call18 (c_iRatCmpK f273 f274 os_272.sv ot_272.sv (by assumption) (by assumption)) (fun v275 w275 p275 => ?_)
   obtain ⟨rfl, c275⟩ := p275
   have zw275 := c275.size
   refine sx_guardT rfl rfl rfl ?_
   refine sp rfl (px_gt rfl rfl) ?_
   refine sp rfl (px_pick rfl rfl) ?_
   refine wl_nil (q_n (k265 _ _ ?_))
   refine sx_sub (Sub.c 3 rfl (.c 4 rfl (.c 92 rfl .nil))) ?_
   have h265x1 : ¬ ((0 : Int) < cmpI ((((((x6) + -rqI (x6) e6 m * ((e6 : Nat) : Int))).natAbs : Int)) * ((2 : Nat) : Int)) ((1 : Int) * ((e6 : Nat) : Int))) := half_cmp (rq_half _ (ROk_iff.1 (by assumption)).1 (by omega))
   refine sx_condPF rfl h265x1 ?_
   refine sx_skip ?_
   refine q_bn (q_n (k17 _ _ ?_))
   refine sx_region ?_
   refine mv rfl rfl (sp rfl (px_add rfl rfl (by omega)) ?_)
   refine av rfl rfl (wl_nil ?_)
   have q276 := Chg.step (l := 0) (h := 0) (Chg.zero (l := 0) (h := 0) (((cwl14.t c23).t cb24).t cb26)) cw28 (by omega)
   have q277 := Chg.step (l := 0) (h := 0) q276 cw32 (by omega)
   have q278 := Chg.step (l := 0) (h := 0) q277 (c56.t cb57) (by omega)
   have q279 := Chg.step (l := 0) (h := 0) q278 cw59 (by omega)
   have q280 := Chg.step (l := 0) (h := 0) q279 (c71.t cb72) (by omega)
   have q281 := Chg.step (l := 0) (h := 0) q280 cw74 (by omega)
   have q282 := Chg.step (l := 0) (h := 0) q281 (c100.t cb101) (by omega)
   have q283 := Chg.step (l := 0) (h := 0) q282 cw103 (by omega)
   have q284 := Chg.step (l := 0) (h := 0) q283 ((((((((c133.t c169).t c185).t d254).t c257).t c263).t c271).t c272).t c275) (by omega)
   have f290 := (((((f189.ext d254).ext c257).ext c263).ext c271).ext c272).ext c275
   exact fun a ha => ⟨_, by omega, (m + 1), ha.sub (Sub.c 3 rfl (.c 4 (look_int (t := 4) rfl (by first | omega | simp)) .nil)), q284, f290, rfl, by omega⟩
  refine sx_guardF rfl rfl rfl rfl rfl rfl ?_
  refine sx_guardF rfl rfl rfl rfl rfl rfl ?_
  refine sx_guardF rfl rfl rfl rfl rfl rfl ?_
  refine sx_guardF rfl rfl rfl rfl rfl rfl ?_
  refine sx_guardF rfl rfl rfl rfl rfl rfl ?_
  refine sp rfl (px_pick rfl rfl) ?_
  refine wl_nil (q_n (k265 _ _ ?_))
  refine sx_sub (Sub.c 3 rfl (.c 4 rfl (.c 92 rfl .nil))) ?_
  refine sx_condF rfl ?_
  refine sx_skip ?_
  refine q_bn (q_n (k17 _ _ ?_))
  refine sx_region ?_
  refine mv rfl rfl (sp rfl (px_add rfl rfl (by omega)) ?_)
  refine av rfl rfl (wl_nil ?_)
  have q291 := Chg.step (l := 0) (h := 0) (Chg.zero (l := 0) (h := 0) (((cwl14.t c23).t cb24).t cb26)) cw28 (by omega)
  have q292 := Chg.step (l := 0) (h := 0) q291 cw32 (by omega)
  have q293 := Chg.step (l := 0) (h := 0) q292 (c56.t cb57) (by omega)
  have q294 := Chg.step (l := 0) (h := 0) q293 cw59 (by omega)
  have q295 := Chg.step (l := 0) (h := 0) q294 (c71.t cb72) (by omega)
  have q296 := Chg.step (l := 0) (h := 0) q295 cw74 (by omega)
  have q297 := Chg.step (l := 0) (h := 0) q296 (c100.t cb101) (by omega)
  have q298 := Chg.step (l := 0) (h := 0) q297 cw103 (by omega)
  have q299 := Chg.step (l := 0) (h := 0) q298 (((((c133.t c169).t c185).t d254).t c257).t c263) (by omega)
  have f302 := ((f189.ext d254).ext c257).ext c263
  exact fun a ha => ⟨_, by omega, (m + 1), ha.sub (Sub.c 3 rfl (.c 4 (look_int (t := 4) rfl (by first | omega | simp)) .nil)), q299, f302, rfl, by omega⟩
 refine sx_exit ?_
 refine q_e (q_e (q_bx (q_n (k12 _ _ ?_))))
 refine sx_seq fun K303 k303 => sx_region ?_
 refine av rfl rfl (wl_nil (q_n (k303 _ _ ?_)))
 refine sx_retc ?_
 refine sx_ret1 Try.results4 rfl ?_
 have q304 := Chg.step (l := 0) (h := 0) (Chg.zero (l := 0) (h := 0) (c6.t cb7)) cw9 (by omega)
 have q305 := Chg.step (l := 0) (h := 0) q304 cwl14 (by omega)
 exact ⟨rfl, q305⟩

end Go.Proofs.Ytgmoahoocakpmaa
