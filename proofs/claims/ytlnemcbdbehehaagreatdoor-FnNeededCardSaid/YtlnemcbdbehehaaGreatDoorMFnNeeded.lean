/- Contracts of functions of the program: what each call returns, and that it changes nothing that was. Conditions: as each says. -/
import Derived.Test.YtlnemcbdbehehaaGreatDoorTy
import Derived.Test.YtlnemcbdbehehaaGreatDoorNatP
import Derived.Test.YtlnemcbdbehehaaGreatDoorSxD
import Derived.Test.YtlnemcbdbehehaaGreatDoorPair
import Derived.Test.YtlnemcbdbehehaaGreatDoorSxW
import Derived.Test.YtlnemcbdbehehaaGreatDoorNatS
import Derived.Test.YtlnemcbdbehehaaGreatDoorSxG
import Derived.Test.YtlnemcbdbehehaaGreatDoorNatT
import Derived.Test.YtlnemcbdbehehaaGreatDoorSxP
import Derived.Test.YtlnemcbdbehehaaGreatDoorRm
import Derived.Test.YtlnemcbdbehehaaGreatDoorL1
import Derived.Test.YtlnemcbdbehehaaGreatDoorL3
import Derived.Test.YtlnemcbdbehehaaGreatDoorL4
import Derived.Test.YtlnemcbdbehehaaGreatDoorNatW
set_option linter.unusedVariables false
set_option linter.unusedSimpArgs false
namespace Go.Proofs.YtlnemcbdbehehaaGreatDoor
open Go Go.RowKit
set_option maxRecDepth 100000
set_option maxHeartbeats 1000000
theorem law_FnNeeded {w : World} {vb : Value} {lvb uvb : Nat} {bs : List Int} (hG0 : Glob w) (hvb : SlB w lvb uvb vb (bs)) (hb8 : ∀ j, j < bs.length → 0 ≤ bs.getD j 0 ∧ bs.getD j 0 ≤ 255) (hbs : bs.length ≤ 9223372036854775807) :
  Ret Tryz.prog 3 [vb] w fun v w' => v = .bool (true) ∧ Chg 0 0 w w' := by
 have hvb0 := hvb.fit
 have hG0l : 0 < w.heap.size := by obtain ⟨T, fz, h1⟩ := hG0; rcases Nat.lt_or_ge 0 w.heap.size with h2 | h2; exact h2; simp [Array.getElem?_eq_none h2] at h1
 refine sx_enter Tryz.func3 rfl Tryz.ntmps3 (nbl rfl) ?_
 refine sx_seq fun K1 k1 => sx_region ?_
 refine av rfl rfl (wl_nil (q_n (k1 _ _ ?_)))
 refine sx_seq fun K2 k2 => ?_
 refine sx_seq fun K3 k3 => sx_region ?_
 refine mv rfl rfl (sp rfl (px_len rfl Tryz.underlying22 hvb0) ?_)
 refine sp rfl (px_gt rfl rfl) ?_
 refine wl_nil (q_n (k3 _ _ ?_))
 refine sx_condP rfl (fun h510 => ?_) (fun h510 => ?_)
 ·
  refine sx_seq fun K4 k4 => sx_region ?_
  refine av rfl rfl (wl_nil (q_n (k4 _ _ ?_)))
  refine sx_retc ?_
  refine q_r (sx_ret1 Tryz.results3 rfl ?_)
  exact ⟨rfl, (Chg.refl 0 0 _)⟩
 refine sx_skip ?_
 refine q_n (k2 _ _ ?_)
 refine sx_seq fun K5 k5 => sx_region ?_
 refine mv rfl rfl (sx_call rfl rfl Tryz.call4 (c_MakeRates hvb0 (by assumption) (by omega)) (fun v6 w6 p6 => ?_))
 obtain ⟨s6, qv6, ts6, us6, a6, b6, rfl, os_6, hT6, hsm6, c6⟩ := p6
 have zw6 := c6.size
 have hTT := hT6
 have hsmm := hsm6
 have hl12 := hTT.2.1
 have hzs := sm_hz hsmm
 refine mv rfl rfl (sp rfl (px_ex3 rfl rfl) ?_)
 refine sp rfl (px_ex3 rfl rfl) ?_
 refine sp rfl (px_ex3 rfl rfl) ?_
 refine sx_alloc [.string (⟨#[]⟩), (.slice none 0 0)] rfl Tryz.zeroValue25 rfl (fun b7 w8 eb7 sb7 fb7 cb7 => ?_)
 have zw8 := cb7.size
 have f10 := os_6.ext cb7
 refine sx_store (vs := [.string qv6, s6]) rfl rfl fb7 rfl Tryz.sizeOf25 (nbl rfl) (one_cons rfl (one_cons f10.one one_nil)) (fun w9 sw9 fw9 cw9 => ?_)
 have zw9 := cw9.size
 have gw9 : Blk w9 b7 [.string qv6, s6] 25 := fw9
 refine av rfl rfl (av rfl rfl (wl_nil (q_n (k5 _ _ ?_))))
 refine sx_seq fun K11 k11 => sx_region ?_
 refine mv rfl rfl (mv rfl rfl ?_)
 have f13 := (hvb0.ext c6).ext cb7
 have f14 := f13.chg cw9 (by omega)
 refine sx_call rfl rfl Tryz.call5 (c_MakeAmount f14 (by assumption) (by omega)) (fun v15 w15 p15 => ?_)
 obtain ⟨s15, x15, rfl, os_15, hx15, c15⟩ := p15
 have zw15 := c15.size
 refine sx_alloc [.string (⟨#[]⟩), .bool false, (.slice none 0 0)] rfl Tryz.zeroValue32 rfl (fun b16 w17 eb16 sb16 fb16 cb16 => ?_)
 have zw17 := cb16.size
 have f19 := os_15.ext cb16
 refine sx_store (vs := [.string b6, .bool (ng x15), s15]) rfl rfl fb16 rfl Tryz.sizeOf32 (nbl rfl) (one_cons rfl (one_cons rfl (one_cons f19.one one_nil))) (fun w18 sw18 fw18 cw18 => ?_)
 have zw18 := cw18.size
 have gw18 : Blk w18 b16 [.string b6, .bool (ng x15), s15] 32 := fw18
 refine wl_nil (q_n (k11 _ _ ?_))
 refine sx_sub (Sub.c 2 rfl (.c 3 rfl (.c 4 rfl (.c 5 rfl (.c 6 rfl .nil))))) ?_
 refine sx_seq fun K20 k20 => sx_region ?_
 have f22 := (gw9.ext c15).ext cb16
 have f23 := f22.chg cw18 (by omega)
 refine sp rfl (px_load rfl (f23.loadA (vs := [.string qv6, s6]) (look_lit rfl) Tryz.isAgg25 Tryz.sizeOf25)) ?_
 refine sp rfl (px_load rfl (gw18.loadA (vs := [.string b6, .bool (ng x15), s15]) (look_lit rfl) Tryz.isAgg32 Tryz.sizeOf32)) ?_
 refine mv rfl rfl ?_
 have f25 := (hG0.ext c6).ext cb7
 have f26 := f25.chg cw9 (by omega)
 have f28 := (f26.ext c15).ext cb16
 have f29 := f28.chg cw18 (by omega)
 have f30 := f10.chg cw9 (by omega)
 have f32 := (f30.ext c15).ext cb16
 have f33 := f32.chg cw18 (by omega)
 have f34 := f19.chg cw18 (by omega)
 refine sx_call rfl rfl Tryz.call6 (c_iNeededK f29 f33 f34.sv (by omega) (by first | assumption | exact fun i hi => Nat.le_trans (hzz i hi) (by omega)) (by assumption) (by omega)) (fun v35 w35 p35 => ?_)
 obtain ⟨s35, qc35, n35, rfl, os_35, hN35, hl35, c35⟩ := p35
 have zw35 := c35.size
 refine mv rfl rfl (sp rfl (px_ex2 rfl rfl) ?_)
 refine sp rfl (px_ex2 rfl rfl) ?_
 refine sx_alloc [.string (⟨#[]⟩), .bool false, (.slice none 0 0)] rfl Tryz.zeroValue32 rfl (fun b36 w37 eb36 sb36 fb36 cb36 => ?_)
 have zw37 := cb36.size
 have f39 := os_35.ext cb36
 refine sx_store (vs := [.string qc35, .bool (ng n35), s35]) rfl rfl fb36 rfl Tryz.sizeOf32 (nbl rfl) (one_cons rfl (one_cons rfl (one_cons f39.one one_nil))) (fun w38 sw38 fw38 cw38 => ?_)
 have zw38 := cw38.size
 have gw38 : Blk w38 b36 [.string qc35, .bool (ng n35), s35] 32 := fw38
 refine av rfl rfl (wl_nil (q_n (k20 _ _ ?_)))
 refine sx_seq fun K40 k40 => ?_
 refine sx_seq fun K41 k41 => sx_region ?_
 refine mv rfl rfl (sp rfl (px_notP rfl) ?_)
 refine wl_nil (q_n (k41 _ _ ?_))
 refine sx_sub (Sub.c 2 rfl (.c 3 rfl (.c 4 rfl (.c 5 rfl (.c 6 rfl (.c 7 rfl (.c 37 rfl .nil))))))) ?_
 refine sx_condP rfl (fun h516 => ?_) (fun h516 => ?_)
 ·
  refine sx_seq fun K42 k42 => sx_region ?_
  have f44 := (f23.ext c35).ext cb36
  have f45 := f44.chg cw38 (by omega)
  refine sp rfl (px_load rfl (f45.loadA (vs := [.string qv6, s6]) (look_lit rfl) Tryz.isAgg25 Tryz.sizeOf25)) ?_
  refine mv rfl rfl (mv rfl rfl ?_)
  have f47 := (f33.ext c35).ext cb36
  have f48 := f47.chg cw38 (by omega)
  refine sx_call rfl rfl Tryz.call7 (c_sRateHow f48 (by omega) (by first | assumption | exact fun i hi => Nat.le_trans (hzz i hi) (by omega))) (fun v49 w49 p49 => ?_)
  obtain ⟨rfl, c49⟩ := p49
  have zw49 := c49.size
  refine sp rfl (px_eq rfl rfl) ?_
  refine av rfl rfl (wl_nil (q_n (k42 _ _ ?_)))
  refine sx_retc ?_
  refine q_r (sx_ret1 Tryz.results3 rfl ?_)
  have q50 := Chg.step (l := 0) (h := 0) (Chg.zero (l := 0) (h := 0) (c6.t cb7)) cw9 (by omega)
  have q51 := Chg.step (l := 0) (h := 0) q50 (c15.t cb16) (by omega)
  have q52 := Chg.step (l := 0) (h := 0) q51 cw18 (by omega)
  have q53 := Chg.step (l := 0) (h := 0) q52 (c35.t cb36) (by omega)
  have q54 := Chg.step (l := 0) (h := 0) q53 cw38 (by omega)
  have q55 := Chg.step (l := 0) (h := 0) q54 c49 (by omega)
  exact ⟨(bTrue (Decidable.not_not.1 h516)).symm, q55⟩
 obtain ⟨hq, hMc, hKa, hNb, yy, ee, hU, hR, hy, hy1, he1, hlo, hhi⟩ := hN35 (Decidable.not_not.1 h516)
 subst hq
 refine sx_skip ?_
 refine q_n (k40 _ _ ?_)
 refine sx_seq fun K56 k56 => sx_region ?_
 have f58 := (f23.ext c35).ext cb36
 have f59 := f58.chg cw38 (by omega)
 refine sp rfl (px_load rfl (f59.loadA (vs := [.string qv6, s6]) (look_lit rfl) Tryz.isAgg25 Tryz.sizeOf25)) ?_
 refine sp rfl (px_load rfl (gw38.loadA (vs := [.string (a6), .bool (ng n35), s35]) (look_lit rfl) Tryz.isAgg32 Tryz.sizeOf32)) ?_
 refine mv rfl rfl ?_
 have f61 := (f29.ext c35).ext cb36
 have f62 := f61.chg cw38 (by omega)
 have f64 := (f33.ext c35).ext cb36
 have f65 := f64.chg cw38 (by omega)
 have f66 := f39.chg cw38 (by omega)
 refine sx_call rfl rfl Tryz.call8 (c_iExactK f62 f65 f66.sv (by omega) (by first | assumption | exact fun i hi => Nat.le_trans (hzz i hi) (by omega)) (MOk_iff.2 ⟨hKa, dg_le18 (by omega) (by decide)⟩) (⟨yy, ee, hU, hR, hy, hy1, he1⟩)) (fun v67 w67 p67 => ?_)
 obtain ⟨s67, t67, ls67, us67, lt67, ut67, xx67, ee67, rfl, os_67, ot_67, hd67, hK67, hv67, c67⟩ := p67
 have zw67 := c67.size
 have hv1 := hv67
 have hK1 := hK67
 refine mv rfl rfl (sp rfl (px_ex2 rfl rfl) ?_)
 refine sp rfl (px_ex2 rfl rfl) ?_
 refine sx_alloc [.bool false, (.slice none 0 0), (.slice none 0 0)] rfl Tryz.zeroValue38 rfl (fun b68 w69 eb68 sb68 fb68 cb68 => ?_)
 have zw69 := cb68.size
 have f71 := ot_67.ext cb68
 have f72 := os_67.ext cb68
 refine sx_store (vs := [.bool (ng xx67), s67, t67]) rfl rfl fb68 rfl Tryz.sizeOf38 (nbl rfl) (one_cons rfl (one_cons f72.one (one_cons f71.one one_nil))) (fun w70 sw70 fw70 cw70 => ?_)
 have zw70 := cw70.size
 have gw70 : Blk w70 b68 [.bool (ng xx67), s67, t67] 38 := fw70
 refine av rfl rfl (wl_nil (q_n (k56 _ _ ?_)))
 refine sx_sub (Sub.c 2 rfl (.c 3 rfl (.c 4 rfl (.c 5 rfl (.c 6 rfl (.c 7 rfl (.c 9 rfl (.c 10 rfl .nil)))))))) ?_
 refine sx_seq fun K73 k73 => sx_region ?_
 refine mv rfl rfl ?_
 have f75 := (f62.ext c67).ext cb68
 have f76 := f75.chg cw70 (by omega)
 refine sx_call rfl rfl Tryz.call9 (c_iMoneyOfK f76 (rfl) (hKa)) (fun v77 w77 p77 => ?_)
 obtain ⟨s77, rfl, os_77, hM77, c77⟩ := p77
 have zw77 := c77.size
 refine mv rfl rfl (sp rfl (px_ex2 rfl rfl) ?_)
 refine sp rfl (px_ex2 rfl rfl) ?_
 refine sx_alloc [.string (⟨#[]⟩), .bool false, (.slice none 0 0)] rfl Tryz.zeroValue32 rfl (fun b78 w79 eb78 sb78 fb78 cb78 => ?_)
 have zw79 := cb78.size
 have f81 := os_77.ext cb78
 refine sx_store (vs := [.string a6, .bool (ng ((1 : Int))), s77]) rfl rfl fb78 rfl Tryz.sizeOf32 (nbl rfl) (one_cons rfl (one_cons rfl (one_cons f81.one one_nil))) (fun w80 sw80 fw80 cw80 => ?_)
 have zw80 := cw80.size
 have gw80 : Blk w80 b78 [.string a6, .bool (ng ((1 : Int))), s77] 32 := fw80
 refine av rfl rfl (wl_nil (q_n (k73 _ _ ?_)))
 refine sx_sub (Sub.c 2 rfl (.c 3 rfl (.c 5 rfl (.c 6 rfl (.c 7 rfl (.c 9 rfl (.c 10 rfl (.c 11 rfl .nil)))))))) ?_
 refine sx_seq fun K82 k82 => sx_region ?_
 have f84 := (gw38.ext c67).ext cb68
 have f85 := f84.chg cw70 (by omega)
 have f87 := (f85.ext c77).ext cb78
 have f88 := f87.chg cw80 (by omega)
 refine sp rfl (px_load rfl (f88.loadA (vs := [.string (a6), .bool (ng n35), s35]) (look_lit rfl) Tryz.isAgg32 Tryz.sizeOf32)) ?_
 refine sp rfl (px_load rfl (gw80.loadA (vs := [.string a6, .bool (ng ((1 : Int))), s77]) (look_lit rfl) Tryz.isAgg32 Tryz.sizeOf32)) ?_
 have f90 := (f76.ext c77).ext cb78
 have f91 := f90.chg cw80 (by omega)
 have f93 := (f66.ext c67).ext cb68
 have f94 := f93.chg cw70 (by omega)
 have f96 := (f94.ext c77).ext cb78
 have f97 := f96.chg cw80 (by omega)
 have f98 := f81.chg cw80 (by omega)
 refine sx_call rfl rfl Tryz.call10 (c_iMoneySubK f91 f97.sv f98.sv (rfl) (hKa) (hNb) (rfl)) (fun v99 w99 p99 => ?_)
 obtain ⟨s99, rfl, os_99, hM99, c99⟩ := p99
 have zw99 := c99.size
 refine mv rfl rfl (sp rfl (px_ex2 rfl rfl) ?_)
 refine sp rfl (px_ex2 rfl rfl) ?_
 refine sx_alloc [.string (⟨#[]⟩), .bool false, (.slice none 0 0)] rfl Tryz.zeroValue32 rfl (fun b100 w101 eb100 sb100 fb100 cb100 => ?_)
 have zw101 := cb100.size
 have f103 := os_99.ext cb100
 refine sx_store (vs := [.string a6, .bool (ng ((n35) - 1)), s99]) rfl rfl fb100 rfl Tryz.sizeOf32 (nbl rfl) (one_cons rfl (one_cons rfl (one_cons f103.one one_nil))) (fun w102 sw102 fw102 cw102 => ?_)
 have zw102 := cw102.size
 have gw102 : Blk w102 b100 [.string a6, .bool (ng ((n35) - 1)), s99] 32 := fw102
 refine av rfl rfl (wl_nil (q_n (k82 _ _ ?_)))
 refine sx_sub (Sub.c 2 rfl (.c 3 rfl (.c 5 rfl (.c 6 rfl (.c 9 rfl (.c 10 rfl (.c 13 rfl (.c 14 rfl .nil)))))))) ?_
 refine sx_seq fun K104 k104 => sx_region ?_
 have f106 := (f59.ext c67).ext cb68
 have f107 := f106.chg cw70 (by omega)
 have f109 := (f107.ext c77).ext cb78
 have f110 := f109.chg cw80 (by omega)
 have f112 := (f110.ext c99).ext cb100
 have f113 := f112.chg cw102 (by omega)
 refine sp rfl (px_load rfl (f113.loadA (vs := [.string qv6, s6]) (look_lit rfl) Tryz.isAgg25 Tryz.sizeOf25)) ?_
 refine sp rfl (px_load rfl (gw102.loadA (vs := [.string a6, .bool (ng ((n35) - 1)), s99]) (look_lit rfl) Tryz.isAgg32 Tryz.sizeOf32)) ?_
 refine mv rfl rfl ?_
 have f115 := (f91.ext c99).ext cb100
 have f116 := f115.chg cw102 (by omega)
 have f118 := (f65.ext c67).ext cb68
 have f119 := f118.chg cw70 (by omega)
 have f121 := (f119.ext c77).ext cb78
 have f122 := f121.chg cw80 (by omega)
 have f124 := (f122.ext c99).ext cb100
 have f125 := f124.chg cw102 (by omega)
 have f126 := f103.chg cw102 (by omega)
 refine sx_call rfl rfl Tryz.call8 (c_iExactK f116 f125 f126.sv (by omega) (by first | assumption | exact fun i hi => Nat.le_trans (hzz i hi) (by omega)) (by first | assumption) (⟨yy, ee, hU, hR, hy, hy1, he1⟩)) (fun v127 w127 p127 => ?_)
 obtain ⟨s127, t127, ls127, us127, lt127, ut127, xx127, ee127, rfl, os_127, ot_127, hd127, hK127, hv127, c127⟩ := p127
 have zw127 := c127.size
 have hv2 := hv127
 have hK2 := hK127
 refine mv rfl rfl (sp rfl (px_ex2 rfl rfl) ?_)
 refine sp rfl (px_ex2 rfl rfl) ?_
 refine sx_alloc [.bool false, (.slice none 0 0), (.slice none 0 0)] rfl Tryz.zeroValue38 rfl (fun b128 w129 eb128 sb128 fb128 cb128 => ?_)
 have zw129 := cb128.size
 have f131 := ot_127.ext cb128
 have f132 := os_127.ext cb128
 refine sx_store (vs := [.bool (ng xx127), s127, t127]) rfl rfl fb128 rfl Tryz.sizeOf38 (nbl rfl) (one_cons rfl (one_cons f132.one (one_cons f131.one one_nil))) (fun w130 sw130 fw130 cw130 => ?_)
 have zw130 := cw130.size
 have gw130 : Blk w130 b128 [.bool (ng xx127), s127, t127] 38 := fw130
 refine av rfl rfl (wl_nil (q_n (k104 _ _ ?_)))
 refine sx_sub (Sub.c 2 rfl (.c 6 rfl (.c 9 rfl (.c 10 rfl (.c 14 rfl (.c 15 rfl (.c 16 rfl .nil))))))) ?_
 refine sx_seq fun K133 k133 => ?_
 have f135 := (f116.ext c127).ext cb128
 have f136 := f135.chg cw130 (by omega)
 have f138 := (f113.ext c127).ext cb128
 have f139 := f138.chg cw130 (by omega)
 have f141 := (gw18.ext c35).ext cb36
 have f142 := f141.chg cw38 (by omega)
 have f144 := (f142.ext c67).ext cb68
 have f145 := f144.chg cw70 (by omega)
 have f147 := (f145.ext c77).ext cb78
 have f148 := f147.chg cw80 (by omega)
 have f150 := (f148.ext c99).ext cb100
 have f151 := f150.chg cw102 (by omega)
 have f153 := (f151.ext c127).ext cb128
 have f154 := f153.chg cw130 (by omega)
 have f156 := (f88.ext c99).ext cb100
 have f157 := f156.chg cw102 (by omega)
 have f159 := (f157.ext c127).ext cb128
 have f160 := f159.chg cw130 (by omega)
 have f162 := (gw70.ext c77).ext cb78
 have f163 := f162.chg cw80 (by omega)
 have f165 := (f163.ext c99).ext cb100
 have f166 := f165.chg cw102 (by omega)
 have f168 := (f166.ext c127).ext cb128
 have f169 := f168.chg cw130 (by omega)
 have f171 := (gw80.ext c99).ext cb100
 have f172 := f171.chg cw102 (by omega)
 have f174 := (f172.ext c127).ext cb128
 have f175 := f174.chg cw130 (by omega)
 have f177 := (gw102.ext c127).ext cb128
 have f178 := f177.chg cw130 (by omega)
 have f180 := (f14.ext c15).ext cb16
 have f181 := f180.chg cw18 (by omega)
 have f183 := (f181.ext c35).ext cb36
 have f184 := f183.chg cw38 (by omega)
 have f186 := (f184.ext c67).ext cb68
 have f187 := f186.chg cw70 (by omega)
 have f189 := (f187.ext c77).ext cb78
 have f190 := f189.chg cw80 (by omega)
 have f192 := (f190.ext c99).ext cb100
 have f193 := f192.chg cw102 (by omega)
 have f195 := (f193.ext c127).ext cb128
 have f196 := f195.chg cw130 (by omega)
 have f198 := (f125.ext c127).ext cb128
 have f199 := f198.chg cw130 (by omega)
 have f201 := (f34.ext c35).ext cb36
 have f202 := f201.chg cw38 (by omega)
 have f204 := (f202.ext c67).ext cb68
 have f205 := f204.chg cw70 (by omega)
 have f207 := (f205.ext c77).ext cb78
 have f208 := f207.chg cw80 (by omega)
 have f210 := (f208.ext c99).ext cb100
 have f211 := f210.chg cw102 (by omega)
 have f213 := (f211.ext c127).ext cb128
 have f214 := f213.chg cw130 (by omega)
 have f216 := (f97.ext c99).ext cb100
 have f217 := f216.chg cw102 (by omega)
 have f219 := (f217.ext c127).ext cb128
 have f220 := f219.chg cw130 (by omega)
 have f221 := f72.chg cw70 (by omega)
 have f223 := (f221.ext c77).ext cb78
 have f224 := f223.chg cw80 (by omega)
 have f226 := (f224.ext c99).ext cb100
 have f227 := f226.chg cw102 (by omega)
 have f229 := (f227.ext c127).ext cb128
 have f230 := f229.chg cw130 (by omega)
 have f231 := f71.chg cw70 (by omega)
 have f233 := (f231.ext c77).ext cb78
 have f234 := f233.chg cw80 (by omega)
 have f236 := (f234.ext c99).ext cb100
 have f237 := f236.chg cw102 (by omega)
 have f239 := (f237.ext c127).ext cb128
 have f240 := f239.chg cw130 (by omega)
 have f242 := (f98.ext c99).ext cb100
 have f243 := f242.chg cw102 (by omega)
 have f245 := (f243.ext c127).ext cb128
 have f246 := f245.chg cw130 (by omega)
 have f248 := (f126.ext c127).ext cb128
 have f249 := f248.chg cw130 (by omega)
 have f250 := f132.chg cw130 (by omega)
 have f251 := f131.chg cw130 (by omega)
 refine dx_region (fun w' => Chg 0 0 w130 w') (by kernel_rfl) (Chg.zero (Chg.drew _)) ?_
 have d252 := Chg.drew w130
 have s252 : Chg 0 0 w130 (World.drew w130) := Chg.zero (Chg.drew _)
 have y252 : (World.drew w130).heap.size = w130.heap.size := rfl
 generalize World.drew w130 = w252 at *
 have zw252 := d252.size
 refine dt 0 rfl rfl rfl rfl s252 (fun _ hS => px_move rfl) ?_
 refine dt 1 rfl rfl rfl rfl s252 (fun _ hS => px_move rfl) ?_
 refine dx_takeG 2 rfl rfl rfl rfl rfl rfl (by kernel_rfl) (by kernel_rfl) (by kernel_rfl) s252 (fun _ hS => px_move rfl) ?_
 refine dt 3 rfl rfl rfl rfl s252 (fun _ hS => px_pick rfl rfl) ?_
 refine dt 4 rfl rfl rfl rfl s252 (fun _ hS => px_move rfl) ?_
 refine dx_takeG 5 rfl rfl rfl rfl rfl rfl (by kernel_rfl) (by kernel_rfl) (by kernel_rfl) s252 (fun _ hS => px_move rfl) ?_
 refine dt 6 rfl rfl rfl rfl s252 (fun _ hS => px_pick rfl rfl) ?_
 refine dt 7 rfl rfl rfl rfl s252 (fun _ hS => px_move rfl) ?_
 refine dx_takeG 8 rfl rfl rfl rfl rfl rfl (by kernel_rfl) (by kernel_rfl) (by kernel_rfl) s252 (fun _ hS => px_load rfl ((f169.chg hS (by omega)).loadA (vs := [.bool (ng xx67), s67, t67]) (look_lit rfl) Tryz.isAgg38 Tryz.sizeOf38)) ?_
 refine dx_takeG 9 rfl rfl rfl rfl rfl rfl (by kernel_rfl) (by kernel_rfl) (by kernel_rfl) s252 (fun _ hS => px_load rfl ((f154.chg hS (by omega)).loadA (vs := [.string b6, .bool (ng x15), s15]) (look_lit rfl) Tryz.isAgg32 Tryz.sizeOf32)) ?_
 refine dx_eff 10 rfl (by kernel_rfl) ?_
 refine sx_guardT rfl rfl rfl ?_
 have f253 := f136.ext d252
 have f254 := f214.ext d252
 refine sx_call rfl rfl Tryz.call12 (c_iMoneyRatK f253 f254.sv (hMc)) (fun v255 w255 p255 => ?_)
 obtain ⟨s255, t255, ls255, us255, lt255, ut255, rfl, os_255, ot_255, hd255, hK255, c255⟩ := p255
 have zw255 := c255.size
 have s256 : Chg 0 0 w130 w255 := (d252.t c255)
 refine wl_nil ?_
 refine dx_next s256 ?_
 refine dx_eff 11 rfl (by kernel_rfl) ?_
 refine sx_guardT rfl rfl rfl ?_
 have f258 := (f230.ext d252).ext c255
 have f260 := (f240.ext d252).ext c255
 refine sx_call rfl rfl Tryz.call11 (c_iRatCmpK f258.sv f260.sv os_255.sv ot_255.sv (by assumption) (by assumption)) (fun v261 w261 p261 => ?_)
 obtain ⟨rfl, c261⟩ := p261
 have zw261 := c261.size
 have s262 : Chg 0 0 w130 w261 := ((d252.t c255).t c261)
 refine wl_nil ?_
 refine dx_next s262 ?_
 refine dx_takeG 12 rfl rfl rfl rfl rfl rfl (by kernel_rfl) (by kernel_rfl) (by kernel_rfl) s262 (fun _ hS => px_ge rfl rfl) ?_
 refine dt 13 rfl rfl rfl rfl s262 (fun _ hS => px_pick rfl rfl) ?_
 refine dt 14 rfl rfl rfl rfl s262 (fun _ hS => px_move rfl) ?_
 have h523 : (0 : Int) ≤ cmpI ((xx67) * ((1 : Nat) : Int)) (((x15)) * ((ee67 : Nat) : Int)) := ge_cmp (ROk_iff.1 hR).1 (hv1 _ _ hU) hlo
 refine dx_tmpPT (t := 82) rfl h523 ?_
 refine dx_takeG 15 rfl rfl rfl rfl rfl rfl (by kernel_rfl) (by kernel_rfl) (by kernel_rfl) s262 (fun _ hS => px_load rfl ((gw130.chg hS (by omega)).loadA (vs := [.bool (ng xx127), s127, t127]) (look_lit rfl) Tryz.isAgg38 Tryz.sizeOf38)) ?_
 refine dx_takeG 16 rfl rfl rfl rfl rfl rfl (by kernel_rfl) (by kernel_rfl) (by kernel_rfl) s262 (fun _ hS => px_load rfl ((f154.chg hS (by omega)).loadA (vs := [.string b6, .bool (ng x15), s15]) (look_lit rfl) Tryz.isAgg32 Tryz.sizeOf32)) ?_
 refine dx_eff 17 rfl (by kernel_rfl) ?_
 refine sx_guardT rfl rfl rfl ?_
 have f264 := (f253.ext c255).ext c261
 have f266 := (f254.ext c255).ext c261
 refine sx_call rfl rfl Tryz.call12 (c_iMoneyRatK f264 f266.sv (hMc)) (fun v267 w267 p267 => ?_)
 obtain ⟨s267, t267, ls267, us267, lt267, ut267, rfl, os_267, ot_267, hd267, hK267, c267⟩ := p267
 have zw267 := c267.size
 have s268 : Chg 0 0 w130 w267 := (((d252.t c255).t c261).t c267)
 refine wl_nil ?_
 refine dx_next s268 ?_
 refine dx_eff 18 rfl (by kernel_rfl) ?_
 refine sx_guardT rfl rfl rfl ?_
 have f272 := (((f250.ext d252).ext c255).ext c261).ext c267
 have f276 := (((f251.ext d252).ext c255).ext c261).ext c267
 refine sx_call rfl rfl Tryz.call11 (c_iRatCmpK f272.sv f276.sv os_267.sv ot_267.sv (by assumption) (by assumption)) (fun v277 w277 p277 => ?_)
 obtain ⟨rfl, c277⟩ := p277
 have zw277 := c277.size
 have s278 : Chg 0 0 w130 w277 := ((((d252.t c255).t c261).t c267).t c277)
 refine wl_nil ?_
 refine dx_next s278 ?_
 refine dx_takeG 19 rfl rfl rfl rfl rfl rfl (by kernel_rfl) (by kernel_rfl) (by kernel_rfl) s278 (fun _ hS => px_lt rfl rfl) ?_
 refine dt 20 rfl rfl rfl rfl s278 (fun _ hS => px_pick rfl rfl) ?_
 refine dt 21 rfl rfl rfl rfl s278 (fun _ hS => px_assign rfl) ?_
 refine dx_done (by kernel_rfl) ?_
 refine q_n (k133 _ _ ?_)
 refine sx_sub (Sub.c 2 rfl .nil) ?_
 refine sx_retc ?_
 refine sx_ret1 Tryz.results3 rfl ?_
 have q279 := Chg.step (l := 0) (h := 0) (Chg.zero (l := 0) (h := 0) (c6.t cb7)) cw9 (by omega)
 have q280 := Chg.step (l := 0) (h := 0) q279 (c15.t cb16) (by omega)
 have q281 := Chg.step (l := 0) (h := 0) q280 cw18 (by omega)
 have q282 := Chg.step (l := 0) (h := 0) q281 (c35.t cb36) (by omega)
 have q283 := Chg.step (l := 0) (h := 0) q282 cw38 (by omega)
 have q284 := Chg.step (l := 0) (h := 0) q283 (c67.t cb68) (by omega)
 have q285 := Chg.step (l := 0) (h := 0) q284 cw70 (by omega)
 have q286 := Chg.step (l := 0) (h := 0) q285 (c77.t cb78) (by omega)
 have q287 := Chg.step (l := 0) (h := 0) q286 cw80 (by omega)
 have q288 := Chg.step (l := 0) (h := 0) q287 (c99.t cb100) (by omega)
 have q289 := Chg.step (l := 0) (h := 0) q288 cw102 (by omega)
 have q290 := Chg.step (l := 0) (h := 0) q289 (c127.t cb128) (by omega)
 have q291 := Chg.step (l := 0) (h := 0) q290 cw130 (by omega)
 have q292 := Chg.step (l := 0) (h := 0) q291 ((((d252.t c255).t c261).t c267).t c277) (by omega)
 exact ⟨(bTrue (lt_cmp (ROk_iff.1 hR).1 (ROk_iff.1 hK2).1 (hv2 _ _ hU) hhi)).symm, q292⟩

end Go.Proofs.YtlnemcbdbehehaaGreatDoor
