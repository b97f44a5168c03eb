/- Contracts of functions of the program: what each call returns, and that it changes nothing that was. Conditions: as each says. -/
import Derived.Test.YtnpjfkhleaegmaaDoorTy
import Derived.Test.YtnpjfkhleaegmaaDoorNatL
import Derived.Test.YtnpjfkhleaegmaaDoorSxP
import Derived.Test.YtnpjfkhleaegmaaDoorL0
import Derived.Test.YtnpjfkhleaegmaaDoorL1
set_option linter.unusedVariables false
set_option linter.unusedSimpArgs false
namespace Go.Proofs.YtnpjfkhleaegmaaDoor
open Go Go.RowKit
set_option maxRecDepth 100000
set_option maxHeartbeats 1000000
theorem law_MoneyRat {w : World} {c1 : ByteArray} {n1 : Bool} {v1 : Value} {lv1 uv1 : Nat} {z1 : List Int} (hG0 : Glob w) (hv1 : Sl w lv1 uv1 v1 (z1)) (bc1 : c1.size ≤ 9223372036854775807) (bz1 : z1.length ≤ 9223372036854775807) :
  Ret Tryd.prog 3 [.agg #[.string c1, .bool n1, v1]] w fun v w' => v = .bool (true) ∧ Chg 0 0 w w' := by
 have hv10 := hv1.fit
 have hG0l : 0 < w.heap.size := by obtain ⟨T, fz, h1⟩ := hG0; rcases Nat.lt_or_ge 0 w.heap.size with h2 | h2; exact h2; simp [Array.getElem?_eq_none h2] at h1
 refine sx_enter Tryd.func3 rfl Tryd.ntmps3 (nbl rfl) ?_
 refine sx_seq fun K1 k1 => sx_region ?_
 refine sx_box [.string c1, .bool n1, v1] rfl rfl rfl (fun b2 w3 eb2 sb2 fb2 cb2 => ?_)
 have zw3 := cb2.size
 refine av rfl rfl (wl_nil (q_n (k1 _ _ ?_)))
 refine sx_seq fun K4 k4 => sx_region ?_
 refine av rfl rfl (wl_nil (q_n (k4 _ _ ?_)))
 refine sx_seq fun K5 k5 => sx_region ?_
 refine sp rfl (px_load rfl (fb2.loadA (vs := [.string c1, .bool n1, v1]) (look_lit rfl) Tryd.isAgg26 Tryd.sizeOf26)) ?_
 refine mv rfl rfl ?_
 have f6 := hv10.ext cb2
 refine sx_call rfl rfl Tryd.call4 (c_szMoney f6 (by omega) (by omega) (by omega)) (fun v7 w7 p7 => ?_)
 obtain ⟨r7, rfl, hr7, c7⟩ := p7
 have zw7 := c7.size
 refine av rfl rfl (wl_nil (q_n (k5 _ _ ?_)))
 refine sx_seq fun K8 k8 => ?_
 refine sx_seq fun K9 k9 => sx_region ?_
 refine mv rfl rfl (sp rfl (px_lt rfl rfl) ?_)
 refine wl_nil (q_n (k9 _ _ ?_))
 refine sx_condP rfl (fun h5245 => ?_) (fun h5245 => ?_)
 ·
  refine sx_seq fun K10 k10 => sx_region ?_
  refine av rfl rfl (wl_nil (q_n (k10 _ _ ?_)))
  refine sx_retc ?_
  refine q_r (sx_ret1 Tryd.results3 rfl ?_)
  exact ⟨rfl, (cb2.t c7)⟩
 replace hr7 := hr7.resolve_left h5245
 refine sx_skip ?_
 refine q_n (k8 _ _ ?_)
 refine sx_seq fun K11 k11 => sx_region ?_
 have f12 := fb2.ext c7
 refine sp rfl (px_load rfl (f12.loadA (vs := [.string c1, .bool n1, v1]) (look_lit rfl) Tryd.isAgg26 Tryd.sizeOf26)) ?_
 have f13 := f6.ext c7
 refine sx_call rfl rfl Tryd.call6 (c_toMoney f13 (by omega)) (fun v14 w14 p14 => ?_)
 obtain ⟨s214, rfl, os2_14, c14⟩ := p14
 have zw14 := c14.size
 refine sx_call rfl rfl Tryd.call5 (c_sMoneyRat os2_14.sv (by omega)) (fun v15 w15 p15 => ?_)
 obtain ⟨s15, t15, ls15, us15, lt15, ut15, rfl, os_15, ot_15, hd15, hl15, c15⟩ := p15
 have zw15 := c15.size
 refine sx_alloc [.bool false, (.slice none 0 0), (.slice none 0 0)] rfl Tryd.zeroValue30 rfl (fun b16 w17 eb16 sb16 fb16 cb16 => ?_)
 have zw17 := cb16.size
 have f19 := ot_15.ext cb16
 have f20 := os_15.ext cb16
 refine sx_store (vs := [.bool ((mRat c1 n1 z1).1), s15, t15]) rfl rfl fb16 rfl Tryd.sizeOf30 (nbl rfl) (one_cons rfl (one_cons f20.one (one_cons f19.one one_nil))) (fun w18 sw18 fw18 cw18 => ?_)
 have zw18 := cw18.size
 have gw18 : Blk w18 b16 [.bool ((mRat c1 n1 z1).1), s15, t15] 30 := fw18
 refine wl_nil (q_n (k11 _ _ ?_))
 refine sx_seq fun K21 k21 => sx_region ?_
 have f24 := ((f12.ext c14).ext c15).ext cb16
 have f25 := f24.chg cw18 (by omega)
 refine sp rfl (px_load rfl (f25.loadA (vs := [.string c1, .bool n1, v1]) (look_lit rfl) Tryd.isAgg26 Tryd.sizeOf26)) ?_
 have f28 := ((f13.ext c14).ext c15).ext cb16
 have f29 := f28.chg cw18 (by omega)
 refine sx_call rfl rfl Tryd.call6 (c_toMoney f29 (by omega)) (fun v30 w30 p30 => ?_)
 obtain ⟨s230, rfl, os2_30, c30⟩ := p30
 have zw30 := c30.size
 refine sx_alloc [.string (⟨#[]⟩), .bool false, (.slice none 0 0)] rfl Tryd.zeroValue33 rfl (fun b31 w32 eb31 sb31 fb31 cb31 => ?_)
 have zw32 := cb31.size
 have f34 := os2_30.ext cb31
 refine sx_store (vs := [.string c1, .bool n1, s230]) rfl rfl fb31 rfl Tryd.sizeOf33 (nbl rfl) (one_cons rfl (one_cons rfl (one_cons f34.one one_nil))) (fun w33 sw33 fw33 cw33 => ?_)
 have zw33 := cw33.size
 have gw33 : Blk w33 b31 [.string c1, .bool n1, s230] 33 := fw33
 refine wl_nil (q_n (k21 _ _ ?_))
 refine sx_sub (Sub.c 1 rfl (.c 2 rfl (.c 4 rfl (.c 5 rfl .nil)))) ?_
 refine sx_seq fun K35 k35 => sx_region ?_
 refine sp rfl (px_load rfl (gw33.loadA (vs := [.string c1, .bool n1, s230]) (look_lit rfl) Tryd.isAgg33 Tryd.sizeOf33)) ?_
 have f36 := hG0.ext cb2
 have f40 := (((f36.ext c7).ext c14).ext c15).ext cb16
 have f41 := f40.chg cw18 (by omega)
 have f43 := (f41.ext c30).ext cb31
 have f44 := f43.chg cw33 (by omega)
 have f45 := f34.chg cw33 (by omega)
 refine sx_call rfl rfl Tryd.call7 (c_iMoneyRat f44 f45.sv (by omega)) (fun v46 w46 p46 => ?_)
 obtain ⟨s46, t46, ls46, us46, lt46, ut46, rfl, os_46, ot_46, hd46, hl46, c46⟩ := p46
 have zw46 := c46.size
 refine sx_alloc [.bool false, (.slice none 0 0), (.slice none 0 0)] rfl Tryd.zeroValue30 rfl (fun b47 w48 eb47 sb47 fb47 cb47 => ?_)
 have zw48 := cb47.size
 have f50 := ot_46.ext cb47
 have f51 := os_46.ext cb47
 refine sx_store (vs := [.bool ((mRat c1 n1 z1).1), s46, t46]) rfl rfl fb47 rfl Tryd.sizeOf30 (nbl rfl) (one_cons rfl (one_cons f51.one (one_cons f50.one one_nil))) (fun w49 sw49 fw49 cw49 => ?_)
 have zw49 := cw49.size
 have gw49 : Blk w49 b47 [.bool ((mRat c1 n1 z1).1), s46, t46] 30 := fw49
 refine wl_nil (q_n (k35 _ _ ?_))
 refine sx_seq fun K52 k52 => ?_
 refine sx_seq fun K53 k53 => sx_region ?_
 refine sp rfl (px_load rfl (gw49.loadA (vs := [.bool ((mRat c1 n1 z1).1), s46, t46]) (look_lit rfl) Tryd.isAgg30 Tryd.sizeOf30)) ?_
 have f55 := (gw18.ext c30).ext cb31
 have f56 := f55.chg cw33 (by omega)
 have f58 := (f56.ext c46).ext cb47
 have f59 := f58.chg cw49 (by omega)
 refine sp rfl (px_load rfl (f59.loadA (vs := [.bool ((mRat c1 n1 z1).1), s15, t15]) (look_lit rfl) Tryd.isAgg30 Tryd.sizeOf30)) ?_
 have f60 := f51.chg cw49 (by omega)
 have f61 := f50.chg cw49 (by omega)
 have f62 := f20.chg cw18 (by omega)
 have f64 := (f62.ext c30).ext cb31
 have f65 := f64.chg cw33 (by omega)
 have f67 := (f65.ext c46).ext cb47
 have f68 := f67.chg cw49 (by omega)
 have f69 := f19.chg cw18 (by omega)
 have f71 := (f69.ext c30).ext cb31
 have f72 := f71.chg cw33 (by omega)
 have f74 := (f72.ext c46).ext cb47
 have f75 := f74.chg cw49 (by omega)
 refine sx_call rfl rfl Tryd.call8 (c_eqRat f60.sv f61.sv f68.sv f75.sv (by omega)) (fun v76 w76 p76 => ?_)
 obtain ⟨rfl, c76⟩ := p76
 have zw76 := c76.size
 refine sp rfl (px_notP rfl) ?_
 refine wl_nil (q_n (k53 _ _ ?_))
 have h5251 : ¬ (¬ (((mRat c1 n1 z1).1) = ((mRat c1 n1 z1).1) ∧ ((mRat c1 n1 z1).2.1) = ((mRat c1 n1 z1).2.1) ∧ ((mRat c1 n1 z1).2.2.1) = ((mRat c1 n1 z1).2.2.1))) := by simp [mk_length]
 refine sx_condPF rfl h5251 ?_
 refine sx_skip ?_
 refine q_n (k52 _ _ ?_)
 refine sx_seq fun K77 k77 => ?_
 refine sx_seq fun K78 k78 => ?_
 have f80 := (f44.ext c46).ext cb47
 have f81 := f80.chg cw49 (by omega)
 have f84 := (f25.ext c30).ext cb31
 have f85 := f84.chg cw33 (by omega)
 have f87 := (f85.ext c46).ext cb47
 have f88 := f87.chg cw49 (by omega)
 have f89 := f88.ext c76
 have f92 := (gw33.ext c46).ext cb47
 have f93 := f92.chg cw49 (by omega)
 have f94 := f93.ext c76
 have f97 := (f29.ext c30).ext cb31
 have f98 := f97.chg cw33 (by omega)
 have f100 := (f98.ext c46).ext cb47
 have f101 := f100.chg cw49 (by omega)
 have f104 := (os2_14.ext c15).ext cb16
 have f105 := f104.chg cw18 (by omega)
 have f107 := (f105.ext c30).ext cb31
 have f108 := f107.chg cw33 (by omega)
 have f110 := (f108.ext c46).ext cb47
 have f111 := f110.chg cw49 (by omega)
 have f112 := f111.ext c76
 have f116 := (f45.ext c46).ext cb47
 have f117 := f116.chg cw49 (by omega)
 refine dx_region (fun w' => Chg 0 0 w76 w') (by kernel_rfl) (Chg.zero (Chg.drew _)) ?_
 have d121 := Chg.drew w76
 have s121 : Chg 0 0 w76 (World.drew w76) := Chg.zero (Chg.drew _)
 have y121 : (World.drew w76).heap.size = w76.heap.size := rfl
 generalize World.drew w76 = w121 at *
 have zw121 := d121.size
 refine dt 0 rfl rfl rfl rfl s121 (fun _ hS => px_load rfl ((f94.chg hS (by omega)).loadA (vs := [.string c1, .bool n1, s230]) (look_lit rfl) Tryd.isAgg33 Tryd.sizeOf33)) ?_
 refine dt 1 rfl rfl rfl rfl s121 (fun _ hS => px_load rfl ((f89.chg hS (by omega)).loadA (vs := [.string c1, .bool n1, v1]) (look_lit rfl) Tryd.isAgg26 Tryd.sizeOf26)) ?_
 refine dx_eff 2 rfl (by kernel_rfl) ?_
 have f122 := (f101.ext c76).ext d121
 refine sx_call rfl rfl Tryd.call6 (c_toMoney f122 (by omega)) (fun v123 w123 p123 => ?_)
 obtain ⟨s2123, rfl, os2_123, c123⟩ := p123
 have zw123 := c123.size
 have s124 : Chg 0 0 w76 w123 := (d121.t c123)
 refine wl_nil ?_
 refine dx_next s124 ?_
 refine dx_eff 3 rfl (by kernel_rfl) ?_
 have f126 := ((f117.ext c76).ext d121).ext c123
 refine sx_call rfl rfl Tryd.call9 (c_eqMoney f126.sv os2_123.sv (by omega)) (fun v127 w127 p127 => ?_)
 obtain ⟨rfl, c127⟩ := p127
 have zw127 := c127.size
 have s128 : Chg 0 0 w76 w127 := ((d121.t c123).t c127)
 refine wl_nil ?_
 refine dx_next s128 ?_
 refine dt 4 rfl rfl rfl rfl s128 (fun _ hS => px_notP rfl) ?_
 refine dx_done (by kernel_rfl) ?_
 refine q_n (k78 _ _ ?_)
 refine sx_sub (Sub.c 1 rfl (.c 2 rfl (.c 4 rfl (.c 5 rfl (.c 6 rfl (.c 31 rfl .nil)))))) ?_
 have h5254 : ¬ (¬ (c1 = c1 ∧ n1 = n1 ∧ z1 = z1)) := by simp [mk_length]
 refine sx_condPF rfl h5254 ?_
 refine sx_skip ?_
 refine q_n (k77 _ _ ?_)
 refine sx_seq fun K129 k129 => sx_region ?_
 refine av rfl rfl (wl_nil (q_n (k129 _ _ ?_)))
 refine sx_seq fun K130 k130 => sx_region ?_
 have f133 := ((f94.ext d121).ext c123).ext c127
 refine sp rfl (px_load rfl (f133.loadA (vs := [.string c1, .bool n1, s230]) (look_lit rfl) Tryd.isAgg33 Tryd.sizeOf33)) ?_
 refine mv rfl rfl ?_
 have f134 := f126.ext c127
 refine sx_call rfl rfl Tryd.call10 (c_markMoney f134 (by omega) (by omega)) (fun v135 w135 p135 => ?_)
 obtain ⟨rfl, ov1_135, c135⟩ := p135
 have zw135 := c135.size
 refine av rfl rfl (wl_nil (q_n (k130 _ _ ?_)))
 refine sx_seq fun K136 k136 => ?_
 refine sx_seq fun K137 k137 => sx_region ?_
 refine mv rfl rfl (sp rfl (px_lt rfl rfl) ?_)
 refine mv rfl rfl ?_
 have h5259 : ¬ (((1 : Int) + ↑(z1).length : Int) < 0) := by omega
 refine sx_tmpPF (t := 37) rfl h5259 ?_
 refine sx_guardT rfl rfl rfl ?_
 have f141 := ((((gw49.ext c76).ext d121).ext c123).ext c127).chg c135 (by omega)
 refine sp rfl (px_load rfl (f141.loadA (vs := [.bool ((mRat c1 n1 z1).1), s46, t46]) (look_lit rfl) Tryd.isAgg30 Tryd.sizeOf30)) ?_
 refine sx_guardT rfl rfl rfl ?_
 have f145 := ((((f59.ext c76).ext d121).ext c123).ext c127).chg c135 (by omega)
 refine sp rfl (px_load rfl (f145.loadA (vs := [.bool ((mRat c1 n1 z1).1), s15, t15]) (look_lit rfl) Tryd.isAgg30 Tryd.sizeOf30)) ?_
 refine sx_guardT rfl rfl rfl ?_
 have f149 := ((((f60.ext c76).ext d121).ext c123).ext c127).chg c135 (by omega)
 have f153 := ((((f61.ext c76).ext d121).ext c123).ext c127).chg c135 (by omega)
 have f157 := ((((f68.ext c76).ext d121).ext c123).ext c127).chg c135 (by omega)
 have f161 := ((((f75.ext c76).ext d121).ext c123).ext c127).chg c135 (by omega)
 refine sx_call rfl rfl Tryd.call8 (c_eqRat f149.sv f153.sv f157.sv f161.sv (by omega)) (fun v162 w162 p162 => ?_)
 obtain ⟨rfl, c162⟩ := p162
 have zw162 := c162.size
 refine sx_guardT rfl rfl rfl ?_
 refine sp rfl (px_notP rfl) ?_
 refine sp rfl (px_pick rfl rfl) ?_
 refine wl_nil (q_n (k137 _ _ ?_))
 refine sx_sub (Sub.c 1 rfl (.c 2 rfl (.c 4 rfl (.c 6 rfl (.c 42 rfl .nil))))) ?_
 have h5259x1 : ¬ (¬ (((mRat c1 n1 z1).1) = ((mRat c1 n1 z1).1) ∧ ((mRat c1 n1 z1).2.1) = ((mRat c1 n1 z1).2.1) ∧ ((mRat c1 n1 z1).2.2.1) = ((mRat c1 n1 z1).2.2.1))) := by simp [mk_length]
 refine sx_condPF rfl h5259x1 ?_
 refine sx_skip ?_
 refine q_n (k136 _ _ ?_)
 refine sx_seq fun K163 k163 => sx_region ?_
 refine av rfl rfl (wl_nil (q_n (k163 _ _ ?_)))
 refine sx_seq fun K164 k164 => sx_region ?_
 have f165 := f141.ext c162
 refine sp rfl (px_load rfl (f165.loadA (vs := [.bool ((mRat c1 n1 z1).1), s46, t46]) (look_lit rfl) Tryd.isAgg30 Tryd.sizeOf30)) ?_
 refine mv rfl rfl ?_
 have f166 := f149.ext c162
 have f167 := f153.ext c162
 refine sx_call rfl rfl Tryd.call11 (c_markRat f166 f167 (by omega) (by first | omega | (simp only [mk_length]; omega)) (by omega)) (fun v168 w168 p168 => ?_)
 obtain ⟨rfl, ov1_168, od1_168, c168⟩ := p168
 have zw168 := c168.size
 refine av rfl rfl (wl_nil (q_n (k164 _ _ ?_)))
 refine sx_seq fun K169 k169 => sx_region ?_
 refine av rfl rfl (wl_nil (q_n (k169 _ _ ?_)))
 refine sx_seq fun K170 k170 => sx_region ?_
 have f171 := f165.chg c168 (by omega)
 refine sp rfl (px_load rfl (f171.loadA (vs := [.bool ((mRat c1 n1 z1).1), s46, t46]) (look_lit rfl) Tryd.isAgg30 Tryd.sizeOf30)) ?_
 refine mv rfl rfl (sx_call rfl rfl Tryd.call12 (c_heldRat ov1_168.sv od1_168.sv (by first | omega | (simp only [mk_length]; omega)) (by first | omega | (simp only [mk_length]; omega)) (by simp [mk_length])) (fun v172 w172 p172 => ?_))
 obtain ⟨rfl, c172⟩ := p172
 have zw172 := c172.size
 refine av rfl rfl (wl_nil (q_n (k170 _ _ ?_)))
 refine sx_seq fun K173 k173 => ?_
 refine sx_seq fun K174 k174 => sx_region ?_
 refine mv rfl rfl (sp rfl (px_lt rfl rfl) ?_)
 refine wl_nil (q_n (k174 _ _ ?_))
 refine sx_sub (Sub.c 1 rfl (.c 2 rfl (.c 4 rfl (.c 6 rfl (.c 8 rfl (.c 9 rfl (.c 50 rfl .nil))))))) ?_
 have h5266 : ¬ (((1 : Int) + ↑((mk (1 : Int) (((mRat c1 n1 z1).2.1)).length)).length + ↑((mk ((1 : Int) + ↑(((mRat c1 n1 z1).2.1)).length) (((mRat c1 n1 z1).2.2.1)).length)).length : Int) < 0) := by omega
 refine sx_condPF rfl h5266 ?_
 refine sx_skip ?_
 refine q_n (k173 _ _ ?_)
 refine sx_seq fun K175 k175 => ?_
 refine sx_seq fun K176 k176 => sx_region ?_
 refine mv rfl rfl (mv rfl rfl (sp rfl (px_ne rfl rfl) ?_))
 refine wl_nil (q_n (k176 _ _ ?_))
 have h5269 : ¬ (((1 : Int) + ↑((mk (1 : Int) (((mRat c1 n1 z1).2.1)).length)).length + ↑((mk ((1 : Int) + ↑(((mRat c1 n1 z1).2.1)).length) (((mRat c1 n1 z1).2.2.1)).length)).length : Int) ≠ (1 : Int) + ↑(((mRat c1 n1 z1).2.1)).length + ↑(((mRat c1 n1 z1).2.2.1)).length) := by simp [mk_length]
 refine sx_condPF rfl h5269 ?_
 refine sx_skip ?_
 refine q_n (k175 _ _ ?_)
 refine sx_seq fun K177 k177 => sx_region ?_
 have f184 := ((((((f89.ext d121).ext c123).ext c127).chg c135 (by omega)).ext c162).chg c168 (by omega)).ext c172
 refine sp rfl (px_load rfl (f184.loadA (vs := [.string c1, .bool n1, v1]) (look_lit rfl) Tryd.isAgg26 Tryd.sizeOf26)) ?_
 have f190 := (((((f122.ext c123).ext c127).chg c135 (by omega)).ext c162).chg c168 (by omega)).ext c172
 refine sx_call rfl rfl Tryd.call6 (c_toMoney f190 (by omega)) (fun v191 w191 p191 => ?_)
 obtain ⟨s2191, rfl, os2_191, c191⟩ := p191
 have zw191 := c191.size
 have f199 := ((((((((f81.ext c76).ext d121).ext c123).ext c127).chg c135 (by omega)).ext c162).chg c168 (by omega)).ext c172).ext c191
 refine sx_call rfl rfl Tryd.call7 (c_iMoneyRat f199 os2_191.sv (by omega)) (fun v200 w200 p200 => ?_)
 obtain ⟨s200, t200, ls200, us200, lt200, ut200, rfl, os_200, ot_200, hd200, hl200, c200⟩ := p200
 have zw200 := c200.size
 refine sx_alloc [.bool false, (.slice none 0 0), (.slice none 0 0)] rfl Tryd.zeroValue30 rfl (fun b201 w202 eb201 sb201 fb201 cb201 => ?_)
 have zw202 := cb201.size
 have f204 := ot_200.ext cb201
 have f205 := os_200.ext cb201
 refine sx_store (vs := [.bool ((mRat c1 n1 z1).1), s200, t200]) rfl rfl fb201 rfl Tryd.sizeOf30 (nbl rfl) (one_cons rfl (one_cons f205.one (one_cons f204.one one_nil))) (fun w203 sw203 fw203 cw203 => ?_)
 have zw203 := cw203.size
 have gw203 : Blk w203 b201 [.bool ((mRat c1 n1 z1).1), s200, t200] 30 := fw203
 refine wl_nil (q_n (k177 _ _ ?_))
 refine sx_seq fun K206 k206 => ?_
 refine sx_seq fun K207 k207 => sx_region ?_
 refine sp rfl (px_load rfl (gw203.loadA (vs := [.bool ((mRat c1 n1 z1).1), s200, t200]) (look_lit rfl) Tryd.isAgg30 Tryd.sizeOf30)) ?_
 have f213 := (((((f145.ext c162).chg c168 (by omega)).ext c172).ext c191).ext c200).ext cb201
 have f214 := f213.chg cw203 (by omega)
 refine sp rfl (px_load rfl (f214.loadA (vs := [.bool ((mRat c1 n1 z1).1), s15, t15]) (look_lit rfl) Tryd.isAgg30 Tryd.sizeOf30)) ?_
 have f215 := f205.chg cw203 (by omega)
 have f216 := f204.chg cw203 (by omega)
 have f222 := (((((f157.ext c162).chg c168 (by omega)).ext c172).ext c191).ext c200).ext cb201
 have f223 := f222.chg cw203 (by omega)
 have f229 := (((((f161.ext c162).chg c168 (by omega)).ext c172).ext c191).ext c200).ext cb201
 have f230 := f229.chg cw203 (by omega)
 refine sx_call rfl rfl Tryd.call8 (c_eqRat f215.sv f216.sv f223.sv f230.sv (by omega)) (fun v231 w231 p231 => ?_)
 obtain ⟨rfl, c231⟩ := p231
 have zw231 := c231.size
 refine sp rfl (px_notP rfl) ?_
 refine wl_nil (q_n (k207 _ _ ?_))
 refine sx_sub (Sub.c 2 rfl (.c 6 rfl (.c 8 rfl (.c 9 rfl (.c 60 rfl .nil))))) ?_
 have h5273 : ¬ (¬ (((mRat c1 n1 z1).1) = ((mRat c1 n1 z1).1) ∧ ((mRat c1 n1 z1).2.1) = ((mRat c1 n1 z1).2.1) ∧ ((mRat c1 n1 z1).2.2.1) = ((mRat c1 n1 z1).2.2.1))) := by simp [mk_length]
 refine sx_condPF rfl h5273 ?_
 refine sx_skip ?_
 refine q_n (k206 _ _ ?_)
 refine sx_seq fun K232 k232 => sx_region ?_
 refine av rfl rfl (wl_nil (q_n (k232 _ _ ?_)))
 refine sx_seq fun K233 k233 => sx_region ?_
 have f237 := (((f171.ext c172).ext c191).ext c200).ext cb201
 have f238 := f237.chg cw203 (by omega)
 have f239 := f238.ext c231
 refine sp rfl (px_load rfl (f239.loadA (vs := [.bool ((mRat c1 n1 z1).1), s46, t46]) (look_lit rfl) Tryd.isAgg30 Tryd.sizeOf30)) ?_
 refine mv rfl rfl ?_
 have f243 := (((ov1_168.ext c172).ext c191).ext c200).ext cb201
 have f244 := f243.chg cw203 (by omega)
 have f245 := f244.ext c231
 have f249 := (((od1_168.ext c172).ext c191).ext c200).ext cb201
 have f250 := f249.chg cw203 (by omega)
 have f251 := f250.ext c231
 refine sx_call rfl rfl Tryd.call12 (c_heldRat f245.sv f251.sv (by first | omega | (simp only [mk_length]; omega)) (by first | omega | (simp only [mk_length]; omega)) (by simp [mk_length])) (fun v252 w252 p252 => ?_)
 obtain ⟨rfl, c252⟩ := p252
 have zw252 := c252.size
 refine av rfl rfl (wl_nil (q_n (k233 _ _ ?_)))
 refine sx_seq fun K253 k253 => ?_
 refine sx_seq fun K254 k254 => sx_region ?_
 refine mv rfl rfl (sp rfl (px_lt rfl rfl) ?_)
 refine wl_nil (q_n (k254 _ _ ?_))
 have h5278 : ¬ (((1 : Int) + ↑((mk (1 : Int) (((mRat c1 n1 z1).2.1)).length)).length + ↑((mk ((1 : Int) + ↑(((mRat c1 n1 z1).2.1)).length) (((mRat c1 n1 z1).2.2.1)).length)).length : Int) < 0) := by omega
 refine sx_condPF rfl h5278 ?_
 refine sx_skip ?_
 refine q_n (k253 _ _ ?_)
 refine sx_seq fun K255 k255 => ?_
 refine sx_seq fun K256 k256 => sx_region ?_
 refine mv rfl rfl (mv rfl rfl (sp rfl (px_ne rfl rfl) ?_))
 refine wl_nil (q_n (k256 _ _ ?_))
 have h5281 : ¬ (((1 : Int) + ↑((mk (1 : Int) (((mRat c1 n1 z1).2.1)).length)).length + ↑((mk ((1 : Int) + ↑(((mRat c1 n1 z1).2.1)).length) (((mRat c1 n1 z1).2.2.1)).length)).length : Int) ≠ (1 : Int) + ↑(((mRat c1 n1 z1).2.1)).length + ↑(((mRat c1 n1 z1).2.2.1)).length) := by simp [mk_length]
 refine sx_condPF rfl h5281 ?_
 refine sx_skip ?_
 refine q_n (k255 _ _ ?_)
 refine sx_seq fun K257 k257 => sx_region ?_
 refine av rfl rfl (wl_nil (q_n (k257 _ _ ?_)))
 refine sx_retc ?_
 refine sx_ret1 Tryd.results3 rfl ?_
 have q258 := Chg.step (l := 0) (h := 0) (Chg.zero (l := 0) (h := 0) ((((cb2.t c7).t c14).t c15).t cb16)) cw18 (by omega)
 have q259 := Chg.step (l := 0) (h := 0) q258 (c30.t cb31) (by omega)
 have q260 := Chg.step (l := 0) (h := 0) q259 cw33 (by omega)
 have q261 := Chg.step (l := 0) (h := 0) q260 (c46.t cb47) (by omega)
 have q262 := Chg.step (l := 0) (h := 0) q261 cw49 (by omega)
 have q263 := Chg.step (l := 0) (h := 0) q262 (((c76.t d121).t c123).t c127) (by omega)
 have q264 := Chg.step (l := 0) (h := 0) q263 c135 (by omega)
 have q265 := Chg.step (l := 0) (h := 0) q264 c162 (by omega)
 have q266 := Chg.step (l := 0) (h := 0) q265 c168 (by omega)
 have q267 := Chg.step (l := 0) (h := 0) q266 (((c172.t c191).t c200).t cb201) (by omega)
 have q268 := Chg.step (l := 0) (h := 0) q267 cw203 (by omega)
 have q269 := Chg.step (l := 0) (h := 0) q268 (c231.t c252) (by omega)
 exact ⟨rfl, q269⟩

end Go.Proofs.YtnpjfkhleaegmaaDoor
