/- Contracts of functions of the program: what each call returns, and that it changes nothing that was. Conditions: as each says. -/
import Derived.Test.YtoeclobdbblohaaGreatDoorTy
import Derived.Test.YtoeclobdbblohaaGreatDoorNatJ
import Derived.Test.YtoeclobdbblohaaGreatDoorSxB
import Derived.Test.YtoeclobdbblohaaGreatDoorPair
import Derived.Test.YtoeclobdbblohaaGreatDoorSxW
import Derived.Test.YtoeclobdbblohaaGreatDoorNatI
import Derived.Test.YtoeclobdbblohaaGreatDoorTab
import Derived.Test.YtoeclobdbblohaaGreatDoorLay
import Derived.Test.YtoeclobdbblohaaGreatDoorLayB
import Derived.Test.YtoeclobdbblohaaGreatDoorNatX
import Derived.Test.YtoeclobdbblohaaGreatDoorSxP
import Derived.Test.YtoeclobdbblohaaGreatDoorP0
import Derived.Test.YtoeclobdbblohaaGreatDoorNatDx
set_option linter.unusedVariables false
set_option linter.unusedSimpArgs false
namespace Go.Proofs.YtoeclobdbblohaaGreatDoor
open Go Go.RowKit
set_option maxRecDepth 100000
theorem c_l10Table {w : World} {c : Nat} {vb : Value} {lvb uvb : Nat} {bs : List Int} {i : Int} {h : Int} (hc : Blk w c [vb, .int .i64 i, .int .i64 h] 97) (hvb : SlB w lvb uvb vb (bs)) (hb8 : ∀ j, j < bs.length → 0 ≤ bs.getD j 0 ∧ bs.getD j 0 ≤ 255) (hbl : bs.length ≤ 1048576) (hi : 0 ≤ i ∧ i ≤ bs.length) (hdis : uvb ≤ c) :
  Ret Tryz.prog 50 [.pointer (some ⟨c, 0, none⟩)] w fun v w' => ∃ s qv ts us i2 h2, v = .agg #[.string (qv), s] ∧ RtS w' (w.heap.size) (w'.heap.size) s (ts) us ∧ Blk w' c [vb, .int .i64 (i2), .int .i64 (h2)] 97 ∧ (RsOk qv ts) ∧ (∀ i, i < (ts).length → SmR ((ts).getD i rt0)) ∧ ((ts).length ≤ 7) ∧ (0 ≤ i2 ∧ i2 ≤ (bs).length) ∧ Chg c (c + 1) w w' := by
 have clt := hc.lt
 have clt := hc.lt
 have hkn3 : ∀ s ∈ ([⟨#[69, 85, 82]⟩, ⟨#[69, 85, 82]⟩, ⟨#[85, 83, 68]⟩] : List ByteArray), Known s := by decide
 refine sx_enter Tryz.func50 rfl Tryz.ntmps50 (nbl rfl) ?_
 refine sx_seq fun K1 k1 => sx_region ?_
 refine sx_alloc [.string (⟨#[]⟩), (.slice none 0 0)] rfl Tryz.zeroValue47 rfl (fun b2 w3 eb2 sb2 fb2 cb2 => ?_)
 have zw3 := cb2.size
 refine wl_nil (q_n (k1 _ _ ?_))
 refine sx_seq fun K4 k4 => sx_region ?_
 refine mv rfl rfl ?_
 refine sx_lit3 rfl xelt65 rfl rfl rfl rfl rfl rfl (fun s5 ws5 ss5 fs5 cs5 => ?_)
 have ns5 := Own.norm (f := Value.string) (zs := [⟨#[69, 85, 82]⟩, ⟨#[69, 85, 82]⟩, ⟨#[85, 83, 68]⟩]) fs5
 have zws5 := cs5.size
 have f6 := hc.ext cb2
 have f7 := f6.ext cs5
 have f8 := hvb.ext cb2
 have f9 := f8.ext cs5
 refine sx_call rfl rfl Tryz.call84 (c_l01Str f7 f9 ns5.sv (by assumption) (by omega) (by omega) (by omega) (by first | omega | decide | simp) (by omega)) (fun v10 w10 p10 => ?_)
 obtain ⟨s10, i210, h210, rfl, xc_10, hx10, hi210, c10⟩ := p10
 have zw10 := c10.size
 refine sp rfl (px_build rfl (xbld47x0 rfl _)) ?_
 refine sx_alloc [.string (⟨#[]⟩), (.slice none 0 0)] rfl Tryz.zeroValue47 rfl (fun b11 w12 eb11 sb11 fb11 cb11 => ?_)
 have zw12 := cb11.size
 refine sx_store (vs := [.string s10, (.slice none 0 0)]) rfl rfl fb11 rfl Tryz.sizeOf47 (nbl rfl) (o2 rfl rfl) (fun w13 sw13 fw13 cw13 => ?_)
 have zw13 := cw13.size
 have gw13 : Blk w13 b11 [.string s10, (.slice none 0 0)] 47 := fw13
 refine wl_nil (q_n (k4 _ _ ?_))
 refine sx_seq fun K14 k14 => ?_
 refine sx_seq fun K15 k15 => sx_region ?_
 refine mv rfl rfl ?_
 have f16 := xc_10.ext cb11
 have f17 := f16.chg cw13 (by omega)
 have f19 := (f9.chg c10 (by omega)).ext cb11
 have f20 := f19.chg cw13 (by omega)
 refine sx_call rfl rfl Tryz.call54 (c_l01Below f17 f20 (by assumption) (by omega) (by omega) (by omega) (by omega)) (fun v21 w21 p21 => ?_)
 obtain ⟨x21, i221, h221, rfl, xc_21, hx21, hi221, c21⟩ := p21
 have zw21 := c21.size
 refine av rfl rfl (wl_nil (q_n (k15 _ _ ?_)))
 refine sx_block ?_
 have hkp : Known s10 := hkn3 _ (by assumption)
 have f23 := fb2.ext cs5
 have f25 := (f23.chg c10 (by omega)).ext cb11
 have f26 := f25.chg cw13 (by omega)
 have f27 := f26.chg c21 (by omega)
 have f28 := gw13.chg c21 (by omega)
 have q29 := Chg.step (l := c) (h := (c + 1)) (Chg.zero (l := c) (h := (c + 1)) (cb2.t cs5)) c10 (by omega)
 have q30 := Chg.step (l := c) (h := (c + 1)) q29 cb11 (by omega)
 have q31 := Chg.step (l := c) (h := (c + 1)) q30 cw13 (by omega)
 have q32 := Chg.step (l := c) (h := (c + 1)) q31 c21 (by omega)
 refine sx_loop (fun mm aa w' => ∃ (n2 : Int) (s : Value) (ts : List Rt) (us : List Value) (i2 : Int) (h2 : Int), Agr 41 [(0, .pointer (some ⟨c, 0, none⟩)), (2, .pointer (some ⟨b2, 0, none⟩)), (3, .pointer (some ⟨b11, 0, none⟩)), (4, .int .i64 n2)] aa ∧ Chg c (c + 1) w w' ∧ Blk w' c [vb, .int .i64 i2, .int .i64 h2] 97 ∧ Blk w' b2 [.string (⟨#[]⟩), (.slice none 0 0)] 47 ∧ Blk w' b11 [.string s10, s] 47 ∧ RtS w' w21.heap.size w'.heap.size s (ts) us ∧ (mm = n2.toNat) ∧ (RsOk s10 ts) ∧ (∀ i, i < (ts).length → SmR ((ts).getD i rt0)) ∧ (0 ≤ n2 ∧ n2 ≤ 7) ∧ ((ts.length : Int) + n2 ≤ 7) ∧ (0 ≤ i2 ∧ i2 ≤ bs.length) ∧ (w21.heap.size ≤ w'.heap.size)) (_) (fun a ha => ⟨x21, (.slice none 0 0), [], [], i221, h221, ha.sub (Sub.c 0 rfl (.c 2 rfl (.c 3 rfl (.c 4 (look_int (t := 4) rfl (by first | omega | simp)) .nil)))), q32, xc_21, f27, f28, ((RtS.nil w21 w21.heap.size w21.heap.size).mono (by omega) (by omega)), rfl, RsOk_nil hkp, fun i hi => by simp at hi, by omega, by simp only [List.length_nil]; omega, by omega, by omega⟩) ?_
 rintro mm aa wl22 ⟨n2, s, ts, us, i2, h2, hAwl22, cwl22, hb_c, hb_b2, hb_b11, hs_s, hm, hT, hsm, hn, hlen, hi2, hlo⟩
 refine (show cw Tryz.prog 41 _ _ _ wl22 from ?_) aa hAwl22
 clear hAwl22
 have zwl22 := cwl22.size
 have lt33 := hb_c.lt
 have lt34 := hb_b2.lt
 have lt35 := hb_b11.lt
 have hl12 := hT.2.1
 have hzs := sm_hz hsm
 refine sx_seq fun K36 k36 => ?_
 refine sx_seq fun K37 k37 => sx_region ?_
 refine mv rfl rfl (sp rfl (px_gt rfl rfl) ?_)
 refine wl_nil (q_n (k37 _ _ ?_))
 refine sx_condP rfl (fun h182 => ?_) (fun h182 => ?_)
 ·
  refine sx_skip ?_
  refine q_n (k36 _ _ ?_)
  refine sx_seq fun K38 k38 => ?_
  refine sx_block ?_
  refine sx_seq fun K39 k39 => sx_region ?_
  refine mv rfl rfl ?_
  have f40 := hvb.chg cwl22 (by omega)
  refine sx_call rfl rfl Tryz.call85 (c_l10Draw hb_c f40 (by assumption) (by omega) (by omega) (by omega)) (fun v41 w41 p41 => ?_)
  obtain ⟨s41, a41, b41, x41, p41, i241, h241, rfl, os_41, xc_41, hab41, hx41, hp41, hi241, c41⟩ := p41
  have zw41 := c41.size
  refine sx_alloc [.string (⟨#[]⟩), .string (⟨#[]⟩), .bool false, (.slice none 0 0), .int .i64 0] rfl Tryz.zeroValue54 rfl (fun b42 w43 eb42 sb42 fb42 cb42 => ?_)
  have zw43 := cb42.size
  have f45 := os_41.ext cb42
  refine sx_store (vs := [.string a41, .string b41, .bool (ng x41), s41, .int .i64 p41]) rfl rfl fb42 rfl Tryz.sizeOf54 (nbl rfl) (one_cons rfl (one_cons rfl (one_cons rfl (one_cons f45.one (o1 rfl))))) (fun w44 sw44 fw44 cw44 => ?_)
  have zw44 := cw44.size
  have gw44 : Blk w44 b42 [.string a41, .string b41, .bool (ng x41), s41, .int .i64 p41] 54 := fw44
  refine wl_nil (q_n (k39 _ _ ?_))
  refine sx_seq fun K46 k46 => ?_
  refine sx_seq fun K47 k47 => sx_region ?_
  refine mv rfl rfl ?_
  have f48 := xc_41.ext cb42
  have f49 := f48.chg cw44 (by omega)
  have f51 := (f40.chg c41 (by omega)).ext cb42
  have f52 := f51.chg cw44 (by omega)
  refine sx_call rfl rfl Tryz.call86 (c_l01Once f49 f52 (by assumption) (by omega) (by omega) (by omega) (by omega)) (fun v53 w53 p53 => ?_)
  obtain ⟨x53, i253, h253, rfl, xc_53, hx53, hi253, c53⟩ := p53
  have zw53 := c53.size
  refine mv rfl rfl ?_
  refine sx_tmpP (t := 22) rfl (fun h184 => ?_) (fun h184 => ?_)
  ·
   refine sx_guardT rfl rfl rfl ?_
   refine sp rfl (px_field rfl xfld54x0) ?_
   refine sx_guardT rfl rfl rfl ?_
   have f54 := gw44.chg c53 (by omega)
   refine sp rfl (px_load rfl (f54.load1 rfl Tryz.isAgg9)) ?_
   refine sx_guardT rfl rfl rfl ?_
   refine sp rfl (px_field rfl xfld47x0) ?_
   refine sx_guardT rfl rfl rfl ?_
   have f56 := (hb_b11.chg c41 (by omega)).ext cb42
   have f57 := f56.chg cw44 (by omega)
   have f58 := f57.chg c53 (by omega)
   refine sp rfl (px_load rfl (f58.load1 rfl Tryz.isAgg9)) ?_
   refine sx_guardT rfl rfl rfl ?_
   refine sp rfl (px_neS rfl rfl) ?_
   refine sp rfl (px_pick rfl rfl) ?_
   refine wl_nil (q_n (k47 _ _ ?_))
   refine sx_sub (Sub.c 0 rfl (.c 2 rfl (.c 3 rfl (.c 4 rfl (.c 5 rfl (.c 28 rfl .nil)))))) ?_
   refine sx_condP rfl (fun h184x1 => ?_) (fun h184x1 => ?_)
   ·
    refine sx_region ?_
    refine sp rfl (px_field rfl xfld47x0) ?_
    refine sp rfl (px_load rfl (f58.load1 rfl Tryz.isAgg9)) ?_
    refine sp rfl (px_field rfl xfld54x1) ?_
    refine sx_store (vs := [.string s10]) rfl rfl f54 rfl Tryz.sizeOf9 (nbl rfl) (o1 rfl) (fun w59 sw59 fw59 cw59 => ?_)
    have zw59 := cw59.size
    have gw59 : Blk w59 b42 [.string a41, .string s10, .bool (ng x41), s41, .int .i64 p41] 54 := fw59
    refine wl_nil (q_n (k46 _ _ ?_))
    refine sx_seq fun K60 k60 => sx_region ?_
    have f61 := f58.chg cw59 (by omega)
    refine sp rfl (px_load rfl (f61.loadA (vs := [.string s10, s]) (look_lit rfl) Tryz.isAgg47 Tryz.sizeOf47)) ?_
    refine sp rfl (px_load rfl (gw59.loadA (vs := [.string a41, .string s10, .bool (ng x41), s41, .int .i64 p41]) (look_lit rfl) Tryz.isAgg54 Tryz.sizeOf54)) ?_
    have f63 := (hs_s.chg c41 (by omega)).ext cb42
    have f64 := f63.chg cw44 (by omega)
    have f66 := (f64.chg c53 (by omega)).chg cw59 (by omega)
    have f67 := f45.chg cw44 (by omega)
    have f69 := (f67.chg c53 (by omega)).chg cw59 (by omega)
    refine sx_call rfl rfl Tryz.call87 (c_sRatePutT f66 f69.sv (by omega) (hzs) (Nat.le_trans (dg_len_le (k := 1) (by simp only [Bs]; omega)) (by decide)) (by assumption) (by assumption) (⟨ng_false.2 (by omega), ⟨_, rfl, by omega, by omega⟩, by dsimp only; omega, by dsimp only; omega⟩)) (fun v70 w70 p70 => ?_)
    obtain ⟨s70, qv70, ts270, us70, ok70, rfl, os_70, hok70, hle70, c70⟩ := p70
    have zw70 := c70.size
    refine mv rfl rfl (sp rfl (px_ex2 rfl rfl) ?_)
    refine sp rfl (px_ex2 rfl rfl) ?_
    refine sx_alloc [.string (⟨#[]⟩), (.slice none 0 0)] rfl Tryz.zeroValue47 rfl (fun b71 w72 eb71 sb71 fb71 cb71 => ?_)
    have zw72 := cb71.size
    have f74 := os_70.ext cb71
    refine sx_store (vs := [.string qv70, s70]) rfl rfl fb71 rfl Tryz.sizeOf47 (nbl rfl) (one_cons rfl (one_cons (f74).toS.one one_nil)) (fun w73 sw73 fw73 cw73 => ?_)
    have zw73 := cw73.size
    have gw73 : Blk w73 b71 [.string qv70, s70] 47 := fw73
    refine av rfl rfl (wl_nil (q_n (k60 _ _ ?_)))
    refine sx_sub (Sub.c 0 rfl (.c 2 rfl (.c 3 rfl (.c 4 rfl (.c 6 rfl (.c 7 rfl .nil)))))) ?_
    refine sx_seq fun K75 k75 => sx_region ?_
    refine mv rfl rfl (wl_nil (q_n (k75 _ _ ?_)))
    refine sx_condB rfl (fun h188 => ?_) (fun h188 => ?_)
    ·
     obtain ⟨rfl, hT2, hsm2⟩ := hok70 h188
     refine sx_region ?_
     refine sp rfl (px_load rfl (gw73.loadA (vs := [.string (s10), s70]) (look_lit rfl) Tryz.isAgg47 Tryz.sizeOf47)) ?_
     have f78 := (f61.ext c70).ext cb71
     have f79 := f78.chg cw73 (by omega)
     have f80 := f74.chg cw73 (by omega)
     refine sx_store (vs := [.string (s10), s70]) rfl rfl f79 rfl Tryz.sizeOf47 (nbl rfl) (one_cons rfl (one_cons (f80).toS.one one_nil)) (fun w76 sw76 fw76 cw76 => ?_)
     have zw76 := cw76.size
     have gw76 : Blk w76 b11 [.string (s10), s70] 47 := fw76
     refine wl_nil ?_
     refine q_bn (q_n (k38 _ _ ?_))
     refine sx_region ?_
     refine mv rfl rfl (sp rfl (px_sub rfl rfl (by omega)) ?_)
     refine av rfl rfl (wl_nil ?_)
     have q81 := Chg.step (l := c) (h := (c + 1)) cwl22 c41 (by omega)
     have q82 := Chg.step (l := c) (h := (c + 1)) q81 cb42 (by omega)
     have q83 := Chg.step (l := c) (h := (c + 1)) q82 cw44 (by omega)
     have q84 := Chg.step (l := c) (h := (c + 1)) q83 c53 (by omega)
     have q85 := Chg.step (l := c) (h := (c + 1)) q84 cw59 (by omega)
     have q86 := Chg.step (l := c) (h := (c + 1)) q85 (c70.t cb71) (by omega)
     have q87 := Chg.step (l := c) (h := (c + 1)) q86 cw73 (by omega)
     have q88 := Chg.step (l := c) (h := (c + 1)) q87 cw76 (by omega)
     have f89 := xc_53.chg cw59 (by omega)
     have f91 := (f89.ext c70).ext cb71
     have f92 := f91.chg cw73 (by omega)
     have f93 := f92.chg cw76 (by omega)
     have f95 := (hb_b2.chg c41 (by omega)).ext cb42
     have f96 := f95.chg cw44 (by omega)
     have f98 := (f96.chg c53 (by omega)).chg cw59 (by omega)
     have f100 := (f98.ext c70).ext cb71
     have f101 := f100.chg cw73 (by omega)
     have f102 := f101.chg cw76 (by omega)
     have f103 := f80.chg cw76 (by omega)
     exact fun a ha => ⟨_, by omega, (n2 - 1), s70, ts270, us70, i253, h253, ha.sub (Sub.c 0 rfl (.c 2 rfl (.c 3 rfl (.c 4 (look_int (t := 4) rfl (by first | omega | simp)) .nil)))), q88, f93, f102, gw76, ((f103).toS.mono (by omega) (by omega)), rfl, by assumption, by assumption, by omega, by omega, by omega, by omega⟩
    refine sx_skip ?_
    refine q_bn (q_n (k38 _ _ ?_))
    refine sx_region ?_
    refine mv rfl rfl (sp rfl (px_sub rfl rfl (by omega)) ?_)
    refine av rfl rfl (wl_nil ?_)
    have q104 := Chg.step (l := c) (h := (c + 1)) cwl22 c41 (by omega)
    have q105 := Chg.step (l := c) (h := (c + 1)) q104 cb42 (by omega)
    have q106 := Chg.step (l := c) (h := (c + 1)) q105 cw44 (by omega)
    have q107 := Chg.step (l := c) (h := (c + 1)) q106 c53 (by omega)
    have q108 := Chg.step (l := c) (h := (c + 1)) q107 cw59 (by omega)
    have q109 := Chg.step (l := c) (h := (c + 1)) q108 (c70.t cb71) (by omega)
    have q110 := Chg.step (l := c) (h := (c + 1)) q109 cw73 (by omega)
    have f111 := xc_53.chg cw59 (by omega)
    have f113 := (f111.ext c70).ext cb71
    have f114 := f113.chg cw73 (by omega)
    have f116 := (hb_b2.chg c41 (by omega)).ext cb42
    have f117 := f116.chg cw44 (by omega)
    have f119 := (f117.chg c53 (by omega)).chg cw59 (by omega)
    have f121 := (f119.ext c70).ext cb71
    have f122 := f121.chg cw73 (by omega)
    have f124 := (f61.ext c70).ext cb71
    have f125 := f124.chg cw73 (by omega)
    have f127 := (f66.ext c70).ext cb71
    have f128 := f127.chg cw73 (by omega)
    exact fun a ha => ⟨_, by omega, (n2 - 1), s, ts, us, i253, h253, ha.sub (Sub.c 0 rfl (.c 2 rfl (.c 3 rfl (.c 4 (look_int (t := 4) rfl (by first | omega | simp)) .nil)))), q110, f114, f122, f125, (f128.mono (by omega) (by omega)), rfl, by assumption, by assumption, by omega, by omega, by omega, by omega⟩
   refine sx_skip ?_
   refine q_n (k46 _ _ ?_)
   refine sx_seq fun K129 k129 => sx_region ?_
   refine sp rfl (px_load rfl (f58.loadA (vs := [.string s10, s]) (look_lit rfl) Tryz.isAgg47 Tryz.sizeOf47)) ?_
   refine sp rfl (px_load rfl (f54.loadA (vs := [.string a41, .string b41, .bool (ng x41), s41, .int .i64 p41]) (look_lit rfl) Tryz.isAgg54 Tryz.sizeOf54)) ?_
   have f131 := (hs_s.chg c41 (by omega)).ext cb42
   have f132 := f131.chg cw44 (by omega)
   have f133 := f132.chg c53 (by omega)
   have f134 := f45.chg cw44 (by omega)
   have f135 := f134.chg c53 (by omega)
   refine sx_call rfl rfl Tryz.call87 (c_sRatePutT f133 f135.sv (by omega) (hzs) (Nat.le_trans (dg_len_le (k := 1) (by simp only [Bs]; omega)) (by decide)) (by assumption) (by assumption) (⟨ng_false.2 (by omega), ⟨_, rfl, by omega, by omega⟩, by dsimp only; omega, by dsimp only; omega⟩)) (fun v136 w136 p136 => ?_)
   obtain ⟨s136, qv136, ts2136, us136, ok136, rfl, os_136, hok136, hle136, c136⟩ := p136
   have zw136 := c136.size
   refine mv rfl rfl (sp rfl (px_ex2 rfl rfl) ?_)
   refine sp rfl (px_ex2 rfl rfl) ?_
   refine sx_alloc [.string (⟨#[]⟩), (.slice none 0 0)] rfl Tryz.zeroValue47 rfl (fun b137 w138 eb137 sb137 fb137 cb137 => ?_)
   have zw138 := cb137.size
   have f140 := os_136.ext cb137
   refine sx_store (vs := [.string qv136, s136]) rfl rfl fb137 rfl Tryz.sizeOf47 (nbl rfl) (one_cons rfl (one_cons (f140).toS.one one_nil)) (fun w139 sw139 fw139 cw139 => ?_)
   have zw139 := cw139.size
   have gw139 : Blk w139 b137 [.string qv136, s136] 47 := fw139
   refine av rfl rfl (wl_nil (q_n (k129 _ _ ?_)))
   refine sx_seq fun K141 k141 => sx_region ?_
   refine mv rfl rfl (wl_nil (q_n (k141 _ _ ?_)))
   refine sx_sub (Sub.c 0 rfl (.c 2 rfl (.c 3 rfl (.c 4 rfl (.c 6 rfl (.c 38 rfl .nil)))))) ?_
   refine sx_condB rfl (fun h188 => ?_) (fun h188 => ?_)
   ·
    obtain ⟨rfl, hT2, hsm2⟩ := hok136 h188
    refine sx_region ?_
    refine sp rfl (px_load rfl (gw139.loadA (vs := [.string (s10), s136]) (look_lit rfl) Tryz.isAgg47 Tryz.sizeOf47)) ?_
    have f144 := (f58.ext c136).ext cb137
    have f145 := f144.chg cw139 (by omega)
    have f146 := f140.chg cw139 (by omega)
    refine sx_store (vs := [.string (s10), s136]) rfl rfl f145 rfl Tryz.sizeOf47 (nbl rfl) (one_cons rfl (one_cons (f146).toS.one one_nil)) (fun w142 sw142 fw142 cw142 => ?_)
    have zw142 := cw142.size
    have gw142 : Blk w142 b11 [.string (s10), s136] 47 := fw142
    refine wl_nil ?_
    refine q_bn (q_n (k38 _ _ ?_))
    refine sx_region ?_
    refine mv rfl rfl (sp rfl (px_sub rfl rfl (by omega)) ?_)
    refine av rfl rfl (wl_nil ?_)
    have q147 := Chg.step (l := c) (h := (c + 1)) cwl22 c41 (by omega)
    have q148 := Chg.step (l := c) (h := (c + 1)) q147 cb42 (by omega)
    have q149 := Chg.step (l := c) (h := (c + 1)) q148 cw44 (by omega)
    have q150 := Chg.step (l := c) (h := (c + 1)) q149 c53 (by omega)
    have q151 := Chg.step (l := c) (h := (c + 1)) q150 (c136.t cb137) (by omega)
    have q152 := Chg.step (l := c) (h := (c + 1)) q151 cw139 (by omega)
    have q153 := Chg.step (l := c) (h := (c + 1)) q152 cw142 (by omega)
    have f155 := (xc_53.ext c136).ext cb137
    have f156 := f155.chg cw139 (by omega)
    have f157 := f156.chg cw142 (by omega)
    have f159 := (hb_b2.chg c41 (by omega)).ext cb42
    have f160 := f159.chg cw44 (by omega)
    have f163 := ((f160.chg c53 (by omega)).ext c136).ext cb137
    have f164 := f163.chg cw139 (by omega)
    have f165 := f164.chg cw142 (by omega)
    have f166 := f146.chg cw142 (by omega)
    exact fun a ha => ⟨_, by omega, (n2 - 1), s136, ts2136, us136, i253, h253, ha.sub (Sub.c 0 rfl (.c 2 rfl (.c 3 rfl (.c 4 (look_int (t := 4) rfl (by first | omega | simp)) .nil)))), q153, f157, f165, gw142, ((f166).toS.mono (by omega) (by omega)), rfl, by assumption, by assumption, by omega, by omega, by omega, by omega⟩
   refine sx_skip ?_
   refine q_bn (q_n (k38 _ _ ?_))
   refine sx_region ?_
   refine mv rfl rfl (sp rfl (px_sub rfl rfl (by omega)) ?_)
   refine av rfl rfl (wl_nil ?_)
   have q167 := Chg.step (l := c) (h := (c + 1)) cwl22 c41 (by omega)
   have q168 := Chg.step (l := c) (h := (c + 1)) q167 cb42 (by omega)
   have q169 := Chg.step (l := c) (h := (c + 1)) q168 cw44 (by omega)
   have q170 := Chg.step (l := c) (h := (c + 1)) q169 c53 (by omega)
   have q171 := Chg.step (l := c) (h := (c + 1)) q170 (c136.t cb137) (by omega)
   have q172 := Chg.step (l := c) (h := (c + 1)) q171 cw139 (by omega)
   have f174 := (xc_53.ext c136).ext cb137
   have f175 := f174.chg cw139 (by omega)
   have f177 := (hb_b2.chg c41 (by omega)).ext cb42
   have f178 := f177.chg cw44 (by omega)
   have f181 := ((f178.chg c53 (by omega)).ext c136).ext cb137
   have f182 := f181.chg cw139 (by omega)
   have f184 := (f58.ext c136).ext cb137
   have f185 := f184.chg cw139 (by omega)
   have f187 := (f133.ext c136).ext cb137
   have f188 := f187.chg cw139 (by omega)
   exact fun a ha => ⟨_, by omega, (n2 - 1), s, ts, us, i253, h253, ha.sub (Sub.c 0 rfl (.c 2 rfl (.c 3 rfl (.c 4 (look_int (t := 4) rfl (by first | omega | simp)) .nil)))), q172, f175, f182, f185, (f188.mono (by omega) (by omega)), rfl, by assumption, by assumption, by omega, by omega, by omega, by omega⟩
  refine sx_guardF rfl rfl rfl rfl rfl rfl ?_
  refine sx_guardF rfl rfl rfl rfl rfl rfl ?_
  refine sx_guardF rfl rfl rfl rfl rfl rfl ?_
  refine sx_guardF rfl rfl rfl rfl rfl rfl ?_
  refine sx_guardF rfl rfl rfl rfl rfl rfl ?_
  refine sp rfl (px_pick rfl rfl) ?_
  refine wl_nil (q_n (k47 _ _ ?_))
  refine sx_sub (Sub.c 0 rfl (.c 2 rfl (.c 3 rfl (.c 4 rfl (.c 5 rfl (.c 28 rfl .nil)))))) ?_
  refine sx_condF rfl ?_
  refine sx_skip ?_
  refine q_n (k46 _ _ ?_)
  refine sx_seq fun K189 k189 => sx_region ?_
  have f191 := (hb_b11.chg c41 (by omega)).ext cb42
  have f192 := f191.chg cw44 (by omega)
  have f193 := f192.chg c53 (by omega)
  refine sp rfl (px_load rfl (f193.loadA (vs := [.string s10, s]) (look_lit rfl) Tryz.isAgg47 Tryz.sizeOf47)) ?_
  have f194 := gw44.chg c53 (by omega)
  refine sp rfl (px_load rfl (f194.loadA (vs := [.string a41, .string b41, .bool (ng x41), s41, .int .i64 p41]) (look_lit rfl) Tryz.isAgg54 Tryz.sizeOf54)) ?_
  have f196 := (hs_s.chg c41 (by omega)).ext cb42
  have f197 := f196.chg cw44 (by omega)
  have f198 := f197.chg c53 (by omega)
  have f199 := f45.chg cw44 (by omega)
  have f200 := f199.chg c53 (by omega)
  refine sx_call rfl rfl Tryz.call87 (c_sRatePutT f198 f200.sv (by omega) (hzs) (Nat.le_trans (dg_len_le (k := 1) (by simp only [Bs]; omega)) (by decide)) (by assumption) (by assumption) (⟨ng_false.2 (by omega), ⟨_, rfl, by omega, by omega⟩, by dsimp only; omega, by dsimp only; omega⟩)) (fun v201 w201 p201 => ?_)
  obtain ⟨s201, qv201, ts2201, us201, ok201, rfl, os_201, hok201, hle201, c201⟩ := p201
  have zw201 := c201.size
  refine mv rfl rfl (sp rfl (px_ex2 rfl rfl) ?_)
  refine sp rfl (px_ex2 rfl rfl) ?_
  refine sx_alloc [.string (⟨#[]⟩), (.slice none 0 0)] rfl Tryz.zeroValue47 rfl (fun b202 w203 eb202 sb202 fb202 cb202 => ?_)
  have zw203 := cb202.size
  have f205 := os_201.ext cb202
  refine sx_store (vs := [.string qv201, s201]) rfl rfl fb202 rfl Tryz.sizeOf47 (nbl rfl) (one_cons rfl (one_cons (f205).toS.one one_nil)) (fun w204 sw204 fw204 cw204 => ?_)
  have zw204 := cw204.size
  have gw204 : Blk w204 b202 [.string qv201, s201] 47 := fw204
  refine av rfl rfl (wl_nil (q_n (k189 _ _ ?_)))
  refine sx_seq fun K206 k206 => sx_region ?_
  refine mv rfl rfl (wl_nil (q_n (k206 _ _ ?_)))
  refine sx_sub (Sub.c 0 rfl (.c 2 rfl (.c 3 rfl (.c 4 rfl (.c 6 rfl (.c 38 rfl .nil)))))) ?_
  refine sx_condB rfl (fun h188 => ?_) (fun h188 => ?_)
  ·
   obtain ⟨rfl, hT2, hsm2⟩ := hok201 h188
   refine sx_region ?_
   refine sp rfl (px_load rfl (gw204.loadA (vs := [.string (s10), s201]) (look_lit rfl) Tryz.isAgg47 Tryz.sizeOf47)) ?_
   have f209 := (f193.ext c201).ext cb202
   have f210 := f209.chg cw204 (by omega)
   have f211 := f205.chg cw204 (by omega)
   refine sx_store (vs := [.string (s10), s201]) rfl rfl f210 rfl Tryz.sizeOf47 (nbl rfl) (one_cons rfl (one_cons (f211).toS.one one_nil)) (fun w207 sw207 fw207 cw207 => ?_)
   have zw207 := cw207.size
   have gw207 : Blk w207 b11 [.string (s10), s201] 47 := fw207
   refine wl_nil ?_
   refine q_bn (q_n (k38 _ _ ?_))
   refine sx_region ?_
   refine mv rfl rfl (sp rfl (px_sub rfl rfl (by omega)) ?_)
   refine av rfl rfl (wl_nil ?_)
   have q212 := Chg.step (l := c) (h := (c + 1)) cwl22 c41 (by omega)
   have q213 := Chg.step (l := c) (h := (c + 1)) q212 cb42 (by omega)
   have q214 := Chg.step (l := c) (h := (c + 1)) q213 cw44 (by omega)
   have q215 := Chg.step (l := c) (h := (c + 1)) q214 c53 (by omega)
   have q216 := Chg.step (l := c) (h := (c + 1)) q215 (c201.t cb202) (by omega)
   have q217 := Chg.step (l := c) (h := (c + 1)) q216 cw204 (by omega)
   have q218 := Chg.step (l := c) (h := (c + 1)) q217 cw207 (by omega)
   have f220 := (xc_53.ext c201).ext cb202
   have f221 := f220.chg cw204 (by omega)
   have f222 := f221.chg cw207 (by omega)
   have f224 := (hb_b2.chg c41 (by omega)).ext cb42
   have f225 := f224.chg cw44 (by omega)
   have f228 := ((f225.chg c53 (by omega)).ext c201).ext cb202
   have f229 := f228.chg cw204 (by omega)
   have f230 := f229.chg cw207 (by omega)
   have f231 := f211.chg cw207 (by omega)
   exact fun a ha => ⟨_, by omega, (n2 - 1), s201, ts2201, us201, i253, h253, ha.sub (Sub.c 0 rfl (.c 2 rfl (.c 3 rfl (.c 4 (look_int (t := 4) rfl (by first | omega | simp)) .nil)))), q218, f222, f230, gw207, ((f231).toS.mono (by omega) (by omega)), rfl, by assumption, by assumption, by omega, by omega, by omega, by omega⟩
  refine sx_skip ?_
  refine q_bn (q_n (k38 _ _ ?_))
  refine sx_region ?_
  refine mv rfl rfl (sp rfl (px_sub rfl rfl (by omega)) ?_)
  refine av rfl rfl (wl_nil ?_)
  have q232 := Chg.step (l := c) (h := (c + 1)) cwl22 c41 (by omega)
  have q233 := Chg.step (l := c) (h := (c + 1)) q232 cb42 (by omega)
  have q234 := Chg.step (l := c) (h := (c + 1)) q233 cw44 (by omega)
  have q235 := Chg.step (l := c) (h := (c + 1)) q234 c53 (by omega)
  have q236 := Chg.step (l := c) (h := (c + 1)) q235 (c201.t cb202) (by omega)
  have q237 := Chg.step (l := c) (h := (c + 1)) q236 cw204 (by omega)
  have f239 := (xc_53.ext c201).ext cb202
  have f240 := f239.chg cw204 (by omega)
  have f242 := (hb_b2.chg c41 (by omega)).ext cb42
  have f243 := f242.chg cw44 (by omega)
  have f246 := ((f243.chg c53 (by omega)).ext c201).ext cb202
  have f247 := f246.chg cw204 (by omega)
  have f249 := (f193.ext c201).ext cb202
  have f250 := f249.chg cw204 (by omega)
  have f252 := (f198.ext c201).ext cb202
  have f253 := f252.chg cw204 (by omega)
  exact fun a ha => ⟨_, by omega, (n2 - 1), s, ts, us, i253, h253, ha.sub (Sub.c 0 rfl (.c 2 rfl (.c 3 rfl (.c 4 (look_int (t := 4) rfl (by first | omega | simp)) .nil)))), q237, f240, f247, f250, (f253.mono (by omega) (by omega)), rfl, by assumption, by assumption, by omega, by omega, by omega, by omega⟩
 refine sx_exit ?_
 refine q_e (q_e (q_bx (q_n (k14 _ _ ?_))))
 refine sx_seq fun K254 k254 => sx_region ?_
 refine sp rfl (px_load rfl (hb_b11.loadA (vs := [.string s10, s]) (look_lit rfl) Tryz.isAgg47 Tryz.sizeOf47)) ?_
 refine sx_store (vs := [.string s10, s]) rfl rfl hb_b2 rfl Tryz.sizeOf47 (nbl rfl) (one_cons rfl (one_cons hs_s.one one_nil)) (fun w255 sw255 fw255 cw255 => ?_)
 have zw255 := cw255.size
 have gw255 : Blk w255 b2 [.string s10, s] 47 := fw255
 refine wl_nil (q_n (k254 _ _ ?_))
 refine sx_retc ?_
 refine sx_ret1 Tryz.results50 ⟨_, rfl, gw255.loadA (vs := [.string s10, s]) (look_lit rfl) Tryz.isAgg47 Tryz.sizeOf47⟩ ?_
 have f256 := hs_s.chg cw255 (by omega)
 have f257 := hb_c.chg cw255 (by omega)
 have q258 := Chg.step (l := c) (h := (c + 1)) cwl22 cw255 (by omega)
 exact ⟨_, _, _, _, _, _, rfl, (f256).mono (by omega) (by omega), f257, hT, hsm, by omega, by omega, q258⟩

theorem c_sCurs {w : World} :
  Ret Tryz.prog 116 [] w fun v w' => ∃ s, v = s ∧ OwnS w' w.heap.size w'.heap.size s strT (tabS.map Cr.code) ∧ Chg 0 0 w w' := by
 refine sx_enter Tryz.func116 rfl Tryz.ntmps116 (nbl rfl) ?_
 refine sx_seq fun K1 k1 => sx_region ?_
 refine av rfl rfl (wl_nil (q_n (k1 _ _ ?_)))
 refine sx_seq fun K2 k2 => sx_region ?_
 refine sx_lit0 rfl xelt65 (fun s3 ws3 ss3 fs3 cs3 => ?_)
 have zws3 := cs3.size
 refine av rfl rfl (wl_nil (q_n (k2 _ _ ?_)))
 refine sx_seq fun K4 k4 => ?_
 refine sx_seq fun K5 k5 => sx_region ?_
 refine sx_call rfl rfl Tryz.call90 (c_l08Table) (fun v6 w6 p6 => ?_)
 obtain ⟨sl6, rfl, osl_6, c6⟩ := p6
 have zw6 := c6.size
 refine sp rfl (px_len rfl Tryz.underlying124 osl_6.sv) ?_
 refine mv rfl rfl (wl_nil (q_n (k5 _ _ ?_)))
 refine sx_block ?_
 have f8 := fs3.ext c6
 refine sx_loop (fun mm aa w' => ∃ (k : Nat) (s : Value) (os : List ByteArray) (gl : Nat) (gh : Nat), Agr 18 [(1, s), (5, v6), (6, .int .i64 20), (7, .int .i64 ↑k)] aa ∧ Chg 0 0 w w' ∧ Own w' gl gh s strT os.length 1 (os.map Value.string) ∧ Own w' ws3.heap.size w6.heap.size v6 92 20 4 (crCells tabS) ∧ (mm = 20 - k) ∧ (k ≤ 20) ∧ (os = (tabS.map Cr.code).take k) ∧ (os.length = k) ∧ (w.heap.size ≤ gl ∧ gl ≤ w'.heap.size ∧ gh ≤ w'.heap.size ∧ (gh ≤ ws3.heap.size ∨ w6.heap.size ≤ gl) ∧ w6.heap.size ≤ w'.heap.size)) (20) (fun a ha => ⟨0, s3, [], w.heap.size, ws3.heap.size, ha.sub (Sub.c 1 rfl (.c 5 rfl (.c 6 rfl (.c 7 (look_int (t := 7) rfl (by first | omega | simp)) .nil)))), (cs3.t c6), f8, osl_6, rfl, by omega, by simp, rfl, by omega⟩) ?_
 rintro mm aa wl7 ⟨k, s, os, gl, gh, hAwl7, cwl7, hs_s, hs_v6, hm, hk, hos, hol, hgg⟩
 refine (show cw Tryz.prog 18 _ _ _ wl7 from ?_) aa hAwl7
 clear hAwl7
 have zwl7 := cwl7.size
 refine sx_seq fun K9 k9 => sx_region ?_
 refine sp rfl (px_lt rfl rfl) ?_
 refine wl_nil (q_n (k9 _ _ ?_))
 refine sx_seq fun K10 k10 => ?_
 refine sx_condP rfl (fun h57 => ?_) (fun h57 => ?_)
 ·
  refine sx_skip ?_
  refine q_n (k10 _ _ ?_)
  refine sx_seq fun K11 k11 => ?_
  refine sx_block ?_
  refine sx_seq fun K12 k12 => sx_region ?_
  refine sp rfl (px_indexK (j := k) rfl rfl (by omega) Tryz.underlying124 Tryz.sizeOf92 hs_v6.sv (by omega)) ?_
  refine sp rfl (px_load rfl (hs_v6.sv.loadA (cr_look (l := tabS) (k := k) (by rw [show tabS.length = 20 from rfl]; omega)) Tryz.isAgg92 Tryz.sizeOf92)) ?_
  refine sx_alloc [.string (⟨#[]⟩), .string (⟨#[]⟩), .int .i64 0, .int .i64 0] rfl Tryz.zeroValue92 rfl (fun b13 w14 eb13 sb13 fb13 cb13 => ?_)
  have zw14 := cb13.size
  refine sx_store (vs := [.string ((tabS.getD k cr0).code), .string ((tabS.getD k cr0).number), .int .i64 ((tabS.getD k cr0).places), .int .i64 ((tabS.getD k cr0).cash)]) rfl rfl fb13 rfl Tryz.sizeOf92 (nbl rfl) (one_cons rfl (o3 rfl rfl rfl)) (fun w15 sw15 fw15 cw15 => ?_)
  have zw15 := cw15.size
  have gw15 : Blk w15 b13 [.string ((tabS.getD k cr0).code), .string ((tabS.getD k cr0).number), .int .i64 ((tabS.getD k cr0).places), .int .i64 ((tabS.getD k cr0).cash)] 92 := fw15
  refine wl_nil (q_n (k12 _ _ ?_))
  refine sx_region ?_
  refine mv rfl rfl (sp rfl (px_field rfl xfld92x0) ?_)
  refine sp rfl (px_load rfl (gw15.load1 rfl Tryz.isAgg9)) ?_
  refine sx_lit1 rfl xelt65 rfl rfl (fun s16 ws16 ss16 fs16 cs16 => ?_)
  have ns16 := Own.norm (f := Value.string) (zs := [(tabS.getD k cr0).code]) fs16
  have zws16 := cs16.size
  have f18 := hs_s.ext cb13
  have f19 := f18.chg cw15 (by omega)
  have f20 := f19.ext cs16
  refine sx_append2 rfl xelt65 rfl rfl f20 ns16.sv (by simp) one_str (by omega) (by simp only [List.length_cons, List.length_nil]; omega) (by unfold maxLen; simp only [List.length_cons, List.length_nil]; omega) (fun a17 w17 alw17 ahw17 adw17 fw17 cw17 => ?_)
  have nw17 := Own.app (f := Value.string) (a := os) (b := [(tabS.getD k cr0).code]) fw17
  have zw17 := cw17.size
  refine av rfl rfl (wl_nil ?_)
  refine q_bn (q_n (k11 _ _ ?_))
  refine sx_region ?_
  refine sp rfl (px_add rfl rfl (by omega)) ?_
  refine mv rfl rfl (wl_nil ?_)
  have q21 := Chg.step (l := 0) (h := 0) (Chg.zero (l := 0) (h := 0) (cwl7.t cb13)) cw15 (by omega)
  have q22 := Chg.step (l := 0) (h := 0) q21 cs16 (by omega)
  have q23 := Chg.step (l := 0) (h := 0) q22 cw17 (by omega)
  have f24 := hs_v6.ext cb13
  have f25 := f24.chg cw15 (by omega)
  have f26 := f25.ext cs16
  have f27 := f26.chg cw17 (by omega)
  exact fun a ha => ⟨_, by omega, (k + 1), a17, (os ++ ([(tabS.getD k cr0).code])), alw17, ahw17, ha.sub (Sub.c 1 rfl (.c 5 rfl (.c 6 rfl (.c 7 (look_int (t := 7) rfl (by first | omega | simp)) .nil)))), q23, nw17, f27, rfl, by omega, by rw [hos]; exact codes_next (by rw [show tabS.length = 20 from rfl]; omega), by simp only [List.length_append, List.length_singleton]; omega, by omega⟩
 refine sx_exit ?_
 refine q_e (q_e (q_bx (q_n (k4 _ _ ?_))))
 refine sx_seq fun K28 k28 => sx_region ?_
 refine mv rfl rfl (av rfl rfl (wl_nil (q_n (k28 _ _ ?_))))
 refine sx_retc ?_
 refine sx_ret1 Tryz.results116 rfl ?_
 have ek : k = 20 := by omega
 subst ek
 have hs := hs_s
 rw [hos, show (tabS.map Cr.code).take 20 = tabS.map Cr.code from rfl] at hs
 exact ⟨_, rfl, hs.mono (by omega) (by omega), cwl7⟩

theorem c_l08Any {w : World} {c : Nat} {vb : Value} {lvb uvb : Nat} {bs : List Int} {i : Int} {h : Int} (hc : Blk w c [vb, .int .i64 i, .int .i64 h] 97) (hvb : SlB w lvb uvb vb (bs)) (hb8 : ∀ j, j < bs.length → 0 ≤ bs.getD j 0 ∧ bs.getD j 0 ≤ 255) (hbl : bs.length ≤ 1048576) (hi : 0 ≤ i ∧ i ≤ bs.length) (hdis : uvb ≤ c) :
  Ret Tryz.prog 88 [.pointer (some ⟨c, 0, none⟩)] w fun v w' => ∃ s i2 h2, v = .string (s) ∧ Blk w' c [vb, .int .i64 (i2), .int .i64 (h2)] 97 ∧ (0 ≤ i2 ∧ i2 ≤ (bs).length) ∧ Chg c (c + 1) w w' := by
 have clt := hc.lt
 have clt := hc.lt
 refine sx_enter Tryz.func88 rfl Tryz.ntmps88 (nbl rfl) ?_
 refine sx_seq fun K1 k1 => sx_region ?_
 refine av rfl rfl (wl_nil (q_n (k1 _ _ ?_)))
 refine sx_seq fun K2 k2 => ?_
 refine sx_seq fun K3 k3 => sx_region ?_
 refine mv rfl rfl (sx_call rfl rfl Tryz.call86 (c_l01Once hc hvb (by assumption) (by omega) (by omega) (by omega) (by omega)) (fun v4 w4 p4 => ?_))
 obtain ⟨x4, i24, h24, rfl, xc_4, hx4, hi24, c4⟩ := p4
 have zw4 := c4.size
 refine wl_nil (q_n (k3 _ _ ?_))
 refine sx_condP rfl (fun h78 => ?_) (fun h78 => ?_)
 ·
  refine sx_seq fun K5 k5 => sx_region ?_
  refine mv rfl rfl ?_
  refine sx_lit5 rfl xelt65 rfl rfl rfl rfl rfl rfl rfl rfl rfl rfl (fun s6 ws6 ss6 fs6 cs6 => ?_)
  have ns6 := Own.norm (f := Value.string) (zs := [⟨#[]⟩, ⟨#[99, 104, 102]⟩, ⟨#[88, 88, 88]⟩, ⟨#[67, 72]⟩, ⟨#[69, 85, 82, 79]⟩]) fs6
  have zws6 := cs6.size
  have f7 := xc_4.ext cs6
  have f9 := (hvb.chg c4 (by omega)).ext cs6
  refine sx_call rfl rfl Tryz.call84 (c_l01Str f7 f9 ns6.sv (by assumption) (by omega) (by omega) (by omega) (by first | omega | decide | simp) (by omega)) (fun v10 w10 p10 => ?_)
  obtain ⟨s10, i210, h210, rfl, xc_10, hx10, hi210, c10⟩ := p10
  have zw10 := c10.size
  refine av rfl rfl (wl_nil (q_n (k5 _ _ ?_)))
  refine sx_retc ?_
  refine q_r (sx_ret1 Tryz.results88 rfl ?_)
  have q11 := Chg.step (l := c) (h := (c + 1)) c4 cs6 (by omega)
  have q12 := Chg.step (l := c) (h := (c + 1)) q11 c10 (by omega)
  exact ⟨_, _, _, rfl, xc_10, by omega, q12⟩
 refine sx_skip ?_
 refine q_n (k2 _ _ ?_)
 refine sx_seq fun K13 k13 => sx_region ?_
 refine mv rfl rfl (sx_call rfl rfl Tryz.call116 (c_sCurs) (fun v14 w14 p14 => ?_))
 obtain ⟨s14, rfl, os_14, c14⟩ := p14
 have zw14 := c14.size
 have f15 := xc_4.ext c14
 have f17 := (hvb.chg c4 (by omega)).ext c14
 refine sx_call rfl rfl Tryz.call84 (c_l01Str f15 f17 os_14.sv (by assumption) (by omega) (by omega) (by omega) (by first | omega | decide | simp) (by omega)) (fun v18 w18 p18 => ?_)
 obtain ⟨s18, i218, h218, rfl, xc_18, hx18, hi218, c18⟩ := p18
 have zw18 := c18.size
 refine av rfl rfl (wl_nil (q_n (k13 _ _ ?_)))
 refine sx_retc ?_
 refine sx_ret1 Tryz.results88 rfl ?_
 have q19 := Chg.step (l := c) (h := (c + 1)) c4 c14 (by omega)
 have q20 := Chg.step (l := c) (h := (c + 1)) q19 c18 (by omega)
 exact ⟨_, _, _, rfl, xc_18, by omega, q20⟩

theorem c_l10Pair {w : World} {c : Nat} {vb : Value} {lvb uvb : Nat} {bs : List Int} {i : Int} {h : Int} {pv : ByteArray} {vt : Value} {lvt uvt : Nat} {ts : List Rt} {vvt : List Value} (hc : Blk w c [vb, .int .i64 i, .int .i64 h] 97) (hvb : SlB w lvb uvb vb (bs)) (hvt : RtS w lvt uvt vt ts vvt) (hb8 : ∀ j, j < bs.length → 0 ≤ bs.getD j 0 ∧ bs.getD j 0 ≤ 255) (hbl : bs.length ≤ 1048576) (hi : 0 ≤ i ∧ i ≤ bs.length) (hdis : uvb ≤ c) (h63 : ts.length ≤ 1000) (hd2 : uvt ≤ c ∨ c < lvt) (hd3 : uvt ≤ w.heap.size) :
  Ret Tryz.prog 51 [.pointer (some ⟨c, 0, none⟩), .agg #[.string pv, vt]] w fun v w' => ∃ a b i2 h2, v = .tuple #[.string (a), .string (b)] ∧ Blk w' c [vb, .int .i64 (i2), .int .i64 (h2)] 97 ∧ (0 ≤ i2 ∧ i2 ≤ (bs).length) ∧ Chg c (c + 1) w w' := by
 have clt := hc.lt
 have clt := hc.lt
 refine sx_enter Tryz.func51 rfl Tryz.ntmps51 (nbl rfl) ?_
 refine sx_seq fun K1 k1 => sx_region ?_
 refine sx_box [.string pv, vt] rfl rfl rfl (fun b2 w3 eb2 sb2 fb2 cb2 => ?_)
 have zw3 := cb2.size
 refine av rfl rfl (av rfl rfl (wl_nil (q_n (k1 _ _ ?_))))
 refine sx_seq fun K4 k4 => ?_
 refine sx_seq fun K5 k5 => sx_region ?_
 refine sp rfl (px_field rfl xfld47x1) ?_
 refine sp rfl (px_load rfl (fb2.load1 rfl Tryz.isAgg45)) ?_
 have f6 := hvt.ext cb2
 refine sp rfl (px_len rfl Tryz.underlying45 f6.sv) ?_
 refine sp rfl (px_gt rfl rfl) ?_
 refine mv rfl rfl ?_
 refine sx_tmpP (t := 12) rfl (fun h207 => ?_) (fun h207 => ?_)
 ·
  refine sx_guardT rfl rfl rfl ?_
  refine mv rfl rfl ?_
  refine sx_guardT rfl rfl rfl ?_
  have f7 := hc.ext cb2
  have f8 := hvb.ext cb2
  refine sx_call rfl rfl Tryz.call86 (c_l01Once f7 f8 (by assumption) (by omega) (by omega) (by omega) (by omega)) (fun v9 w9 p9 => ?_)
  obtain ⟨x9, i29, h29, rfl, xc_9, hx9, hi29, c9⟩ := p9
  have zw9 := c9.size
  refine sx_guardT rfl rfl rfl ?_
  refine sp rfl (px_notP rfl) ?_
  refine sp rfl (px_pick rfl rfl) ?_
  refine wl_nil (q_n (k5 _ _ ?_))
  refine sx_condP rfl (fun h207x1 => ?_) (fun h207x1 => ?_)
  ·
   refine sx_seq fun K10 k10 => ?_
   refine sx_cut k10 (fun fr w' => ∃ (gb11x0 : Nat) (gs11x1 : Value) (gi11x0 : Int) (gi11x1 : Int) (gi11x2 : Int), fr = [(0, .pointer (some ⟨c, 0, none⟩)), (3, .pointer (some ⟨b2, 0, none⟩)), (4, .string (⟨#[]⟩)), (5, .string (⟨#[]⟩)), (6, .pointer (some ⟨gb11x0, 0, none⟩))] ∧ Chg c (c + 1) w9 w' ∧ (0 ≤ gi11x0 ∧ gi11x0 < (↑((ts).length))) ∧ (0 ≤ gi11x1 ∧ gi11x1 ≤ (bs).length) ∧ (Blk w' gb11x0 [.string ((ts.getD gi11x0.toNat rt0).1), .string ((ts.getD gi11x0.toNat rt0).2.1), .bool ((ts.getD gi11x0.toNat rt0).2.2.1), gs11x1, .int .i64 ((ts.getD gi11x0.toNat rt0).2.2.2.2)] 54) ∧ (Sv w' lvt uvt gs11x1 (((ts.getD gi11x0.toNat rt0).2.2.2.1).length) 1 (((ts.getD gi11x0.toNat rt0).2.2.2.1).map (Value.int .i64))) ∧ (Blk w' c [vb, .int .i64 gi11x1, .int .i64 gi11x2] 97) ∧ (w9.heap.size ≤ gb11x0 ∧ gb11x0 + 1 ≤ w'.heap.size)) (fun kc11 => ?_) ?_
   ·
    have f12 := fb2.chg c9 (by omega)
    have f13 := f8.chg c9 (by omega)
    have f14 := f6.chg c9 (by omega)
    refine dx_region (fun w' => Chg c (c + 1) w9 w') (by kernel_rfl) (Chg.zero (Chg.drew _)) ?_
    have d15 := Chg.drew w9
    have s15 : Chg c (c + 1) w9 (World.drew w9) := Chg.zero (Chg.drew _)
    have y15 : (World.drew w9).heap.size = w9.heap.size := rfl
    generalize World.drew w9 = w15 at *
    have zw15 := d15.size
    refine dt 0 rfl rfl rfl rfl s15 (fun _ hS => px_field rfl xfld47x1) ?_
    refine dt 1 rfl rfl rfl rfl s15 (fun _ hS => px_load rfl ((f12.chg hS (by omega)).load1 rfl Tryz.isAgg45)) ?_
    refine dt 2 rfl rfl rfl rfl s15 (fun _ hS => px_move rfl) ?_
    refine dt 3 rfl rfl rfl rfl s15 (fun _ hS => px_field rfl xfld47x1) ?_
    refine dt 4 rfl rfl rfl rfl s15 (fun _ hS => px_load rfl ((f12.chg hS (by omega)).load1 rfl Tryz.isAgg45)) ?_
    refine dt 5 rfl rfl rfl rfl s15 (fun _ hS => px_len rfl Tryz.underlying45 ((f14.sv).chg hS (by omega))) ?_
    refine dx_eff2 6 9 rfl rfl (by kernel_rfl) ?_ ?_
    ·
     have f16 := xc_9.ext d15
     have f17 := f13.ext d15
     refine sx_call rfl rfl Tryz.call54 (c_l01Below f16 f17 (by assumption) (by omega) (by omega) (by omega) (by omega)) (fun v18 w18 p18 => ?_)
     obtain ⟨x18, i218, h218, rfl, xc_18, hx18, hi218, c18⟩ := p18
     have zw18 := c18.size
     have q20 := Chg.step (l := c) (h := (c + 1)) (Chg.zero (l := c) (h := (c + 1)) d15) c18 (by omega)
     have s19 : Chg c (c + 1) w9 w18 := q20
     refine wl_nil ?_
     refine dx_next s19 ?_
     refine dt 7 rfl rfl rfl rfl s19 (fun _ hS => px_indexK (j := x18.toNat) rfl rfl (by omega) Tryz.underlying45 Tryz.sizeOf54 ((f14.sv).chg hS (by omega)) (by omega)) ?_
     refine dt 8 rfl rfl rfl rfl s19 (fun _ hS => px_load rfl (((f14.sv).chg hS (by omega)).loadA (rt_look f14.len (by omega)) Tryz.isAgg54 Tryz.sizeOf54)) ?_
     refine dx_eff 9 rfl (by kernel_rfl) ?_
     refine sx_alloc [.string (⟨#[]⟩), .string (⟨#[]⟩), .bool false, (.slice none 0 0), .int .i64 0] rfl Tryz.zeroValue54 rfl (fun b21 w22 eb21 sb21 fb21 cb21 => ?_)
     have zw22 := cb21.size
     have q24 := Chg.step (l := c) (h := (c + 1)) (Chg.zero (l := c) (h := (c + 1)) d15) c18 (by omega)
     have q25 := Chg.step (l := c) (h := (c + 1)) q24 cb21 (by omega)
     have s23 : Chg c (c + 1) w9 w22 := q25
     refine wl_nil ?_
     refine dx_next s23 ?_
     refine dx_eff 10 rfl (by kernel_rfl) ?_
     have f29 := (((f14.nest x18.toNat (by omega)).ext d15).chg c18 (by omega)).ext cb21
     refine sx_store (vs := [.string ((ts.getD x18.toNat rt0).1), .string ((ts.getD x18.toNat rt0).2.1), .bool ((ts.getD x18.toNat rt0).2.2.1), (vvt.getD x18.toNat vz), .int .i64 ((ts.getD x18.toNat rt0).2.2.2.2)]) rfl rfl fb21 rfl Tryz.sizeOf54 (nbl rfl) (one_cons rfl (one_cons rfl (one_cons rfl (one_cons f29.one (o1 rfl))))) (fun w26 sw26 fw26 cw26 => ?_)
     have zw26 := cw26.size
     have gw26 : Blk w26 b21 [.string ((ts.getD x18.toNat rt0).1), .string ((ts.getD x18.toNat rt0).2.1), .bool ((ts.getD x18.toNat rt0).2.2.1), (vvt.getD x18.toNat vz), .int .i64 ((ts.getD x18.toNat rt0).2.2.2.2)] 54 := fw26
     have q31 := Chg.step (l := c) (h := (c + 1)) (Chg.zero (l := c) (h := (c + 1)) d15) c18 (by omega)
     have q32 := Chg.step (l := c) (h := (c + 1)) q31 cb21 (by omega)
     have q33 := Chg.step (l := c) (h := (c + 1)) q32 cw26 (by omega)
     have s30 : Chg c (c + 1) w9 w26 := q33
     refine wl_nil ?_
     refine dx_next s30 ?_
     refine dx_done (by kernel_rfl) ?_
     have f34 := f29.chg cw26 (by omega)
     have f35 := xc_18.ext cb21
     have f36 := f35.chg cw26 (by omega)
     have q37 := Chg.step (l := c) (h := (c + 1)) (Chg.zero (l := c) (h := (c + 1)) d15) c18 (by omega)
     have q38 := Chg.step (l := c) (h := (c + 1)) q37 cb21 (by omega)
     have q39 := Chg.step (l := c) (h := (c + 1)) q38 cw26 (by omega)
     exact q_n (kw_sub (Sub.c 0 rfl (.c 3 rfl (.c 4 rfl (.c 5 rfl (.c 6 rfl .nil))))) (kc11 _ _ ⟨b21, (vvt.getD x18.toNat vz), x18, i218, h218, rfl, q39, hx18, hi218, gw26, f34, f36, by omega⟩))
    refine sx_alloc [.string (⟨#[]⟩), .string (⟨#[]⟩), .bool false, (.slice none 0 0), .int .i64 0] rfl Tryz.zeroValue54 rfl (fun b40 w41 eb40 sb40 fb40 cb40 => ?_)
    have zw41 := cb40.size
    have s42 : Chg c (c + 1) w9 w41 := (Chg.zero (l := c) (h := (c + 1)) (d15.t cb40))
    refine wl_nil ?_
    refine dx_next s42 ?_
    refine dx_eff 6 rfl (by kernel_rfl) ?_
    have f44 := (xc_9.ext d15).ext cb40
    have f46 := (f13.ext d15).ext cb40
    refine sx_call rfl rfl Tryz.call54 (c_l01Below f44 f46 (by assumption) (by omega) (by omega) (by omega) (by omega)) (fun v47 w47 p47 => ?_)
    obtain ⟨x47, i247, h247, rfl, xc_47, hx47, hi247, c47⟩ := p47
    have zw47 := c47.size
    have q49 := Chg.step (l := c) (h := (c + 1)) (Chg.zero (l := c) (h := (c + 1)) (d15.t cb40)) c47 (by omega)
    have s48 : Chg c (c + 1) w9 w47 := q49
    refine wl_nil ?_
    refine dx_next s48 ?_
    refine dt 7 rfl rfl rfl rfl s48 (fun _ hS => px_indexK (j := x47.toNat) rfl rfl (by omega) Tryz.underlying45 Tryz.sizeOf54 ((f14.sv).chg hS (by omega)) (by omega)) ?_
    refine dt 8 rfl rfl rfl rfl s48 (fun _ hS => px_load rfl (((f14.sv).chg hS (by omega)).loadA (rt_look f14.len (by omega)) Tryz.isAgg54 Tryz.sizeOf54)) ?_
    refine dx_eff 10 rfl (by kernel_rfl) ?_
    have f51 := fb40.chg c47 (by omega)
    have f53 := ((f14.nest x47.toNat (by omega)).ext d15).ext cb40
    have f54 := f53.chg c47 (by omega)
    refine sx_store (vs := [.string ((ts.getD x47.toNat rt0).1), .string ((ts.getD x47.toNat rt0).2.1), .bool ((ts.getD x47.toNat rt0).2.2.1), (vvt.getD x47.toNat vz), .int .i64 ((ts.getD x47.toNat rt0).2.2.2.2)]) rfl rfl f51 rfl Tryz.sizeOf54 (nbl rfl) (one_cons rfl (one_cons rfl (one_cons rfl (one_cons f54.one (o1 rfl))))) (fun w50 sw50 fw50 cw50 => ?_)
    have zw50 := cw50.size
    have gw50 : Blk w50 b40 [.string ((ts.getD x47.toNat rt0).1), .string ((ts.getD x47.toNat rt0).2.1), .bool ((ts.getD x47.toNat rt0).2.2.1), (vvt.getD x47.toNat vz), .int .i64 ((ts.getD x47.toNat rt0).2.2.2.2)] 54 := fw50
    have q56 := Chg.step (l := c) (h := (c + 1)) (Chg.zero (l := c) (h := (c + 1)) (d15.t cb40)) c47 (by omega)
    have q57 := Chg.step (l := c) (h := (c + 1)) q56 cw50 (by omega)
    have s55 : Chg c (c + 1) w9 w50 := q57
    refine wl_nil ?_
    refine dx_next s55 ?_
    refine dx_done (by kernel_rfl) ?_
    have f58 := f54.chg cw50 (by omega)
    have f59 := xc_47.chg cw50 (by omega)
    have q60 := Chg.step (l := c) (h := (c + 1)) (Chg.zero (l := c) (h := (c + 1)) (d15.t cb40)) c47 (by omega)
    have q61 := Chg.step (l := c) (h := (c + 1)) q60 cw50 (by omega)
    exact q_n (kw_sub (Sub.c 0 rfl (.c 3 rfl (.c 4 rfl (.c 5 rfl (.c 6 rfl .nil))))) (kc11 _ _ ⟨b40, (vvt.getD x47.toNat vz), x47, i247, h247, rfl, q61, hx47, hi247, gw50, f58, f59, by omega⟩))
   rintro fr w'11 ⟨gb11x0, gs11x1, gi11x0, gi11x1, gi11x2, rfl, cw'11, pp11x1, pp11x2, xgb11x0, xgs11x1, xc, ygb11x0⟩
   have zw'11 := cw'11.size
   refine sx_seq fun K62 k62 => ?_
   refine sx_cut k62 (fun fr w' => ∃ (gb63x0 : Nat) (gs63x1 : Value) (gi63x0 : Int) (gi63x1 : Int) (gi63x2 : Int), fr = [(0, .pointer (some ⟨c, 0, none⟩)), (4, .string (⟨#[]⟩)), (5, .string (⟨#[]⟩)), (6, .pointer (some ⟨gb11x0, 0, none⟩)), (7, .pointer (some ⟨gb63x0, 0, none⟩))] ∧ Chg c (c + 1) w'11 w' ∧ (0 ≤ gi63x0 ∧ gi63x0 < (↑((ts).length))) ∧ (0 ≤ gi63x1 ∧ gi63x1 ≤ (bs).length) ∧ (Blk w' gb63x0 [.string ((ts.getD gi63x0.toNat rt0).1), .string ((ts.getD gi63x0.toNat rt0).2.1), .bool ((ts.getD gi63x0.toNat rt0).2.2.1), gs63x1, .int .i64 ((ts.getD gi63x0.toNat rt0).2.2.2.2)] 54) ∧ (Sv w' lvt uvt gs63x1 (((ts.getD gi63x0.toNat rt0).2.2.2.1).length) 1 (((ts.getD gi63x0.toNat rt0).2.2.2.1).map (Value.int .i64))) ∧ (Blk w' c [vb, .int .i64 gi63x1, .int .i64 gi63x2] 97) ∧ (w'11.heap.size ≤ gb63x0 ∧ gb63x0 + 1 ≤ w'.heap.size)) (fun kc63 => ?_) ?_
   ·
    have f65 := (fb2.chg c9 (by omega)).chg cw'11 (by omega)
    have f67 := (f8.chg c9 (by omega)).chg cw'11 (by omega)
    have f69 := (f6.chg c9 (by omega)).chg cw'11 (by omega)
    refine dx_region (fun w' => Chg c (c + 1) w'11 w') (by kernel_rfl) (Chg.zero (Chg.drew _)) ?_
    have d70 := Chg.drew w'11
    have s70 : Chg c (c + 1) w'11 (World.drew w'11) := Chg.zero (Chg.drew _)
    have y70 : (World.drew w'11).heap.size = w'11.heap.size := rfl
    generalize World.drew w'11 = w70 at *
    have zw70 := d70.size
    refine dt 0 rfl rfl rfl rfl s70 (fun _ hS => px_field rfl xfld47x1) ?_
    refine dt 1 rfl rfl rfl rfl s70 (fun _ hS => px_load rfl ((f65.chg hS (by omega)).load1 rfl Tryz.isAgg45)) ?_
    refine dt 2 rfl rfl rfl rfl s70 (fun _ hS => px_move rfl) ?_
    refine dt 3 rfl rfl rfl rfl s70 (fun _ hS => px_field rfl xfld47x1) ?_
    refine dt 4 rfl rfl rfl rfl s70 (fun _ hS => px_load rfl ((f65.chg hS (by omega)).load1 rfl Tryz.isAgg45)) ?_
    refine dt 5 rfl rfl rfl rfl s70 (fun _ hS => px_len rfl Tryz.underlying45 ((f69.sv).chg hS (by omega))) ?_
    refine dx_eff2 6 9 rfl rfl (by kernel_rfl) ?_ ?_
    ·
     have f71 := xc.ext d70
     have f72 := f67.ext d70
     refine sx_call rfl rfl Tryz.call54 (c_l01Below f71 f72 (by assumption) (by omega) (by omega) (by omega) (by omega)) (fun v73 w73 p73 => ?_)
     obtain ⟨x73, i273, h273, rfl, xc_73, hx73, hi273, c73⟩ := p73
     have zw73 := c73.size
     have q75 := Chg.step (l := c) (h := (c + 1)) (Chg.zero (l := c) (h := (c + 1)) d70) c73 (by omega)
     have s74 : Chg c (c + 1) w'11 w73 := q75
     refine wl_nil ?_
     refine dx_next s74 ?_
     refine dt 7 rfl rfl rfl rfl s74 (fun _ hS => px_indexK (j := x73.toNat) rfl rfl (by omega) Tryz.underlying45 Tryz.sizeOf54 ((f69.sv).chg hS (by omega)) (by omega)) ?_
     refine dt 8 rfl rfl rfl rfl s74 (fun _ hS => px_load rfl (((f69.sv).chg hS (by omega)).loadA (rt_look f69.len (by omega)) Tryz.isAgg54 Tryz.sizeOf54)) ?_
     refine dx_eff 9 rfl (by kernel_rfl) ?_
     refine sx_alloc [.string (⟨#[]⟩), .string (⟨#[]⟩), .bool false, (.slice none 0 0), .int .i64 0] rfl Tryz.zeroValue54 rfl (fun b76 w77 eb76 sb76 fb76 cb76 => ?_)
     have zw77 := cb76.size
     have q79 := Chg.step (l := c) (h := (c + 1)) (Chg.zero (l := c) (h := (c + 1)) d70) c73 (by omega)
     have q80 := Chg.step (l := c) (h := (c + 1)) q79 cb76 (by omega)
     have s78 : Chg c (c + 1) w'11 w77 := q80
     refine wl_nil ?_
     refine dx_next s78 ?_
     refine dx_eff 10 rfl (by kernel_rfl) ?_
     have f84 := (((f69.nest x73.toNat (by omega)).ext d70).chg c73 (by omega)).ext cb76
     refine sx_store (vs := [.string ((ts.getD x73.toNat rt0).1), .string ((ts.getD x73.toNat rt0).2.1), .bool ((ts.getD x73.toNat rt0).2.2.1), (vvt.getD x73.toNat vz), .int .i64 ((ts.getD x73.toNat rt0).2.2.2.2)]) rfl rfl fb76 rfl Tryz.sizeOf54 (nbl rfl) (one_cons rfl (one_cons rfl (one_cons rfl (one_cons f84.one (o1 rfl))))) (fun w81 sw81 fw81 cw81 => ?_)
     have zw81 := cw81.size
     have gw81 : Blk w81 b76 [.string ((ts.getD x73.toNat rt0).1), .string ((ts.getD x73.toNat rt0).2.1), .bool ((ts.getD x73.toNat rt0).2.2.1), (vvt.getD x73.toNat vz), .int .i64 ((ts.getD x73.toNat rt0).2.2.2.2)] 54 := fw81
     have q86 := Chg.step (l := c) (h := (c + 1)) (Chg.zero (l := c) (h := (c + 1)) d70) c73 (by omega)
     have q87 := Chg.step (l := c) (h := (c + 1)) q86 cb76 (by omega)
     have q88 := Chg.step (l := c) (h := (c + 1)) q87 cw81 (by omega)
     have s85 : Chg c (c + 1) w'11 w81 := q88
     refine wl_nil ?_
     refine dx_next s85 ?_
     refine dx_done (by kernel_rfl) ?_
     have f89 := f84.chg cw81 (by omega)
     have f90 := xc_73.ext cb76
     have f91 := f90.chg cw81 (by omega)
     have q92 := Chg.step (l := c) (h := (c + 1)) (Chg.zero (l := c) (h := (c + 1)) d70) c73 (by omega)
     have q93 := Chg.step (l := c) (h := (c + 1)) q92 cb76 (by omega)
     have q94 := Chg.step (l := c) (h := (c + 1)) q93 cw81 (by omega)
     exact q_n (kw_sub (Sub.c 0 rfl (.c 4 rfl (.c 5 rfl (.c 6 rfl (.c 7 rfl .nil))))) (kc63 _ _ ⟨b76, (vvt.getD x73.toNat vz), x73, i273, h273, rfl, q94, hx73, hi273, gw81, f89, f91, by omega⟩))
    refine sx_alloc [.string (⟨#[]⟩), .string (⟨#[]⟩), .bool false, (.slice none 0 0), .int .i64 0] rfl Tryz.zeroValue54 rfl (fun b95 w96 eb95 sb95 fb95 cb95 => ?_)
    have zw96 := cb95.size
    have s97 : Chg c (c + 1) w'11 w96 := (Chg.zero (l := c) (h := (c + 1)) (d70.t cb95))
    refine wl_nil ?_
    refine dx_next s97 ?_
    refine dx_eff 6 rfl (by kernel_rfl) ?_
    have f99 := (xc.ext d70).ext cb95
    have f101 := (f67.ext d70).ext cb95
    refine sx_call rfl rfl Tryz.call54 (c_l01Below f99 f101 (by assumption) (by omega) (by omega) (by omega) (by omega)) (fun v102 w102 p102 => ?_)
    obtain ⟨x102, i2102, h2102, rfl, xc_102, hx102, hi2102, c102⟩ := p102
    have zw102 := c102.size
    have q104 := Chg.step (l := c) (h := (c + 1)) (Chg.zero (l := c) (h := (c + 1)) (d70.t cb95)) c102 (by omega)
    have s103 : Chg c (c + 1) w'11 w102 := q104
    refine wl_nil ?_
    refine dx_next s103 ?_
    refine dt 7 rfl rfl rfl rfl s103 (fun _ hS => px_indexK (j := x102.toNat) rfl rfl (by omega) Tryz.underlying45 Tryz.sizeOf54 ((f69.sv).chg hS (by omega)) (by omega)) ?_
    refine dt 8 rfl rfl rfl rfl s103 (fun _ hS => px_load rfl (((f69.sv).chg hS (by omega)).loadA (rt_look f69.len (by omega)) Tryz.isAgg54 Tryz.sizeOf54)) ?_
    refine dx_eff 10 rfl (by kernel_rfl) ?_
    have f106 := fb95.chg c102 (by omega)
    have f108 := ((f69.nest x102.toNat (by omega)).ext d70).ext cb95
    have f109 := f108.chg c102 (by omega)
    refine sx_store (vs := [.string ((ts.getD x102.toNat rt0).1), .string ((ts.getD x102.toNat rt0).2.1), .bool ((ts.getD x102.toNat rt0).2.2.1), (vvt.getD x102.toNat vz), .int .i64 ((ts.getD x102.toNat rt0).2.2.2.2)]) rfl rfl f106 rfl Tryz.sizeOf54 (nbl rfl) (one_cons rfl (one_cons rfl (one_cons rfl (one_cons f109.one (o1 rfl))))) (fun w105 sw105 fw105 cw105 => ?_)
    have zw105 := cw105.size
    have gw105 : Blk w105 b95 [.string ((ts.getD x102.toNat rt0).1), .string ((ts.getD x102.toNat rt0).2.1), .bool ((ts.getD x102.toNat rt0).2.2.1), (vvt.getD x102.toNat vz), .int .i64 ((ts.getD x102.toNat rt0).2.2.2.2)] 54 := fw105
    have q111 := Chg.step (l := c) (h := (c + 1)) (Chg.zero (l := c) (h := (c + 1)) (d70.t cb95)) c102 (by omega)
    have q112 := Chg.step (l := c) (h := (c + 1)) q111 cw105 (by omega)
    have s110 : Chg c (c + 1) w'11 w105 := q112
    refine wl_nil ?_
    refine dx_next s110 ?_
    refine dx_done (by kernel_rfl) ?_
    have f113 := f109.chg cw105 (by omega)
    have f114 := xc_102.chg cw105 (by omega)
    have q115 := Chg.step (l := c) (h := (c + 1)) (Chg.zero (l := c) (h := (c + 1)) (d70.t cb95)) c102 (by omega)
    have q116 := Chg.step (l := c) (h := (c + 1)) q115 cw105 (by omega)
    exact q_n (kw_sub (Sub.c 0 rfl (.c 4 rfl (.c 5 rfl (.c 6 rfl (.c 7 rfl .nil))))) (kc63 _ _ ⟨b95, (vvt.getD x102.toNat vz), x102, i2102, h2102, rfl, q116, hx102, hi2102, gw105, f113, f114, by omega⟩))
   rintro fr w'63 ⟨gb63x0, gs63x1, gi63x0, gi63x1, gi63x2, rfl, cw'63, pp63x1, pp63x2, xgb63x0, xgs63x1, xc, ygb63x0⟩
   have zw'63 := cw'63.size
   refine sx_seq fun K117 k117 => ?_
   refine sx_seq fun K118 k118 => sx_region ?_
   refine mv rfl rfl ?_
   have f120 := (f8.chg c9 (by omega)).chg cw'11 (by omega)
   have f121 := f120.chg cw'63 (by omega)
   refine sx_call rfl rfl Tryz.call54 (c_l01Below xc f121 (by assumption) (by omega) (by omega) (by omega) (by omega)) (fun v122 w122 p122 => ?_)
   obtain ⟨x122, i2122, h2122, rfl, xc_122, hx122, hi2122, c122⟩ := p122
   have zw122 := c122.size
   refine wl_nil (q_n (k118 _ _ ?_))
   refine sx_block ?_
   refine sx_seq fun K123 k123 => sx_region ?_
   refine sp rfl (px_eq rfl rfl) ?_
   refine av rfl rfl (wl_nil (q_n (k123 _ _ ?_)))
   refine sx_condP rfl (fun h211 => ?_) (fun h211 => ?_)
   ·
    refine sx_seq fun K124 k124 => ?_
    have f126 := (fb2.chg c9 (by omega)).chg cw'11 (by omega)
    have f127 := f126.chg cw'63 (by omega)
    have f128 := f127.chg c122 (by omega)
    have f129 := xgb11x0.chg cw'63 (by omega)
    have f130 := f129.chg c122 (by omega)
    have f131 := xgb63x0.chg c122 (by omega)
    have f132 := f121.chg c122 (by omega)
    have f134 := (f6.chg c9 (by omega)).chg cw'11 (by omega)
    have f135 := f134.chg cw'63 (by omega)
    have f136 := f135.chg c122 (by omega)
    have f137 := xgs11x1.chg cw'63 (by omega)
    have f138 := f137.chg c122 (by omega)
    have f139 := xgs63x1.chg c122 (by omega)
    refine dx_region (fun w' => Chg 0 0 w122 w') (by kernel_rfl) (Chg.zero (Chg.drew _)) ?_
    have d140 := Chg.drew w122
    have s140 : Chg 0 0 w122 (World.drew w122) := Chg.zero (Chg.drew _)
    have y140 : (World.drew w122).heap.size = w122.heap.size := rfl
    generalize World.drew w122 = w140 at *
    have zw140 := d140.size
    refine dt 0 rfl rfl rfl rfl s140 (fun _ hS => px_field rfl xfld54x0) ?_
    refine dt 1 rfl rfl rfl rfl s140 (fun _ hS => px_load rfl ((f130.chg hS (by omega)).load1 rfl Tryz.isAgg9)) ?_
    refine dt 2 rfl rfl rfl rfl s140 (fun _ hS => px_field rfl xfld54x1) ?_
    refine dt 3 rfl rfl rfl rfl s140 (fun _ hS => px_load rfl ((f131.chg hS (by omega)).load1 rfl Tryz.isAgg9)) ?_
    refine dt 4 rfl rfl rfl rfl s140 (fun _ hS => px_assign rfl) ?_
    refine dt 5 rfl rfl rfl rfl s140 (fun _ hS => px_assign rfl) ?_
    refine dx_done (by kernel_rfl) ?_
    refine q_n (k124 _ _ ?_)
    refine sx_retc ?_
    refine q_br (q_r (q_r (sx_ret2 Tryz.results51 rfl rfl ?_)))
    have f141 := xc_122.ext d140
    have q142 := Chg.step (l := c) (h := (c + 1)) (Chg.zero (l := c) (h := (c + 1)) cb2) c9 (by omega)
    have q143 := Chg.step (l := c) (h := (c + 1)) q142 cw'11 (by omega)
    have q144 := Chg.step (l := c) (h := (c + 1)) q143 cw'63 (by omega)
    have q145 := Chg.step (l := c) (h := (c + 1)) q144 c122 (by omega)
    have q146 := Chg.step (l := c) (h := (c + 1)) q145 d140 (by omega)
    exact ⟨_, _, _, _, rfl, f141, by omega, q146⟩
   refine sx_seq fun K147 k147 => sx_region ?_
   refine sp rfl (px_eq rfl rfl) ?_
   refine av rfl rfl (wl_nil (q_n (k147 _ _ ?_)))
   refine sx_condP rfl (fun h213 => ?_) (fun h213 => ?_)
   ·
    refine sx_seq fun K148 k148 => ?_
    have f150 := (fb2.chg c9 (by omega)).chg cw'11 (by omega)
    have f151 := f150.chg cw'63 (by omega)
    have f152 := f151.chg c122 (by omega)
    have f153 := xgb11x0.chg cw'63 (by omega)
    have f154 := f153.chg c122 (by omega)
    have f155 := xgb63x0.chg c122 (by omega)
    have f156 := f121.chg c122 (by omega)
    have f158 := (f6.chg c9 (by omega)).chg cw'11 (by omega)
    have f159 := f158.chg cw'63 (by omega)
    have f160 := f159.chg c122 (by omega)
    have f161 := xgs11x1.chg cw'63 (by omega)
    have f162 := f161.chg c122 (by omega)
    have f163 := xgs63x1.chg c122 (by omega)
    refine dx_region (fun w' => Chg 0 0 w122 w') (by kernel_rfl) (Chg.zero (Chg.drew _)) ?_
    have d164 := Chg.drew w122
    have s164 : Chg 0 0 w122 (World.drew w122) := Chg.zero (Chg.drew _)
    have y164 : (World.drew w122).heap.size = w122.heap.size := rfl
    generalize World.drew w122 = w164 at *
    have zw164 := d164.size
    refine dt 0 rfl rfl rfl rfl s164 (fun _ hS => px_field rfl xfld54x1) ?_
    refine dt 1 rfl rfl rfl rfl s164 (fun _ hS => px_load rfl ((f154.chg hS (by omega)).load1 rfl Tryz.isAgg9)) ?_
    refine dt 2 rfl rfl rfl rfl s164 (fun _ hS => px_field rfl xfld54x0) ?_
    refine dt 3 rfl rfl rfl rfl s164 (fun _ hS => px_load rfl ((f154.chg hS (by omega)).load1 rfl Tryz.isAgg9)) ?_
    refine dt 4 rfl rfl rfl rfl s164 (fun _ hS => px_assign rfl) ?_
    refine dt 5 rfl rfl rfl rfl s164 (fun _ hS => px_assign rfl) ?_
    refine dx_done (by kernel_rfl) ?_
    refine q_n (k148 _ _ ?_)
    refine sx_sub (Sub.c 0 rfl (.c 4 rfl (.c 5 rfl (.c 6 rfl (.c 7 rfl .nil))))) ?_
    refine sx_retc ?_
    refine q_br (q_r (q_r (sx_ret2 Tryz.results51 rfl rfl ?_)))
    have f165 := xc_122.ext d164
    have q166 := Chg.step (l := c) (h := (c + 1)) (Chg.zero (l := c) (h := (c + 1)) cb2) c9 (by omega)
    have q167 := Chg.step (l := c) (h := (c + 1)) q166 cw'11 (by omega)
    have q168 := Chg.step (l := c) (h := (c + 1)) q167 cw'63 (by omega)
    have q169 := Chg.step (l := c) (h := (c + 1)) q168 c122 (by omega)
    have q170 := Chg.step (l := c) (h := (c + 1)) q169 d164 (by omega)
    exact ⟨_, _, _, _, rfl, f165, by omega, q170⟩
   refine sx_skip ?_
   refine q_bn (q_n (k117 _ _ ?_))
   refine sx_seq fun K171 k171 => ?_
   have f173 := (fb2.chg c9 (by omega)).chg cw'11 (by omega)
   have f174 := f173.chg cw'63 (by omega)
   have f175 := f174.chg c122 (by omega)
   have f176 := xgb11x0.chg cw'63 (by omega)
   have f177 := f176.chg c122 (by omega)
   have f178 := xgb63x0.chg c122 (by omega)
   have f179 := f121.chg c122 (by omega)
   have f181 := (f6.chg c9 (by omega)).chg cw'11 (by omega)
   have f182 := f181.chg cw'63 (by omega)
   have f183 := f182.chg c122 (by omega)
   have f184 := xgs11x1.chg cw'63 (by omega)
   have f185 := f184.chg c122 (by omega)
   have f186 := xgs63x1.chg c122 (by omega)
   refine dx_region (fun w' => Chg 0 0 w122 w') (by kernel_rfl) (Chg.zero (Chg.drew _)) ?_
   have d187 := Chg.drew w122
   have s187 : Chg 0 0 w122 (World.drew w122) := Chg.zero (Chg.drew _)
   have y187 : (World.drew w122).heap.size = w122.heap.size := rfl
   generalize World.drew w122 = w187 at *
   have zw187 := d187.size
   refine dt 0 rfl rfl rfl rfl s187 (fun _ hS => px_field rfl xfld54x0) ?_
   refine dt 1 rfl rfl rfl rfl s187 (fun _ hS => px_load rfl ((f177.chg hS (by omega)).load1 rfl Tryz.isAgg9)) ?_
   refine dt 2 rfl rfl rfl rfl s187 (fun _ hS => px_field rfl xfld54x0) ?_
   refine dt 3 rfl rfl rfl rfl s187 (fun _ hS => px_load rfl ((f178.chg hS (by omega)).load1 rfl Tryz.isAgg9)) ?_
   refine dt 4 rfl rfl rfl rfl s187 (fun _ hS => px_assign rfl) ?_
   refine dt 5 rfl rfl rfl rfl s187 (fun _ hS => px_assign rfl) ?_
   refine dx_done (by kernel_rfl) ?_
   refine q_n (k171 _ _ ?_)
   refine sx_sub (Sub.c 0 rfl (.c 4 rfl (.c 5 rfl .nil))) ?_
   refine sx_retc ?_
   refine q_r (sx_ret2 Tryz.results51 rfl rfl ?_)
   have f188 := xc_122.ext d187
   have q189 := Chg.step (l := c) (h := (c + 1)) (Chg.zero (l := c) (h := (c + 1)) cb2) c9 (by omega)
   have q190 := Chg.step (l := c) (h := (c + 1)) q189 cw'11 (by omega)
   have q191 := Chg.step (l := c) (h := (c + 1)) q190 cw'63 (by omega)
   have q192 := Chg.step (l := c) (h := (c + 1)) q191 c122 (by omega)
   have q193 := Chg.step (l := c) (h := (c + 1)) q192 d187 (by omega)
   exact ⟨_, _, _, _, rfl, f188, by omega, q193⟩
  refine sx_skip ?_
  refine q_n (k4 _ _ ?_)
  refine sx_seq fun K194 k194 => sx_region ?_
  refine mv rfl rfl ?_
  have f195 := f8.chg c9 (by omega)
  refine sx_call rfl rfl Tryz.call88 (c_l08Any xc_9 f195 (by assumption) (by omega) (by omega) (by omega)) (fun v196 w196 p196 => ?_)
  obtain ⟨s196, i2196, h2196, rfl, xc_196, hi2196, c196⟩ := p196
  have zw196 := c196.size
  refine mv rfl rfl ?_
  have f197 := f195.chg c196 (by omega)
  refine sx_call rfl rfl Tryz.call89 (c_l08Cur xc_196 f197 (by assumption) (by omega) (by omega) (by omega)) (fun v198 w198 p198 => ?_)
  obtain ⟨s198, i2198, h2198, rfl, xc_198, hk198, hi2198, c198⟩ := p198
  have zw198 := c198.size
  refine av rfl rfl (av rfl rfl (wl_nil (q_n (k194 _ _ ?_))))
  refine sx_sub (Sub.c 4 rfl (.c 5 rfl .nil)) ?_
  refine sx_retc ?_
  refine sx_ret2 Tryz.results51 rfl rfl ?_
  have q199 := Chg.step (l := c) (h := (c + 1)) (Chg.zero (l := c) (h := (c + 1)) cb2) c9 (by omega)
  have q200 := Chg.step (l := c) (h := (c + 1)) q199 c196 (by omega)
  have q201 := Chg.step (l := c) (h := (c + 1)) q200 c198 (by omega)
  exact ⟨_, _, _, _, rfl, xc_198, by omega, q201⟩
 refine sx_guardF rfl rfl rfl rfl rfl rfl ?_
 refine sx_guardF rfl rfl rfl rfl rfl rfl ?_
 refine sx_guardF rfl rfl rfl rfl rfl rfl ?_
 refine sp rfl (px_pick rfl rfl) ?_
 refine wl_nil (q_n (k5 _ _ ?_))
 refine sx_condF rfl ?_
 refine sx_skip ?_
 refine q_n (k4 _ _ ?_)
 refine sx_seq fun K202 k202 => sx_region ?_
 refine mv rfl rfl ?_
 have f203 := hc.ext cb2
 have f204 := hvb.ext cb2
 refine sx_call rfl rfl Tryz.call88 (c_l08Any f203 f204 (by assumption) (by omega) (by omega) (by omega)) (fun v205 w205 p205 => ?_)
 obtain ⟨s205, i2205, h2205, rfl, xc_205, hi2205, c205⟩ := p205
 have zw205 := c205.size
 refine mv rfl rfl ?_
 have f206 := f204.chg c205 (by omega)
 refine sx_call rfl rfl Tryz.call89 (c_l08Cur xc_205 f206 (by assumption) (by omega) (by omega) (by omega)) (fun v207 w207 p207 => ?_)
 obtain ⟨s207, i2207, h2207, rfl, xc_207, hk207, hi2207, c207⟩ := p207
 have zw207 := c207.size
 refine av rfl rfl (av rfl rfl (wl_nil (q_n (k202 _ _ ?_))))
 refine sx_sub (Sub.c 4 rfl (.c 5 rfl .nil)) ?_
 refine sx_retc ?_
 refine sx_ret2 Tryz.results51 rfl rfl ?_
 have q208 := Chg.step (l := c) (h := (c + 1)) (Chg.zero (l := c) (h := (c + 1)) cb2) c205 (by omega)
 have q209 := Chg.step (l := c) (h := (c + 1)) q208 c207 (by omega)
 exact ⟨_, _, _, _, rfl, xc_207, by omega, q209⟩

theorem c_MakeRates {w : World} {vb : Value} {lvb uvb : Nat} {bs : List Int} (hvb : SlB w lvb uvb vb (bs)) (hb8 : ∀ j, j < bs.length → 0 ≤ bs.getD j 0 ∧ bs.getD j 0 ≤ 255) (hbl : bs.length ≤ 1048576) :
  Ret Tryz.prog 19 [vb] w fun v w' => ∃ s qv ts us a b, v = .tuple #[.agg #[.string (qv), s], .string (a), .string (b)] ∧ RtS w' (w.heap.size) (w'.heap.size) s (ts) us ∧ (RsOk qv ts) ∧ (∀ i, i < (ts).length → SmR ((ts).getD i rt0)) ∧ ((ts).length ≤ 7) ∧ Chg 0 0 w w' := by
 have hvb0 := hvb.fit
 refine sx_enter Tryz.func19 rfl Tryz.ntmps19 (nbl rfl) ?_
 refine sx_seq fun K1 k1 => sx_region ?_
 refine sx_alloc [.string (⟨#[]⟩), (.slice none 0 0)] rfl Tryz.zeroValue47 rfl (fun b2 w3 eb2 sb2 fb2 cb2 => ?_)
 have zw3 := cb2.size
 refine av rfl rfl (av rfl rfl (wl_nil (q_n (k1 _ _ ?_))))
 refine sx_seq fun K4 k4 => sx_region ?_
 refine mv rfl rfl ?_
 have f5 := hvb0.ext cb2
 refine sx_call rfl rfl Tryz.call28 (c_l01New f5 (by assumption) (by omega)) (fun v6 w6 p6 => ?_)
 obtain ⟨c6, h26, rfl, xc_6, hh6, hc6, cq6⟩ := p6
 have zw6 := cq6.size
 refine av rfl rfl (wl_nil (q_n (k4 _ _ ?_)))
 refine sx_seq fun K7 k7 => sx_region ?_
 refine mv rfl rfl ?_
 have f8 := f5.ext cq6
 refine sx_call rfl rfl Tryz.call50 (c_l10Table xc_6 f8 (by assumption) (by omega) (by omega) (by omega)) (fun v9 w9 p9 => ?_)
 obtain ⟨s9, qv9, ts9, us9, i29, h29, rfl, os_9, xc_9, hT9, hsm9, hlen9, hi29, c9⟩ := p9
 have zw9 := c9.size
 have hl12 := hT9.2.1
 refine sx_alloc [.string (⟨#[]⟩), (.slice none 0 0)] rfl Tryz.zeroValue47 rfl (fun b10 w11 eb10 sb10 fb10 cb10 => ?_)
 have zw11 := cb10.size
 have f13 := os_9.ext cb10
 refine sx_store (vs := [.string qv9, s9]) rfl rfl fb10 rfl Tryz.sizeOf47 (nbl rfl) (one_cons rfl (one_cons f13.one one_nil)) (fun w12 sw12 fw12 cw12 => ?_)
 have zw12 := cw12.size
 have gw12 : Blk w12 b10 [.string qv9, s9] 47 := fw12
 refine wl_nil (q_n (k7 _ _ ?_))
 refine sx_seq fun K14 k14 => sx_region ?_
 refine mv rfl rfl (sp rfl (px_load rfl (gw12.loadA (vs := [.string qv9, s9]) (look_lit rfl) Tryz.isAgg47 Tryz.sizeOf47)) ?_)
 have f15 := xc_9.ext cb10
 have f16 := f15.chg cw12 (by omega)
 have f18 := (f8.chg c9 (by omega)).ext cb10
 have f19 := f18.chg cw12 (by omega)
 have f20 := f13.chg cw12 (by omega)
 refine sx_call rfl rfl Tryz.call51 (c_l10Pair f16 f19 f20 (by assumption) (by omega) (by omega) (by omega) (by omega) (by omega) (by omega)) (fun v21 w21 p21 => ?_)
 obtain ⟨a21, b21, i221, h221, rfl, xc_21, hi221, c21⟩ := p21
 have zw21 := c21.size
 refine mv rfl rfl (sp rfl (px_ex2 rfl rfl) ?_)
 refine sp rfl (px_ex2 rfl rfl) ?_
 refine av rfl rfl (av rfl rfl (wl_nil (q_n (k14 _ _ ?_))))
 refine sx_sub (Sub.c 2 rfl (.c 3 rfl (.c 4 rfl (.c 6 rfl (.c 7 rfl (.c 8 rfl .nil)))))) ?_
 refine sx_seq fun K22 k22 => sx_region ?_
 have f23 := gw12.chg c21 (by omega)
 refine sp rfl (px_load rfl (f23.loadA (vs := [.string qv9, s9]) (look_lit rfl) Tryz.isAgg47 Tryz.sizeOf47)) ?_
 refine mv rfl rfl (mv rfl rfl ?_)
 have f25 := fb2.ext cq6
 have f27 := (f25.chg c9 (by omega)).ext cb10
 have f28 := f27.chg cw12 (by omega)
 have f29 := f28.chg c21 (by omega)
 have f30 := f20.chg c21 (by omega)
 refine sx_store (vs := [.string qv9, s9]) rfl rfl f29 rfl Tryz.sizeOf47 (nbl rfl) (one_cons rfl (one_cons f30.one one_nil)) (fun w24 sw24 fw24 cw24 => ?_)
 have zw24 := cw24.size
 have gw24 : Blk w24 b2 [.string qv9, s9] 47 := fw24
 refine av rfl rfl (av rfl rfl (wl_nil (q_n (k22 _ _ ?_))))
 refine sx_retc ?_
 refine sx_ret3 Tryz.results19 ⟨_, rfl, gw24.loadA (vs := [.string qv9, s9]) (look_lit rfl) Tryz.isAgg47 Tryz.sizeOf47⟩ rfl rfl ?_
 have f31 := f30.chg cw24 (by omega)
 have q32 := Chg.step (l := 0) (h := 0) (Chg.zero (l := 0) (h := 0) (cb2.t cq6)) c9 (by omega)
 have q33 := Chg.step (l := 0) (h := 0) q32 cb10 (by omega)
 have q34 := Chg.step (l := 0) (h := 0) q33 cw12 (by omega)
 have q35 := Chg.step (l := 0) (h := 0) q34 c21 (by omega)
 have q36 := Chg.step (l := 0) (h := 0) q35 cw24 (by omega)
 exact ⟨_, _, _, _, _, _, rfl, (f31).mono (by omega) (by omega), by assumption, by assumption, by assumption, q36⟩

theorem c_MakeNum {w : World} {vb : Value} {lvb uvb : Nat} {bs : List Int} {n : Int} (hvb : SlB w lvb uvb vb (bs)) (hb8 : ∀ j, j < bs.length → 0 ≤ bs.getD j 0 ∧ bs.getD j 0 ≤ 255) (hbl : bs.length ≤ 1048576) (hn : 1 ≤ n ∧ n ≤ 1000000000) :
  Ret Tryz.prog 22 [vb, .int .i64 n] w fun v w' => ∃ x, v = .int .i64 (x) ∧ (0 ≤ x ∧ x < n) ∧ Chg 0 0 w w' := by
 have hvb0 := hvb.fit
 refine sx_enter Tryz.func22 rfl Tryz.ntmps22 (nbl rfl) ?_
 refine sx_seq fun K1 k1 => sx_region ?_
 refine av rfl rfl (wl_nil (q_n (k1 _ _ ?_)))
 refine sx_seq fun K2 k2 => sx_region ?_
 refine mv rfl rfl (sx_call rfl rfl Tryz.call28 (c_l01New hvb0 (by assumption) (by omega)) (fun v3 w3 p3 => ?_))
 obtain ⟨c3, h23, rfl, xc_3, hh3, hc3, cq3⟩ := p3
 have zw3 := cq3.size
 refine av rfl rfl (wl_nil (q_n (k2 _ _ ?_)))
 refine sx_seq fun K4 k4 => sx_region ?_
 refine mv rfl rfl (mv rfl rfl (sp rfl (px_nil rfl) ?_))
 refine sp rfl (px_field rfl xfld97x2) ?_
 refine sp rfl (px_load rfl (xc_3.load1 rfl Tryz.isAgg3)) ?_
 refine sp rfl (px_add rfl rfl (by omega)) ?_
 refine sp rfl (px_nil rfl) ?_
 refine sp rfl (px_field rfl xfld97x2) ?_
 refine sx_store (vs := [.int .i64 (h23 + 777)]) rfl rfl xc_3 rfl Tryz.sizeOf3 (nbl rfl) (o1 rfl) (fun w5 sw5 fw5 cw5 => ?_)
 have zw5 := cw5.size
 have gw5 : Blk w5 c3 [vb, .int .i64 0, .int .i64 (h23 + 777)] 97 := fw5
 refine wl_nil (q_n (k4 _ _ ?_))
 refine sx_seq fun K6 k6 => sx_region ?_
 refine mv rfl rfl (mv rfl rfl ?_)
 have f7 := hvb0.ext cq3
 have f8 := f7.chg cw5 (by omega)
 refine sx_call rfl rfl Tryz.call54 (c_l01Below gw5 f8 (by assumption) (by omega) (by omega) (by omega) (by omega)) (fun v9 w9 p9 => ?_)
 obtain ⟨x9, i29, h29, rfl, xc_9, hx9, hi29, c9⟩ := p9
 have zw9 := c9.size
 refine av rfl rfl (wl_nil (q_n (k6 _ _ ?_)))
 refine sx_sub (Sub.c 4 rfl .nil) ?_
 refine sx_retc ?_
 refine sx_ret1 Tryz.results22 rfl ?_
 have q10 := Chg.step (l := 0) (h := 0) (Chg.zero (l := 0) (h := 0) cq3) cw5 (by omega)
 have q11 := Chg.step (l := 0) (h := 0) q10 c9 (by omega)
 exact ⟨_, rfl, by omega, q11⟩

theorem c_natOf {w : World} {n : Int} (hn : 0 ≤ n ∧ n ≤ 18446744073709551615) :
  Ret Tryz.prog 53 [.int .u64 n] w fun v w' => ∃ s, v = s ∧ OwnI w' w.heap.size w'.heap.size s intT (dg (n).toNat) ∧ Chg 0 0 w w' := by
 have l0 := len_u64 (n := n) (by omega)
 refine sx_enter Tryz.func53 rfl Tryz.ntmps53 (nbl rfl) ?_
 refine sx_seq fun K1 k1 => sx_region ?_
 refine av rfl rfl (wl_nil (q_n (k1 _ _ ?_)))
 refine sx_seq fun K2 k2 => sx_region ?_
 refine sx_lit0 rfl xelt23 (fun s3 ws3 ss3 fs3 cs3 => ?_)
 have zws3 := cs3.size
 refine av rfl rfl (wl_nil (q_n (k2 _ _ ?_)))
 refine sx_seq fun K4 k4 => ?_
 refine sx_block ?_
 refine sx_loop (fun mm aa w' => ∃ (s : Value) (os : List Int) (m : Int), Agr 16 [(0, .int .u64 m), (3, s)] aa ∧ Chg w.heap.size ws3.heap.size ws3 w' ∧ Own w' w.heap.size w'.heap.size s intT os.length 1 (os.map (Value.int .i64)) ∧ (mm = m.toNat) ∧ (Lm os) ∧ (0 ≤ m ∧ m ≤ n) ∧ (vl os + Bs ^ os.length * m.toNat = n.toNat) ∧ (os.length + (dg m.toNat).length = (dg n.toNat).length) ∧ (os.length = 0 ∨ Bs ^ (os.length - 1) ≤ n.toNat)) (_) (fun a ha => ⟨s3, [], n, ha.sub (Sub.c 0 rfl (.c 3 rfl .nil)), Chg.refl _ _ _, (fs3.mono (by omega) (by omega)), rfl, Lm.nil, by omega, by simp [vl], by simp, .inl rfl⟩) ?_
 rintro mm aa wl5 ⟨s, os, m, hAwl5, cwl5, hs_s, hm, hlm, hb, hv, hln, hl⟩
 refine (show cw Tryz.prog 16 _ _ _ wl5 from ?_) aa hAwl5
 clear hAwl5
 have zwl5 := cwl5.size
 refine sx_seq fun K6 k6 => ?_
 refine sx_seq fun K7 k7 => sx_region ?_
 refine mv rfl rfl (sp rfl (px_gt rfl rfl) ?_)
 refine wl_nil (q_n (k7 _ _ ?_))
 refine sx_condP rfl (fun h47 => ?_) (fun h47 => ?_)
 ·
  refine sx_skip ?_
  refine q_n (k6 _ _ ?_)
  refine sx_block ?_
  refine sx_seq fun K8 k8 => sx_region ?_
  refine mv rfl rfl (mv rfl rfl (sp rfl (px_remU rfl rfl (by omega) (by omega)) ?_))
  refine sp rfl (px_convI Tryz.underlying95 Tryz.underlying3 rfl (by omega)) ?_
  refine sx_lit1 rfl xelt23 rfl rfl (fun s9 ws9 ss9 fs9 cs9 => ?_)
  have ns9 := Own.norm (f := (Value.int .i64)) (zs := [m % 1000000000]) fs9
  have zws9 := cs9.size
  have f11 := hs_s.ext cs9
  refine sx_append rfl xelt23 rfl rfl f11 ns9.sv one_int (by omega) (by simp only [List.length_cons, List.length_nil]; omega) (by unfold maxLen; simp only [List.length_cons, List.length_nil]; omega) (fun a10 w10 fw10 cw10 => ?_)
  have nw10 := Own.app (f := (Value.int .i64)) (a := os) (b := [m % 1000000000]) fw10
  have zw10 := cw10.size
  refine av rfl rfl (wl_nil (q_n (k8 _ _ ?_)))
  refine sx_region ?_
  refine mv rfl rfl (sp rfl (px_quoU rfl rfl (by omega) (by omega) (by omega)) ?_)
  refine av rfl rfl (wl_nil ?_)
  have q12 := Chg.step (l := w.heap.size) (h := ws3.heap.size) cwl5 cs9 (by omega)
  have q13 := Chg.step (l := w.heap.size) (h := ws3.heap.size) q12 cw10 (by omega)
  have hmd := mod_bd (s := m) (by omega)
  have hm0 : m / 1000000000 < m := by omega
  exact q_bn (fun a ha => ⟨_, by omega, a10, (os ++ ([m % 1000000000])), (m / 1000000000), ha.sub (Sub.c 0 rfl (.c 3 rfl .nil)), q13, (nw10.mono (by omega) (by omega)), rfl, hlm.append (Lm.single hmd.1 hmd.2), by omega, of_stepI (by omega) hv, by have h9 := of_ln (m := m) (by omega); simp only [List.length_append, List.length_singleton]; omega, .inr (of_len (by omega) hv)⟩)
 refine sx_exit ?_
 refine q_e (q_e (q_bx (q_n (k4 _ _ ?_))))
 refine sx_seq fun K14 k14 => sx_region ?_
 refine mv rfl rfl (av rfl rfl (wl_nil (q_n (k14 _ _ ?_))))
 refine sx_retc ?_
 refine sx_ret1 Tryz.results53 rfl ?_
 have hm0 : m = 0 := by omega
 subst hm0
 have hd : os = dg n.toNat := dg_of hlm (by simpa using hv) hl
 subst hd
 have q15 := Chg.step (l := 0) (h := 0) (Chg.zero (l := 0) (h := 0) cs3) cwl5 (by omega)
 exact ⟨_, rfl, (Own.mono hs_s (by omega) (by omega)), q15⟩

theorem c_iIntOf {w : World} {n : Int} (hn : -9223372036854775808 ≤ n ∧ n ≤ 9223372036854775807) :
  Ret Tryz.prog 21 [.int .i64 n] w fun v w' => ∃ s, v = .agg #[.bool (ng n), s] ∧ OwnI w' w.heap.size w'.heap.size s intT (dg (n).natAbs) ∧ Chg 0 0 w w' := by
 refine sx_enter Tryz.func21 rfl Tryz.ntmps21 (nbl rfl) ?_
 refine sx_seq fun K1 k1 => sx_region ?_
 refine sx_alloc [.bool false, (.slice none 0 0)] rfl Tryz.zeroValue25 rfl (fun b2 w3 eb2 sb2 fb2 cb2 => ?_)
 have zw3 := cb2.size
 refine wl_nil (q_n (k1 _ _ ?_))
 refine sx_seq fun K4 k4 => ?_
 refine sx_seq fun K5 k5 => sx_region ?_
 refine mv rfl rfl (sp rfl (px_lt rfl rfl) ?_)
 refine wl_nil (q_n (k5 _ _ ?_))
 refine sx_condP rfl (fun h23 => ?_) (fun h23 => ?_)
 ·
  refine sx_seq fun K6 k6 => sx_region ?_
  refine mv rfl rfl (sp rfl (px_convUn Tryz.underlying3 Tryz.underlying95 rfl (by omega)) ?_)
  refine sp rfl (px_negU rfl (by omega)) ?_
  refine sx_call rfl rfl Tryz.call53 (c_natOf (by omega)) (fun v7 w7 p7 => ?_)
  obtain ⟨s7, rfl, os_7, c7⟩ := p7
  have zw7 := c7.size
  refine sp rfl (px_build rfl (xbld25x0x1 rfl os_7.one _)) ?_
  have f9 := fb2.ext c7
  refine sx_store (vs := [.bool true, v7]) rfl rfl f9 rfl Tryz.sizeOf25 (nbl rfl) (one_cons rfl (one_cons os_7.one one_nil)) (fun w8 sw8 fw8 cw8 => ?_)
  have zw8 := cw8.size
  have gw8 : Blk w8 b2 [.bool true, v7] 25 := fw8
  refine wl_nil (q_n (k6 _ _ ?_))
  refine sx_retc ?_
  refine q_r (sx_ret1 Tryz.results21 ⟨_, rfl, gw8.loadA (vs := [.bool true, v7]) (look_lit rfl) Tryz.isAgg25 Tryz.sizeOf25⟩ ?_)
  have e1 : (18446744073709551616 - (n + 18446744073709551616)).toNat = n.natAbs := by omega
  have e2 : ng n = true := ng_true.2 (by omega)
  rw [e2, ← e1]
  have q10 := Chg.step (l := 0) (h := 0) (Chg.zero (l := 0) (h := 0) (cb2.t c7)) cw8 (by omega)
  have f11 := os_7.chg cw8 (by omega)
  exact ⟨_, rfl, (Own.mono f11 (by omega) (by omega)), q10⟩
 refine sx_skip ?_
 refine q_n (k4 _ _ ?_)
 refine sx_seq fun K12 k12 => sx_region ?_
 refine mv rfl rfl (sp rfl (px_convU Tryz.underlying3 Tryz.underlying95 rfl (by omega)) ?_)
 refine sx_call rfl rfl Tryz.call53 (c_natOf (by omega)) (fun v13 w13 p13 => ?_)
 obtain ⟨s13, rfl, os_13, c13⟩ := p13
 have zw13 := c13.size
 refine sp rfl (px_build rfl (xbld25x0x1 rfl os_13.one _)) ?_
 have f15 := fb2.ext c13
 refine sx_store (vs := [.bool false, v13]) rfl rfl f15 rfl Tryz.sizeOf25 (nbl rfl) (one_cons rfl (one_cons os_13.one one_nil)) (fun w14 sw14 fw14 cw14 => ?_)
 have zw14 := cw14.size
 have gw14 : Blk w14 b2 [.bool false, v13] 25 := fw14
 refine wl_nil (q_n (k12 _ _ ?_))
 refine sx_retc ?_
 refine sx_ret1 Tryz.results21 ⟨_, rfl, gw14.loadA (vs := [.bool false, v13]) (look_lit rfl) Tryz.isAgg25 Tryz.sizeOf25⟩ ?_
 have e1 : n.toNat = n.natAbs := by omega
 have e2 : ng n = false := ng_false.2 (by omega)
 rw [e2, ← e1]
 have q16 := Chg.step (l := 0) (h := 0) (Chg.zero (l := 0) (h := 0) (cb2.t c13)) cw14 (by omega)
 have f17 := os_13.chg cw14 (by omega)
 exact ⟨_, rfl, (Own.mono f17 (by omega) (by omega)), q16⟩

theorem c_currencyOf {w : World} {s : ByteArray} (hG0 : Glob w) :
  Ret Tryz.prog 95 [.string s] w fun v w' => v = .tuple #[.agg #[.string ((curOf s).code), .string ((curOf s).number), .int .i64 ((curOf s).places), .int .i64 ((curOf s).cash)], .bool (decide (Known s))] ∧ Chg 0 0 w w' := by
 refine sx_enter Tryz.func95 rfl Tryz.ntmps95 (nbl rfl) ?_
 refine sx_seq fun K1 k1 => sx_region ?_
 refine sx_alloc [.string (⟨#[]⟩), .string (⟨#[]⟩), .int .i64 0, .int .i64 0] rfl Tryz.zeroValue130 rfl (fun b2 w3 eb2 sb2 fb2 cb2 => ?_)
 have zw3 := cb2.size
 refine av rfl rfl (wl_nil (q_n (k1 _ _ ?_)))
 refine sx_seq fun K4 k4 => ?_
 refine sx_seq fun K5 k5 => sx_region ?_
 have f6 := hG0.ext cb2
 refine sp rfl (px_load rfl (Glob.load f6 Tryz.isAgg155 Tryz.sizeOf155)) ?_
 refine mv rfl rfl (wl_nil (q_n (k5 _ _ ?_)))
 refine sx_block ?_
 refine sx_loop (fun mm aa w' => ∃ (k : Nat), Agr 17 [(0, .string s), (2, .pointer (some ⟨b2, 0, none⟩)), (6, .agg (crCells tabI).toArray), (7, .int .i64 ↑k)] aa ∧ Chg 0 0 w3 w' ∧ (mm = 20 - k) ∧ (k ≤ 20) ∧ (∀ i, i < k → ¬ (tabI.getD i cr0).code = s)) (20) (fun a ha => ⟨0, ha.sub (Sub.c 0 rfl (.c 2 rfl (.c 6 rfl (.c 7 (look_int (t := 7) rfl (by first | omega | simp)) .nil)))), Chg.refl _ _ _, rfl, by omega, fun i h => by omega⟩) ?_
 rintro mm aa wl7 ⟨k, hAwl7, cwl7, hm, hk, hn⟩
 refine (show cw Tryz.prog 17 _ _ _ wl7 from ?_) aa hAwl7
 clear hAwl7
 have zwl7 := cwl7.size
 refine sx_seq fun K8 k8 => sx_region ?_
 refine sp rfl (px_lt rfl rfl) ?_
 refine wl_nil (q_n (k8 _ _ ?_))
 refine sx_seq fun K9 k9 => ?_
 refine sx_condP rfl (fun h39 => ?_) (fun h39 => ?_)
 ·
  refine sx_skip ?_
  refine q_n (k9 _ _ ?_)
  refine sx_seq fun K10 k10 => ?_
  refine sx_block ?_
  refine sx_seq fun K11 k11 => sx_region ?_
  refine sp rfl (px_indexCr (l := tabI) (j := k) rfl rfl (by omega) Tryz.underlying155 rfl Tryz.sizeOf130 Tryz.isAgg130 (by rw [show tabI.length = 20 from rfl]; omega)) ?_
  refine sx_alloc [.string (⟨#[]⟩), .string (⟨#[]⟩), .int .i64 0, .int .i64 0] rfl Tryz.zeroValue130 rfl (fun b12 w13 eb12 sb12 fb12 cb12 => ?_)
  have zw13 := cb12.size
  refine sx_store (vs := [.string ((tabI.getD k cr0).code), .string ((tabI.getD k cr0).number), .int .i64 ((tabI.getD k cr0).places), .int .i64 ((tabI.getD k cr0).cash)]) rfl rfl fb12 rfl Tryz.sizeOf130 (nbl rfl) (one_cons rfl (o3 rfl rfl rfl)) (fun w14 sw14 fw14 cw14 => ?_)
  have zw14 := cw14.size
  have gw14 : Blk w14 b12 [.string ((tabI.getD k cr0).code), .string ((tabI.getD k cr0).number), .int .i64 ((tabI.getD k cr0).places), .int .i64 ((tabI.getD k cr0).cash)] 130 := fw14
  refine wl_nil (q_n (k11 _ _ ?_))
  refine sx_seq fun K15 k15 => sx_region ?_
  refine sp rfl (px_field rfl xfld130x0) ?_
  refine sp rfl (px_load rfl (gw14.load1 rfl Tryz.isAgg9)) ?_
  refine mv rfl rfl (sp rfl (px_eqS rfl rfl) ?_)
  refine wl_nil (q_n (k15 _ _ ?_))
  refine sx_condP rfl (fun h40 => ?_) (fun h40 => ?_)
  ·
   refine sx_seq fun K16 k16 => sx_region ?_
   refine sp rfl (px_load rfl (gw14.loadA (vs := [.string ((tabI.getD k cr0).code), .string ((tabI.getD k cr0).number), .int .i64 ((tabI.getD k cr0).places), .int .i64 ((tabI.getD k cr0).cash)]) (look_lit rfl) Tryz.isAgg130 Tryz.sizeOf130)) ?_
   have f18 := fb2.ext cwl7
   have f19 := f18.ext cb12
   have f20 := f19.chg cw14 (by omega)
   refine sx_store (vs := [.string ((tabI.getD k cr0).code), .string ((tabI.getD k cr0).number), .int .i64 ((tabI.getD k cr0).places), .int .i64 ((tabI.getD k cr0).cash)]) rfl rfl f20 rfl Tryz.sizeOf130 (nbl rfl) (one_cons rfl (o3 rfl rfl rfl)) (fun w17 sw17 fw17 cw17 => ?_)
   have zw17 := cw17.size
   have gw17 : Blk w17 b2 [.string ((tabI.getD k cr0).code), .string ((tabI.getD k cr0).number), .int .i64 ((tabI.getD k cr0).places), .int .i64 ((tabI.getD k cr0).cash)] 130 := fw17
   refine av rfl rfl (wl_nil (q_n (k16 _ _ ?_)))
   refine sx_retc ?_
   refine q_br (q_r (q_r (q_br (q_r (sx_ret2 Tryz.results95 ⟨_, rfl, gw17.loadA (vs := [.string ((tabI.getD k cr0).code), .string ((tabI.getD k cr0).number), .int .i64 ((tabI.getD k cr0).places), .int .i64 ((tabI.getD k cr0).cash)]) (look_lit rfl) Tryz.isAgg130 Tryz.sizeOf130⟩ rfl ?_)))))
   have e := curOf_some (by rw [show tabI.length = 20 from rfl]; omega) hn h40
   have e2 := known_some (by rw [show tabI.length = 20 from rfl]; omega) hn h40
   rw [e]
   have q21 := Chg.step (l := 0) (h := 0) (Chg.zero (l := 0) (h := 0) ((cb2.t cwl7).t cb12)) cw14 (by omega)
   have q22 := Chg.step (l := 0) (h := 0) q21 cw17 (by omega)
   exact ⟨by simp [e2], q22⟩
  refine sx_skip ?_
  refine q_bn (q_n (k10 _ _ ?_))
  refine sx_region ?_
  refine sp rfl (px_add rfl rfl (by omega)) ?_
  refine mv rfl rfl (wl_nil ?_)
  have q23 := Chg.step (l := 0) (h := 0) (Chg.zero (l := 0) (h := 0) (cwl7.t cb12)) cw14 (by omega)
  exact fun a ha => ⟨_, by omega, (k + 1), ha.sub (Sub.c 0 rfl (.c 2 rfl (.c 6 rfl (.c 7 (look_int (t := 7) rfl (by first | omega | simp)) .nil)))), q23, rfl, by omega, upto_succ hn h40⟩
 refine sx_exit ?_
 refine q_e (q_e (q_bx (q_n (k4 _ _ ?_))))
 refine sx_seq fun K24 k24 => sx_region ?_
 refine sp rfl (px_build rfl (xbld130x  _)) ?_
 have f26 := fb2.ext cwl7
 refine sx_store (vs := [.string (⟨#[]⟩), .string (⟨#[]⟩), .int .i64 0, .int .i64 0]) rfl rfl f26 rfl Tryz.sizeOf130 (nbl rfl) (one_cons rfl (o3 rfl rfl rfl)) (fun w25 sw25 fw25 cw25 => ?_)
 have zw25 := cw25.size
 have gw25 : Blk w25 b2 [.string (⟨#[]⟩), .string (⟨#[]⟩), .int .i64 0, .int .i64 0] 130 := fw25
 refine av rfl rfl (wl_nil (q_n (k24 _ _ ?_)))
 refine sx_retc ?_
 refine sx_ret2 Tryz.results95 ⟨_, rfl, gw25.loadA (vs := [.string (⟨#[]⟩), .string (⟨#[]⟩), .int .i64 0, .int .i64 0]) (look_lit rfl) Tryz.isAgg130 Tryz.sizeOf130⟩ rfl ?_
 have e := curOf_none (s := s) (fun i hi => hn i (by rw [show tabI.length = 20 from rfl] at hi; omega))
 have e2 := known_none (s := s) (fun i hi => hn i (by rw [show tabI.length = 20 from rfl] at hi; omega))
 rw [e]
 have q27 := Chg.step (l := 0) (h := 0) (Chg.zero (l := 0) (h := 0) (cb2.t cwl7)) cw25 (by omega)
 exact ⟨by simp [e2, cr0], q27⟩

theorem c_iCurKnown {w : World} {s : ByteArray} (hG0 : Glob w) :
  Ret Tryz.prog 63 [.string s] w fun v w' => v = .bool (decide (Known s)) ∧ Chg 0 0 w w' := by
 refine sx_enter Tryz.func63 rfl Tryz.ntmps63 (nbl rfl) ?_
 refine sx_seq fun K1 k1 => sx_region ?_
 refine av rfl rfl (wl_nil (q_n (k1 _ _ ?_)))
 refine sx_seq fun K2 k2 => sx_region ?_
 refine mv rfl rfl (sx_call rfl rfl Tryz.call95 (c_currencyOf hG0) (fun v3 w3 p3 => ?_))
 obtain ⟨rfl, c3⟩ := p3
 have zw3 := c3.size
 refine mv rfl rfl (sp rfl (px_ex2 rfl rfl) ?_)
 refine sp rfl (px_ex2 rfl rfl) ?_
 refine sx_alloc [.string (⟨#[]⟩), .string (⟨#[]⟩), .int .i64 0, .int .i64 0] rfl Tryz.zeroValue130 rfl (fun b4 w5 eb4 sb4 fb4 cb4 => ?_)
 have zw5 := cb4.size
 refine sx_store (vs := [.string ((curOf s).code), .string ((curOf s).number), .int .i64 ((curOf s).places), .int .i64 ((curOf s).cash)]) rfl rfl fb4 rfl Tryz.sizeOf130 (nbl rfl) (one_cons rfl (o3 rfl rfl rfl)) (fun w6 sw6 fw6 cw6 => ?_)
 have zw6 := cw6.size
 have gw6 : Blk w6 b4 [.string ((curOf s).code), .string ((curOf s).number), .int .i64 ((curOf s).places), .int .i64 ((curOf s).cash)] 130 := fw6
 refine av rfl rfl (wl_nil (q_n (k2 _ _ ?_)))
 refine sx_seq fun K7 k7 => sx_region ?_
 refine mv rfl rfl (av rfl rfl (wl_nil (q_n (k7 _ _ ?_))))
 refine sx_retc ?_
 refine sx_ret1 Tryz.results63 rfl ?_
 have q8 := Chg.step (l := 0) (h := 0) (Chg.zero (l := 0) (h := 0) (c3.t cb4)) cw6 (by omega)
 exact ⟨rfl, q8⟩

theorem c_iNatOk {w : World} {va : Value} {lva uva : Nat} {zs : List Int} (hva : Sl w lva uva va (zs)) (h63 : zs.length ≤ 4611686018427387904) :
  Ret Tryz.prog 104 [va] w fun v w' => v = .bool (decide (NOk zs)) ∧ Chg 0 0 w w' := by
 have hva0 := hva.fit
 refine sx_enter Tryz.func104 rfl Tryz.ntmps104 (nbl rfl) ?_
 refine sx_seq fun K1 k1 => sx_region ?_
 refine av rfl rfl (wl_nil (q_n (k1 _ _ ?_)))
 refine sx_seq fun K2 k2 => ?_
 refine sx_seq fun K3 k3 => sx_region ?_
 refine mv rfl rfl (sp rfl (px_len rfl Tryz.underlying23 hva0) ?_)
 refine sp rfl (px_gt rfl rfl) ?_
 refine mv rfl rfl ?_
 refine sx_tmpP (t := 8) rfl (fun h13 => ?_) (fun h13 => ?_)
 ·
  refine sx_guardF rfl rfl rfl rfl rfl rfl ?_
  refine sx_guardF rfl rfl rfl rfl rfl rfl ?_
  refine sx_guardF rfl rfl rfl rfl rfl rfl ?_
  refine sx_guardF rfl rfl rfl rfl rfl rfl ?_
  refine sx_guardFU rfl rfl rfl rfl rfl ?_
  refine sx_guardFU rfl rfl rfl rfl rfl ?_
  refine sx_guardFU rfl rfl rfl rfl rfl ?_
  refine sx_guardFU rfl rfl rfl rfl rfl ?_
  refine sx_guardFU rfl rfl rfl rfl rfl ?_
  refine sx_guardFU rfl rfl rfl rfl rfl ?_
  refine sx_guardFU rfl rfl rfl rfl rfl ?_
  refine sx_guardF rfl rfl rfl rfl rfl rfl ?_
  refine sp rfl (px_pick rfl rfl) ?_
  refine wl_nil (q_n (k3 _ _ ?_))
  refine sx_sub (Sub.c 0 rfl (.c 2 rfl (.c 21 rfl .nil))) ?_
  refine sx_condT rfl ?_
  refine sx_seq fun K4 k4 => sx_region ?_
  refine av rfl rfl (wl_nil (q_n (k4 _ _ ?_)))
  refine sx_retc ?_
  refine q_r (sx_ret1 Tryz.results104 rfl ?_)
  exact ⟨bFalse (fun h => by first | (have h1 := h.2.1; omega) | exact h.2.2 ((last_getD (by omega)).2 (by assumption))), (Chg.refl 0 0 _)⟩
 refine sx_guardT rfl rfl rfl ?_
 refine mv rfl rfl ?_
 refine sx_guardT rfl rfl rfl ?_
 refine sp rfl (px_len rfl Tryz.underlying23 hva0) ?_
 refine sx_guardT rfl rfl rfl ?_
 refine sp rfl (px_gt rfl rfl) ?_
 refine sx_guardT rfl rfl rfl ?_
 refine mv rfl rfl ?_
 refine sx_tmpP (t := 12) rfl (fun h13x1 => ?_) (fun h13x1 => ?_)
 ·
  refine sx_guardT rfl rfl rfl ?_
  refine mv rfl rfl ?_
  refine sx_guardT rfl rfl rfl ?_
  refine mv rfl rfl ?_
  refine sx_guardT rfl rfl rfl ?_
  refine sp rfl (px_len rfl Tryz.underlying23 hva0) ?_
  refine sx_guardT rfl rfl rfl ?_
  refine sp rfl (px_sub rfl rfl (by omega)) ?_
  refine sx_guardT rfl rfl rfl ?_
  refine sp rfl (px_index1 (j := (zs.length - 1)) rfl rfl (by omega) Tryz.underlying23 Tryz.sizeOf3 hva0 (by omega)) ?_
  refine sx_guardT rfl rfl rfl ?_
  refine sp rfl (px_load rfl (hva0.load1 (at_int (by omega)) Tryz.isAgg3)) ?_
  refine sx_guardT rfl rfl rfl ?_
  refine sp rfl (px_eq rfl rfl) ?_
  refine sx_guardT rfl rfl rfl ?_
  refine sp rfl (px_pick rfl rfl) ?_
  refine sp rfl (px_pick rfl rfl) ?_
  refine wl_nil (q_n (k3 _ _ ?_))
  refine sx_sub (Sub.c 0 rfl (.c 2 rfl (.c 21 rfl .nil))) ?_
  refine sx_condP rfl (fun h13x2 => ?_) (fun h13x2 => ?_)
  ·
   refine sx_seq fun K5 k5 => sx_region ?_
   refine av rfl rfl (wl_nil (q_n (k5 _ _ ?_)))
   refine sx_retc ?_
   refine q_r (sx_ret1 Tryz.results104 rfl ?_)
   exact ⟨bFalse (fun h => by first | (have h1 := h.2.1; omega) | exact h.2.2 ((last_getD (by omega)).2 (by assumption))), (Chg.refl 0 0 _)⟩
  refine sx_skip ?_
  refine q_n (k2 _ _ ?_)
  refine sx_seq fun K6 k6 => ?_
  refine sx_seq fun K7 k7 => sx_region ?_
  refine mv rfl rfl (sp rfl (px_len rfl Tryz.underlying23 hva0) ?_)
  refine mv rfl rfl (wl_nil (q_n (k7 _ _ ?_)))
  refine sx_block ?_
  refine sx_loop (fun mm aa w' => ∃ (k : Nat), Agr 35 [(22, va), (23, .int .i64 ↑zs.length), (24, .int .i64 ↑k)] aa ∧ Chg 0 0 w w' ∧ (mm = zs.length - k) ∧ (k ≤ zs.length) ∧ (∀ i, i < k → 0 ≤ zs.getD i 0 ∧ zs.getD i 0 < 1000000000)) (_) (fun a ha => ⟨0, ha.sub (Sub.c 22 rfl (.c 23 (look_int (t := 23) rfl (by first | omega | simp)) (.c 24 (look_int (t := 24) rfl (by first | omega | simp)) .nil))), Chg.refl _ _ _, rfl, by omega, fun i h => by omega⟩) ?_
  rintro mm aa wl8 ⟨k, hAwl8, cwl8, hm, hk, hall⟩
  refine (show cw Tryz.prog 35 _ _ _ wl8 from ?_) aa hAwl8
  clear hAwl8
  have zwl8 := cwl8.size
  refine sx_seq fun K9 k9 => sx_region ?_
  refine sp rfl (px_lt rfl rfl) ?_
  refine wl_nil (q_n (k9 _ _ ?_))
  refine sx_seq fun K10 k10 => ?_
  refine sx_condP rfl (fun h16 => ?_) (fun h16 => ?_)
  ·
   refine sx_skip ?_
   refine q_n (k10 _ _ ?_)
   refine sx_seq fun K11 k11 => ?_
   refine sx_block ?_
   refine sx_seq fun K12 k12 => sx_region ?_
   have f13 := hva0.ext cwl8
   refine sp rfl (px_index1 (j := k) rfl rfl (by omega) Tryz.underlying23 Tryz.sizeOf3 f13 (by omega)) ?_
   refine sp rfl (px_load rfl (f13.load1 (at_int (by omega)) Tryz.isAgg3)) ?_
   refine av rfl rfl (wl_nil (q_n (k12 _ _ ?_)))
   refine sx_seq fun K14 k14 => sx_region ?_
   refine mv rfl rfl (sp rfl (px_lt rfl rfl) ?_)
   refine mv rfl rfl ?_
   refine sx_tmpP (t := 30) rfl (fun h17 => ?_) (fun h17 => ?_)
   ·
    refine sx_guardF rfl rfl rfl rfl rfl rfl ?_
    refine sx_guardF rfl rfl rfl rfl rfl rfl ?_
    refine sp rfl (px_pick rfl rfl) ?_
    refine wl_nil (q_n (k14 _ _ ?_))
    refine sx_condT rfl ?_
    refine sx_seq fun K15 k15 => sx_region ?_
    refine av rfl rfl (wl_nil (q_n (k15 _ _ ?_)))
    refine sx_retc ?_
    refine q_br (q_r (q_r (q_br (q_r (sx_ret1 Tryz.results104 rfl ?_)))))
    exact ⟨bFalse (fun h => by have h1 := h.1.getD k; omega), cwl8⟩
   refine sx_guardT rfl rfl rfl ?_
   refine mv rfl rfl ?_
   refine sx_guardT rfl rfl rfl ?_
   refine sp rfl (px_ge rfl rfl) ?_
   refine sp rfl (px_pick rfl rfl) ?_
   refine wl_nil (q_n (k14 _ _ ?_))
   refine sx_condP rfl (fun h17x1 => ?_) (fun h17x1 => ?_)
   ·
    refine sx_seq fun K16 k16 => sx_region ?_
    refine av rfl rfl (wl_nil (q_n (k16 _ _ ?_)))
    refine sx_retc ?_
    refine q_br (q_r (q_r (q_br (q_r (sx_ret1 Tryz.results104 rfl ?_)))))
    exact ⟨bFalse (fun h => by have h1 := h.1.getD k; omega), cwl8⟩
   refine sx_skip ?_
   refine q_bn (q_n (k11 _ _ ?_))
   refine sx_region ?_
   refine sp rfl (px_add rfl rfl (by omega)) ?_
   refine mv rfl rfl (wl_nil ?_)
   exact fun a ha => ⟨_, by omega, (k + 1), ha.sub (Sub.c 22 rfl (.c 23 rfl (.c 24 (look_int (t := 24) rfl (by first | omega | simp)) .nil))), cwl8, rfl, by omega, lm_succ hall (by omega)⟩
  refine sx_exit ?_
  refine q_e (q_e (q_bx (q_n (k6 _ _ ?_))))
  refine sx_seq fun K17 k17 => sx_region ?_
  refine av rfl rfl (wl_nil (q_n (k17 _ _ ?_)))
  refine sx_retc ?_
  refine sx_ret1 Tryz.results104 rfl ?_
  have ek : k = zs.length := by omega
  have hz : Lm zs := lm_mem (by rw [← ek]; exact hall)
  exact ⟨bTrue (NOk_mk hz (by omega) (by first | exact .inl (by omega) | exact .inr (by assumption))), cwl8⟩
 refine sx_guardF rfl rfl rfl rfl rfl rfl ?_
 refine sx_guardF rfl rfl rfl rfl rfl rfl ?_
 refine sx_guardF rfl rfl rfl rfl rfl rfl ?_
 refine sx_guardF rfl rfl rfl rfl rfl rfl ?_
 refine sx_guardF rfl rfl rfl rfl rfl rfl ?_
 refine sx_guardF rfl rfl rfl rfl rfl rfl ?_
 refine sx_guardF rfl rfl rfl rfl rfl rfl ?_
 refine sx_guardT rfl rfl rfl ?_
 refine sp rfl (px_pick rfl rfl) ?_
 refine sp rfl (px_pick rfl rfl) ?_
 refine wl_nil (q_n (k3 _ _ ?_))
 refine sx_sub (Sub.c 0 rfl (.c 2 rfl (.c 21 rfl .nil))) ?_
 refine sx_condF rfl ?_
 refine sx_skip ?_
 refine q_n (k2 _ _ ?_)
 refine sx_seq fun K18 k18 => ?_
 refine sx_seq fun K19 k19 => sx_region ?_
 refine mv rfl rfl (sp rfl (px_len rfl Tryz.underlying23 hva0) ?_)
 refine mv rfl rfl (wl_nil (q_n (k19 _ _ ?_)))
 refine sx_block ?_
 refine sx_loop (fun mm aa w' => ∃ (k : Nat), Agr 35 [(22, va), (23, .int .i64 ↑zs.length), (24, .int .i64 ↑k)] aa ∧ Chg 0 0 w w' ∧ (mm = zs.length - k) ∧ (k ≤ zs.length) ∧ (∀ i, i < k → 0 ≤ zs.getD i 0 ∧ zs.getD i 0 < 1000000000)) (_) (fun a ha => ⟨0, ha.sub (Sub.c 22 rfl (.c 23 (look_int (t := 23) rfl (by first | omega | simp)) (.c 24 (look_int (t := 24) rfl (by first | omega | simp)) .nil))), Chg.refl _ _ _, rfl, by omega, fun i h => by omega⟩) ?_
 rintro mm aa wl20 ⟨k, hAwl20, cwl20, hm, hk, hall⟩
 refine (show cw Tryz.prog 35 _ _ _ wl20 from ?_) aa hAwl20
 clear hAwl20
 have zwl20 := cwl20.size
 refine sx_seq fun K21 k21 => sx_region ?_
 refine sp rfl (px_lt rfl rfl) ?_
 refine wl_nil (q_n (k21 _ _ ?_))
 refine sx_seq fun K22 k22 => ?_
 refine sx_condP rfl (fun h16 => ?_) (fun h16 => ?_)
 ·
  refine sx_skip ?_
  refine q_n (k22 _ _ ?_)
  refine sx_seq fun K23 k23 => ?_
  refine sx_block ?_
  refine sx_seq fun K24 k24 => sx_region ?_
  have f25 := hva0.ext cwl20
  refine sp rfl (px_index1 (j := k) rfl rfl (by omega) Tryz.underlying23 Tryz.sizeOf3 f25 (by omega)) ?_
  refine sp rfl (px_load rfl (f25.load1 (at_int (by omega)) Tryz.isAgg3)) ?_
  refine av rfl rfl (wl_nil (q_n (k24 _ _ ?_)))
  refine sx_seq fun K26 k26 => sx_region ?_
  refine mv rfl rfl (sp rfl (px_lt rfl rfl) ?_)
  refine mv rfl rfl ?_
  refine sx_tmpP (t := 30) rfl (fun h17 => ?_) (fun h17 => ?_)
  ·
   refine sx_guardF rfl rfl rfl rfl rfl rfl ?_
   refine sx_guardF rfl rfl rfl rfl rfl rfl ?_
   refine sp rfl (px_pick rfl rfl) ?_
   refine wl_nil (q_n (k26 _ _ ?_))
   refine sx_condT rfl ?_
   refine sx_seq fun K27 k27 => sx_region ?_
   refine av rfl rfl (wl_nil (q_n (k27 _ _ ?_)))
   refine sx_retc ?_
   refine q_br (q_r (q_r (q_br (q_r (sx_ret1 Tryz.results104 rfl ?_)))))
   exact ⟨bFalse (fun h => by have h1 := h.1.getD k; omega), cwl20⟩
  refine sx_guardT rfl rfl rfl ?_
  refine mv rfl rfl ?_
  refine sx_guardT rfl rfl rfl ?_
  refine sp rfl (px_ge rfl rfl) ?_
  refine sp rfl (px_pick rfl rfl) ?_
  refine wl_nil (q_n (k26 _ _ ?_))
  refine sx_condP rfl (fun h17x1 => ?_) (fun h17x1 => ?_)
  ·
   refine sx_seq fun K28 k28 => sx_region ?_
   refine av rfl rfl (wl_nil (q_n (k28 _ _ ?_)))
   refine sx_retc ?_
   refine q_br (q_r (q_r (q_br (q_r (sx_ret1 Tryz.results104 rfl ?_)))))
   exact ⟨bFalse (fun h => by have h1 := h.1.getD k; omega), cwl20⟩
  refine sx_skip ?_
  refine q_bn (q_n (k23 _ _ ?_))
  refine sx_region ?_
  refine sp rfl (px_add rfl rfl (by omega)) ?_
  refine mv rfl rfl (wl_nil ?_)
  exact fun a ha => ⟨_, by omega, (k + 1), ha.sub (Sub.c 22 rfl (.c 23 rfl (.c 24 (look_int (t := 24) rfl (by first | omega | simp)) .nil))), cwl20, rfl, by omega, lm_succ hall (by omega)⟩
 refine sx_exit ?_
 refine q_e (q_e (q_bx (q_n (k18 _ _ ?_))))
 refine sx_seq fun K29 k29 => sx_region ?_
 refine av rfl rfl (wl_nil (q_n (k29 _ _ ?_)))
 refine sx_retc ?_
 refine sx_ret1 Tryz.results104 rfl ?_
 have ek : k = zs.length := by omega
 have hz : Lm zs := lm_mem (by rw [← ek]; exact hall)
 exact ⟨bTrue (NOk_mk hz (by omega) (by first | exact .inl (by omega) | exact .inr (by assumption))), cwl20⟩

theorem c_iIntOk {w : World} {n1 : Bool} {v1 : Value} {lv1 uv1 : Nat} {z1 : List Int} (hv1 : Sl w lv1 uv1 v1 (z1)) (h63 : z1.length ≤ 4611686018427387904) :
  Ret Tryz.prog 70 [.agg #[.bool n1, v1]] w fun v w' => v = .bool (decide (IOk n1 z1)) ∧ Chg 0 0 w w' := by
 have hv10 := hv1.fit
 refine sx_enter Tryz.func70 rfl Tryz.ntmps70 (nbl rfl) ?_
 refine sx_seq fun K1 k1 => sx_region ?_
 refine sx_box [.bool n1, v1] rfl rfl rfl (fun b2 w3 eb2 sb2 fb2 cb2 => ?_)
 have zw3 := cb2.size
 refine av rfl rfl (wl_nil (q_n (k1 _ _ ?_)))
 refine sx_seq fun K4 k4 => sx_region ?_
 refine sp rfl (px_field rfl xfld25x1) ?_
 refine sp rfl (px_load rfl (fb2.load1 rfl Tryz.isAgg23)) ?_
 have f5 := hv10.ext cb2
 refine sx_call rfl rfl Tryz.call104 (c_iNatOk f5 (by omega)) (fun v6 w6 p6 => ?_)
 obtain ⟨rfl, c6⟩ := p6
 have zw6 := c6.size
 refine mv rfl rfl ?_
 refine sx_tmpP (t := 6) rfl (fun h10 => ?_) (fun h10 => ?_)
 ·
  refine sx_guardT rfl rfl rfl ?_
  refine sp rfl (px_field rfl xfld25x0) ?_
  refine sx_guardT rfl rfl rfl ?_
  have f7 := fb2.ext c6
  refine sp rfl (px_load rfl (f7.load1 rfl Tryz.isAgg4)) ?_
  refine sx_guardT rfl rfl rfl ?_
  refine sp rfl (px_not rfl) ?_
  refine sx_guardT rfl rfl rfl ?_
  refine mv rfl rfl ?_
  refine sx_tmpB (t := 10) rfl (fun h10x1 => ?_) (fun h10x1 => ?_)
  ·
   refine sx_guardF rfl rfl rfl rfl rfl rfl ?_
   refine sx_guardF rfl rfl rfl rfl rfl rfl ?_
   refine sx_guardF rfl rfl rfl rfl rfl rfl ?_
   refine sx_guardF rfl rfl rfl rfl rfl rfl ?_
   refine sx_guardT rfl rfl rfl ?_
   refine sp rfl (px_pick rfl rfl) ?_
   refine sp rfl (px_pick rfl rfl) ?_
   refine av rfl rfl (wl_nil (q_n (k4 _ _ ?_)))
   refine sx_sub (Sub.c 2 rfl .nil) ?_
   refine sx_retc ?_
   refine sx_ret1 Tryz.results70 rfl ?_
   exact ⟨(by first | exact bTrue (by grind [IOk]) | exact bFalse (by grind [IOk]) | exact bIff (by grind [IOk])), (cb2.t c6)⟩
  refine sx_guardT rfl rfl rfl ?_
  refine sp rfl (px_field rfl xfld25x1) ?_
  refine sx_guardT rfl rfl rfl ?_
  refine sp rfl (px_load rfl (f7.load1 rfl Tryz.isAgg23)) ?_
  refine sx_guardT rfl rfl rfl ?_
  have f8 := f5.ext c6
  refine sp rfl (px_len rfl Tryz.underlying23 f8) ?_
  refine sx_guardT rfl rfl rfl ?_
  refine sp rfl (px_gt rfl rfl) ?_
  refine sx_guardT rfl rfl rfl ?_
  refine sp rfl (px_pick rfl rfl) ?_
  refine sp rfl (px_pick rfl rfl) ?_
  refine av rfl rfl (wl_nil (q_n (k4 _ _ ?_)))
  refine sx_sub (Sub.c 2 rfl .nil) ?_
  refine sx_retc ?_
  refine sx_ret1 Tryz.results70 rfl ?_
  exact ⟨(by first | exact bTrue (by grind [IOk]) | exact bFalse (by grind [IOk]) | exact bIff (by grind [IOk])), (cb2.t c6)⟩
 refine sx_guardF rfl rfl rfl rfl rfl rfl ?_
 refine sx_guardF rfl rfl rfl rfl rfl rfl ?_
 refine sx_guardF rfl rfl rfl rfl rfl rfl ?_
 refine sx_guardF rfl rfl rfl rfl rfl rfl ?_
 refine sx_guardFU rfl rfl rfl rfl rfl ?_
 refine sx_guardFU rfl rfl rfl rfl rfl ?_
 refine sx_guardFU rfl rfl rfl rfl rfl ?_
 refine sx_guardFU rfl rfl rfl rfl rfl ?_
 refine sx_guardF rfl rfl rfl rfl rfl rfl ?_
 refine sp rfl (px_pick rfl rfl) ?_
 refine av rfl rfl (wl_nil (q_n (k4 _ _ ?_)))
 refine sx_sub (Sub.c 2 rfl .nil) ?_
 refine sx_retc ?_
 refine sx_ret1 Tryz.results70 rfl ?_
 exact ⟨(by first | exact bTrue (by grind [IOk]) | exact bFalse (by grind [IOk]) | exact bIff (by grind [IOk])), (cb2.t c6)⟩

theorem c_isScale {w : World} {p : Int} :
  Ret Tryz.prog 37 [.int .i64 p] w fun v w' => v = .bool (decide (0 ≤ p ∧ p ≤ 30)) ∧ Chg 0 0 w w' := by
 refine sx_enter Tryz.func37 rfl Tryz.ntmps37 (nbl rfl) ?_
 refine sx_seq fun K1 k1 => sx_region ?_
 refine av rfl rfl (wl_nil (q_n (k1 _ _ ?_)))
 refine sx_seq fun K2 k2 => sx_region ?_
 refine mv rfl rfl (sp rfl (px_ge rfl rfl) ?_)
 refine mv rfl rfl ?_
 refine sx_tmpP (t := 5) rfl (fun h15 => ?_) (fun h15 => ?_)
 ·
  refine sx_guardT rfl rfl rfl ?_
  refine mv rfl rfl ?_
  refine sx_guardT rfl rfl rfl ?_
  refine sp rfl (px_le rfl rfl) ?_
  refine sp rfl (px_pick rfl rfl) ?_
  refine av rfl rfl (wl_nil (q_n (k2 _ _ ?_)))
  refine sx_retc ?_
  refine sx_ret1 Tryz.results37 rfl ?_
  exact ⟨(by first | exact bTrue (by grind) | exact bFalse (by grind) | exact bIff (by grind)), (Chg.refl 0 0 _)⟩
 refine sx_guardF rfl rfl rfl rfl rfl rfl ?_
 refine sx_guardF rfl rfl rfl rfl rfl rfl ?_
 refine sp rfl (px_pick rfl rfl) ?_
 refine av rfl rfl (wl_nil (q_n (k2 _ _ ?_)))
 refine sx_retc ?_
 refine sx_ret1 Tryz.results37 rfl ?_
 exact ⟨(by first | exact bTrue (by grind) | exact bFalse (by grind) | exact bIff (by grind)), (Chg.refl 0 0 _)⟩

theorem c_iDecOk {w : World} {n1 : Bool} {v1 : Value} {lv1 uv1 : Nat} {z1 : List Int} {p1 : Int} (hv1 : Sl w lv1 uv1 v1 (z1)) (h63 : z1.length ≤ 4611686018427387904) :
  Ret Tryz.prog 34 [.agg #[.bool n1, v1, .int .i64 p1]] w fun v w' => v = .bool (decide (DOk n1 z1 p1)) ∧ Chg 0 0 w w' := by
 have hv10 := hv1.fit
 refine sx_enter Tryz.func34 rfl Tryz.ntmps34 (nbl rfl) ?_
 refine sx_seq fun K1 k1 => sx_region ?_
 refine sx_box [.bool n1, v1, .int .i64 p1] rfl rfl rfl (fun b2 w3 eb2 sb2 fb2 cb2 => ?_)
 have zw3 := cb2.size
 refine av rfl rfl (wl_nil (q_n (k1 _ _ ?_)))
 refine sx_seq fun K4 k4 => sx_region ?_
 refine sp rfl (px_field rfl xfld27x0) ?_
 refine sp rfl (px_load rfl (fb2.loadA (vs := [.bool n1, v1]) (look_lit rfl) Tryz.isAgg25 Tryz.sizeOf25)) ?_
 have f5 := hv10.ext cb2
 refine sx_call rfl rfl Tryz.call70 (c_iIntOk f5 (by omega)) (fun v6 w6 p6 => ?_)
 obtain ⟨rfl, c6⟩ := p6
 have zw6 := c6.size
 refine mv rfl rfl ?_
 refine sx_tmpP (t := 6) rfl (fun h18 => ?_) (fun h18 => ?_)
 ·
  refine sx_guardT rfl rfl rfl ?_
  refine sp rfl (px_field rfl xfld27x0) ?_
  refine sx_guardT rfl rfl rfl ?_
  refine sp rfl (px_field rfl xfld25x1) ?_
  refine sx_guardT rfl rfl rfl ?_
  have f7 := fb2.ext c6
  refine sp rfl (px_load rfl (f7.load1 rfl Tryz.isAgg23)) ?_
  refine sx_guardT rfl rfl rfl ?_
  have f8 := f5.ext c6
  refine sp rfl (px_len rfl Tryz.underlying23 f8) ?_
  refine sx_guardT rfl rfl rfl ?_
  refine sp rfl (px_le rfl rfl) ?_
  refine sp rfl (px_pick rfl rfl) ?_
  refine mv rfl rfl ?_
  refine sx_tmpP (t := 13) rfl (fun h18x1 => ?_) (fun h18x1 => ?_)
  ·
   refine sx_guardT rfl rfl rfl ?_
   refine sp rfl (px_field rfl xfld27x1) ?_
   refine sx_guardT rfl rfl rfl ?_
   refine sp rfl (px_load rfl (f7.load1 rfl Tryz.isAgg3)) ?_
   refine sx_guardT rfl rfl rfl ?_
   refine sx_call rfl rfl Tryz.call37 (c_isScale) (fun v9 w9 p9 => ?_)
   obtain ⟨rfl, c9⟩ := p9
   have zw9 := c9.size
   refine sp rfl (px_pick rfl rfl) ?_
   refine av rfl rfl (wl_nil (q_n (k4 _ _ ?_)))
   refine sx_sub (Sub.c 2 rfl .nil) ?_
   refine sx_retc ?_
   refine sx_ret1 Tryz.results34 rfl ?_
   exact ⟨(by first | exact bTrue (by grind [DOk]) | exact bFalse (by grind [DOk]) | exact bIff (by grind [DOk])), ((cb2.t c6).t c9)⟩
  refine sx_guardF rfl rfl rfl rfl rfl rfl ?_
  refine sx_guardF rfl rfl rfl rfl rfl rfl ?_
  refine sx_guardF rfl rfl rfl rfl rfl rfl ?_
  refine sp rfl (px_pick rfl rfl) ?_
  refine av rfl rfl (wl_nil (q_n (k4 _ _ ?_)))
  refine sx_sub (Sub.c 2 rfl .nil) ?_
  refine sx_retc ?_
  refine sx_ret1 Tryz.results34 rfl ?_
  exact ⟨(by first | exact bTrue (by grind [DOk]) | exact bFalse (by grind [DOk]) | exact bIff (by grind [DOk])), (cb2.t c6)⟩
 refine sx_guardF rfl rfl rfl rfl rfl rfl ?_
 refine sx_guardF rfl rfl rfl rfl rfl rfl ?_
 refine sx_guardF rfl rfl rfl rfl rfl rfl ?_
 refine sx_guardF rfl rfl rfl rfl rfl rfl ?_
 refine sx_guardF rfl rfl rfl rfl rfl rfl ?_
 refine sp rfl (px_pick rfl rfl) ?_
 refine mv rfl rfl ?_
 refine sx_guardF rfl rfl rfl rfl rfl rfl ?_
 refine sx_guardF rfl rfl rfl rfl rfl rfl ?_
 refine sx_guardF rfl rfl rfl rfl rfl rfl ?_
 refine sp rfl (px_pick rfl rfl) ?_
 refine av rfl rfl (wl_nil (q_n (k4 _ _ ?_)))
 refine sx_sub (Sub.c 2 rfl .nil) ?_
 refine sx_retc ?_
 refine sx_ret1 Tryz.results34 rfl ?_
 exact ⟨(by first | exact bTrue (by grind [DOk]) | exact bFalse (by grind [DOk]) | exact bIff (by grind [DOk])), (cb2.t c6)⟩

theorem c_intSign {w : World} {va : Value} {lva uva : Nat} {x : Int} (hva : Sl w lva uva va (dg x.natAbs)) (hbx : (dg x.natAbs).length ≤ 1000) :
  Ret Tryz.prog 79 [.agg #[.bool (ng x), va]] w fun v w' => v = .int .i64 ((x).sign) ∧ Chg 0 0 w w' := by
 have hva0 := hva.fit
 refine sx_enter Tryz.func79 rfl Tryz.ntmps79 (nbl rfl) ?_
 refine sx_seq fun K1 k1 => sx_region ?_
 refine sx_box [.bool (ng x), va] rfl rfl rfl (fun b2 w3 eb2 sb2 fb2 cb2 => ?_)
 have zw3 := cb2.size
 refine av rfl rfl (wl_nil (q_n (k1 _ _ ?_)))
 refine sx_seq fun K4 k4 => ?_
 refine sx_block ?_
 refine sx_seq fun K5 k5 => sx_region ?_
 refine sp rfl (px_field rfl xfld25x1) ?_
 refine sp rfl (px_load rfl (fb2.load1 rfl Tryz.isAgg23)) ?_
 have f6 := hva0.ext cb2
 refine sp rfl (px_len rfl Tryz.underlying23 f6) ?_
 refine sp rfl (px_eq rfl rfl) ?_
 refine av rfl rfl (wl_nil (q_n (k5 _ _ ?_)))
 refine sx_condP rfl (fun h101 => ?_) (fun h101 => ?_)
 ·
  refine sx_seq fun K7 k7 => sx_region ?_
  refine av rfl rfl (wl_nil (q_n (k7 _ _ ?_)))
  refine sx_retc ?_
  refine q_br (q_r (sx_ret1 Tryz.results79 rfl ?_))
  exact ⟨(by rw [sign_z (by omega)]), cb2⟩
 refine sx_seq fun K8 k8 => sx_region ?_
 refine sp rfl (px_field rfl xfld25x0) ?_
 refine sp rfl (px_load rfl (fb2.load1 rfl Tryz.isAgg4)) ?_
 refine av rfl rfl (wl_nil (q_n (k8 _ _ ?_)))
 refine sx_condB rfl (fun h103 => ?_) (fun h103 => ?_)
 ·
  refine sx_seq fun K9 k9 => sx_region ?_
  refine av rfl rfl (wl_nil (q_n (k9 _ _ ?_)))
  refine sx_retc ?_
  refine q_br (q_r (sx_ret1 Tryz.results79 rfl ?_))
  exact ⟨(by rw [sign_n h103]), cb2⟩
 refine sx_skip ?_
 refine q_bn (q_n (k4 _ _ ?_))
 refine sx_seq fun K10 k10 => sx_region ?_
 refine av rfl rfl (wl_nil (q_n (k10 _ _ ?_)))
 refine sx_retc ?_
 refine sx_ret1 Tryz.results79 rfl ?_
 exact ⟨(by rw [sign_p (by omega) h103]), cb2⟩

theorem c_iRateOk {w : World} {f1 : ByteArray} {t1 : ByteArray} {n1 : Bool} {v1 : Value} {lv1 uv1 : Nat} {z1 : List Int} {p1 : Int} (hG0 : Glob w) (hv1 : Sl w lv1 uv1 v1 (z1)) (h63 : z1.length ≤ 4611686018427387904) :
  Ret Tryz.prog 55 [.agg #[.string f1, .string t1, .bool n1, v1, .int .i64 p1]] w fun v w' => v = .bool (decide (RateP f1 t1 n1 z1 p1)) ∧ Chg 0 0 w w' := by
 have hv10 := hv1.fit
 refine sx_enter Tryz.func55 rfl Tryz.ntmps55 (nbl rfl) ?_
 refine sx_seq fun K1 k1 => sx_region ?_
 refine sx_box [.string f1, .string t1, .bool n1, v1, .int .i64 p1] rfl rfl rfl (fun b2 w3 eb2 sb2 fb2 cb2 => ?_)
 have zw3 := cb2.size
 refine av rfl rfl (wl_nil (q_n (k1 _ _ ?_)))
 refine sx_seq fun K4 k4 => sx_region ?_
 refine sp rfl (px_field rfl xfld54x0) ?_
 refine sp rfl (px_load rfl (fb2.load1 rfl Tryz.isAgg9)) ?_
 have f5 := hG0.ext cb2
 refine sx_call rfl rfl Tryz.call63 (c_iCurKnown f5) (fun v6 w6 p6 => ?_)
 obtain ⟨rfl, c6⟩ := p6
 have zw6 := c6.size
 refine mv rfl rfl ?_
 refine sx_tmpP (t := 6) rfl (fun h36 => ?_) (fun h36 => ?_)
 ·
  refine sx_guardT rfl rfl rfl ?_
  refine sp rfl (px_field rfl xfld54x1) ?_
  refine sx_guardT rfl rfl rfl ?_
  have f7 := fb2.ext c6
  refine sp rfl (px_load rfl (f7.load1 rfl Tryz.isAgg9)) ?_
  refine sx_guardT rfl rfl rfl ?_
  have f8 := f5.ext c6
  refine sx_call rfl rfl Tryz.call63 (c_iCurKnown f8) (fun v9 w9 p9 => ?_)
  obtain ⟨rfl, c9⟩ := p9
  have zw9 := c9.size
  refine sp rfl (px_pick rfl rfl) ?_
  refine mv rfl rfl ?_
  refine sx_tmpP (t := 11) rfl (fun h36x1 => ?_) (fun h36x1 => ?_)
  ·
   refine sx_guardT rfl rfl rfl ?_
   refine sp rfl (px_field rfl xfld54x0) ?_
   refine sx_guardT rfl rfl rfl ?_
   have f10 := f7.ext c9
   refine sp rfl (px_load rfl (f10.load1 rfl Tryz.isAgg9)) ?_
   refine sx_guardT rfl rfl rfl ?_
   refine sp rfl (px_field rfl xfld54x1) ?_
   refine sx_guardT rfl rfl rfl ?_
   refine sp rfl (px_load rfl (f10.load1 rfl Tryz.isAgg9)) ?_
   refine sx_guardT rfl rfl rfl ?_
   refine sp rfl (px_neS rfl rfl) ?_
   refine sp rfl (px_pick rfl rfl) ?_
   refine mv rfl rfl ?_
   refine sx_tmpP (t := 18) rfl (fun h36x2 => ?_) (fun h36x2 => ?_)
   ·
    refine sx_guardT rfl rfl rfl ?_
    refine sp rfl (px_field rfl xfld54x2) ?_
    refine sx_guardT rfl rfl rfl ?_
    refine sp rfl (px_load rfl (f10.loadA (vs := [.bool n1, v1, .int .i64 p1]) (look_lit rfl) Tryz.isAgg27 Tryz.sizeOf27)) ?_
    refine sx_guardT rfl rfl rfl ?_
    have f11 := hv10.ext cb2
    have f13 := (f11.ext c6).ext c9
    refine sx_call rfl rfl Tryz.call34 (c_iDecOk f13 (by omega)) (fun v14 w14 p14 => ?_)
    obtain ⟨rfl, c14⟩ := p14
    have zw14 := c14.size
    refine sp rfl (px_pick rfl rfl) ?_
    refine mv rfl rfl ?_
    refine sx_tmpP (t := 23) rfl (fun h36x3 => ?_) (fun h36x3 => ?_)
    ·
     have hD := h36x3
     obtain ⟨x1, rfl, rfl, hx1⟩ := hD.int
     have hvx := vI_ng x1
     have hsx := sign_gt (x := x1)
     have hcx := cmpI_gt0 (x := x1)
     refine sx_guardT rfl rfl rfl ?_
     refine sp rfl (px_field rfl xfld54x2) ?_
     refine sx_guardT rfl rfl rfl ?_
     refine sp rfl (px_field rfl xfld27x0) ?_
     refine sx_guardT rfl rfl rfl ?_
     have f15 := f10.ext c14
     refine sp rfl (px_load rfl (f15.loadA (vs := [.bool (ng x1), v1]) (look_lit rfl) Tryz.isAgg25 Tryz.sizeOf25)) ?_
     refine sx_guardT rfl rfl rfl ?_
     have f16 := f13.ext c14
     refine sx_call rfl rfl Tryz.call79 (c_intSign f16 (by omega)) (fun v17 w17 p17 => ?_)
     obtain ⟨rfl, c17⟩ := p17
     have zw17 := c17.size
     refine sx_guardT rfl rfl rfl ?_
     refine sp rfl (px_gt rfl rfl) ?_
     refine sp rfl (px_pick rfl rfl) ?_
     refine mv rfl rfl ?_
     refine sx_tmpP (t := 30) rfl (fun h36x4 => ?_) (fun h36x4 => ?_)
     ·
      refine sx_guardT rfl rfl rfl ?_
      refine sp rfl (px_field rfl xfld54x2) ?_
      refine sx_guardT rfl rfl rfl ?_
      refine sp rfl (px_field rfl xfld27x0) ?_
      refine sx_guardT rfl rfl rfl ?_
      refine sp rfl (px_field rfl xfld25x1) ?_
      refine sx_guardT rfl rfl rfl ?_
      have f18 := f15.ext c17
      refine sp rfl (px_load rfl (f18.load1 rfl Tryz.isAgg23)) ?_
      refine sx_guardT rfl rfl rfl ?_
      have f19 := f16.ext c17
      refine sp rfl (px_len rfl Tryz.underlying23 f19) ?_
      refine sx_guardT rfl rfl rfl ?_
      refine sp rfl (px_le rfl rfl) ?_
      refine sp rfl (px_pick rfl rfl) ?_
      refine av rfl rfl (wl_nil (q_n (k4 _ _ ?_)))
      refine sx_sub (Sub.c 2 rfl .nil) ?_
      refine sx_retc ?_
      refine sx_ret1 Tryz.results55 rfl ?_
      exact ⟨(by first | exact bTrue (by grind [RateP]) | exact bFalse (by grind [RateP]) | exact bIff (by grind [RateP])), ((((cb2.t c6).t c9).t c14).t c17)⟩
     refine sx_guardF rfl rfl rfl rfl rfl rfl ?_
     refine sx_guardF rfl rfl rfl rfl rfl rfl ?_
     refine sx_guardF rfl rfl rfl rfl rfl rfl ?_
     refine sx_guardF rfl rfl rfl rfl rfl rfl ?_
     refine sx_guardF rfl rfl rfl rfl rfl rfl ?_
     refine sx_guardF rfl rfl rfl rfl rfl rfl ?_
     refine sp rfl (px_pick rfl rfl) ?_
     refine av rfl rfl (wl_nil (q_n (k4 _ _ ?_)))
     refine sx_sub (Sub.c 2 rfl .nil) ?_
     refine sx_retc ?_
     refine sx_ret1 Tryz.results55 rfl ?_
     exact ⟨(by first | exact bTrue (by grind [RateP]) | exact bFalse (by grind [RateP]) | exact bIff (by grind [RateP])), ((((cb2.t c6).t c9).t c14).t c17)⟩
    refine sx_guardF rfl rfl rfl rfl rfl rfl ?_
    refine sx_guardF rfl rfl rfl rfl rfl rfl ?_
    refine sx_guardF rfl rfl rfl rfl rfl rfl ?_
    refine sx_guardF rfl rfl rfl rfl rfl rfl ?_
    refine sx_guardF rfl rfl rfl rfl rfl rfl ?_
    refine sp rfl (px_pick rfl rfl) ?_
    refine mv rfl rfl ?_
    refine sx_guardF rfl rfl rfl rfl rfl rfl ?_
    refine sx_guardF rfl rfl rfl rfl rfl rfl ?_
    refine sx_guardF rfl rfl rfl rfl rfl rfl ?_
    refine sx_guardF rfl rfl rfl rfl rfl rfl ?_
    refine sx_guardF rfl rfl rfl rfl rfl rfl ?_
    refine sx_guardF rfl rfl rfl rfl rfl rfl ?_
    refine sp rfl (px_pick rfl rfl) ?_
    refine av rfl rfl (wl_nil (q_n (k4 _ _ ?_)))
    refine sx_sub (Sub.c 2 rfl .nil) ?_
    refine sx_retc ?_
    refine sx_ret1 Tryz.results55 rfl ?_
    exact ⟨(by first | exact bTrue (by grind [RateP]) | exact bFalse (by grind [RateP]) | exact bIff (by grind [RateP])), (((cb2.t c6).t c9).t c14)⟩
   refine sx_guardF rfl rfl rfl rfl rfl rfl ?_
   refine sx_guardF rfl rfl rfl rfl rfl rfl ?_
   refine sx_guardF rfl rfl rfl rfl rfl rfl ?_
   refine sp rfl (px_pick rfl rfl) ?_
   refine mv rfl rfl ?_
   refine sx_guardF rfl rfl rfl rfl rfl rfl ?_
   refine sx_guardF rfl rfl rfl rfl rfl rfl ?_
   refine sx_guardF rfl rfl rfl rfl rfl rfl ?_
   refine sx_guardF rfl rfl rfl rfl rfl rfl ?_
   refine sx_guardF rfl rfl rfl rfl rfl rfl ?_
   refine sp rfl (px_pick rfl rfl) ?_
   refine mv rfl rfl ?_
   refine sx_guardF rfl rfl rfl rfl rfl rfl ?_
   refine sx_guardF rfl rfl rfl rfl rfl rfl ?_
   refine sx_guardF rfl rfl rfl rfl rfl rfl ?_
   refine sx_guardF rfl rfl rfl rfl rfl rfl ?_
   refine sx_guardF rfl rfl rfl rfl rfl rfl ?_
   refine sx_guardF rfl rfl rfl rfl rfl rfl ?_
   refine sp rfl (px_pick rfl rfl) ?_
   refine av rfl rfl (wl_nil (q_n (k4 _ _ ?_)))
   refine sx_sub (Sub.c 2 rfl .nil) ?_
   refine sx_retc ?_
   refine sx_ret1 Tryz.results55 rfl ?_
   exact ⟨(by first | exact bTrue (by grind [RateP]) | exact bFalse (by grind [RateP]) | exact bIff (by grind [RateP])), ((cb2.t c6).t c9)⟩
  refine sx_guardF rfl rfl rfl rfl rfl rfl ?_
  refine sx_guardF rfl rfl rfl rfl rfl rfl ?_
  refine sx_guardF rfl rfl rfl rfl rfl rfl ?_
  refine sx_guardF rfl rfl rfl rfl rfl rfl ?_
  refine sx_guardF rfl rfl rfl rfl rfl rfl ?_
  refine sp rfl (px_pick rfl rfl) ?_
  refine mv rfl rfl ?_
  refine sx_guardF rfl rfl rfl rfl rfl rfl ?_
  refine sx_guardF rfl rfl rfl rfl rfl rfl ?_
  refine sx_guardF rfl rfl rfl rfl rfl rfl ?_
  refine sp rfl (px_pick rfl rfl) ?_
  refine mv rfl rfl ?_
  refine sx_guardF rfl rfl rfl rfl rfl rfl ?_
  refine sx_guardF rfl rfl rfl rfl rfl rfl ?_
  refine sx_guardF rfl rfl rfl rfl rfl rfl ?_
  refine sx_guardF rfl rfl rfl rfl rfl rfl ?_
  refine sx_guardF rfl rfl rfl rfl rfl rfl ?_
  refine sp rfl (px_pick rfl rfl) ?_
  refine mv rfl rfl ?_
  refine sx_guardF rfl rfl rfl rfl rfl rfl ?_
  refine sx_guardF rfl rfl rfl rfl rfl rfl ?_
  refine sx_guardF rfl rfl rfl rfl rfl rfl ?_
  refine sx_guardF rfl rfl rfl rfl rfl rfl ?_
  refine sx_guardF rfl rfl rfl rfl rfl rfl ?_
  refine sx_guardF rfl rfl rfl rfl rfl rfl ?_
  refine sp rfl (px_pick rfl rfl) ?_
  refine av rfl rfl (wl_nil (q_n (k4 _ _ ?_)))
  refine sx_sub (Sub.c 2 rfl .nil) ?_
  refine sx_retc ?_
  refine sx_ret1 Tryz.results55 rfl ?_
  exact ⟨(by first | exact bTrue (by grind [RateP]) | exact bFalse (by grind [RateP]) | exact bIff (by grind [RateP])), ((cb2.t c6).t c9)⟩
 refine sx_guardF rfl rfl rfl rfl rfl rfl ?_
 refine sx_guardF rfl rfl rfl rfl rfl rfl ?_
 refine sx_guardF rfl rfl rfl rfl rfl rfl ?_
 refine sp rfl (px_pick rfl rfl) ?_
 refine mv rfl rfl ?_
 refine sx_guardF rfl rfl rfl rfl rfl rfl ?_
 refine sx_guardF rfl rfl rfl rfl rfl rfl ?_
 refine sx_guardF rfl rfl rfl rfl rfl rfl ?_
 refine sx_guardF rfl rfl rfl rfl rfl rfl ?_
 refine sx_guardF rfl rfl rfl rfl rfl rfl ?_
 refine sp rfl (px_pick rfl rfl) ?_
 refine mv rfl rfl ?_
 refine sx_guardF rfl rfl rfl rfl rfl rfl ?_
 refine sx_guardF rfl rfl rfl rfl rfl rfl ?_
 refine sx_guardF rfl rfl rfl rfl rfl rfl ?_
 refine sp rfl (px_pick rfl rfl) ?_
 refine mv rfl rfl ?_
 refine sx_guardF rfl rfl rfl rfl rfl rfl ?_
 refine sx_guardF rfl rfl rfl rfl rfl rfl ?_
 refine sx_guardF rfl rfl rfl rfl rfl rfl ?_
 refine sx_guardF rfl rfl rfl rfl rfl rfl ?_
 refine sx_guardF rfl rfl rfl rfl rfl rfl ?_
 refine sp rfl (px_pick rfl rfl) ?_
 refine mv rfl rfl ?_
 refine sx_guardF rfl rfl rfl rfl rfl rfl ?_
 refine sx_guardF rfl rfl rfl rfl rfl rfl ?_
 refine sx_guardF rfl rfl rfl rfl rfl rfl ?_
 refine sx_guardF rfl rfl rfl rfl rfl rfl ?_
 refine sx_guardF rfl rfl rfl rfl rfl rfl ?_
 refine sx_guardF rfl rfl rfl rfl rfl rfl ?_
 refine sp rfl (px_pick rfl rfl) ?_
 refine av rfl rfl (wl_nil (q_n (k4 _ _ ?_)))
 refine sx_sub (Sub.c 2 rfl .nil) ?_
 refine sx_retc ?_
 refine sx_ret1 Tryz.results55 rfl ?_
 exact ⟨(by first | exact bTrue (by grind [RateP]) | exact bFalse (by grind [RateP]) | exact bIff (by grind [RateP])), (cb2.t c6)⟩

theorem c_iRatesOk {w : World} {pv : ByteArray} {vt : Value} {lvt uvt : Nat} {ts : List Rt} {vvt : List Value} (hG0 : Glob w) (hvt : RtS w lvt uvt vt ts vvt) (h63 : ts.length ≤ 4611686018427387904) (hz : ∀ i, i < ts.length → (ts.getD i rt0).2.2.2.1.length ≤ 4611686018427387904) :
  Ret Tryz.prog 27 [.agg #[.string pv, vt]] w fun v w' => v = .bool (decide (RsOk pv ts)) ∧ Chg 0 0 w w' := by
 have hvt0 := hvt.fit
 refine sx_enter Tryz.func27 rfl Tryz.ntmps27 (nbl rfl) ?_
 refine sx_seq fun K1 k1 => sx_region ?_
 refine sx_box [.string pv, vt] rfl rfl rfl (fun b2 w3 eb2 sb2 fb2 cb2 => ?_)
 have zw3 := cb2.size
 refine av rfl rfl (wl_nil (q_n (k1 _ _ ?_)))
 refine sx_seq fun K4 k4 => ?_
 refine sx_seq fun K5 k5 => sx_region ?_
 refine sp rfl (px_field rfl xfld47x0) ?_
 refine sp rfl (px_load rfl (fb2.load1 rfl Tryz.isAgg9)) ?_
 have f6 := hG0.ext cb2
 refine sx_call rfl rfl Tryz.call63 (c_iCurKnown f6) (fun v7 w7 p7 => ?_)
 obtain ⟨rfl, c7⟩ := p7
 have zw7 := c7.size
 refine sp rfl (px_notP rfl) ?_
 refine mv rfl rfl ?_
 refine sx_tmpP (t := 11) rfl (fun h41 => ?_) (fun h41 => ?_)
 ·
  refine sx_guardF rfl rfl rfl rfl rfl rfl ?_
  refine sx_guardF rfl rfl rfl rfl rfl rfl ?_
  refine sx_guardF rfl rfl rfl rfl rfl rfl ?_
  refine sx_guardF rfl rfl rfl rfl rfl rfl ?_
  refine sp rfl (px_pick rfl rfl) ?_
  refine wl_nil (q_n (k5 _ _ ?_))
  refine sx_condT rfl ?_
  refine sx_seq fun K8 k8 => sx_region ?_
  refine av rfl rfl (wl_nil (q_n (k8 _ _ ?_)))
  refine sx_retc ?_
  refine q_r (sx_ret1 Tryz.results27 rfl ?_)
  exact ⟨bFalse (fun h => by first | exact absurd h.1 (by assumption) | (have := h.2.1; omega)), (cb2.t c7)⟩
 refine sx_guardT rfl rfl rfl ?_
 refine sp rfl (px_field rfl xfld47x1) ?_
 refine sx_guardT rfl rfl rfl ?_
 have f9 := fb2.ext c7
 refine sp rfl (px_load rfl (f9.load1 rfl Tryz.isAgg45)) ?_
 refine sx_guardT rfl rfl rfl ?_
 have f10 := hvt0.ext cb2
 have f11 := f10.ext c7
 refine sp rfl (px_len rfl Tryz.underlying45 f11.sv) ?_
 refine sx_guardT rfl rfl rfl ?_
 refine sp rfl (px_gt rfl rfl) ?_
 refine sp rfl (px_pick rfl rfl) ?_
 refine wl_nil (q_n (k5 _ _ ?_))
 refine sx_condP rfl (fun h41x1 => ?_) (fun h41x1 => ?_)
 ·
  refine sx_seq fun K12 k12 => sx_region ?_
  refine av rfl rfl (wl_nil (q_n (k12 _ _ ?_)))
  refine sx_retc ?_
  refine q_r (sx_ret1 Tryz.results27 rfl ?_)
  exact ⟨bFalse (fun h => by first | exact absurd h.1 (by assumption) | (have := h.2.1; omega)), (cb2.t c7)⟩
 refine sx_skip ?_
 refine q_n (k4 _ _ ?_)
 refine sx_seq fun K13 k13 => sx_region ?_
 refine sx_makeMap rfl (fun b14 w15 eb14 sb14 fb14 cb14 => ?_)
 have zw15 := cb14.size
 refine av rfl rfl (wl_nil (q_n (k13 _ _ ?_)))
 refine sx_sub (Sub.c 1 rfl (.c 2 rfl (.c 3 rfl .nil))) ?_
 refine sx_seq fun K16 k16 => ?_
 refine sx_seq fun K17 k17 => sx_region ?_
 refine sp rfl (px_field rfl xfld47x1) ?_
 have f18 := f9.ext cb14
 refine sp rfl (px_load rfl (f18.load1 rfl Tryz.isAgg45)) ?_
 have f19 := f11.ext cb14
 refine sp rfl (px_len rfl Tryz.underlying45 f19.sv) ?_
 refine mv rfl rfl (wl_nil (q_n (k17 _ _ ?_)))
 refine sx_block ?_
 refine sx_loop (fun mm aa w' => ∃ (k : Nat), Agr 41 [(3, .map (some b14)), (19, vt), (20, .int .i64 (↑(ts).length)), (21, .int .i64 ↑k)] aa ∧ Chg b14 (b14 + 1) w15 w' ∧ Mp w' b14 (keysTo ts k) ∧ (mm = ts.length - k) ∧ (k ≤ ts.length) ∧ (AllTo ts k)) (_) (fun a ha => ⟨0, ha.sub (Sub.c 3 rfl (.c 19 rfl (.c 20 (look_int (t := 20) rfl (by first | omega | simp)) (.c 21 (look_int (t := 21) rfl (by first | omega | simp)) .nil)))), Chg.refl _ _ _, (by rw [show keysTo ts 0 = [] by simp [keysTo]]; exact fb14), rfl, by omega, AllTo_zero ts⟩) ?_
 rintro mm aa wl20 ⟨k, hAwl20, cwl20, hs_Mb14, hm, hk, hall⟩
 refine (show cw Tryz.prog 41 _ _ _ wl20 from ?_) aa hAwl20
 clear hAwl20
 have zwl20 := cwl20.size
 refine sx_seq fun K21 k21 => sx_region ?_
 refine sp rfl (px_lt rfl rfl) ?_
 refine wl_nil (q_n (k21 _ _ ?_))
 refine sx_seq fun K22 k22 => ?_
 refine sx_condP rfl (fun h45 => ?_) (fun h45 => ?_)
 ·
  refine sx_skip ?_
  refine q_n (k22 _ _ ?_)
  refine sx_seq fun K23 k23 => ?_
  refine sx_block ?_
  refine sx_seq fun K24 k24 => sx_region ?_
  have f25 := f19.chg cwl20 (by omega)
  refine sp rfl (px_indexK (j := k) rfl rfl (by omega) Tryz.underlying45 Tryz.sizeOf54 f25.sv (by omega)) ?_
  refine sp rfl (px_load rfl (f25.sv.loadA (rt_look f25.len (by omega)) Tryz.isAgg54 Tryz.sizeOf54)) ?_
  refine sx_alloc [.string (⟨#[]⟩), .string (⟨#[]⟩), .bool false, (.slice none 0 0), .int .i64 0] rfl Tryz.zeroValue54 rfl (fun b26 w27 eb26 sb26 fb26 cb26 => ?_)
  have zw27 := cb26.size
  have f29 := (f25.nest k (by omega)).ext cb26
  refine sx_store (vs := [.string ((ts.getD k rt0).1), .string ((ts.getD k rt0).2.1), .bool ((ts.getD k rt0).2.2.1), (vvt.getD k vz), .int .i64 ((ts.getD k rt0).2.2.2.2)]) rfl rfl fb26 rfl Tryz.sizeOf54 (nbl rfl) (one_cons rfl (one_cons rfl (one_cons rfl (one_cons f29.one (o1 rfl))))) (fun w28 sw28 fw28 cw28 => ?_)
  have zw28 := cw28.size
  have gw28 : Blk w28 b26 [.string ((ts.getD k rt0).1), .string ((ts.getD k rt0).2.1), .bool ((ts.getD k rt0).2.2.1), (vvt.getD k vz), .int .i64 ((ts.getD k rt0).2.2.2.2)] 54 := fw28
  refine wl_nil (q_n (k24 _ _ ?_))
  refine sx_seq fun K30 k30 => sx_region ?_
  refine sp rfl (px_field rfl xfld54x0) ?_
  refine sp rfl (px_load rfl (gw28.load1 rfl Tryz.isAgg9)) ?_
  refine sp rfl (px_field rfl xfld54x1) ?_
  refine sp rfl (px_load rfl (gw28.load1 rfl Tryz.isAgg9)) ?_
  refine sp rfl (px_build rfl (xbld107x0x1 rfl rfl _)) ?_
  refine sx_alloc [.string (⟨#[]⟩), .string (⟨#[]⟩)] rfl Tryz.zeroValue107 rfl (fun b31 w32 eb31 sb31 fb31 cb31 => ?_)
  have zw32 := cb31.size
  refine sx_store (vs := [.string ((ts.getD k rt0).1), .string ((ts.getD k rt0).2.1)]) rfl rfl fb31 rfl Tryz.sizeOf107 (nbl rfl) (o2 rfl rfl) (fun w33 sw33 fw33 cw33 => ?_)
  have zw33 := cw33.size
  have gw33 : Blk w33 b31 [.string ((ts.getD k rt0).1), .string ((ts.getD k rt0).2.1)] 107 := fw33
  refine wl_nil (q_n (k30 _ _ ?_))
  refine sx_seq fun K34 k34 => ?_
  refine sx_seq fun K35 k35 => sx_region ?_
  have f36 := gw28.ext cb31
  have f37 := f36.chg cw33 (by omega)
  refine sp rfl (px_load rfl (f37.loadA (vs := [.string ((ts.getD k rt0).1), .string ((ts.getD k rt0).2.1), .bool ((ts.getD k rt0).2.2.1), (vvt.getD k vz), .int .i64 ((ts.getD k rt0).2.2.2.2)]) (look_lit rfl) Tryz.isAgg54 Tryz.sizeOf54)) ?_
  have f39 := (f6.ext c7).ext cb14
  have f40 := f39.chg cwl20 (by omega)
  have f41 := f40.ext cb26
  have f42 := f41.chg cw28 (by omega)
  have f43 := f42.ext cb31
  have f44 := f43.chg cw33 (by omega)
  have f45 := f29.chg cw28 (by omega)
  have f46 := f45.ext cb31
  have f47 := f46.chg cw33 (by omega)
  refine sx_call rfl rfl Tryz.call55 (c_iRateOk f44 f47 (hz k (by omega))) (fun v48 w48 p48 => ?_)
  obtain ⟨rfl, c48⟩ := p48
  have zw48 := c48.size
  refine sp rfl (px_notP rfl) ?_
  refine mv rfl rfl ?_
  refine sx_tmpP (t := 33) rfl (fun h47 => ?_) (fun h47 => ?_)
  ·
   refine sx_guardF rfl rfl rfl rfl rfl rfl ?_
   refine sx_guardF rfl rfl rfl rfl rfl rfl ?_
   refine sx_guardF rfl rfl rfl rfl rfl rfl ?_
   refine sp rfl (px_pick rfl rfl) ?_
   refine wl_nil (q_n (k35 _ _ ?_))
   refine sx_sub (Sub.c 3 rfl (.c 6 rfl (.c 19 rfl (.c 20 rfl (.c 21 rfl (.c 37 rfl .nil)))))) ?_
   refine sx_condT rfl ?_
   refine sx_seq fun K49 k49 => sx_region ?_
   refine av rfl rfl (wl_nil (q_n (k49 _ _ ?_)))
   refine sx_retc ?_
   refine q_r (q_br (q_r (q_r (q_br (q_r (sx_ret1 Tryz.results27 rfl ?_))))))
   have q50 := Chg.step (l := 0) (h := 0) (Chg.zero (l := 0) (h := 0) ((cb2.t c7).t cb14)) cwl20 (by omega)
   have q51 := Chg.step (l := 0) (h := 0) q50 cb26 (by omega)
   have q52 := Chg.step (l := 0) (h := 0) q51 cw28 (by omega)
   have q53 := Chg.step (l := 0) (h := 0) q52 cb31 (by omega)
   have q54 := Chg.step (l := 0) (h := 0) q53 cw33 (by omega)
   have q55 := Chg.step (l := 0) (h := 0) q54 c48 (by omega)
   exact ⟨(by first | exact bFalse (rsok_no_rate (k := k) (by omega) h47) | exact bFalse (rsok_no_key (k := k) (by omega) (fun hh => by obtain ⟨i, hi, hs⟩ := (mem_keysTo (by omega)).1 h47x1; exact hh i hi hs))), q55⟩
  refine sx_guardT rfl rfl rfl ?_
  refine mv rfl rfl ?_
  refine sx_guardT rfl rfl rfl ?_
  have f56 := gw33.ext c48
  refine sp rfl (px_load rfl (f56.loadA (vs := [.string ((ts.getD k rt0).1), .string ((ts.getD k rt0).2.1)]) (look_lit rfl) Tryz.isAgg107 Tryz.sizeOf107)) ?_
  refine sx_guardT rfl rfl rfl ?_
  have f57 := hs_Mb14.ext cb26
  have f58 := f57.chg cw28 (by omega)
  have f59 := f58.ext cb31
  have f60 := f59.chg cw33 (by omega)
  have f61 := f60.ext c48
  refine sp rfl (px_lookupM rfl rfl Tryz.underlying108 xpair107 Tryz.zeroValue4 f61) ?_
  refine sp rfl (px_pick rfl rfl) ?_
  refine wl_nil (q_n (k35 _ _ ?_))
  refine sx_sub (Sub.c 3 rfl (.c 6 rfl (.c 19 rfl (.c 20 rfl (.c 21 rfl (.c 37 rfl .nil)))))) ?_
  refine sx_condP rfl (fun h47x1 => ?_) (fun h47x1 => ?_)
  ·
   refine sx_seq fun K62 k62 => sx_region ?_
   refine av rfl rfl (wl_nil (q_n (k62 _ _ ?_)))
   refine sx_retc ?_
   refine q_r (q_br (q_r (q_r (q_br (q_r (sx_ret1 Tryz.results27 rfl ?_))))))
   have q63 := Chg.step (l := 0) (h := 0) (Chg.zero (l := 0) (h := 0) ((cb2.t c7).t cb14)) cwl20 (by omega)
   have q64 := Chg.step (l := 0) (h := 0) q63 cb26 (by omega)
   have q65 := Chg.step (l := 0) (h := 0) q64 cw28 (by omega)
   have q66 := Chg.step (l := 0) (h := 0) q65 cb31 (by omega)
   have q67 := Chg.step (l := 0) (h := 0) q66 cw33 (by omega)
   have q68 := Chg.step (l := 0) (h := 0) q67 c48 (by omega)
   exact ⟨(by first | exact bFalse (rsok_no_rate (k := k) (by omega) h47) | exact bFalse (rsok_no_key (k := k) (by omega) (fun hh => by obtain ⟨i, hi, hs⟩ := (mem_keysTo (by omega)).1 h47x1; exact hh i hi hs))), q68⟩
  refine sx_skip ?_
  refine q_n (k34 _ _ ?_)
  refine sx_region ?_
  refine mv rfl rfl (sp rfl (px_load rfl (f56.loadA (vs := [.string ((ts.getD k rt0).1), .string ((ts.getD k rt0).2.1)]) (look_lit rfl) Tryz.isAgg107 Tryz.sizeOf107)) ?_)
  refine sx_mapUpdateM rfl rfl rfl Tryz.underlying108 xpair107 f61 (by assumption) (fun w69 sw69 fw69 cw69 => ?_)
  have zw69 := cw69.size
  refine wl_nil ?_
  refine q_bn (q_n (k23 _ _ ?_))
  refine sx_region ?_
  refine sp rfl (px_add rfl rfl (by omega)) ?_
  refine mv rfl rfl (wl_nil ?_)
  have q70 := Chg.step (l := b14) (h := (b14 + 1)) cwl20 cb26 (by omega)
  have q71 := Chg.step (l := b14) (h := (b14 + 1)) q70 cw28 (by omega)
  have q72 := Chg.step (l := b14) (h := (b14 + 1)) q71 cb31 (by omega)
  have q73 := Chg.step (l := b14) (h := (b14 + 1)) q72 cw33 (by omega)
  have q74 := Chg.step (l := b14) (h := (b14 + 1)) q73 c48 (by omega)
  have q75 := Chg.step (l := b14) (h := (b14 + 1)) q74 cw69 (by omega)
  exact fun a ha => ⟨_, by omega, (k + 1), ha.sub (Sub.c 3 rfl (.c 19 rfl (.c 20 rfl (.c 21 (look_int (t := 21) rfl (by first | omega | simp)) .nil)))), q75, (by rw [keysTo_succ (by omega)]; exact fw69), rfl, by omega, AllTo_succ hall (Decidable.not_not.1 h47) (fun i hi hs => h47x1 ((mem_keysTo (by omega)).2 ⟨i, hi, hs⟩))⟩
 refine sx_exit ?_
 refine q_e (q_e (q_bx (q_n (k16 _ _ ?_))))
 refine sx_seq fun K76 k76 => sx_region ?_
 refine av rfl rfl (wl_nil (q_n (k76 _ _ ?_)))
 refine sx_retc ?_
 refine sx_ret1 Tryz.results27 rfl ?_
 have ek : k = ts.length := by omega
 subst ek
 have q77 := Chg.step (l := 0) (h := 0) (Chg.zero (l := 0) (h := 0) ((cb2.t c7).t cb14)) cwl20 (by omega)
 exact ⟨bTrue ⟨Decidable.not_not.1 h41, by omega, hall⟩, q77⟩

theorem c_natCopy {w : World} {va : Value} {lva uva : Nat} {zs : List Int} (hva : Sl w lva uva va (zs)) (h63 : zs.length ≤ 1048576) :
  Ret Tryz.prog 75 [va] w fun v w' => ∃ s, v = s ∧ OwnI w' w.heap.size w'.heap.size s intT (zs) ∧ Chg 0 0 w w' := by
 have hva0 := hva.fit
 refine sx_enter Tryz.func75 rfl Tryz.ntmps75 (nbl rfl) ?_
 refine sx_seq fun K1 k1 => sx_region ?_
 refine av rfl rfl (wl_nil (q_n (k1 _ _ ?_)))
 refine sx_seq fun K2 k2 => sx_region ?_
 refine sx_lit0 rfl xelt23 (fun s3 ws3 ss3 fs3 cs3 => ?_)
 have zws3 := cs3.size
 refine mv rfl rfl ?_
 have f5 := hva0.ext cs3
 refine sx_append rfl xelt23 rfl rfl fs3 f5 one_int (by omega) (by omega) (by unfold maxLen; omega) (fun a4 w4 fw4 cw4 => ?_)
 have nw4 := Own.norm (f := (Value.int .i64)) (zs := zs) fw4
 have zw4 := cw4.size
 refine av rfl rfl (wl_nil (q_n (k2 _ _ ?_)))
 refine sx_retc ?_
 refine sx_ret1 Tryz.results75 rfl ?_
 have q6 := Chg.step (l := 0) (h := 0) (Chg.zero (l := 0) (h := 0) cs3) cw4 (by omega)
 exact ⟨_, rfl, Own.mono nw4 (by omega) (by omega), q6⟩

theorem c_intCopy {w : World} {n1 : Bool} {v1 : Value} {lv1 uv1 : Nat} {z1 : List Int} (hv1 : Sl w lv1 uv1 v1 (z1)) (bz1 : z1.length ≤ 1048576) :
  Ret Tryz.prog 117 [.agg #[.bool n1, v1]] w fun v w' => ∃ s, v = .agg #[.bool (n1), s] ∧ OwnI w' w.heap.size w'.heap.size s intT (z1) ∧ Chg 0 0 w w' := by
 have hv10 := hv1.fit
 refine sx_enter Tryz.func117 rfl Tryz.ntmps117 (nbl rfl) ?_
 refine sx_seq fun K1 k1 => sx_region ?_
 refine sx_box [.bool n1, v1] rfl rfl rfl (fun b2 w3 eb2 sb2 fb2 cb2 => ?_)
 have zw3 := cb2.size
 refine sx_alloc [.bool false, (.slice none 0 0)] rfl Tryz.zeroValue25 rfl (fun b4 w5 eb4 sb4 fb4 cb4 => ?_)
 have zw5 := cb4.size
 refine wl_nil (q_n (k1 _ _ ?_))
 refine sx_seq fun K6 k6 => ?_
 have f7 := fb2.ext cb4
 have f8 := hv10.ext cb2
 have f9 := f8.ext cb4
 refine dx_region (fun w' => Chg b4 (b4 + 1) w5 w') (by kernel_rfl) (Chg.zero (Chg.drew _)) ?_
 have d10 := Chg.drew w5
 have s10 : Chg b4 (b4 + 1) w5 (World.drew w5) := Chg.zero (Chg.drew _)
 have y10 : (World.drew w5).heap.size = w5.heap.size := rfl
 generalize World.drew w5 = w10 at *
 have zw10 := d10.size
 refine dt 0 rfl rfl rfl rfl s10 (fun _ hS => px_field rfl xfld25x0) ?_
 refine dt 1 rfl rfl rfl rfl s10 (fun _ hS => px_load rfl ((f7.chg hS (by omega)).load1 rfl Tryz.isAgg4)) ?_
 refine dt 2 rfl rfl rfl rfl s10 (fun _ hS => px_field rfl xfld25x1) ?_
 refine dt 3 rfl rfl rfl rfl s10 (fun _ hS => px_load rfl ((f7.chg hS (by omega)).load1 rfl Tryz.isAgg23)) ?_
 refine dx_eff 4 rfl (by kernel_rfl) ?_
 have f11 := f9.ext d10
 refine sx_call rfl rfl Tryz.call75 (c_natCopy f11 (by omega)) (fun v12 w12 p12 => ?_)
 obtain ⟨s12, rfl, os_12, c12⟩ := p12
 have zw12 := c12.size
 have s13 : Chg b4 (b4 + 1) w5 w12 := (Chg.zero (l := b4) (h := (b4 + 1)) (d10.t c12))
 refine wl_nil ?_
 refine dx_next s13 ?_
 refine dt 5 rfl rfl rfl rfl s13 (fun _ hS => px_build rfl (xbld25x0x1 rfl os_12.one _)) ?_
 refine dx_eff 6 rfl (by kernel_rfl) ?_
 have f16 := (fb4.ext d10).ext c12
 refine sx_store (vs := [.bool n1, v12]) rfl rfl f16 rfl Tryz.sizeOf25 (nbl rfl) (one_cons rfl (one_cons os_12.one one_nil)) (fun w14 sw14 fw14 cw14 => ?_)
 have zw14 := cw14.size
 have gw14 : Blk w14 b4 [.bool n1, v12] 25 := fw14
 have q18 := Chg.step (l := b4) (h := (b4 + 1)) (Chg.zero (l := b4) (h := (b4 + 1)) (d10.t c12)) cw14 (by omega)
 have s17 : Chg b4 (b4 + 1) w5 w14 := q18
 refine wl_nil ?_
 refine dx_next s17 ?_
 refine dx_done (by kernel_rfl) ?_
 refine q_n (k6 _ _ ?_)
 refine sx_retc ?_
 refine sx_ret1 Tryz.results117 ⟨_, rfl, gw14.loadA (vs := [.bool n1, v12]) (look_lit rfl) Tryz.isAgg25 Tryz.sizeOf25⟩ ?_
 have q19 := Chg.step (l := 0) (h := 0) (Chg.zero (l := 0) (h := 0) (((cb2.t cb4).t d10).t c12)) cw14 (by omega)
 have f20 := os_12.chg cw14 (by omega)
 exact ⟨_, rfl, (Own.mono f20 (by omega) (by omega)), q19⟩

theorem c_decCopy {w : World} {n1 : Bool} {v1 : Value} {lv1 uv1 : Nat} {z1 : List Int} {p1 : Int} (hv1 : Sl w lv1 uv1 v1 (z1)) (bz1 : z1.length ≤ 1048576) :
  Ret Tryz.prog 92 [.agg #[.bool n1, v1, .int .i64 p1]] w fun v w' => ∃ s, v = .agg #[.bool (n1), s, .int .i64 (p1)] ∧ OwnI w' w.heap.size w'.heap.size s intT (z1) ∧ Chg 0 0 w w' := by
 have hv10 := hv1.fit
 refine sx_enter Tryz.func92 rfl Tryz.ntmps92 (nbl rfl) ?_
 refine sx_seq fun K1 k1 => sx_region ?_
 refine sx_box [.bool n1, v1, .int .i64 p1] rfl rfl rfl (fun b2 w3 eb2 sb2 fb2 cb2 => ?_)
 have zw3 := cb2.size
 refine sx_alloc [.bool false, (.slice none 0 0), .int .i64 0] rfl Tryz.zeroValue27 rfl (fun b4 w5 eb4 sb4 fb4 cb4 => ?_)
 have zw5 := cb4.size
 refine wl_nil (q_n (k1 _ _ ?_))
 refine sx_seq fun K6 k6 => ?_
 have f7 := fb2.ext cb4
 have f8 := hv10.ext cb2
 have f9 := f8.ext cb4
 refine dx_region (fun w' => Chg b4 (b4 + 1) w5 w') (by kernel_rfl) (Chg.zero (Chg.drew _)) ?_
 have d10 := Chg.drew w5
 have s10 : Chg b4 (b4 + 1) w5 (World.drew w5) := Chg.zero (Chg.drew _)
 have y10 : (World.drew w5).heap.size = w5.heap.size := rfl
 generalize World.drew w5 = w10 at *
 have zw10 := d10.size
 refine dt 0 rfl rfl rfl rfl s10 (fun _ hS => px_field rfl xfld27x0) ?_
 refine dt 1 rfl rfl rfl rfl s10 (fun _ hS => px_load rfl ((f7.chg hS (by omega)).loadA (vs := [.bool n1, v1]) (look_lit rfl) Tryz.isAgg25 Tryz.sizeOf25)) ?_
 refine dt 3 rfl rfl rfl rfl s10 (fun _ hS => px_field rfl xfld27x1) ?_
 refine dt 4 rfl rfl rfl rfl s10 (fun _ hS => px_load rfl ((f7.chg hS (by omega)).load1 rfl Tryz.isAgg3)) ?_
 refine dx_eff 2 rfl (by kernel_rfl) ?_
 have f11 := f9.ext d10
 refine sx_call rfl rfl Tryz.call117 (c_intCopy f11 (by omega)) (fun v12 w12 p12 => ?_)
 obtain ⟨s12, rfl, os_12, c12⟩ := p12
 have zw12 := c12.size
 have s13 : Chg b4 (b4 + 1) w5 w12 := (Chg.zero (l := b4) (h := (b4 + 1)) (d10.t c12))
 refine wl_nil ?_
 refine dx_next s13 ?_
 refine dt 5 rfl rfl rfl rfl s13 (fun _ hS => px_build rfl (xbld27x0x1 rfl _)) ?_
 refine dx_eff 6 rfl (by kernel_rfl) ?_
 have f16 := (fb4.ext d10).ext c12
 refine sx_store (vs := [.bool n1, s12, .int .i64 p1]) rfl rfl f16 rfl Tryz.sizeOf27 (nbl rfl) (one_cons rfl (one_cons os_12.one (o1 rfl))) (fun w14 sw14 fw14 cw14 => ?_)
 have zw14 := cw14.size
 have gw14 : Blk w14 b4 [.bool n1, s12, .int .i64 p1] 27 := fw14
 have q18 := Chg.step (l := b4) (h := (b4 + 1)) (Chg.zero (l := b4) (h := (b4 + 1)) (d10.t c12)) cw14 (by omega)
 have s17 : Chg b4 (b4 + 1) w5 w14 := q18
 refine wl_nil ?_
 refine dx_next s17 ?_
 refine dx_done (by kernel_rfl) ?_
 refine q_n (k6 _ _ ?_)
 refine sx_retc ?_
 refine sx_ret1 Tryz.results92 ⟨_, rfl, gw14.loadA (vs := [.bool n1, s12, .int .i64 p1]) (look_lit rfl) Tryz.isAgg27 Tryz.sizeOf27⟩ ?_
 have q19 := Chg.step (l := 0) (h := 0) (Chg.zero (l := 0) (h := 0) (((cb2.t cb4).t d10).t c12)) cw14 (by omega)
 have f20 := os_12.chg cw14 (by omega)
 exact ⟨_, rfl, (Own.mono f20 (by omega) (by omega)), q19⟩

theorem c_rateCopy {w : World} {f1 : ByteArray} {t1 : ByteArray} {n1 : Bool} {v1 : Value} {lv1 uv1 : Nat} {z1 : List Int} {p1 : Int} (hv1 : Sl w lv1 uv1 v1 (z1)) (bz1 : z1.length ≤ 1048576) :
  Ret Tryz.prog 57 [.agg #[.string f1, .string t1, .bool n1, v1, .int .i64 p1]] w fun v w' => ∃ s, v = .agg #[.string (f1), .string (t1), .bool (n1), s, .int .i64 (p1)] ∧ OwnI w' w.heap.size w'.heap.size s intT (z1) ∧ Chg 0 0 w w' := by
 have hv10 := hv1.fit
 refine sx_enter Tryz.func57 rfl Tryz.ntmps57 (nbl rfl) ?_
 refine sx_seq fun K1 k1 => sx_region ?_
 refine sx_box [.string f1, .string t1, .bool n1, v1, .int .i64 p1] rfl rfl rfl (fun b2 w3 eb2 sb2 fb2 cb2 => ?_)
 have zw3 := cb2.size
 refine sx_alloc [.string (⟨#[]⟩), .string (⟨#[]⟩), .bool false, (.slice none 0 0), .int .i64 0] rfl Tryz.zeroValue54 rfl (fun b4 w5 eb4 sb4 fb4 cb4 => ?_)
 have zw5 := cb4.size
 refine wl_nil (q_n (k1 _ _ ?_))
 refine sx_seq fun K6 k6 => ?_
 have f7 := fb2.ext cb4
 have f8 := hv10.ext cb2
 have f9 := f8.ext cb4
 refine dx_region (fun w' => Chg b4 (b4 + 1) w5 w') (by kernel_rfl) (Chg.zero (Chg.drew _)) ?_
 have d10 := Chg.drew w5
 have s10 : Chg b4 (b4 + 1) w5 (World.drew w5) := Chg.zero (Chg.drew _)
 have y10 : (World.drew w5).heap.size = w5.heap.size := rfl
 generalize World.drew w5 = w10 at *
 have zw10 := d10.size
 refine dt 0 rfl rfl rfl rfl s10 (fun _ hS => px_field rfl xfld54x0) ?_
 refine dt 1 rfl rfl rfl rfl s10 (fun _ hS => px_load rfl ((f7.chg hS (by omega)).load1 rfl Tryz.isAgg9)) ?_
 refine dt 2 rfl rfl rfl rfl s10 (fun _ hS => px_field rfl xfld54x1) ?_
 refine dt 3 rfl rfl rfl rfl s10 (fun _ hS => px_load rfl ((f7.chg hS (by omega)).load1 rfl Tryz.isAgg9)) ?_
 refine dt 4 rfl rfl rfl rfl s10 (fun _ hS => px_field rfl xfld54x2) ?_
 refine dt 5 rfl rfl rfl rfl s10 (fun _ hS => px_load rfl ((f7.chg hS (by omega)).loadA (vs := [.bool n1, v1, .int .i64 p1]) (look_lit rfl) Tryz.isAgg27 Tryz.sizeOf27)) ?_
 refine dx_eff 6 rfl (by kernel_rfl) ?_
 have f11 := f9.ext d10
 refine sx_call rfl rfl Tryz.call92 (c_decCopy f11 (by omega)) (fun v12 w12 p12 => ?_)
 obtain ⟨s12, rfl, os_12, c12⟩ := p12
 have zw12 := c12.size
 have s13 : Chg b4 (b4 + 1) w5 w12 := (Chg.zero (l := b4) (h := (b4 + 1)) (d10.t c12))
 refine wl_nil ?_
 refine dx_next s13 ?_
 refine dt 7 rfl rfl rfl rfl s13 (fun _ hS => px_build rfl (xbld54x0x1x2 rfl rfl _)) ?_
 refine dx_eff 8 rfl (by kernel_rfl) ?_
 have f16 := (fb4.ext d10).ext c12
 refine sx_store (vs := [.string f1, .string t1, .bool n1, s12, .int .i64 p1]) rfl rfl f16 rfl Tryz.sizeOf54 (nbl rfl) (one_cons rfl (one_cons rfl (one_cons rfl (one_cons os_12.one (o1 rfl))))) (fun w14 sw14 fw14 cw14 => ?_)
 have zw14 := cw14.size
 have gw14 : Blk w14 b4 [.string f1, .string t1, .bool n1, s12, .int .i64 p1] 54 := fw14
 have q18 := Chg.step (l := b4) (h := (b4 + 1)) (Chg.zero (l := b4) (h := (b4 + 1)) (d10.t c12)) cw14 (by omega)
 have s17 : Chg b4 (b4 + 1) w5 w14 := q18
 refine wl_nil ?_
 refine dx_next s17 ?_
 refine dx_done (by kernel_rfl) ?_
 refine q_n (k6 _ _ ?_)
 refine sx_retc ?_
 refine sx_ret1 Tryz.results57 ⟨_, rfl, gw14.loadA (vs := [.string f1, .string t1, .bool n1, s12, .int .i64 p1]) (look_lit rfl) Tryz.isAgg54 Tryz.sizeOf54⟩ ?_
 have q19 := Chg.step (l := 0) (h := 0) (Chg.zero (l := 0) (h := 0) (((cb2.t cb4).t d10).t c12)) cw14 (by omega)
 have f20 := os_12.chg cw14 (by omega)
 exact ⟨_, rfl, (Own.mono f20 (by omega) (by omega)), q19⟩

theorem c_ratesCopy {w : World} {pv : ByteArray} {vt : Value} {lvt uvt : Nat} {ts : List Rt} {vvt : List Value} (hvt : RtS w lvt uvt vt ts vvt) (h63 : ts.length ≤ 1000000) (hI : ∀ i, i < ts.length → (ts.getD i rt0).2.2.2.1.length ≤ 1048576) :
  Ret Tryz.prog 56 [.agg #[.string pv, vt]] w fun v w' => ∃ s us, v = .agg #[.string (pv), s] ∧ RtG w' (w.heap.size) (w'.heap.size) s 54 intT (ts) us ∧ Chg 0 0 w w' := by
 have hvt0 := hvt.fit
 refine sx_enter Tryz.func56 rfl Tryz.ntmps56 (nbl rfl) ?_
 refine sx_seq fun K1 k1 => sx_region ?_
 refine sx_box [.string pv, vt] rfl rfl rfl (fun b2 w3 eb2 sb2 fb2 cb2 => ?_)
 have zw3 := cb2.size
 refine sx_alloc [.string (⟨#[]⟩), (.slice none 0 0)] rfl Tryz.zeroValue47 rfl (fun b4 w5 eb4 sb4 fb4 cb4 => ?_)
 have zw5 := cb4.size
 refine wl_nil (q_n (k1 _ _ ?_))
 refine sx_seq fun K6 k6 => sx_region ?_
 refine sp rfl (px_field rfl xfld47x0) ?_
 have f7 := fb2.ext cb4
 refine sp rfl (px_load rfl (f7.load1 rfl Tryz.isAgg9)) ?_
 refine sp rfl (px_build rfl (xbld47x0 rfl _)) ?_
 refine sx_alloc [.string (⟨#[]⟩), (.slice none 0 0)] rfl Tryz.zeroValue47 rfl (fun b8 w9 eb8 sb8 fb8 cb8 => ?_)
 have zw9 := cb8.size
 refine sx_store (vs := [.string pv, (.slice none 0 0)]) rfl rfl fb8 rfl Tryz.sizeOf47 (nbl rfl) (o2 rfl rfl) (fun w10 sw10 fw10 cw10 => ?_)
 have zw10 := cw10.size
 have gw10 : Blk w10 b8 [.string pv, (.slice none 0 0)] 47 := fw10
 refine wl_nil (q_n (k6 _ _ ?_))
 refine sx_seq fun K11 k11 => ?_
 refine sx_seq fun K12 k12 => sx_region ?_
 refine sp rfl (px_field rfl xfld47x1) ?_
 have f13 := f7.ext cb8
 have f14 := f13.chg cw10 (by omega)
 refine sp rfl (px_load rfl (f14.load1 rfl Tryz.isAgg45)) ?_
 have f15 := hvt0.ext cb2
 have f16 := f15.ext cb4
 have f17 := f16.ext cb8
 have f18 := f17.chg cw10 (by omega)
 refine sp rfl (px_len rfl Tryz.underlying45 f18.sv) ?_
 refine mv rfl rfl (wl_nil (q_n (k12 _ _ ?_)))
 refine sx_block ?_
 have f20 := fb4.ext cb8
 have f21 := f20.chg cw10 (by omega)
 have q22 := Chg.step (l := 0) (h := 0) (Chg.zero (l := 0) (h := 0) ((cb2.t cb4).t cb8)) cw10 (by omega)
 refine sx_loop (fun mm aa w' => ∃ (k : Nat) (s : Value) (us : List Value), Agr 25 [(2, .pointer (some ⟨b4, 0, none⟩)), (3, .pointer (some ⟨b8, 0, none⟩)), (10, vt), (11, .int .i64 (↑(ts).length)), (12, .int .i64 ↑k)] aa ∧ Chg 0 0 w w' ∧ Blk w' b4 [.string (⟨#[]⟩), (.slice none 0 0)] 47 ∧ Blk w' b8 [.string pv, s] 47 ∧ RtG w' w10.heap.size w'.heap.size s 54 intT (ts.take k) us ∧ (mm = ts.length - k) ∧ (k ≤ ts.length)) (_) (fun a ha => ⟨0, (.slice none 0 0), [], ha.sub (Sub.c 2 rfl (.c 3 rfl (.c 10 rfl (.c 11 (look_int (t := 11) rfl (by first | omega | simp)) (.c 12 (look_int (t := 12) rfl (by first | omega | simp)) .nil))))), q22, f21, gw10, ((RtG.nil w10 w10.heap.size w10.heap.size 54 intT (by omega))), rfl, by omega⟩) ?_
 rintro mm aa wl19 ⟨k, s, us, hAwl19, cwl19, hb_b4, hb_b8, hs_s, hm, hk⟩
 refine (show cw Tryz.prog 25 _ _ _ wl19 from ?_) aa hAwl19
 clear hAwl19
 have zwl19 := cwl19.size
 have lt23 := hb_b4.lt
 have lt24 := hb_b8.lt
 have hIk := fun (h : k < ts.length) => hI k h
 have hlk : (ts.take k).length = k := by rw [List.length_take]; omega
 refine sx_seq fun K25 k25 => sx_region ?_
 refine sp rfl (px_lt rfl rfl) ?_
 refine wl_nil (q_n (k25 _ _ ?_))
 refine sx_seq fun K26 k26 => ?_
 refine sx_condP rfl (fun h61 => ?_) (fun h61 => ?_)
 ·
  refine sx_skip ?_
  refine q_n (k26 _ _ ?_)
  refine sx_seq fun K27 k27 => ?_
  refine sx_block ?_
  refine sx_seq fun K28 k28 => sx_region ?_
  have f29 := hvt0.ext cwl19
  refine sp rfl (px_indexK (j := k) rfl rfl (by omega) Tryz.underlying45 Tryz.sizeOf54 f29.sv (by omega)) ?_
  refine sp rfl (px_load rfl (f29.sv.loadA (rt_look f29.len (by omega)) Tryz.isAgg54 Tryz.sizeOf54)) ?_
  refine sx_alloc [.string (⟨#[]⟩), .string (⟨#[]⟩), .bool false, (.slice none 0 0), .int .i64 0] rfl Tryz.zeroValue54 rfl (fun b30 w31 eb30 sb30 fb30 cb30 => ?_)
  have zw31 := cb30.size
  have f33 := (f29.nest k (by omega)).ext cb30
  refine sx_store (vs := [.string ((ts.getD k rt0).1), .string ((ts.getD k rt0).2.1), .bool ((ts.getD k rt0).2.2.1), (vvt.getD k vz), .int .i64 ((ts.getD k rt0).2.2.2.2)]) rfl rfl fb30 rfl Tryz.sizeOf54 (nbl rfl) (one_cons rfl (one_cons rfl (one_cons rfl (one_cons f33.one (o1 rfl))))) (fun w32 sw32 fw32 cw32 => ?_)
  have zw32 := cw32.size
  have gw32 : Blk w32 b30 [.string ((ts.getD k rt0).1), .string ((ts.getD k rt0).2.1), .bool ((ts.getD k rt0).2.2.1), (vvt.getD k vz), .int .i64 ((ts.getD k rt0).2.2.2.2)] 54 := fw32
  refine wl_nil (q_n (k28 _ _ ?_))
  have f34 := hs_s.ext cb30
  have f35 := f34.chg cw32 (by omega)
  have f36 := hb_b4.ext cb30
  have f37 := f36.chg cw32 (by omega)
  have f38 := f29.ext cb30
  have f39 := f38.chg cw32 (by omega)
  have f40 := f33.chg cw32 (by omega)
  refine dx_region (fun w' => Chg b8 (wl19.heap.size) w32 w') (by kernel_rfl) (Chg.zero (Chg.drew _)) ?_
  have d41 := Chg.drew w32
  have s41 : Chg b8 (wl19.heap.size) w32 (World.drew w32) := Chg.zero (Chg.drew _)
  have y41 : (World.drew w32).heap.size = w32.heap.size := rfl
  generalize World.drew w32 = w41 at *
  have zw41 := d41.size
  refine dt 0 rfl rfl rfl rfl s41 (fun _ hS => px_field rfl xfld47x1) ?_
  refine dt 2 rfl rfl rfl rfl s41 (fun _ hS => px_load rfl ((gw32.chg hS (by omega)).loadA (vs := [.string ((ts.getD k rt0).1), .string ((ts.getD k rt0).2.1), .bool ((ts.getD k rt0).2.2.1), (vvt.getD k vz), .int .i64 ((ts.getD k rt0).2.2.2.2)]) (look_lit rfl) Tryz.isAgg54 Tryz.sizeOf54)) ?_
  refine dx_eff2 1 3 rfl rfl (by kernel_rfl) ?_ ?_
  ·
   have f42 := hb_b8.ext cb30
   have f43 := f42.chg cw32 (by omega)
   have f44 := f43.ext d41
   refine sp rfl (px_load rfl (f44.load1 rfl Tryz.isAgg45)) ?_
   have s45 : Chg b8 (wl19.heap.size) w32 w41 := (Chg.zero (l := b8) (h := (wl19.heap.size)) (d41))
   refine wl_nil ?_
   refine dx_next s45 ?_
   refine dx_eff 3 rfl (by kernel_rfl) ?_
   have f46 := f40.ext d41
   refine sx_call rfl rfl Tryz.call57 (c_rateCopy f46 (hIk (by omega))) (fun v47 w47 p47 => ?_)
   obtain ⟨s47, rfl, os_47, c47⟩ := p47
   have zw47 := c47.size
   have s48 : Chg b8 (wl19.heap.size) w32 w47 := (Chg.zero (l := b8) (h := (wl19.heap.size)) (d41.t c47))
   refine wl_nil ?_
   refine dx_next s48 ?_
   refine dx_eff 4 rfl (by kernel_rfl) ?_
   refine sx_lit1A5 rfl xelt45 rfl (fun s49 ws49 ss49 fs49 cs49 => ?_)
   have zws49 := cs49.size
   have s50 : Chg b8 (wl19.heap.size) w32 ws49 := (Chg.zero (l := b8) (h := (wl19.heap.size)) ((d41.t c47).t cs49))
   refine wl_nil ?_
   refine dx_next s50 ?_
   refine dx_eff 5 rfl (by kernel_rfl) ?_
   have f54 := ((f35.ext d41).ext c47).ext cs49
   have f55 := os_47.ext cs49
   refine sx_appendRt (xb := b8) (r := (((ts.getD k rt0).1), ((ts.getD k rt0).2.1), ((ts.getD k rt0).2.2.1), ((ts.getD k rt0).2.2.2.1), ((ts.getD k rt0).2.2.2.2))) rfl xelt45 rfl rfl f54 fs49.sv f55 (by omega) (by omega) (by omega) (by unfold maxLen; omega) (fun a51 w51 fw51 cw51 => ?_)
   have zw51 := cw51.size
   have q57 := Chg.step (l := b8) (h := (wl19.heap.size)) (Chg.zero (l := b8) (h := (wl19.heap.size)) ((d41.t c47).t cs49)) cw51 (by omega)
   have s56 : Chg b8 (wl19.heap.size) w32 w51 := q57
   refine wl_nil ?_
   refine dx_next s56 ?_
   refine dt 6 rfl rfl rfl rfl s56 (fun _ hS => px_field rfl xfld47x1) ?_
   refine dx_eff 7 rfl (by kernel_rfl) ?_
   have f60 := (f44.ext c47).ext cs49
   have f61 := f60.chg cw51 (by omega)
   refine sx_store (vs := [a51]) rfl rfl f61 (cells_one (fw51).toS.one) Tryz.sizeOf45 (nbl rfl) (one_cons (fw51).toS.one one_nil) (fun w58 sw58 fw58 cw58 => ?_)
   have zw58 := cw58.size
   have gw58 : Blk w58 b8 [.string pv, a51] 47 := fw58
   have q63 := Chg.step (l := b8) (h := (wl19.heap.size)) (Chg.zero (l := b8) (h := (wl19.heap.size)) ((d41.t c47).t cs49)) cw51 (by omega)
   have q64 := Chg.step (l := b8) (h := (wl19.heap.size)) q63 cw58 (by omega)
   have s62 : Chg b8 (wl19.heap.size) w32 w58 := q64
   refine wl_nil ?_
   refine dx_next s62 ?_
   refine dx_done (by kernel_rfl) ?_
   refine q_bn (q_n (k27 _ _ ?_))
   refine sx_sub (Sub.c 2 rfl (.c 3 rfl (.c 10 rfl (.c 11 rfl (.c 12 rfl .nil))))) ?_
   refine sx_region ?_
   refine sp rfl (px_add rfl rfl (by omega)) ?_
   refine mv rfl rfl (wl_nil ?_)
   have q65 := Chg.step (l := 0) (h := 0) (Chg.zero (l := 0) (h := 0) (cwl19.t cb30)) cw32 (by omega)
   have q66 := Chg.step (l := 0) (h := 0) q65 ((d41.t c47).t cs49) (by omega)
   have q67 := Chg.step (l := 0) (h := 0) q66 cw51 (by omega)
   have q68 := Chg.step (l := 0) (h := 0) q67 cw58 (by omega)
   have f71 := ((f37.ext d41).ext c47).ext cs49
   have f72 := f71.chg cw51 (by omega)
   have f73 := f72.chg cw58 (by omega)
   have f74 := fw51.chgX cw58
   exact fun a ha => ⟨_, by omega, (k + 1), a51, (us ++ [s47]), ha.sub (Sub.c 2 rfl (.c 3 rfl (.c 10 rfl (.c 11 rfl (.c 12 (look_int (t := 12) rfl (by first | omega | simp)) .nil))))), q68, f73, gw58, (by rw [take_snoc (by omega)]; exact (f74).mono (by omega) (by omega)), rfl, by omega⟩
  have f75 := f40.ext d41
  refine sx_call rfl rfl Tryz.call57 (c_rateCopy f75 (hIk (by omega))) (fun v76 w76 p76 => ?_)
  obtain ⟨s76, rfl, os_76, c76⟩ := p76
  have zw76 := c76.size
  have s77 : Chg b8 (wl19.heap.size) w32 w76 := (Chg.zero (l := b8) (h := (wl19.heap.size)) (d41.t c76))
  refine wl_nil ?_
  refine dx_next s77 ?_
  refine dx_eff2 1 4 rfl rfl (by kernel_rfl) ?_ ?_
  ·
   have f78 := hb_b8.ext cb30
   have f79 := f78.chg cw32 (by omega)
   have f81 := (f79.ext d41).ext c76
   refine sp rfl (px_load rfl (f81.load1 rfl Tryz.isAgg45)) ?_
   have s82 : Chg b8 (wl19.heap.size) w32 w76 := (Chg.zero (l := b8) (h := (wl19.heap.size)) (d41.t c76))
   refine wl_nil ?_
   refine dx_next s82 ?_
   refine dx_eff 4 rfl (by kernel_rfl) ?_
   refine sx_lit1A5 rfl xelt45 rfl (fun s83 ws83 ss83 fs83 cs83 => ?_)
   have zws83 := cs83.size
   have s84 : Chg b8 (wl19.heap.size) w32 ws83 := (Chg.zero (l := b8) (h := (wl19.heap.size)) ((d41.t c76).t cs83))
   refine wl_nil ?_
   refine dx_next s84 ?_
   refine dx_eff 5 rfl (by kernel_rfl) ?_
   have f88 := ((f35.ext d41).ext c76).ext cs83
   have f89 := os_76.ext cs83
   refine sx_appendRt (xb := b8) (r := (((ts.getD k rt0).1), ((ts.getD k rt0).2.1), ((ts.getD k rt0).2.2.1), ((ts.getD k rt0).2.2.2.1), ((ts.getD k rt0).2.2.2.2))) rfl xelt45 rfl rfl f88 fs83.sv f89 (by omega) (by omega) (by omega) (by unfold maxLen; omega) (fun a85 w85 fw85 cw85 => ?_)
   have zw85 := cw85.size
   have q91 := Chg.step (l := b8) (h := (wl19.heap.size)) (Chg.zero (l := b8) (h := (wl19.heap.size)) ((d41.t c76).t cs83)) cw85 (by omega)
   have s90 : Chg b8 (wl19.heap.size) w32 w85 := q91
   refine wl_nil ?_
   refine dx_next s90 ?_
   refine dt 6 rfl rfl rfl rfl s90 (fun _ hS => px_field rfl xfld47x1) ?_
   refine dx_eff 7 rfl (by kernel_rfl) ?_
   have f93 := f81.ext cs83
   have f94 := f93.chg cw85 (by omega)
   refine sx_store (vs := [a85]) rfl rfl f94 (cells_one (fw85).toS.one) Tryz.sizeOf45 (nbl rfl) (one_cons (fw85).toS.one one_nil) (fun w92 sw92 fw92 cw92 => ?_)
   have zw92 := cw92.size
   have gw92 : Blk w92 b8 [.string pv, a85] 47 := fw92
   have q96 := Chg.step (l := b8) (h := (wl19.heap.size)) (Chg.zero (l := b8) (h := (wl19.heap.size)) ((d41.t c76).t cs83)) cw85 (by omega)
   have q97 := Chg.step (l := b8) (h := (wl19.heap.size)) q96 cw92 (by omega)
   have s95 : Chg b8 (wl19.heap.size) w32 w92 := q97
   refine wl_nil ?_
   refine dx_next s95 ?_
   refine dx_done (by kernel_rfl) ?_
   refine q_bn (q_n (k27 _ _ ?_))
   refine sx_sub (Sub.c 2 rfl (.c 3 rfl (.c 10 rfl (.c 11 rfl (.c 12 rfl .nil))))) ?_
   refine sx_region ?_
   refine sp rfl (px_add rfl rfl (by omega)) ?_
   refine mv rfl rfl (wl_nil ?_)
   have q98 := Chg.step (l := 0) (h := 0) (Chg.zero (l := 0) (h := 0) (cwl19.t cb30)) cw32 (by omega)
   have q99 := Chg.step (l := 0) (h := 0) q98 ((d41.t c76).t cs83) (by omega)
   have q100 := Chg.step (l := 0) (h := 0) q99 cw85 (by omega)
   have q101 := Chg.step (l := 0) (h := 0) q100 cw92 (by omega)
   have f104 := ((f37.ext d41).ext c76).ext cs83
   have f105 := f104.chg cw85 (by omega)
   have f106 := f105.chg cw92 (by omega)
   have f107 := fw85.chgX cw92
   exact fun a ha => ⟨_, by omega, (k + 1), a85, (us ++ [s76]), ha.sub (Sub.c 2 rfl (.c 3 rfl (.c 10 rfl (.c 11 rfl (.c 12 (look_int (t := 12) rfl (by first | omega | simp)) .nil))))), q101, f106, gw92, (by rw [take_snoc (by omega)]; exact (f107).mono (by omega) (by omega)), rfl, by omega⟩
  refine sx_lit1A5 rfl xelt45 rfl (fun s108 ws108 ss108 fs108 cs108 => ?_)
  have zws108 := cs108.size
  have s109 : Chg b8 (wl19.heap.size) w32 ws108 := (Chg.zero (l := b8) (h := (wl19.heap.size)) ((d41.t c76).t cs108))
  refine wl_nil ?_
  refine dx_next s109 ?_
  refine dx_eff 1 rfl (by kernel_rfl) ?_
  have f110 := hb_b8.ext cb30
  have f111 := f110.chg cw32 (by omega)
  have f114 := ((f111.ext d41).ext c76).ext cs108
  refine sp rfl (px_load rfl (f114.load1 rfl Tryz.isAgg45)) ?_
  have s115 : Chg b8 (wl19.heap.size) w32 ws108 := (Chg.zero (l := b8) (h := (wl19.heap.size)) ((d41.t c76).t cs108))
  refine wl_nil ?_
  refine dx_next s115 ?_
  refine dx_eff 5 rfl (by kernel_rfl) ?_
  have f119 := ((f35.ext d41).ext c76).ext cs108
  have f120 := os_76.ext cs108
  refine sx_appendRt (xb := b8) (r := (((ts.getD k rt0).1), ((ts.getD k rt0).2.1), ((ts.getD k rt0).2.2.1), ((ts.getD k rt0).2.2.2.1), ((ts.getD k rt0).2.2.2.2))) rfl xelt45 rfl rfl f119 fs108.sv f120 (by omega) (by omega) (by omega) (by unfold maxLen; omega) (fun a116 w116 fw116 cw116 => ?_)
  have zw116 := cw116.size
  have q122 := Chg.step (l := b8) (h := (wl19.heap.size)) (Chg.zero (l := b8) (h := (wl19.heap.size)) ((d41.t c76).t cs108)) cw116 (by omega)
  have s121 : Chg b8 (wl19.heap.size) w32 w116 := q122
  refine wl_nil ?_
  refine dx_next s121 ?_
  refine dt 6 rfl rfl rfl rfl s121 (fun _ hS => px_field rfl xfld47x1) ?_
  refine dx_eff 7 rfl (by kernel_rfl) ?_
  have f124 := f114.chg cw116 (by omega)
  refine sx_store (vs := [a116]) rfl rfl f124 (cells_one (fw116).toS.one) Tryz.sizeOf45 (nbl rfl) (one_cons (fw116).toS.one one_nil) (fun w123 sw123 fw123 cw123 => ?_)
  have zw123 := cw123.size
  have gw123 : Blk w123 b8 [.string pv, a116] 47 := fw123
  have q126 := Chg.step (l := b8) (h := (wl19.heap.size)) (Chg.zero (l := b8) (h := (wl19.heap.size)) ((d41.t c76).t cs108)) cw116 (by omega)
  have q127 := Chg.step (l := b8) (h := (wl19.heap.size)) q126 cw123 (by omega)
  have s125 : Chg b8 (wl19.heap.size) w32 w123 := q127
  refine wl_nil ?_
  refine dx_next s125 ?_
  refine dx_done (by kernel_rfl) ?_
  refine q_bn (q_n (k27 _ _ ?_))
  refine sx_sub (Sub.c 2 rfl (.c 3 rfl (.c 10 rfl (.c 11 rfl (.c 12 rfl .nil))))) ?_
  refine sx_region ?_
  refine sp rfl (px_add rfl rfl (by omega)) ?_
  refine mv rfl rfl (wl_nil ?_)
  have q128 := Chg.step (l := 0) (h := 0) (Chg.zero (l := 0) (h := 0) (cwl19.t cb30)) cw32 (by omega)
  have q129 := Chg.step (l := 0) (h := 0) q128 ((d41.t c76).t cs108) (by omega)
  have q130 := Chg.step (l := 0) (h := 0) q129 cw116 (by omega)
  have q131 := Chg.step (l := 0) (h := 0) q130 cw123 (by omega)
  have f134 := ((f37.ext d41).ext c76).ext cs108
  have f135 := f134.chg cw116 (by omega)
  have f136 := f135.chg cw123 (by omega)
  have f137 := fw116.chgX cw123
  exact fun a ha => ⟨_, by omega, (k + 1), a116, (us ++ [s76]), ha.sub (Sub.c 2 rfl (.c 3 rfl (.c 10 rfl (.c 11 rfl (.c 12 (look_int (t := 12) rfl (by first | omega | simp)) .nil))))), q131, f136, gw123, (by rw [take_snoc (by omega)]; exact (f137).mono (by omega) (by omega)), rfl, by omega⟩
 refine sx_exit ?_
 refine q_e (q_e (q_bx (q_n (k11 _ _ ?_))))
 refine sx_seq fun K138 k138 => sx_region ?_
 refine sp rfl (px_load rfl (hb_b8.loadA (vs := [.string pv, s]) (look_lit rfl) Tryz.isAgg47 Tryz.sizeOf47)) ?_
 refine sx_store (vs := [.string pv, s]) rfl rfl hb_b4 rfl Tryz.sizeOf47 (nbl rfl) (one_cons rfl (one_cons (hs_s).toS.one one_nil)) (fun w139 sw139 fw139 cw139 => ?_)
 have zw139 := cw139.size
 have gw139 : Blk w139 b4 [.string pv, s] 47 := fw139
 refine wl_nil (q_n (k138 _ _ ?_))
 refine sx_retc ?_
 refine sx_ret1 Tryz.results56 ⟨_, rfl, gw139.loadA (vs := [.string pv, s]) (look_lit rfl) Tryz.isAgg47 Tryz.sizeOf47⟩ ?_
 have ek : k = ts.length := by omega
 subst ek
 have f140 := hs_s.chg cw139 (by omega)
 have hO := f140
 rw [List.take_length] at hO
 have q141 := Chg.step (l := 0) (h := 0) (Chg.zero (l := 0) (h := 0) cwl19) cw139 (by omega)
 exact ⟨_, _, rfl, hO.mono (by omega) (by omega), q141⟩

theorem c_iRatePut {w : World} {pv : ByteArray} {vt : Value} {lvt uvt : Nat} {ts : List Rt} {vvt : List Value} {f1 : ByteArray} {t1 : ByteArray} {n1 : Bool} {v1 : Value} {lv1 uv1 : Nat} {z1 : List Int} {p1 : Int} (hG0 : Glob w) (hvt : RtS w lvt uvt vt ts vvt) (hv1 : Sl w lv1 uv1 v1 (z1)) (h63 : ts.length ≤ 4611686018427387904) (hz : ∀ i, i < ts.length → (ts.getD i rt0).2.2.2.1.length ≤ 4611686018427387904) (hz1 : z1.length ≤ 4611686018427387904) :
  Ret Tryz.prog 23 [.agg #[.string pv, vt], .agg #[.string f1, .string t1, .bool n1, v1, .int .i64 p1]] w fun v w' => ∃ s us, v = .tuple #[.agg #[.string ((rPut pv ts (f1, t1, n1, z1, p1)).1), s], .bool ((rPut pv ts (f1, t1, n1, z1, p1)).2.2)] ∧ RtG w' (w.heap.size) (w'.heap.size) s 54 intT ((rPut pv ts (f1, t1, n1, z1, p1)).2.1) us ∧ Chg 0 0 w w' := by
 have hvt0 := hvt.fit
 have hv10 := hv1.fit
 refine sx_enter Tryz.func23 rfl Tryz.ntmps23 (nbl rfl) ?_
 refine sx_seq fun K1 k1 => sx_region ?_
 refine sx_box [.string pv, vt] rfl rfl rfl (fun b2 w3 eb2 sb2 fb2 cb2 => ?_)
 have zw3 := cb2.size
 refine sx_box [.string f1, .string t1, .bool n1, v1, .int .i64 p1] rfl rfl rfl (fun b4 w5 eb4 sb4 fb4 cb4 => ?_)
 have zw5 := cb4.size
 refine sx_alloc [.string (⟨#[]⟩), (.slice none 0 0)] rfl Tryz.zeroValue47 rfl (fun b6 w7 eb6 sb6 fb6 cb6 => ?_)
 have zw7 := cb6.size
 refine av rfl rfl (wl_nil (q_n (k1 _ _ ?_)))
 refine sx_seq fun K8 k8 => ?_
 refine sx_seq fun K9 k9 => sx_region ?_
 have f10 := fb2.ext cb4
 have f11 := f10.ext cb6
 refine sp rfl (px_load rfl (f11.loadA (vs := [.string pv, vt]) (look_lit rfl) Tryz.isAgg47 Tryz.sizeOf47)) ?_
 have f12 := hG0.ext cb2
 have f13 := f12.ext cb4
 have f14 := f13.ext cb6
 have f15 := hvt0.ext cb2
 have f16 := f15.ext cb4
 have f17 := f16.ext cb6
 refine sx_call rfl rfl Tryz.call27 (c_iRatesOk f14 f17 (by first | omega | (rw [← hput]; have := putR_len (ts := ts) (r := (f1, t1, n1, z1, p1)); omega)) (by first | assumption | (rw [← hput]; exact putR_hz hz hz1))) (fun v18 w18 p18 => ?_)
 obtain ⟨rfl, c18⟩ := p18
 have zw18 := c18.size
 refine sp rfl (px_notP rfl) ?_
 refine mv rfl rfl ?_
 refine sx_tmpP (t := 11) rfl (fun h79 => ?_) (fun h79 => ?_)
 ·
  refine sx_guardF rfl rfl rfl rfl rfl rfl ?_
  refine sx_guardF rfl rfl rfl rfl rfl rfl ?_
  refine sx_guardF rfl rfl rfl rfl rfl rfl ?_
  refine sp rfl (px_pick rfl rfl) ?_
  refine wl_nil (q_n (k9 _ _ ?_))
  refine sx_condT rfl ?_
  refine sx_seq fun K19 k19 => sx_region ?_
  refine sp rfl (px_build rfl (xbld47x  _)) ?_
  have f21 := fb6.ext c18
  refine sx_store (vs := [.string (⟨#[]⟩), (.slice none 0 0)]) rfl rfl f21 rfl Tryz.sizeOf47 (nbl rfl) (o2 rfl rfl) (fun w20 sw20 fw20 cw20 => ?_)
  have zw20 := cw20.size
  have gw20 : Blk w20 b6 [.string (⟨#[]⟩), (.slice none 0 0)] 47 := fw20
  refine av rfl rfl (wl_nil (q_n (k19 _ _ ?_)))
  refine sx_sub (Sub.c 2 rfl (.c 3 rfl (.c 4 rfl (.c 5 rfl .nil)))) ?_
  refine sx_retc ?_
  refine q_r (sx_ret2 Tryz.results23 ⟨_, rfl, gw20.loadA (vs := [.string (⟨#[]⟩), (.slice none 0 0)]) (look_lit rfl) Tryz.isAgg47 Tryz.sizeOf47⟩ rfl ?_)
  rw [rPut_no (fun h => by first | exact h79 h.1 | exact h79x1 h.2)]
  have q22 := Chg.step (l := 0) (h := 0) (Chg.zero (l := 0) (h := 0) (((cb2.t cb4).t cb6).t c18)) cw20 (by omega)
  exact ⟨_, [], rfl, RtG.nil _ _ _ _ _ (by omega), q22⟩
 refine sx_guardT rfl rfl rfl ?_
 have f23 := fb4.ext cb6
 have f24 := f23.ext c18
 refine sp rfl (px_load rfl (f24.loadA (vs := [.string f1, .string t1, .bool n1, v1, .int .i64 p1]) (look_lit rfl) Tryz.isAgg54 Tryz.sizeOf54)) ?_
 refine sx_guardT rfl rfl rfl ?_
 have f25 := f14.ext c18
 have f26 := hv10.ext cb2
 have f27 := f26.ext cb4
 have f28 := f27.ext cb6
 have f29 := f28.ext c18
 refine sx_call rfl rfl Tryz.call55 (c_iRateOk f25 f29 (by omega)) (fun v30 w30 p30 => ?_)
 obtain ⟨rfl, c30⟩ := p30
 have zw30 := c30.size
 refine sx_guardT rfl rfl rfl ?_
 refine sp rfl (px_notP rfl) ?_
 refine sp rfl (px_pick rfl rfl) ?_
 refine wl_nil (q_n (k9 _ _ ?_))
 refine sx_condP rfl (fun h79x1 => ?_) (fun h79x1 => ?_)
 ·
  refine sx_seq fun K31 k31 => sx_region ?_
  refine sp rfl (px_build rfl (xbld47x  _)) ?_
  have f34 := (fb6.ext c18).ext c30
  refine sx_store (vs := [.string (⟨#[]⟩), (.slice none 0 0)]) rfl rfl f34 rfl Tryz.sizeOf47 (nbl rfl) (o2 rfl rfl) (fun w32 sw32 fw32 cw32 => ?_)
  have zw32 := cw32.size
  have gw32 : Blk w32 b6 [.string (⟨#[]⟩), (.slice none 0 0)] 47 := fw32
  refine av rfl rfl (wl_nil (q_n (k31 _ _ ?_)))
  refine sx_sub (Sub.c 2 rfl (.c 3 rfl (.c 4 rfl (.c 5 rfl .nil)))) ?_
  refine sx_retc ?_
  refine q_r (sx_ret2 Tryz.results23 ⟨_, rfl, gw32.loadA (vs := [.string (⟨#[]⟩), (.slice none 0 0)]) (look_lit rfl) Tryz.isAgg47 Tryz.sizeOf47⟩ rfl ?_)
  rw [rPut_no (fun h => by first | exact h79 h.1 | exact h79x1 h.2)]
  have q35 := Chg.step (l := 0) (h := 0) (Chg.zero (l := 0) (h := 0) ((((cb2.t cb4).t cb6).t c18).t c30)) cw32 (by omega)
  exact ⟨_, [], rfl, RtG.nil _ _ _ _ _ (by omega), q35⟩
 have hT := Decidable.not_not.1 h79
 have hP := Decidable.not_not.1 h79x1
 have hl12 := hT.2.1
 have hI : ∀ i, i < ts.length → (ts.getD i rt0).2.2.2.1.length ≤ 1048576 := fun i hi => Nat.le_trans (hT.2.2.1 i hi).2.2.2.2.2 (by decide)
 have hI1 : z1.length ≤ 1048576 := Nat.le_trans hP.2.2.2.2.2 (by decide)
 refine sx_skip ?_
 refine q_n (k8 _ _ ?_)
 refine sx_seq fun K36 k36 => sx_region ?_
 have f38 := (f11.ext c18).ext c30
 refine sp rfl (px_load rfl (f38.loadA (vs := [.string pv, vt]) (look_lit rfl) Tryz.isAgg47 Tryz.sizeOf47)) ?_
 have f40 := (f17.ext c18).ext c30
 refine sx_call rfl rfl Tryz.call56 (c_ratesCopy f40 (by omega) (by assumption)) (fun v41 w41 p41 => ?_)
 obtain ⟨s41, us41, rfl, os_41, c41⟩ := p41
 have zw41 := c41.size
 refine sx_alloc [.string (⟨#[]⟩), (.slice none 0 0)] rfl Tryz.zeroValue47 rfl (fun b42 w43 eb42 sb42 fb42 cb42 => ?_)
 have zw43 := cb42.size
 have f45 := os_41.ext cb42
 refine sx_store (vs := [.string pv, s41]) rfl rfl fb42 rfl Tryz.sizeOf47 (nbl rfl) (one_cons rfl (one_cons (f45).toS.one one_nil)) (fun w44 sw44 fw44 cw44 => ?_)
 have zw44 := cw44.size
 have gw44 : Blk w44 b42 [.string pv, s41] 47 := fw44
 refine wl_nil (q_n (k36 _ _ ?_))
 refine sx_sub (Sub.c 3 rfl (.c 4 rfl (.c 5 rfl (.c 6 rfl .nil)))) ?_
 refine sx_seq fun K46 k46 => ?_
 refine sx_seq fun K47 k47 => sx_region ?_
 refine sp rfl (px_field rfl xfld47x1) ?_
 refine sp rfl (px_load rfl (gw44.load1 rfl Tryz.isAgg45)) ?_
 have f48 := f45.chg cw44 (by omega)
 refine sp rfl (px_len rfl Tryz.underlying45 (f48).toS.sv) ?_
 refine mv rfl rfl (wl_nil (q_n (k47 _ _ ?_)))
 refine sx_block ?_
 have f52 := ((f24.ext c30).ext c41).ext cb42
 have f53 := f52.chg cw44 (by omega)
 have f57 := (((fb6.ext c18).ext c30).ext c41).ext cb42
 have f58 := f57.chg cw44 (by omega)
 refine sx_loop (fun mm aa w' => ∃ (k : Nat), Agr 65 [(3, .pointer (some ⟨b4, 0, none⟩)), (4, .pointer (some ⟨b6, 0, none⟩)), (5, .bool false), (6, .pointer (some ⟨b42, 0, none⟩)), (20, s41), (21, .int .i64 (↑((ts).length))), (22, .int .i64 ↑k)] aa ∧ Chg 0 0 w44 w' ∧ Blk w' b4 [.string f1, .string t1, .bool n1, v1, .int .i64 p1] 54 ∧ Blk w' b6 [.string (⟨#[]⟩), (.slice none 0 0)] 47 ∧ Blk w' b42 [.string pv, s41] 47 ∧ (mm = ts.length - k) ∧ (k ≤ ts.length) ∧ (∀ i, i < k → ¬ ((ts.getD i rt0).1 = f1 ∧ (ts.getD i rt0).2.1 = t1))) (_) (fun a ha => ⟨0, ha.sub (Sub.c 3 rfl (.c 4 rfl (.c 5 rfl (.c 6 rfl (.c 20 rfl (.c 21 rfl (.c 22 (look_int (t := 22) rfl (by first | omega | simp)) .nil))))))), Chg.refl _ _ _, f53, f58, gw44, rfl, by omega, fun i hi => by omega⟩) ?_
 rintro mm aa wl49 ⟨k, hAwl49, cwl49, hb_b4, hb_b6, hb_b42, hm, hk, hn⟩
 refine (show cw Tryz.prog 65 _ _ _ wl49 from ?_) aa hAwl49
 clear hAwl49
 have zwl49 := cwl49.size
 refine sx_seq fun K59 k59 => sx_region ?_
 refine sp rfl (px_lt rfl rfl) ?_
 refine wl_nil (q_n (k59 _ _ ?_))
 refine sx_seq fun K60 k60 => ?_
 refine sx_condP rfl (fun h83 => ?_) (fun h83 => ?_)
 ·
  refine sx_skip ?_
  refine q_n (k60 _ _ ?_)
  refine sx_seq fun K61 k61 => ?_
  refine sx_block ?_
  refine sx_seq fun K62 k62 => sx_region ?_
  refine mv rfl rfl (av rfl rfl (wl_nil (q_n (k62 _ _ ?_))))
  refine sx_seq fun K63 k63 => ?_
  by_cases ph84 : (ts.getD k rt0).1 = f1
  ·
   by_cases ph84x1 : (ts.getD k rt0).2.1 = t1
   ·
    have eat := atI_some (by omega) hn ⟨ph84, ph84x1⟩
    have hput : putR ts (f1, t1, n1, z1, p1) = ts.set k (f1, t1, n1, z1, p1) := by unfold putR; rw [if_pos (show 0 ≤ atI ts f1 t1 by omega)]; show ts.set (atI ts f1 t1).toNat _ = _; rw [eat, Int.toNat_natCast]
    have f66 := ((f25.ext c30).ext c41).ext cb42
    have f67 := f66.chg cw44 (by omega)
    have f68 := f67.ext cwl49
    have f70 := (f38.ext c41).ext cb42
    have f71 := f70.chg cw44 (by omega)
    have f72 := f71.ext cwl49
    have f74 := (f40.ext c41).ext cb42
    have f75 := f74.chg cw44 (by omega)
    have f76 := f75.ext cwl49
    have f79 := ((f29.ext c30).ext c41).ext cb42
    have f80 := f79.chg cw44 (by omega)
    have f81 := f80.ext cwl49
    have f82 := f48.ext cwl49
    refine dx_region (fun w' => Chg 0 0 wl49 w') (by kernel_rfl) (Chg.zero (Chg.drew _)) ?_
    have d83 := Chg.drew wl49
    have s83 : Chg 0 0 wl49 (World.drew wl49) := Chg.zero (Chg.drew _)
    have y83 : (World.drew wl49).heap.size = wl49.heap.size := rfl
    generalize World.drew wl49 = w83 at *
    have zw83 := d83.size
    refine dt 0 rfl rfl rfl rfl s83 (fun _ hS => px_field rfl xfld47x1) ?_
    refine dt 1 rfl rfl rfl rfl s83 (fun _ hS => px_load rfl ((hb_b42.chg hS (by omega)).load1 rfl Tryz.isAgg45)) ?_
    refine dt 2 rfl rfl rfl rfl s83 (fun _ hS => px_move rfl) ?_
    refine dt 3 rfl rfl rfl rfl s83 (fun _ hS => px_indexK (j := k) rfl rfl (by omega) Tryz.underlying45 Tryz.sizeOf54 (((f82).toS.sv).chg hS (by omega)) (by omega)) ?_
    refine dt 4 rfl rfl rfl rfl s83 (fun _ hS => px_field rfl xfld54x0) ?_
    refine dt 5 rfl rfl rfl rfl s83 (fun _ hS => px_load rfl ((((f82).toS.sv).chg hS (by omega)).load1 (rt_look1 (q := 0) (f82).toS.len (by omega) rfl) Tryz.isAgg9)) ?_
    refine dt 6 rfl rfl rfl rfl s83 (fun _ hS => px_field rfl xfld54x0) ?_
    refine dt 7 rfl rfl rfl rfl s83 (fun _ hS => px_load rfl ((hb_b4.chg hS (by omega)).load1 rfl Tryz.isAgg9)) ?_
    refine dt 8 rfl rfl rfl rfl s83 (fun _ hS => px_eqS rfl rfl) ?_
    refine dt 9 rfl rfl rfl rfl s83 (fun _ hS => px_move rfl) ?_
    have h84 : (ts.getD k rt0).1 = f1 := by first | omega | exact ph84
    refine dx_tmpPT (t := 34) rfl h84 ?_
    refine dx_takeG 10 rfl rfl rfl rfl rfl rfl (by kernel_rfl) (by kernel_rfl) (by kernel_rfl) s83 (fun _ hS => px_field rfl xfld47x1) ?_
    refine dx_takeG 11 rfl rfl rfl rfl rfl rfl (by kernel_rfl) (by kernel_rfl) (by kernel_rfl) s83 (fun _ hS => px_load rfl ((hb_b42.chg hS (by omega)).load1 rfl Tryz.isAgg45)) ?_
    refine dx_takeG 12 rfl rfl rfl rfl rfl rfl (by kernel_rfl) (by kernel_rfl) (by kernel_rfl) s83 (fun _ hS => px_move rfl) ?_
    refine dx_takeG 13 rfl rfl rfl rfl rfl rfl (by kernel_rfl) (by kernel_rfl) (by kernel_rfl) s83 (fun _ hS => px_indexK (j := k) rfl rfl (by omega) Tryz.underlying45 Tryz.sizeOf54 (((f82).toS.sv).chg hS (by omega)) (by omega)) ?_
    refine dx_takeG 14 rfl rfl rfl rfl rfl rfl (by kernel_rfl) (by kernel_rfl) (by kernel_rfl) s83 (fun _ hS => px_field rfl xfld54x1) ?_
    refine dx_takeG 15 rfl rfl rfl rfl rfl rfl (by kernel_rfl) (by kernel_rfl) (by kernel_rfl) s83 (fun _ hS => px_load rfl ((((f82).toS.sv).chg hS (by omega)).load1 (rt_look1 (q := 1) (f82).toS.len (by omega) rfl) Tryz.isAgg9)) ?_
    refine dx_takeG 16 rfl rfl rfl rfl rfl rfl (by kernel_rfl) (by kernel_rfl) (by kernel_rfl) s83 (fun _ hS => px_field rfl xfld54x1) ?_
    refine dx_takeG 17 rfl rfl rfl rfl rfl rfl (by kernel_rfl) (by kernel_rfl) (by kernel_rfl) s83 (fun _ hS => px_load rfl ((hb_b4.chg hS (by omega)).load1 rfl Tryz.isAgg9)) ?_
    refine dx_takeG 18 rfl rfl rfl rfl rfl rfl (by kernel_rfl) (by kernel_rfl) (by kernel_rfl) s83 (fun _ hS => px_eqS rfl rfl) ?_
    refine dt 19 rfl rfl rfl rfl s83 (fun _ hS => px_pick rfl rfl) ?_
    refine dx_done (by kernel_rfl) ?_
    refine q_n (k63 _ _ ?_)
    refine sx_sub (Sub.c 3 rfl (.c 4 rfl (.c 5 rfl (.c 6 rfl (.c 7 rfl (.c 20 rfl (.c 21 rfl (.c 22 rfl (.c 44 rfl .nil))))))))) ?_
    have h84x1 : (ts.getD k rt0).2.1 = t1 := by first | omega | exact ph84x1
    refine sx_condPT rfl h84x1 ?_
    refine sx_seq fun K84 k84 => ?_
    have f85 := f68.ext d83
    have f86 := f72.ext d83
    have f87 := hb_b4.ext d83
    have f89 := hb_b42.ext d83
    have f90 := f76.ext d83
    have f92 := f82.ext d83
    have f93 := ((f82).toS.nest k (by omega)).ext d83
    refine dx_region (fun w' => Chg w30.heap.size (w41.heap.size) w83 w') (by kernel_rfl) (Chg.zero (Chg.drew _)) ?_
    have d94 := Chg.drew w83
    have s94 : Chg w30.heap.size (w41.heap.size) w83 (World.drew w83) := Chg.zero (Chg.drew _)
    have y94 : (World.drew w83).heap.size = w83.heap.size := rfl
    generalize World.drew w83 = w94 at *
    have zw94 := d94.size
    refine dt 0 rfl rfl rfl rfl s94 (fun _ hS => px_field rfl xfld47x1) ?_
    refine dt 1 rfl rfl rfl rfl s94 (fun _ hS => px_load rfl ((f89.chg hS (by omega)).load1 rfl Tryz.isAgg45)) ?_
    refine dt 2 rfl rfl rfl rfl s94 (fun _ hS => px_move rfl) ?_
    refine dt 3 rfl rfl rfl rfl s94 (fun _ hS => px_load rfl ((f87.chg hS (by omega)).loadA (vs := [.string f1, .string t1, .bool n1, v1, .int .i64 p1]) (look_lit rfl) Tryz.isAgg54 Tryz.sizeOf54)) ?_
    refine dx_eff 4 rfl (by kernel_rfl) ?_
    have f95 := (f81.ext d83).ext d94
    refine sx_call rfl rfl Tryz.call57 (c_rateCopy f95 (by omega)) (fun v96 w96 p96 => ?_)
    obtain ⟨s96, rfl, os_96, c96⟩ := p96
    have zw96 := c96.size
    have s97 : Chg w30.heap.size (w41.heap.size) w83 w96 := (Chg.zero (l := w30.heap.size) (h := (w41.heap.size)) (d94.t c96))
    refine wl_nil ?_
    refine dx_next s97 ?_
    refine dt 5 rfl rfl rfl rfl s97 (fun _ hS => px_indexKw (j := k) rfl rfl (by omega) Tryz.underlying45 Tryz.sizeOf54 (f92).toS.sv (by omega)) ?_
    refine dx_eff 6 rfl (by kernel_rfl) ?_
    have f100 := (f92.ext d94).ext c96
    refine sx_storeRt (r := (f1, t1, n1, z1, p1)) (q := s96) (k := k) rfl rfl f100 rfl (by omega) os_96 (by omega) Tryz.sizeOf54 (fun w98 sw98 fw98 cw98 => ?_)
    have zw98 := cw98.size
    have q102 := Chg.step (l := w30.heap.size) (h := (w41.heap.size)) (Chg.zero (l := w30.heap.size) (h := (w41.heap.size)) (d94.t c96)) cw98 (by omega)
    have s101 : Chg w30.heap.size (w41.heap.size) w83 w98 := q102
    refine wl_nil ?_
    refine dx_next s101 ?_
    refine dx_done (by kernel_rfl) ?_
    refine q_n (k84 _ _ ?_)
    refine sx_sub (Sub.c 3 rfl (.c 4 rfl (.c 5 rfl (.c 6 rfl (.c 20 rfl (.c 21 rfl (.c 22 rfl .nil))))))) ?_
    refine sx_seq fun K103 k103 => sx_region ?_
    have f106 := ((f89.ext d94).ext c96).chg cw98 (by omega)
    refine sp rfl (px_load rfl (f106.loadA (vs := [.string pv, s41]) (look_lit rfl) Tryz.isAgg47 Tryz.sizeOf47)) ?_
    have f110 := (((hb_b6.ext d83).ext d94).ext c96).chg cw98 (by omega)
    refine sx_store (vs := [.string pv, s41]) rfl rfl f110 rfl Tryz.sizeOf47 (nbl rfl) (one_cons rfl (one_cons (fw98).toS.one one_nil)) (fun w107 sw107 fw107 cw107 => ?_)
    have zw107 := cw107.size
    have gw107 : Blk w107 b6 [.string pv, s41] 47 := fw107
    refine av rfl rfl (wl_nil (q_n (k103 _ _ ?_)))
    refine sx_retc ?_
    refine q_br (q_r (q_r (q_br (q_r (sx_ret2 Tryz.results23 ⟨_, rfl, gw107.loadA (vs := [.string pv, s41]) (look_lit rfl) Tryz.isAgg47 Tryz.sizeOf47⟩ rfl ?_)))))
    have f111 := fw98.chg cw107 (by omega)
    have hG := f111
    rw [← hput] at hG
    rw [rPut_ok hT hP (RsOk_put hT hP (show 0 ≤ atI ts f1 t1 by omega))]
    have q112 := Chg.step (l := 0) (h := 0) (Chg.zero (l := 0) (h := 0) ((((((cb2.t cb4).t cb6).t c18).t c30).t c41).t cb42)) cw44 (by omega)
    have q113 := Chg.step (l := 0) (h := 0) q112 (((cwl49.t d83).t d94).t c96) (by omega)
    have q114 := Chg.step (l := 0) (h := 0) q113 cw98 (by omega)
    have q115 := Chg.step (l := 0) (h := 0) q114 cw107 (by omega)
    exact ⟨_, _, rfl, hG.mono (by omega) (by omega), q115⟩
   have f118 := ((f25.ext c30).ext c41).ext cb42
   have f119 := f118.chg cw44 (by omega)
   have f120 := f119.ext cwl49
   have f122 := (f38.ext c41).ext cb42
   have f123 := f122.chg cw44 (by omega)
   have f124 := f123.ext cwl49
   have f126 := (f40.ext c41).ext cb42
   have f127 := f126.chg cw44 (by omega)
   have f128 := f127.ext cwl49
   have f131 := ((f29.ext c30).ext c41).ext cb42
   have f132 := f131.chg cw44 (by omega)
   have f133 := f132.ext cwl49
   have f134 := f48.ext cwl49
   refine dx_region (fun w' => Chg 0 0 wl49 w') (by kernel_rfl) (Chg.zero (Chg.drew _)) ?_
   have d135 := Chg.drew wl49
   have s135 : Chg 0 0 wl49 (World.drew wl49) := Chg.zero (Chg.drew _)
   have y135 : (World.drew wl49).heap.size = wl49.heap.size := rfl
   generalize World.drew wl49 = w135 at *
   have zw135 := d135.size
   refine dt 0 rfl rfl rfl rfl s135 (fun _ hS => px_field rfl xfld47x1) ?_
   refine dt 1 rfl rfl rfl rfl s135 (fun _ hS => px_load rfl ((hb_b42.chg hS (by omega)).load1 rfl Tryz.isAgg45)) ?_
   refine dt 2 rfl rfl rfl rfl s135 (fun _ hS => px_move rfl) ?_
   refine dt 3 rfl rfl rfl rfl s135 (fun _ hS => px_indexK (j := k) rfl rfl (by omega) Tryz.underlying45 Tryz.sizeOf54 (((f134).toS.sv).chg hS (by omega)) (by omega)) ?_
   refine dt 4 rfl rfl rfl rfl s135 (fun _ hS => px_field rfl xfld54x0) ?_
   refine dt 5 rfl rfl rfl rfl s135 (fun _ hS => px_load rfl ((((f134).toS.sv).chg hS (by omega)).load1 (rt_look1 (q := 0) (f134).toS.len (by omega) rfl) Tryz.isAgg9)) ?_
   refine dt 6 rfl rfl rfl rfl s135 (fun _ hS => px_field rfl xfld54x0) ?_
   refine dt 7 rfl rfl rfl rfl s135 (fun _ hS => px_load rfl ((hb_b4.chg hS (by omega)).load1 rfl Tryz.isAgg9)) ?_
   refine dt 8 rfl rfl rfl rfl s135 (fun _ hS => px_eqS rfl rfl) ?_
   refine dt 9 rfl rfl rfl rfl s135 (fun _ hS => px_move rfl) ?_
   have h84 : (ts.getD k rt0).1 = f1 := by first | omega | exact ph84
   refine dx_tmpPT (t := 34) rfl h84 ?_
   refine dx_takeG 10 rfl rfl rfl rfl rfl rfl (by kernel_rfl) (by kernel_rfl) (by kernel_rfl) s135 (fun _ hS => px_field rfl xfld47x1) ?_
   refine dx_takeG 11 rfl rfl rfl rfl rfl rfl (by kernel_rfl) (by kernel_rfl) (by kernel_rfl) s135 (fun _ hS => px_load rfl ((hb_b42.chg hS (by omega)).load1 rfl Tryz.isAgg45)) ?_
   refine dx_takeG 12 rfl rfl rfl rfl rfl rfl (by kernel_rfl) (by kernel_rfl) (by kernel_rfl) s135 (fun _ hS => px_move rfl) ?_
   refine dx_takeG 13 rfl rfl rfl rfl rfl rfl (by kernel_rfl) (by kernel_rfl) (by kernel_rfl) s135 (fun _ hS => px_indexK (j := k) rfl rfl (by omega) Tryz.underlying45 Tryz.sizeOf54 (((f134).toS.sv).chg hS (by omega)) (by omega)) ?_
   refine dx_takeG 14 rfl rfl rfl rfl rfl rfl (by kernel_rfl) (by kernel_rfl) (by kernel_rfl) s135 (fun _ hS => px_field rfl xfld54x1) ?_
   refine dx_takeG 15 rfl rfl rfl rfl rfl rfl (by kernel_rfl) (by kernel_rfl) (by kernel_rfl) s135 (fun _ hS => px_load rfl ((((f134).toS.sv).chg hS (by omega)).load1 (rt_look1 (q := 1) (f134).toS.len (by omega) rfl) Tryz.isAgg9)) ?_
   refine dx_takeG 16 rfl rfl rfl rfl rfl rfl (by kernel_rfl) (by kernel_rfl) (by kernel_rfl) s135 (fun _ hS => px_field rfl xfld54x1) ?_
   refine dx_takeG 17 rfl rfl rfl rfl rfl rfl (by kernel_rfl) (by kernel_rfl) (by kernel_rfl) s135 (fun _ hS => px_load rfl ((hb_b4.chg hS (by omega)).load1 rfl Tryz.isAgg9)) ?_
   refine dx_takeG 18 rfl rfl rfl rfl rfl rfl (by kernel_rfl) (by kernel_rfl) (by kernel_rfl) s135 (fun _ hS => px_eqS rfl rfl) ?_
   refine dt 19 rfl rfl rfl rfl s135 (fun _ hS => px_pick rfl rfl) ?_
   refine dx_done (by kernel_rfl) ?_
   refine q_n (k63 _ _ ?_)
   refine sx_sub (Sub.c 3 rfl (.c 4 rfl (.c 5 rfl (.c 6 rfl (.c 7 rfl (.c 20 rfl (.c 21 rfl (.c 22 rfl (.c 44 rfl .nil))))))))) ?_
   have h84x1 : ¬ ((ts.getD k rt0).2.1 = t1) := by first | omega | exact ph84x1
   refine sx_condPF rfl h84x1 ?_
   refine sx_skip ?_
   refine q_bn (q_n (k61 _ _ ?_))
   refine sx_region ?_
   refine sp rfl (px_add rfl rfl (by omega)) ?_
   refine mv rfl rfl (wl_nil ?_)
   have f136 := hb_b4.ext d135
   have f137 := hb_b6.ext d135
   have f138 := hb_b42.ext d135
   exact fun a ha => ⟨_, by omega, (k + 1), ha.sub (Sub.c 3 rfl (.c 4 rfl (.c 5 rfl (.c 6 rfl (.c 20 rfl (.c 21 rfl (.c 22 (look_int (t := 22) rfl (by first | omega | simp)) .nil))))))), (cwl49.t d135), f136, f137, f138, rfl, by omega, upto_next hn (fun hh => by first | exact ph84 hh.1 | exact ph84x1 hh.2)⟩
  have f141 := ((f25.ext c30).ext c41).ext cb42
  have f142 := f141.chg cw44 (by omega)
  have f143 := f142.ext cwl49
  have f145 := (f38.ext c41).ext cb42
  have f146 := f145.chg cw44 (by omega)
  have f147 := f146.ext cwl49
  have f149 := (f40.ext c41).ext cb42
  have f150 := f149.chg cw44 (by omega)
  have f151 := f150.ext cwl49
  have f154 := ((f29.ext c30).ext c41).ext cb42
  have f155 := f154.chg cw44 (by omega)
  have f156 := f155.ext cwl49
  have f157 := f48.ext cwl49
  refine dx_region (fun w' => Chg 0 0 wl49 w') (by kernel_rfl) (Chg.zero (Chg.drew _)) ?_
  have d158 := Chg.drew wl49
  have s158 : Chg 0 0 wl49 (World.drew wl49) := Chg.zero (Chg.drew _)
  have y158 : (World.drew wl49).heap.size = wl49.heap.size := rfl
  generalize World.drew wl49 = w158 at *
  have zw158 := d158.size
  refine dt 0 rfl rfl rfl rfl s158 (fun _ hS => px_field rfl xfld47x1) ?_
  refine dt 1 rfl rfl rfl rfl s158 (fun _ hS => px_load rfl ((hb_b42.chg hS (by omega)).load1 rfl Tryz.isAgg45)) ?_
  refine dt 2 rfl rfl rfl rfl s158 (fun _ hS => px_move rfl) ?_
  refine dt 3 rfl rfl rfl rfl s158 (fun _ hS => px_indexK (j := k) rfl rfl (by omega) Tryz.underlying45 Tryz.sizeOf54 (((f157).toS.sv).chg hS (by omega)) (by omega)) ?_
  refine dt 4 rfl rfl rfl rfl s158 (fun _ hS => px_field rfl xfld54x0) ?_
  refine dt 5 rfl rfl rfl rfl s158 (fun _ hS => px_load rfl ((((f157).toS.sv).chg hS (by omega)).load1 (rt_look1 (q := 0) (f157).toS.len (by omega) rfl) Tryz.isAgg9)) ?_
  refine dt 6 rfl rfl rfl rfl s158 (fun _ hS => px_field rfl xfld54x0) ?_
  refine dt 7 rfl rfl rfl rfl s158 (fun _ hS => px_load rfl ((hb_b4.chg hS (by omega)).load1 rfl Tryz.isAgg9)) ?_
  refine dt 8 rfl rfl rfl rfl s158 (fun _ hS => px_eqS rfl rfl) ?_
  refine dt 9 rfl rfl rfl rfl s158 (fun _ hS => px_move rfl) ?_
  have h84 : ¬ ((ts.getD k rt0).1 = f1) := by first | omega | exact ph84
  refine dx_tmpPF (t := 34) rfl h84 ?_
  refine dx_skip 10 rfl rfl rfl rfl rfl rfl rfl (by kernel_rfl) (by kernel_rfl) (by kernel_rfl) s158 ?_
  refine dx_skip 11 rfl rfl rfl rfl rfl rfl rfl (by kernel_rfl) (by kernel_rfl) (by kernel_rfl) s158 ?_
  refine dx_skip 12 rfl rfl rfl rfl rfl rfl rfl (by kernel_rfl) (by kernel_rfl) (by kernel_rfl) s158 ?_
  refine dx_skip 13 rfl rfl rfl rfl rfl rfl rfl (by kernel_rfl) (by kernel_rfl) (by kernel_rfl) s158 ?_
  refine dx_skip 14 rfl rfl rfl rfl rfl rfl rfl (by kernel_rfl) (by kernel_rfl) (by kernel_rfl) s158 ?_
  refine dx_skip 15 rfl rfl rfl rfl rfl rfl rfl (by kernel_rfl) (by kernel_rfl) (by kernel_rfl) s158 ?_
  refine dx_skip 16 rfl rfl rfl rfl rfl rfl rfl (by kernel_rfl) (by kernel_rfl) (by kernel_rfl) s158 ?_
  refine dx_skip 17 rfl rfl rfl rfl rfl rfl rfl (by kernel_rfl) (by kernel_rfl) (by kernel_rfl) s158 ?_
  refine dx_skip 18 rfl rfl rfl rfl rfl rfl rfl (by kernel_rfl) (by kernel_rfl) (by kernel_rfl) s158 ?_
  refine dt 19 rfl rfl rfl rfl s158 (fun _ hS => px_pick rfl rfl) ?_
  refine dx_done (by kernel_rfl) ?_
  refine q_n (k63 _ _ ?_)
  refine sx_sub (Sub.c 3 rfl (.c 4 rfl (.c 5 rfl (.c 6 rfl (.c 7 rfl (.c 20 rfl (.c 21 rfl (.c 22 rfl (.c 44 rfl .nil))))))))) ?_
  refine sx_condF rfl ?_
  refine sx_skip ?_
  refine q_bn (q_n (k61 _ _ ?_))
  refine sx_region ?_
  refine sp rfl (px_add rfl rfl (by omega)) ?_
  refine mv rfl rfl (wl_nil ?_)
  have f159 := hb_b4.ext d158
  have f160 := hb_b6.ext d158
  have f161 := hb_b42.ext d158
  exact fun a ha => ⟨_, by omega, (k + 1), ha.sub (Sub.c 3 rfl (.c 4 rfl (.c 5 rfl (.c 6 rfl (.c 20 rfl (.c 21 rfl (.c 22 (look_int (t := 22) rfl (by first | omega | simp)) .nil))))))), (cwl49.t d158), f159, f160, f161, rfl, by omega, upto_next hn (fun hh => by first | exact ph84 hh.1 | exact ph84x1 hh.2)⟩
 have ek : k = ts.length := by omega
 have eat := atI_none (fun i hi => hn i (by omega))
 have hput : putR ts (f1, t1, n1, z1, p1) = ts ++ [(f1, t1, n1, z1, p1)] := by unfold putR; rw [if_neg (show ¬ 0 ≤ atI ts f1 t1 by omega)]
 refine sx_exit ?_
 refine q_e (q_e (q_bx (q_n (k46 _ _ ?_))))
 refine sx_seq fun K162 k162 => ?_
 refine sx_cut k162 (fun fr w' => ∃ (gs163x0 : Value) (gv163x0 : List Value) (gu163x0 : Nat), fr = [(4, .pointer (some ⟨b6, 0, none⟩)), (5, .bool false), (6, .pointer (some ⟨b42, 0, none⟩))] ∧ Chg w30.heap.size (b42 + 1) wl49 w' ∧ (RtG w' w30.heap.size gu163x0 gs163x0 54 intT (ts ++ [(f1, t1, n1, z1, p1)]) gv163x0) ∧ (Blk w' b42 [.string pv, gs163x0] 47) ∧ (gu163x0 ≤ w'.heap.size)) (fun kc163 => ?_) ?_
 ·
  have f164 := f48.ext cwl49
  have f167 := ((f25.ext c30).ext c41).ext cb42
  have f168 := f167.chg cw44 (by omega)
  have f169 := f168.ext cwl49
  have f171 := (f38.ext c41).ext cb42
  have f172 := f171.chg cw44 (by omega)
  have f173 := f172.ext cwl49
  have f175 := (f40.ext c41).ext cb42
  have f176 := f175.chg cw44 (by omega)
  have f177 := f176.ext cwl49
  have f180 := ((f29.ext c30).ext c41).ext cb42
  have f181 := f180.chg cw44 (by omega)
  have f182 := f181.ext cwl49
  refine dx_region (fun w' => Chg w30.heap.size (b42 + 1) wl49 w') (by kernel_rfl) (Chg.zero (Chg.drew _)) ?_
  have d183 := Chg.drew wl49
  have s183 : Chg w30.heap.size (b42 + 1) wl49 (World.drew wl49) := Chg.zero (Chg.drew _)
  have y183 : (World.drew wl49).heap.size = wl49.heap.size := rfl
  generalize World.drew wl49 = w183 at *
  have zw183 := d183.size
  refine dt 0 rfl rfl rfl rfl s183 (fun _ hS => px_field rfl xfld47x1) ?_
  refine dt 2 rfl rfl rfl rfl s183 (fun _ hS => px_load rfl ((hb_b4.chg hS (by omega)).loadA (vs := [.string f1, .string t1, .bool n1, v1, .int .i64 p1]) (look_lit rfl) Tryz.isAgg54 Tryz.sizeOf54)) ?_
  refine dx_eff2 1 3 rfl rfl (by kernel_rfl) ?_ ?_
  ·
   have f184 := hb_b42.ext d183
   refine sp rfl (px_load rfl (f184.load1 rfl Tryz.isAgg45)) ?_
   have s185 : Chg w30.heap.size (b42 + 1) wl49 w183 := (Chg.zero (l := w30.heap.size) (h := (b42 + 1)) (d183))
   refine wl_nil ?_
   refine dx_next s185 ?_
   refine dx_eff 3 rfl (by kernel_rfl) ?_
   have f186 := f182.ext d183
   refine sx_call rfl rfl Tryz.call57 (c_rateCopy f186 (by omega)) (fun v187 w187 p187 => ?_)
   obtain ⟨s187, rfl, os_187, c187⟩ := p187
   have zw187 := c187.size
   have s188 : Chg w30.heap.size (b42 + 1) wl49 w187 := (Chg.zero (l := w30.heap.size) (h := (b42 + 1)) (d183.t c187))
   refine wl_nil ?_
   refine dx_next s188 ?_
   refine dx_eff 4 rfl (by kernel_rfl) ?_
   refine sx_lit1A5 rfl xelt45 rfl (fun s189 ws189 ss189 fs189 cs189 => ?_)
   have zws189 := cs189.size
   have s190 : Chg w30.heap.size (b42 + 1) wl49 ws189 := (Chg.zero (l := w30.heap.size) (h := (b42 + 1)) ((d183.t c187).t cs189))
   refine wl_nil ?_
   refine dx_next s190 ?_
   refine dx_eff 5 rfl (by kernel_rfl) ?_
   have f194 := ((f164.ext d183).ext c187).ext cs189
   have f195 := os_187.ext cs189
   refine sx_appendRt (xb := b42) (r := (f1, t1, n1, z1, p1)) rfl xelt45 rfl rfl f194 fs189.sv f195 (by omega) (by omega) (by omega) (by unfold maxLen; omega) (fun a191 w191 fw191 cw191 => ?_)
   have zw191 := cw191.size
   have q197 := Chg.step (l := w30.heap.size) (h := (b42 + 1)) (Chg.zero (l := w30.heap.size) (h := (b42 + 1)) ((d183.t c187).t cs189)) cw191 (by omega)
   have s196 : Chg w30.heap.size (b42 + 1) wl49 w191 := q197
   refine wl_nil ?_
   refine dx_next s196 ?_
   refine dt 6 rfl rfl rfl rfl s196 (fun _ hS => px_field rfl xfld47x1) ?_
   refine dx_eff 7 rfl (by kernel_rfl) ?_
   have f200 := (f184.ext c187).ext cs189
   have f201 := f200.chg cw191 (by omega)
   refine sx_store (vs := [a191]) rfl rfl f201 (cells_one (fw191).toS.one) Tryz.sizeOf45 (nbl rfl) (one_cons (fw191).toS.one one_nil) (fun w198 sw198 fw198 cw198 => ?_)
   have zw198 := cw198.size
   have gw198 : Blk w198 b42 [.string pv, a191] 47 := fw198
   have q203 := Chg.step (l := w30.heap.size) (h := (b42 + 1)) (Chg.zero (l := w30.heap.size) (h := (b42 + 1)) ((d183.t c187).t cs189)) cw191 (by omega)
   have q204 := Chg.step (l := w30.heap.size) (h := (b42 + 1)) q203 cw198 (by omega)
   have s202 : Chg w30.heap.size (b42 + 1) wl49 w198 := q204
   refine wl_nil ?_
   refine dx_next s202 ?_
   refine dx_done (by kernel_rfl) ?_
   have f205 := fw191.chgX cw198
   have q206 := Chg.step (l := w30.heap.size) (h := (b42 + 1)) (Chg.zero (l := w30.heap.size) (h := (b42 + 1)) ((d183.t c187).t cs189)) cw191 (by omega)
   have q207 := Chg.step (l := w30.heap.size) (h := (b42 + 1)) q206 cw198 (by omega)
   exact q_n (kw_sub (Sub.c 4 rfl (.c 5 rfl (.c 6 rfl .nil))) (kc163 _ _ ⟨a191, us41 ++ [s187], w191.heap.size, rfl, q207, (f205.mono (Nat.le_refl _) (Nat.le_refl _)), gw198, by omega⟩))
  have f208 := f182.ext d183
  refine sx_call rfl rfl Tryz.call57 (c_rateCopy f208 (by omega)) (fun v209 w209 p209 => ?_)
  obtain ⟨s209, rfl, os_209, c209⟩ := p209
  have zw209 := c209.size
  have s210 : Chg w30.heap.size (b42 + 1) wl49 w209 := (Chg.zero (l := w30.heap.size) (h := (b42 + 1)) (d183.t c209))
  refine wl_nil ?_
  refine dx_next s210 ?_
  refine dx_eff2 1 4 rfl rfl (by kernel_rfl) ?_ ?_
  ·
   have f212 := (hb_b42.ext d183).ext c209
   refine sp rfl (px_load rfl (f212.load1 rfl Tryz.isAgg45)) ?_
   have s213 : Chg w30.heap.size (b42 + 1) wl49 w209 := (Chg.zero (l := w30.heap.size) (h := (b42 + 1)) (d183.t c209))
   refine wl_nil ?_
   refine dx_next s213 ?_
   refine dx_eff 4 rfl (by kernel_rfl) ?_
   refine sx_lit1A5 rfl xelt45 rfl (fun s214 ws214 ss214 fs214 cs214 => ?_)
   have zws214 := cs214.size
   have s215 : Chg w30.heap.size (b42 + 1) wl49 ws214 := (Chg.zero (l := w30.heap.size) (h := (b42 + 1)) ((d183.t c209).t cs214))
   refine wl_nil ?_
   refine dx_next s215 ?_
   refine dx_eff 5 rfl (by kernel_rfl) ?_
   have f219 := ((f164.ext d183).ext c209).ext cs214
   have f220 := os_209.ext cs214
   refine sx_appendRt (xb := b42) (r := (f1, t1, n1, z1, p1)) rfl xelt45 rfl rfl f219 fs214.sv f220 (by omega) (by omega) (by omega) (by unfold maxLen; omega) (fun a216 w216 fw216 cw216 => ?_)
   have zw216 := cw216.size
   have q222 := Chg.step (l := w30.heap.size) (h := (b42 + 1)) (Chg.zero (l := w30.heap.size) (h := (b42 + 1)) ((d183.t c209).t cs214)) cw216 (by omega)
   have s221 : Chg w30.heap.size (b42 + 1) wl49 w216 := q222
   refine wl_nil ?_
   refine dx_next s221 ?_
   refine dt 6 rfl rfl rfl rfl s221 (fun _ hS => px_field rfl xfld47x1) ?_
   refine dx_eff 7 rfl (by kernel_rfl) ?_
   have f224 := f212.ext cs214
   have f225 := f224.chg cw216 (by omega)
   refine sx_store (vs := [a216]) rfl rfl f225 (cells_one (fw216).toS.one) Tryz.sizeOf45 (nbl rfl) (one_cons (fw216).toS.one one_nil) (fun w223 sw223 fw223 cw223 => ?_)
   have zw223 := cw223.size
   have gw223 : Blk w223 b42 [.string pv, a216] 47 := fw223
   have q227 := Chg.step (l := w30.heap.size) (h := (b42 + 1)) (Chg.zero (l := w30.heap.size) (h := (b42 + 1)) ((d183.t c209).t cs214)) cw216 (by omega)
   have q228 := Chg.step (l := w30.heap.size) (h := (b42 + 1)) q227 cw223 (by omega)
   have s226 : Chg w30.heap.size (b42 + 1) wl49 w223 := q228
   refine wl_nil ?_
   refine dx_next s226 ?_
   refine dx_done (by kernel_rfl) ?_
   have f229 := fw216.chgX cw223
   have q230 := Chg.step (l := w30.heap.size) (h := (b42 + 1)) (Chg.zero (l := w30.heap.size) (h := (b42 + 1)) ((d183.t c209).t cs214)) cw216 (by omega)
   have q231 := Chg.step (l := w30.heap.size) (h := (b42 + 1)) q230 cw223 (by omega)
   exact q_n (kw_sub (Sub.c 4 rfl (.c 5 rfl (.c 6 rfl .nil))) (kc163 _ _ ⟨a216, us41 ++ [s209], w216.heap.size, rfl, q231, (f229.mono (Nat.le_refl _) (Nat.le_refl _)), gw223, by omega⟩))
  refine sx_lit1A5 rfl xelt45 rfl (fun s232 ws232 ss232 fs232 cs232 => ?_)
  have zws232 := cs232.size
  have s233 : Chg w30.heap.size (b42 + 1) wl49 ws232 := (Chg.zero (l := w30.heap.size) (h := (b42 + 1)) ((d183.t c209).t cs232))
  refine wl_nil ?_
  refine dx_next s233 ?_
  refine dx_eff 1 rfl (by kernel_rfl) ?_
  have f236 := ((hb_b42.ext d183).ext c209).ext cs232
  refine sp rfl (px_load rfl (f236.load1 rfl Tryz.isAgg45)) ?_
  have s237 : Chg w30.heap.size (b42 + 1) wl49 ws232 := (Chg.zero (l := w30.heap.size) (h := (b42 + 1)) ((d183.t c209).t cs232))
  refine wl_nil ?_
  refine dx_next s237 ?_
  refine dx_eff 5 rfl (by kernel_rfl) ?_
  have f241 := ((f164.ext d183).ext c209).ext cs232
  have f242 := os_209.ext cs232
  refine sx_appendRt (xb := b42) (r := (f1, t1, n1, z1, p1)) rfl xelt45 rfl rfl f241 fs232.sv f242 (by omega) (by omega) (by omega) (by unfold maxLen; omega) (fun a238 w238 fw238 cw238 => ?_)
  have zw238 := cw238.size
  have q244 := Chg.step (l := w30.heap.size) (h := (b42 + 1)) (Chg.zero (l := w30.heap.size) (h := (b42 + 1)) ((d183.t c209).t cs232)) cw238 (by omega)
  have s243 : Chg w30.heap.size (b42 + 1) wl49 w238 := q244
  refine wl_nil ?_
  refine dx_next s243 ?_
  refine dt 6 rfl rfl rfl rfl s243 (fun _ hS => px_field rfl xfld47x1) ?_
  refine dx_eff 7 rfl (by kernel_rfl) ?_
  have f246 := f236.chg cw238 (by omega)
  refine sx_store (vs := [a238]) rfl rfl f246 (cells_one (fw238).toS.one) Tryz.sizeOf45 (nbl rfl) (one_cons (fw238).toS.one one_nil) (fun w245 sw245 fw245 cw245 => ?_)
  have zw245 := cw245.size
  have gw245 : Blk w245 b42 [.string pv, a238] 47 := fw245
  have q248 := Chg.step (l := w30.heap.size) (h := (b42 + 1)) (Chg.zero (l := w30.heap.size) (h := (b42 + 1)) ((d183.t c209).t cs232)) cw238 (by omega)
  have q249 := Chg.step (l := w30.heap.size) (h := (b42 + 1)) q248 cw245 (by omega)
  have s247 : Chg w30.heap.size (b42 + 1) wl49 w245 := q249
  refine wl_nil ?_
  refine dx_next s247 ?_
  refine dx_done (by kernel_rfl) ?_
  have f250 := fw238.chgX cw245
  have q251 := Chg.step (l := w30.heap.size) (h := (b42 + 1)) (Chg.zero (l := w30.heap.size) (h := (b42 + 1)) ((d183.t c209).t cs232)) cw238 (by omega)
  have q252 := Chg.step (l := w30.heap.size) (h := (b42 + 1)) q251 cw245 (by omega)
  exact q_n (kw_sub (Sub.c 4 rfl (.c 5 rfl (.c 6 rfl .nil))) (kc163 _ _ ⟨a238, us41 ++ [s209], w238.heap.size, rfl, q252, (f250.mono (Nat.le_refl _) (Nat.le_refl _)), gw245, by omega⟩))
 rintro fr w'163 ⟨gs163x0, gv163x0, gu163x0, rfl, cw'163, xgs163x0, xb42, ygs163x0⟩
 have zw'163 := cw'163.size
 refine sx_seq fun K253 k253 => ?_
 refine sx_seq fun K254 k254 => sx_region ?_
 refine sp rfl (px_load rfl (xb42.loadA (vs := [.string pv, gs163x0]) (look_lit rfl) Tryz.isAgg47 Tryz.sizeOf47)) ?_
 have f257 := ((f25.ext c30).ext c41).ext cb42
 have f258 := f257.chg cw44 (by omega)
 have f259 := f258.ext cwl49
 have f260 := f259.chg cw'163 (by omega)
 refine sx_call rfl rfl Tryz.call27 (c_iRatesOk f260 (xgs163x0).toS (by first | omega | (rw [← hput]; have := putR_len (ts := ts) (r := (f1, t1, n1, z1, p1)); omega)) (by first | assumption | (rw [← hput]; exact putR_hz hz hz1))) (fun v261 w261 p261 => ?_)
 obtain ⟨rfl, c261⟩ := p261
 have zw261 := c261.size
 refine sp rfl (px_notP rfl) ?_
 refine wl_nil (q_n (k254 _ _ ?_))
 refine sx_condP rfl (fun h90 => ?_) (fun h90 => ?_)
 ·
  refine sx_seq fun K262 k262 => sx_region ?_
  refine sp rfl (px_build rfl (xbld47x  _)) ?_
  have f264 := hb_b6.chg cw'163 (by omega)
  have f265 := f264.ext c261
  refine sx_store (vs := [.string (⟨#[]⟩), (.slice none 0 0)]) rfl rfl f265 rfl Tryz.sizeOf47 (nbl rfl) (o2 rfl rfl) (fun w263 sw263 fw263 cw263 => ?_)
  have zw263 := cw263.size
  have gw263 : Blk w263 b6 [.string (⟨#[]⟩), (.slice none 0 0)] 47 := fw263
  refine av rfl rfl (wl_nil (q_n (k262 _ _ ?_)))
  refine sx_retc ?_
  refine q_r (sx_ret2 Tryz.results23 ⟨_, rfl, gw263.loadA (vs := [.string (⟨#[]⟩), (.slice none 0 0)]) (look_lit rfl) Tryz.isAgg47 Tryz.sizeOf47⟩ rfl ?_)
  rw [rPut_bad (fun h => h90 (by rw [← hput]; exact h))]
  have q266 := Chg.step (l := 0) (h := 0) (Chg.zero (l := 0) (h := 0) ((((((cb2.t cb4).t cb6).t c18).t c30).t c41).t cb42)) cw44 (by omega)
  have q267 := Chg.step (l := 0) (h := 0) q266 cwl49 (by omega)
  have q268 := Chg.step (l := 0) (h := 0) q267 cw'163 (by omega)
  have q269 := Chg.step (l := 0) (h := 0) q268 c261 (by omega)
  have q270 := Chg.step (l := 0) (h := 0) q269 cw263 (by omega)
  exact ⟨_, [], rfl, RtG.nil _ _ _ _ _ (by omega), q270⟩
 refine sx_skip ?_
 refine q_n (k253 _ _ ?_)
 refine sx_seq fun K271 k271 => sx_region ?_
 have f272 := xb42.ext c261
 refine sp rfl (px_load rfl (f272.loadA (vs := [.string pv, gs163x0]) (look_lit rfl) Tryz.isAgg47 Tryz.sizeOf47)) ?_
 have f274 := hb_b6.chg cw'163 (by omega)
 have f275 := f274.ext c261
 have f276 := xgs163x0.ext c261
 refine sx_store (vs := [.string pv, gs163x0]) rfl rfl f275 rfl Tryz.sizeOf47 (nbl rfl) (one_cons rfl (one_cons (f276).toS.one one_nil)) (fun w273 sw273 fw273 cw273 => ?_)
 have zw273 := cw273.size
 have gw273 : Blk w273 b6 [.string pv, gs163x0] 47 := fw273
 refine av rfl rfl (wl_nil (q_n (k271 _ _ ?_)))
 refine sx_retc ?_
 refine sx_ret2 Tryz.results23 ⟨_, rfl, gw273.loadA (vs := [.string pv, gs163x0]) (look_lit rfl) Tryz.isAgg47 Tryz.sizeOf47⟩ rfl ?_
 have f277 := f276.chg cw273 (by omega)
 have hG := f277
 rw [← hput] at hG
 rw [rPut_ok hT hP (by rw [hput]; exact Decidable.not_not.1 h90)]
 have q278 := Chg.step (l := 0) (h := 0) (Chg.zero (l := 0) (h := 0) ((((((cb2.t cb4).t cb6).t c18).t c30).t c41).t cb42)) cw44 (by omega)
 have q279 := Chg.step (l := 0) (h := 0) q278 cwl49 (by omega)
 have q280 := Chg.step (l := 0) (h := 0) q279 cw'163 (by omega)
 have q281 := Chg.step (l := 0) (h := 0) q280 c261 (by omega)
 have q282 := Chg.step (l := 0) (h := 0) q281 cw273 (by omega)
 exact ⟨_, _, rfl, hG.mono (by omega) (by omega), q282⟩

theorem c_iRatePutP {w : World} {pv : ByteArray} {vt : Value} {lvt uvt : Nat} {ts : List Rt} {vvt : List Value} {f : ByteArray} {t : ByteArray} {va : Value} {lva uva : Nat} {x : Int} {p : Int} (hG0 : Glob w) (hvt : RtS w lvt uvt vt ts vvt) (hva : Sl w lva uva va (dg x.natAbs)) (hT : RsOk pv ts) (hz : ∀ i, i < ts.length → (ts.getD i rt0).2.2.2.1.length ≤ 4611686018427387904) (hP : RateP f t (ng x) (dg x.natAbs) p) (hlen : ts.length ≤ 7) :
  Ret Tryz.prog 23 [.agg #[.string pv, vt], .agg #[.string f, .string t, .bool (ng x), va, .int .i64 p]] w fun v w' => ∃ s us, v = .tuple #[.agg #[.string (pv), s], .bool (true)] ∧ RtG w' (w.heap.size) (w'.heap.size) s 54 intT (putR ts (f, t, ng x, dg (x).natAbs, p)) us ∧ (RsOk pv (putR ts (f, t, ng x, dg (x).natAbs, p))) ∧ (∀ i, i < (putR ts (f, t, ng x, dg (x).natAbs, p)).length → ((putR ts (f, t, ng x, dg (x).natAbs, p)).getD i rt0).2.2.2.1.length ≤ 4611686018427387904) ∧ ((putR ts (f, t, ng x, dg (x).natAbs, p)).length ≤ 12) ∧ Chg 0 0 w w' := by
 have hl := Nat.le_trans hP.2.2.2.2.2 (show 2 ≤ 4611686018427387904 by decide)
 have hR2 := RsOk_add (r := (f, t, ng x, dg x.natAbs, p)) hT hP (by omega)
 have h := c_iRatePut (f1 := f) (t1 := t) (n1 := ng x) (p1 := p) (pv := pv) hG0 hvt hva (by omega) hz hl; rw [rPut_ok (r := (f, t, ng x, dg x.natAbs, p)) hT hP hR2] at h
 exact Calls.mono h fun ev w' ⟨v, he, s, us, e1, o1, hc⟩ => ⟨v, he, s, us, e1, o1, hR2, putR_hz (r := (f, t, ng x, dg x.natAbs, p)) hz hl, hR2.2.1, hc⟩

theorem c_Itoa {w : World} {n : Int} (hGT : GlobP w) (hn : 0 ≤ n ∧ n < 1000000000) :
  Ret Tryz.prog 108 [.int .i64 n] w fun v w' => v = .string (itx n) ∧ Chg 0 0 w w' := by
 have h := Any.strconv_Itoa lays171 n (by omega) (by omega) w hGT.tab
 exact Calls.mono h fun e w' ⟨he, k, os, hw⟩ => ⟨_, he, rfl, hw ▸ ⟨rfl, rfl, rfl, by simp [Go.Sort.grow, World.drewN], fun i hi _ => Go.Sort.heap_grow_old _ _ (by simpa [World.drewN] using hi)⟩⟩

theorem c_iIntText {w : World} {n : Int} (hGT : GlobP w) (hn : 0 ≤ n ∧ n < 1000000000) :
  Ret Tryz.prog 72 [.int .i64 n] w fun v w' => v = .string (itx n) ∧ Chg 0 0 w w' := by
 have hGTl := hGT.lt
 refine sx_enter Tryz.func72 rfl Tryz.ntmps72 (nbl rfl) ?_
 refine sx_seq fun K1 k1 => sx_region ?_
 refine av rfl rfl (wl_nil (q_n (k1 _ _ ?_)))
 refine sx_seq fun K2 k2 => sx_region ?_
 refine mv rfl rfl (sx_call rfl rfl Tryz.call108 (c_Itoa hGT (by omega)) (fun v3 w3 p3 => ?_))
 obtain ⟨rfl, c3⟩ := p3
 have zw3 := c3.size
 refine av rfl rfl (wl_nil (q_n (k2 _ _ ?_)))
 refine sx_retc ?_
 refine sx_ret1 Tryz.results72 rfl ?_
 exact ⟨rfl, c3⟩

theorem c_Repeat {w : World} {s : ByteArray} {k : Int} (hs : s = ⟨#[48]⟩) (hk : 0 ≤ k ∧ k ≤ 100000) :
  Ret Tryz.prog 71 [.string s, .int .i64 k] w fun v w' => v = .string (zer (k).toNat) ∧ Chg 0 0 w w' := by
 subst hs; have e0 : ((k.toNat : Nat) : Int) = k := by omega
 have h := Any.strings_Repeat lays105 extraB ⟨#[48]⟩ k.toNat w (by omega) (by show 1 * k.toNat ≤ _; omega); rw [e0] at h
 exact Calls.mono h fun e w' ⟨he, hb⟩ => ⟨_, he, rfl, hb.os, hb.tape, hb.output, hb.size, fun i hi _ => hb.block i hi⟩

theorem c_iPad {w : World} {s : ByteArray} {n : Int} (hs : s.size ≤ 100000) (hn : 0 ≤ n ∧ n ≤ 100000) :
  Ret Tryz.prog 35 [.string s, .int .i64 n] w fun v w' => v = .string (padT s n) ∧ Chg 0 0 w w' := by
 refine sx_enter Tryz.func35 rfl Tryz.ntmps35 (nbl rfl) ?_
 refine sx_seq fun K1 k1 => sx_region ?_
 refine av rfl rfl (wl_nil (q_n (k1 _ _ ?_)))
 refine sx_seq fun K2 k2 => ?_
 refine sx_seq fun K3 k3 => sx_region ?_
 refine mv rfl rfl (sp rfl (px_lenS rfl Tryz.underlying9) ?_)
 refine mv rfl rfl (sp rfl (px_ge rfl rfl) ?_)
 refine mv rfl rfl ?_
 refine sx_tmpP (t := 9) rfl (fun h95 => ?_) (fun h95 => ?_)
 ·
  refine sx_guardF rfl rfl rfl rfl rfl rfl ?_
  refine sx_guardF rfl rfl rfl rfl rfl rfl ?_
  refine sp rfl (px_pick rfl rfl) ?_
  refine wl_nil (q_n (k3 _ _ ?_))
  refine sx_condT rfl ?_
  refine sx_seq fun K4 k4 => sx_region ?_
  refine mv rfl rfl (av rfl rfl (wl_nil (q_n (k4 _ _ ?_))))
  refine sx_retc ?_
  refine q_r (sx_ret1 Tryz.results35 rfl ?_)
  rw [padT_no (by omega)]
  exact ⟨rfl, (Chg.refl 0 0 _)⟩
 refine sx_guardT rfl rfl rfl ?_
 refine mv rfl rfl ?_
 refine sx_guardT rfl rfl rfl ?_
 refine sp rfl (px_gt rfl rfl) ?_
 refine sp rfl (px_pick rfl rfl) ?_
 refine wl_nil (q_n (k3 _ _ ?_))
 refine sx_condP rfl (fun h95x1 => ?_) (fun h95x1 => ?_)
 ·
  refine sx_seq fun K5 k5 => sx_region ?_
  refine mv rfl rfl (av rfl rfl (wl_nil (q_n (k5 _ _ ?_))))
  refine sx_retc ?_
  refine q_r (sx_ret1 Tryz.results35 rfl ?_)
  rw [padT_no (by omega)]
  exact ⟨rfl, (Chg.refl 0 0 _)⟩
 refine sx_skip ?_
 refine q_n (k2 _ _ ?_)
 refine sx_seq fun K6 k6 => sx_region ?_
 refine mv rfl rfl (mv rfl rfl (sp rfl (px_lenS rfl Tryz.underlying9) ?_))
 refine sp rfl (px_sub rfl rfl (by omega)) ?_
 refine sx_call rfl rfl Tryz.call71 (c_Repeat (rfl) (by omega)) (fun v7 w7 p7 => ?_)
 obtain ⟨rfl, c7⟩ := p7
 have zw7 := c7.size
 refine mv rfl rfl (sp rfl (px_cat rfl rfl (by rw [zer_size]; omega)) ?_)
 refine av rfl rfl (wl_nil (q_n (k6 _ _ ?_)))
 refine sx_sub (Sub.c 4 rfl .nil) ?_
 refine sx_retc ?_
 refine sx_ret1 Tryz.results35 rfl ?_
 rw [padT_yes (by omega)]
 exact ⟨rfl, c7⟩

theorem c_natText {w : World} {va : Value} {lva uva : Nat} {zs : List Int} (hGT : GlobP w) (hva : Sl w lva uva va (zs)) (hz : Lm zs) (hl : zs.length ≤ 60) :
  Ret Tryz.prog 36 [va] w fun v w' => v = .string (natT zs) ∧ Chg 0 0 w w' := by
 have hGTl := hGT.lt
 have hva0 := hva.fit
 refine sx_enter Tryz.func36 rfl Tryz.ntmps36 (nbl rfl) ?_
 refine sx_seq fun K1 k1 => sx_region ?_
 refine av rfl rfl (wl_nil (q_n (k1 _ _ ?_)))
 refine sx_seq fun K2 k2 => ?_
 refine sx_seq fun K3 k3 => sx_region ?_
 refine mv rfl rfl (sp rfl (px_len rfl Tryz.underlying23 hva0) ?_)
 refine sp rfl (px_eq rfl rfl) ?_
 refine wl_nil (q_n (k3 _ _ ?_))
 refine sx_condP rfl (fun h182 => ?_) (fun h182 => ?_)
 ·
  refine sx_seq fun K4 k4 => sx_region ?_
  refine av rfl rfl (wl_nil (q_n (k4 _ _ ?_)))
  refine sx_retc ?_
  refine q_r (sx_ret1 Tryz.results36 rfl ?_)
  have e : natT zs = ⟨#[48]⟩ := by unfold natT; rw [if_pos (by omega)]
  exact ⟨congrArg Value.string e.symm, (Chg.refl 0 0 _)⟩
 refine sx_skip ?_
 refine q_n (k2 _ _ ?_)
 refine sx_seq fun K5 k5 => sx_region ?_
 refine mv rfl rfl (mv rfl rfl (sp rfl (px_len rfl Tryz.underlying23 hva0) ?_))
 refine sp rfl (px_sub rfl rfl (by omega)) ?_
 refine sp rfl (px_index1 (j := (zs.length - 1)) rfl rfl (by omega) Tryz.underlying23 Tryz.sizeOf3 hva0 (by omega)) ?_
 refine sp rfl (px_load rfl (hva0.load1 (at_int (by omega)) Tryz.isAgg3)) ?_
 refine sx_call rfl rfl Tryz.call72 (c_iIntText hGT (by have hb := hz.getD (zs.length - 1); omega)) (fun v6 w6 p6 => ?_)
 obtain ⟨rfl, c6⟩ := p6
 have zw6 := c6.size
 refine av rfl rfl (wl_nil (q_n (k5 _ _ ?_)))
 refine sx_seq fun K7 k7 => ?_
 refine sx_seq fun K8 k8 => sx_region ?_
 refine mv rfl rfl ?_
 have f9 := hva0.ext c6
 refine sp rfl (px_len rfl Tryz.underlying23 f9) ?_
 refine sp rfl (px_sub rfl rfl (by omega)) ?_
 refine av rfl rfl (wl_nil (q_n (k8 _ _ ?_)))
 refine sx_sub (Sub.c 0 rfl (.c 2 rfl (.c 3 rfl (.c 4 rfl .nil)))) ?_
 refine sx_block ?_
 refine sx_loop (fun mm aa w' => ∃ (k : Nat) (t : ByteArray), Agr 31 [(0, va), (3, .string t), (4, .int .i64 (↑k - 1))] aa ∧ Chg 0 0 w6 w' ∧ (mm = k) ∧ (k < zs.length) ∧ (natGo zs k t = natT zs) ∧ (t.size + 9 * k ≤ 1000)) (_) (fun a ha => ⟨(zs.length - 1), (itx ((zs).getD (zs.length - 1) 0)), ha.sub (Sub.c 0 rfl (.c 3 rfl (.c 4 (look_int (t := 4) rfl (by first | omega | simp)) .nil))), Chg.refl _ _ _, rfl, by omega, by unfold natT; rw [if_neg (by omega)], by have hb := hz.getD (zs.length - 1); have h1 := itx_size hb.1 hb.2; omega⟩) ?_
 rintro mm aa wl10 ⟨k, t, hAwl10, cwl10, hm, hk, ht, hts⟩
 refine (show cw Tryz.prog 31 _ _ _ wl10 from ?_) aa hAwl10
 clear hAwl10
 have zwl10 := cwl10.size
 have hb := hz.getD (k - 1)
 have h1 := itx_size hb.1 hb.2
 have h2 := padT_size (s := itx (zs.getD (k - 1) 0)) (n := 9) (by decide)
 refine sx_seq fun K11 k11 => ?_
 refine sx_seq fun K12 k12 => sx_region ?_
 refine mv rfl rfl (sp rfl (px_ge rfl rfl) ?_)
 refine wl_nil (q_n (k12 _ _ ?_))
 refine sx_condP rfl (fun h186 => ?_) (fun h186 => ?_)
 ·
  refine sx_skip ?_
  refine q_n (k11 _ _ ?_)
  refine sx_seq fun K13 k13 => ?_
  refine sx_block ?_
  refine sx_region ?_
  refine mv rfl rfl (mv rfl rfl (mv rfl rfl ?_))
  have f14 := f9.ext cwl10
  refine sp rfl (px_index1 (j := (k - 1)) rfl rfl (by omega) Tryz.underlying23 Tryz.sizeOf3 f14 (by omega)) ?_
  refine sp rfl (px_load rfl (f14.load1 (at_int (by omega)) Tryz.isAgg3)) ?_
  have f16 := (hGT.ext c6).ext cwl10
  refine sx_call rfl rfl Tryz.call72 (c_iIntText f16 (by omega)) (fun v17 w17 p17 => ?_)
  obtain ⟨rfl, c17⟩ := p17
  have zw17 := c17.size
  refine sx_call rfl rfl Tryz.call35 (c_iPad (by omega) (by omega)) (fun v18 w18 p18 => ?_)
  obtain ⟨rfl, c18⟩ := p18
  have zw18 := c18.size
  refine sp rfl (px_cat rfl rfl (by omega)) ?_
  refine av rfl rfl (wl_nil ?_)
  refine q_bn (q_n (k13 _ _ ?_))
  refine sx_region ?_
  refine mv rfl rfl (sp rfl (px_sub rfl rfl (by omega)) ?_)
  refine av rfl rfl (wl_nil ?_)
  exact fun a ha => ⟨_, by omega, (k - 1), (t ++ (padT (itx ((zs).getD (k - 1) 0)) (9 : Int))), ha.sub (Sub.c 0 rfl (.c 3 rfl (.c 4 (look_int (t := 4) rfl (by first | omega | simp)) .nil))), ((cwl10.t c17).t c18), rfl, by omega, (natGo_step (by omega)).symm.trans ht, by rw [ByteArray.size_append]; omega⟩
 refine sx_exit ?_
 refine q_e (q_e (q_bx (q_n (k7 _ _ ?_))))
 refine sx_seq fun K19 k19 => sx_region ?_
 refine mv rfl rfl (av rfl rfl (wl_nil (q_n (k19 _ _ ?_))))
 refine sx_retc ?_
 refine sx_ret1 Tryz.results36 rfl ?_
 have ek : k = 0 := by omega
 subst ek
 exact ⟨congrArg Value.string (show t = natT zs from ht), (c6.t cwl10)⟩

end Go.Proofs.YtoeclobdbblohaaGreatDoor
