/- Contracts of functions of the program: what each call returns, and that it changes nothing that was. Conditions: as each says. -/
import Derived.Test.YtlnemcbdbehehaaGreatDoorTy
import Derived.Test.YtlnemcbdbehehaaGreatDoorNatP
import Derived.Test.YtlnemcbdbehehaaGreatDoorSxD
import Derived.Test.YtlnemcbdbehehaaGreatDoorPair
import Derived.Test.YtlnemcbdbehehaaGreatDoorSxW
import Derived.Test.YtlnemcbdbehehaaGreatDoorNatS
import Derived.Test.YtlnemcbdbehehaaGreatDoorSxG
import Derived.Test.YtlnemcbdbehehaaGreatDoorNatT
import Derived.Test.YtlnemcbdbehehaaGreatDoorSxP
import Derived.Test.YtlnemcbdbehehaaGreatDoorRm
import Derived.Test.YtlnemcbdbehehaaGreatDoorL0
set_option linter.unusedVariables false
set_option linter.unusedSimpArgs false
namespace Go.Proofs.YtlnemcbdbehehaaGreatDoor
open Go Go.RowKit
set_option maxRecDepth 100000
theorem c_l10Table {w : World} {c : Nat} {vb : Value} {lvb uvb : Nat} {bs : List Int} {i : Int} {h : Int} (hc : Blk w c [vb, .int .i64 i, .int .i64 h] 52) (hvb : SlB w lvb uvb vb (bs)) (hb8 : ∀ j, j < bs.length → 0 ≤ bs.getD j 0 ∧ bs.getD j 0 ≤ 255) (hbl : bs.length ≤ 1048576) (hi : 0 ≤ i ∧ i ≤ bs.length) (hdis : uvb ≤ c) :
  Ret Tryz.prog 14 [.pointer (some ⟨c, 0, none⟩)] w fun v w' => ∃ s qv ts us i2 h2, v = .agg #[.string (qv), s] ∧ RtS w' (w.heap.size) (w'.heap.size) s (ts) us ∧ Blk w' c [vb, .int .i64 (i2), .int .i64 (h2)] 52 ∧ (RsOk qv ts) ∧ (∀ i, i < (ts).length → SmR ((ts).getD i rt0)) ∧ (0 ≤ i2 ∧ i2 ≤ (bs).length) ∧ Chg c (c + 1) w w' := by
 have clt := hc.lt
 have clt := hc.lt
 have hkn3 : ∀ s ∈ ([⟨#[69, 85, 82]⟩, ⟨#[69, 85, 82]⟩, ⟨#[85, 83, 68]⟩] : List ByteArray), Known s := by decide
 refine sx_enter Tryz.func14 rfl Tryz.ntmps14 (nbl rfl) ?_
 refine sx_seq fun K1 k1 => sx_region ?_
 refine sx_alloc [.string (⟨#[]⟩), (.slice none 0 0)] rfl Tryz.zeroValue25 rfl (fun b2 w3 eb2 sb2 fb2 cb2 => ?_)
 have zw3 := cb2.size
 refine wl_nil (q_n (k1 _ _ ?_))
 refine sx_seq fun K4 k4 => sx_region ?_
 refine mv rfl rfl ?_
 refine sx_lit3 rfl xelt71 rfl rfl rfl rfl rfl rfl (fun s5 ws5 ss5 fs5 cs5 => ?_)
 have ns5 := Own.norm (f := Value.string) (zs := [⟨#[69, 85, 82]⟩, ⟨#[69, 85, 82]⟩, ⟨#[85, 83, 68]⟩]) fs5
 have zws5 := cs5.size
 have f6 := hc.ext cb2
 have f7 := f6.ext cs5
 have f8 := hvb.ext cb2
 have f9 := f8.ext cs5
 refine sx_call rfl rfl Tryz.call36 (c_l01Str f7 f9 ns5.sv (by assumption) (by omega) (by omega) (by omega) (by first | omega | decide | simp) (by omega)) (fun v10 w10 p10 => ?_)
 obtain ⟨s10, i210, h210, rfl, xc_10, hx10, hi210, c10⟩ := p10
 have zw10 := c10.size
 refine sp rfl (px_build rfl (xbld25x0 rfl _)) ?_
 refine sx_alloc [.string (⟨#[]⟩), (.slice none 0 0)] rfl Tryz.zeroValue25 rfl (fun b11 w12 eb11 sb11 fb11 cb11 => ?_)
 have zw12 := cb11.size
 refine sx_store (vs := [.string s10, (.slice none 0 0)]) rfl rfl fb11 rfl Tryz.sizeOf25 (nbl rfl) (o2 rfl rfl) (fun w13 sw13 fw13 cw13 => ?_)
 have zw13 := cw13.size
 have gw13 : Blk w13 b11 [.string s10, (.slice none 0 0)] 25 := fw13
 refine wl_nil (q_n (k4 _ _ ?_))
 refine sx_seq fun K14 k14 => ?_
 refine sx_seq fun K15 k15 => sx_region ?_
 refine mv rfl rfl ?_
 have f16 := xc_10.ext cb11
 have f17 := f16.chg cw13 (by omega)
 have f19 := (f9.chg c10 (by omega)).ext cb11
 have f20 := f19.chg cw13 (by omega)
 refine sx_call rfl rfl Tryz.call17 (c_l01Below f17 f20 (by assumption) (by omega) (by omega) (by omega) (by omega)) (fun v21 w21 p21 => ?_)
 obtain ⟨x21, i221, h221, rfl, xc_21, hx21, hi221, c21⟩ := p21
 have zw21 := c21.size
 refine av rfl rfl (wl_nil (q_n (k15 _ _ ?_)))
 refine sx_block ?_
 have hkp : Known s10 := hkn3 _ (by assumption)
 have f23 := fb2.ext cs5
 have f25 := (f23.chg c10 (by omega)).ext cb11
 have f26 := f25.chg cw13 (by omega)
 have f27 := f26.chg c21 (by omega)
 have f28 := gw13.chg c21 (by omega)
 have q29 := Chg.step (l := c) (h := (c + 1)) (Chg.zero (l := c) (h := (c + 1)) (cb2.t cs5)) c10 (by omega)
 have q30 := Chg.step (l := c) (h := (c + 1)) q29 cb11 (by omega)
 have q31 := Chg.step (l := c) (h := (c + 1)) q30 cw13 (by omega)
 have q32 := Chg.step (l := c) (h := (c + 1)) q31 c21 (by omega)
 refine sx_loop (fun mm aa w' => ∃ (n2 : Int) (s : Value) (ts : List Rt) (us : List Value) (i2 : Int) (h2 : Int), Agr 41 [(0, .pointer (some ⟨c, 0, none⟩)), (2, .pointer (some ⟨b2, 0, none⟩)), (3, .pointer (some ⟨b11, 0, none⟩)), (4, .int .i64 n2)] aa ∧ Chg c (c + 1) w w' ∧ Blk w' c [vb, .int .i64 i2, .int .i64 h2] 52 ∧ Blk w' b2 [.string (⟨#[]⟩), (.slice none 0 0)] 25 ∧ Blk w' b11 [.string s10, s] 25 ∧ RtS w' w21.heap.size w'.heap.size s (ts) us ∧ (mm = n2.toNat) ∧ (RsOk s10 ts) ∧ (∀ i, i < (ts).length → SmR ((ts).getD i rt0)) ∧ (0 ≤ n2 ∧ n2 ≤ 7) ∧ (0 ≤ i2 ∧ i2 ≤ bs.length) ∧ (w21.heap.size ≤ w'.heap.size)) (_) (fun a ha => ⟨x21, (.slice none 0 0), [], [], i221, h221, ha.sub (Sub.c 0 rfl (.c 2 rfl (.c 3 rfl (.c 4 (look_int (t := 4) rfl (by first | omega | simp)) .nil)))), q32, xc_21, f27, f28, ((RtS.nil w21 w21.heap.size w21.heap.size).mono (by omega) (by omega)), rfl, RsOk_nil hkp, fun i hi => by simp at hi, by omega, by omega, by omega⟩) ?_
 rintro mm aa wl22 ⟨n2, s, ts, us, i2, h2, hAwl22, cwl22, hb_c, hb_b2, hb_b11, hs_s, hm, hT, hsm, hn, hi2, hlo⟩
 refine (show cw Tryz.prog 41 _ _ _ wl22 from ?_) aa hAwl22
 clear hAwl22
 have zwl22 := cwl22.size
 have lt33 := hb_c.lt
 have lt34 := hb_b2.lt
 have lt35 := hb_b11.lt
 have hl12 := hT.2.1
 have hzs := sm_hz hsm
 refine sx_seq fun K36 k36 => ?_
 refine sx_seq fun K37 k37 => sx_region ?_
 refine mv rfl rfl (sp rfl (px_gt rfl rfl) ?_)
 refine wl_nil (q_n (k37 _ _ ?_))
 refine sx_condP rfl (fun h182 => ?_) (fun h182 => ?_)
 ·
  refine sx_skip ?_
  refine q_n (k36 _ _ ?_)
  refine sx_seq fun K38 k38 => ?_
  refine sx_block ?_
  refine sx_seq fun K39 k39 => sx_region ?_
  refine mv rfl rfl ?_
  have f40 := hvb.chg cwl22 (by omega)
  refine sx_call rfl rfl Tryz.call37 (c_l10Draw hb_c f40 (by assumption) (by omega) (by omega) (by omega)) (fun v41 w41 p41 => ?_)
  obtain ⟨s41, a41, b41, x41, p41, i241, h241, rfl, os_41, xc_41, hab41, hx41, hp41, hi241, c41⟩ := p41
  have zw41 := c41.size
  refine sx_alloc [.string (⟨#[]⟩), .string (⟨#[]⟩), .bool false, (.slice none 0 0), .int .i64 0] rfl Tryz.zeroValue75 rfl (fun b42 w43 eb42 sb42 fb42 cb42 => ?_)
  have zw43 := cb42.size
  have f45 := os_41.ext cb42
  refine sx_store (vs := [.string a41, .string b41, .bool (ng x41), s41, .int .i64 p41]) rfl rfl fb42 rfl Tryz.sizeOf75 (nbl rfl) (one_cons rfl (one_cons rfl (one_cons rfl (one_cons f45.one (o1 rfl))))) (fun w44 sw44 fw44 cw44 => ?_)
  have zw44 := cw44.size
  have gw44 : Blk w44 b42 [.string a41, .string b41, .bool (ng x41), s41, .int .i64 p41] 75 := fw44
  refine wl_nil (q_n (k39 _ _ ?_))
  refine sx_seq fun K46 k46 => ?_
  refine sx_seq fun K47 k47 => sx_region ?_
  refine mv rfl rfl ?_
  have f48 := xc_41.ext cb42
  have f49 := f48.chg cw44 (by omega)
  have f51 := (f40.chg c41 (by omega)).ext cb42
  have f52 := f51.chg cw44 (by omega)
  refine sx_call rfl rfl Tryz.call38 (c_l01Once f49 f52 (by assumption) (by omega) (by omega) (by omega) (by omega)) (fun v53 w53 p53 => ?_)
  obtain ⟨x53, i253, h253, rfl, xc_53, hx53, hi253, c53⟩ := p53
  have zw53 := c53.size
  refine mv rfl rfl ?_
  refine sx_tmpP (t := 22) rfl (fun h184 => ?_) (fun h184 => ?_)
  ·
   refine sx_guardT rfl rfl rfl ?_
   refine sp rfl (px_field rfl xfld75x0) ?_
   refine sx_guardT rfl rfl rfl ?_
   have f54 := gw44.chg c53 (by omega)
   refine sp rfl (px_load rfl (f54.load1 rfl Tryz.isAgg9)) ?_
   refine sx_guardT rfl rfl rfl ?_
   refine sp rfl (px_field rfl xfld25x0) ?_
   refine sx_guardT rfl rfl rfl ?_
   have f56 := (hb_b11.chg c41 (by omega)).ext cb42
   have f57 := f56.chg cw44 (by omega)
   have f58 := f57.chg c53 (by omega)
   refine sp rfl (px_load rfl (f58.load1 rfl Tryz.isAgg9)) ?_
   refine sx_guardT rfl rfl rfl ?_
   refine sp rfl (px_neS rfl rfl) ?_
   refine sp rfl (px_pick rfl rfl) ?_
   refine wl_nil (q_n (k47 _ _ ?_))
   refine sx_sub (Sub.c 0 rfl (.c 2 rfl (.c 3 rfl (.c 4 rfl (.c 5 rfl (.c 28 rfl .nil)))))) ?_
   refine sx_condP rfl (fun h184x1 => ?_) (fun h184x1 => ?_)
   ·
    refine sx_region ?_
    refine sp rfl (px_field rfl xfld25x0) ?_
    refine sp rfl (px_load rfl (f58.load1 rfl Tryz.isAgg9)) ?_
    refine sp rfl (px_field rfl xfld75x1) ?_
    refine sx_store (vs := [.string s10]) rfl rfl f54 rfl Tryz.sizeOf9 (nbl rfl) (o1 rfl) (fun w59 sw59 fw59 cw59 => ?_)
    have zw59 := cw59.size
    have gw59 : Blk w59 b42 [.string a41, .string s10, .bool (ng x41), s41, .int .i64 p41] 75 := fw59
    refine wl_nil (q_n (k46 _ _ ?_))
    refine sx_seq fun K60 k60 => sx_region ?_
    have f61 := f58.chg cw59 (by omega)
    refine sp rfl (px_load rfl (f61.loadA (vs := [.string s10, s]) (look_lit rfl) Tryz.isAgg25 Tryz.sizeOf25)) ?_
    refine sp rfl (px_load rfl (gw59.loadA (vs := [.string a41, .string s10, .bool (ng x41), s41, .int .i64 p41]) (look_lit rfl) Tryz.isAgg75 Tryz.sizeOf75)) ?_
    have f63 := (hs_s.chg c41 (by omega)).ext cb42
    have f64 := f63.chg cw44 (by omega)
    have f66 := (f64.chg c53 (by omega)).chg cw59 (by omega)
    have f67 := f45.chg cw44 (by omega)
    have f69 := (f67.chg c53 (by omega)).chg cw59 (by omega)
    refine sx_call rfl rfl Tryz.call39 (c_sRatePutT f66 f69.sv (by omega) (hzs) (Nat.le_trans (dg_len_le (k := 1) (by simp only [Bs]; omega)) (by decide)) (by assumption) (by assumption) (⟨ng_false.2 (by omega), ⟨_, rfl, by omega, by omega⟩, by dsimp only; omega, by dsimp only; omega⟩)) (fun v70 w70 p70 => ?_)
    obtain ⟨s70, qv70, ts270, us70, ok70, rfl, os_70, hok70, c70⟩ := p70
    have zw70 := c70.size
    refine mv rfl rfl (sp rfl (px_ex2 rfl rfl) ?_)
    refine sp rfl (px_ex2 rfl rfl) ?_
    refine sx_alloc [.string (⟨#[]⟩), (.slice none 0 0)] rfl Tryz.zeroValue25 rfl (fun b71 w72 eb71 sb71 fb71 cb71 => ?_)
    have zw72 := cb71.size
    have f74 := os_70.ext cb71
    refine sx_store (vs := [.string qv70, s70]) rfl rfl fb71 rfl Tryz.sizeOf25 (nbl rfl) (one_cons rfl (one_cons (f74).toS.one one_nil)) (fun w73 sw73 fw73 cw73 => ?_)
    have zw73 := cw73.size
    have gw73 : Blk w73 b71 [.string qv70, s70] 25 := fw73
    refine av rfl rfl (wl_nil (q_n (k60 _ _ ?_)))
    refine sx_sub (Sub.c 0 rfl (.c 2 rfl (.c 3 rfl (.c 4 rfl (.c 6 rfl (.c 7 rfl .nil)))))) ?_
    refine sx_seq fun K75 k75 => sx_region ?_
    refine mv rfl rfl (wl_nil (q_n (k75 _ _ ?_)))
    refine sx_condB rfl (fun h188 => ?_) (fun h188 => ?_)
    ·
     obtain ⟨rfl, hT2, hsm2⟩ := hok70 h188
     refine sx_region ?_
     refine sp rfl (px_load rfl (gw73.loadA (vs := [.string (s10), s70]) (look_lit rfl) Tryz.isAgg25 Tryz.sizeOf25)) ?_
     have f78 := (f61.ext c70).ext cb71
     have f79 := f78.chg cw73 (by omega)
     have f80 := f74.chg cw73 (by omega)
     refine sx_store (vs := [.string (s10), s70]) rfl rfl f79 rfl Tryz.sizeOf25 (nbl rfl) (one_cons rfl (one_cons (f80).toS.one one_nil)) (fun w76 sw76 fw76 cw76 => ?_)
     have zw76 := cw76.size
     have gw76 : Blk w76 b11 [.string (s10), s70] 25 := fw76
     refine wl_nil ?_
     refine q_bn (q_n (k38 _ _ ?_))
     refine sx_region ?_
     refine mv rfl rfl (sp rfl (px_sub rfl rfl (by omega)) ?_)
     refine av rfl rfl (wl_nil ?_)
     have q81 := Chg.step (l := c) (h := (c + 1)) cwl22 c41 (by omega)
     have q82 := Chg.step (l := c) (h := (c + 1)) q81 cb42 (by omega)
     have q83 := Chg.step (l := c) (h := (c + 1)) q82 cw44 (by omega)
     have q84 := Chg.step (l := c) (h := (c + 1)) q83 c53 (by omega)
     have q85 := Chg.step (l := c) (h := (c + 1)) q84 cw59 (by omega)
     have q86 := Chg.step (l := c) (h := (c + 1)) q85 (c70.t cb71) (by omega)
     have q87 := Chg.step (l := c) (h := (c + 1)) q86 cw73 (by omega)
     have q88 := Chg.step (l := c) (h := (c + 1)) q87 cw76 (by omega)
     have f89 := xc_53.chg cw59 (by omega)
     have f91 := (f89.ext c70).ext cb71
     have f92 := f91.chg cw73 (by omega)
     have f93 := f92.chg cw76 (by omega)
     have f95 := (hb_b2.chg c41 (by omega)).ext cb42
     have f96 := f95.chg cw44 (by omega)
     have f98 := (f96.chg c53 (by omega)).chg cw59 (by omega)
     have f100 := (f98.ext c70).ext cb71
     have f101 := f100.chg cw73 (by omega)
     have f102 := f101.chg cw76 (by omega)
     have f103 := f80.chg cw76 (by omega)
     exact fun a ha => ⟨_, by omega, (n2 - 1), s70, ts270, us70, i253, h253, ha.sub (Sub.c 0 rfl (.c 2 rfl (.c 3 rfl (.c 4 (look_int (t := 4) rfl (by first | omega | simp)) .nil)))), q88, f93, f102, gw76, ((f103).toS.mono (by omega) (by omega)), rfl, by assumption, by assumption, by omega, by omega, by omega⟩
    refine sx_skip ?_
    refine q_bn (q_n (k38 _ _ ?_))
    refine sx_region ?_
    refine mv rfl rfl (sp rfl (px_sub rfl rfl (by omega)) ?_)
    refine av rfl rfl (wl_nil ?_)
    have q104 := Chg.step (l := c) (h := (c + 1)) cwl22 c41 (by omega)
    have q105 := Chg.step (l := c) (h := (c + 1)) q104 cb42 (by omega)
    have q106 := Chg.step (l := c) (h := (c + 1)) q105 cw44 (by omega)
    have q107 := Chg.step (l := c) (h := (c + 1)) q106 c53 (by omega)
    have q108 := Chg.step (l := c) (h := (c + 1)) q107 cw59 (by omega)
    have q109 := Chg.step (l := c) (h := (c + 1)) q108 (c70.t cb71) (by omega)
    have q110 := Chg.step (l := c) (h := (c + 1)) q109 cw73 (by omega)
    have f111 := xc_53.chg cw59 (by omega)
    have f113 := (f111.ext c70).ext cb71
    have f114 := f113.chg cw73 (by omega)
    have f116 := (hb_b2.chg c41 (by omega)).ext cb42
    have f117 := f116.chg cw44 (by omega)
    have f119 := (f117.chg c53 (by omega)).chg cw59 (by omega)
    have f121 := (f119.ext c70).ext cb71
    have f122 := f121.chg cw73 (by omega)
    have f124 := (f61.ext c70).ext cb71
    have f125 := f124.chg cw73 (by omega)
    have f127 := (f66.ext c70).ext cb71
    have f128 := f127.chg cw73 (by omega)
    exact fun a ha => ⟨_, by omega, (n2 - 1), s, ts, us, i253, h253, ha.sub (Sub.c 0 rfl (.c 2 rfl (.c 3 rfl (.c 4 (look_int (t := 4) rfl (by first | omega | simp)) .nil)))), q110, f114, f122, f125, (f128.mono (by omega) (by omega)), rfl, by assumption, by assumption, by omega, by omega, by omega⟩
   refine sx_skip ?_
   refine q_n (k46 _ _ ?_)
   refine sx_seq fun K129 k129 => sx_region ?_
   refine sp rfl (px_load rfl (f58.loadA (vs := [.string s10, s]) (look_lit rfl) Tryz.isAgg25 Tryz.sizeOf25)) ?_
   refine sp rfl (px_load rfl (f54.loadA (vs := [.string a41, .string b41, .bool (ng x41), s41, .int .i64 p41]) (look_lit rfl) Tryz.isAgg75 Tryz.sizeOf75)) ?_
   have f131 := (hs_s.chg c41 (by omega)).ext cb42
   have f132 := f131.chg cw44 (by omega)
   have f133 := f132.chg c53 (by omega)
   have f134 := f45.chg cw44 (by omega)
   have f135 := f134.chg c53 (by omega)
   refine sx_call rfl rfl Tryz.call39 (c_sRatePutT f133 f135.sv (by omega) (hzs) (Nat.le_trans (dg_len_le (k := 1) (by simp only [Bs]; omega)) (by decide)) (by assumption) (by assumption) (⟨ng_false.2 (by omega), ⟨_, rfl, by omega, by omega⟩, by dsimp only; omega, by dsimp only; omega⟩)) (fun v136 w136 p136 => ?_)
   obtain ⟨s136, qv136, ts2136, us136, ok136, rfl, os_136, hok136, c136⟩ := p136
   have zw136 := c136.size
   refine mv rfl rfl (sp rfl (px_ex2 rfl rfl) ?_)
   refine sp rfl (px_ex2 rfl rfl) ?_
   refine sx_alloc [.string (⟨#[]⟩), (.slice none 0 0)] rfl Tryz.zeroValue25 rfl (fun b137 w138 eb137 sb137 fb137 cb137 => ?_)
   have zw138 := cb137.size
   have f140 := os_136.ext cb137
   refine sx_store (vs := [.string qv136, s136]) rfl rfl fb137 rfl Tryz.sizeOf25 (nbl rfl) (one_cons rfl (one_cons (f140).toS.one one_nil)) (fun w139 sw139 fw139 cw139 => ?_)
   have zw139 := cw139.size
   have gw139 : Blk w139 b137 [.string qv136, s136] 25 := fw139
   refine av rfl rfl (wl_nil (q_n (k129 _ _ ?_)))
   refine sx_seq fun K141 k141 => sx_region ?_
   refine mv rfl rfl (wl_nil (q_n (k141 _ _ ?_)))
   refine sx_sub (Sub.c 0 rfl (.c 2 rfl (.c 3 rfl (.c 4 rfl (.c 6 rfl (.c 38 rfl .nil)))))) ?_
   refine sx_condB rfl (fun h188 => ?_) (fun h188 => ?_)
   ·
    obtain ⟨rfl, hT2, hsm2⟩ := hok136 h188
    refine sx_region ?_
    refine sp rfl (px_load rfl (gw139.loadA (vs := [.string (s10), s136]) (look_lit rfl) Tryz.isAgg25 Tryz.sizeOf25)) ?_
    have f144 := (f58.ext c136).ext cb137
    have f145 := f144.chg cw139 (by omega)
    have f146 := f140.chg cw139 (by omega)
    refine sx_store (vs := [.string (s10), s136]) rfl rfl f145 rfl Tryz.sizeOf25 (nbl rfl) (one_cons rfl (one_cons (f146).toS.one one_nil)) (fun w142 sw142 fw142 cw142 => ?_)
    have zw142 := cw142.size
    have gw142 : Blk w142 b11 [.string (s10), s136] 25 := fw142
    refine wl_nil ?_
    refine q_bn (q_n (k38 _ _ ?_))
    refine sx_region ?_
    refine mv rfl rfl (sp rfl (px_sub rfl rfl (by omega)) ?_)
    refine av rfl rfl (wl_nil ?_)
    have q147 := Chg.step (l := c) (h := (c + 1)) cwl22 c41 (by omega)
    have q148 := Chg.step (l := c) (h := (c + 1)) q147 cb42 (by omega)
    have q149 := Chg.step (l := c) (h := (c + 1)) q148 cw44 (by omega)
    have q150 := Chg.step (l := c) (h := (c + 1)) q149 c53 (by omega)
    have q151 := Chg.step (l := c) (h := (c + 1)) q150 (c136.t cb137) (by omega)
    have q152 := Chg.step (l := c) (h := (c + 1)) q151 cw139 (by omega)
    have q153 := Chg.step (l := c) (h := (c + 1)) q152 cw142 (by omega)
    have f155 := (xc_53.ext c136).ext cb137
    have f156 := f155.chg cw139 (by omega)
    have f157 := f156.chg cw142 (by omega)
    have f159 := (hb_b2.chg c41 (by omega)).ext cb42
    have f160 := f159.chg cw44 (by omega)
    have f163 := ((f160.chg c53 (by omega)).ext c136).ext cb137
    have f164 := f163.chg cw139 (by omega)
    have f165 := f164.chg cw142 (by omega)
    have f166 := f146.chg cw142 (by omega)
    exact fun a ha => ⟨_, by omega, (n2 - 1), s136, ts2136, us136, i253, h253, ha.sub (Sub.c 0 rfl (.c 2 rfl (.c 3 rfl (.c 4 (look_int (t := 4) rfl (by first | omega | simp)) .nil)))), q153, f157, f165, gw142, ((f166).toS.mono (by omega) (by omega)), rfl, by assumption, by assumption, by omega, by omega, by omega⟩
   refine sx_skip ?_
   refine q_bn (q_n (k38 _ _ ?_))
   refine sx_region ?_
   refine mv rfl rfl (sp rfl (px_sub rfl rfl (by omega)) ?_)
   refine av rfl rfl (wl_nil ?_)
   have q167 := Chg.step (l := c) (h := (c + 1)) cwl22 c41 (by omega)
   have q168 := Chg.step (l := c) (h := (c + 1)) q167 cb42 (by omega)
   have q169 := Chg.step (l := c) (h := (c + 1)) q168 cw44 (by omega)
   have q170 := Chg.step (l := c) (h := (c + 1)) q169 c53 (by omega)
   have q171 := Chg.step (l := c) (h := (c + 1)) q170 (c136.t cb137) (by omega)
   have q172 := Chg.step (l := c) (h := (c + 1)) q171 cw139 (by omega)
   have f174 := (xc_53.ext c136).ext cb137
   have f175 := f174.chg cw139 (by omega)
   have f177 := (hb_b2.chg c41 (by omega)).ext cb42
   have f178 := f177.chg cw44 (by omega)
   have f181 := ((f178.chg c53 (by omega)).ext c136).ext cb137
   have f182 := f181.chg cw139 (by omega)
   have f184 := (f58.ext c136).ext cb137
   have f185 := f184.chg cw139 (by omega)
   have f187 := (f133.ext c136).ext cb137
   have f188 := f187.chg cw139 (by omega)
   exact fun a ha => ⟨_, by omega, (n2 - 1), s, ts, us, i253, h253, ha.sub (Sub.c 0 rfl (.c 2 rfl (.c 3 rfl (.c 4 (look_int (t := 4) rfl (by first | omega | simp)) .nil)))), q172, f175, f182, f185, (f188.mono (by omega) (by omega)), rfl, by assumption, by assumption, by omega, by omega, by omega⟩
  refine sx_guardF rfl rfl rfl rfl rfl rfl ?_
  refine sx_guardF rfl rfl rfl rfl rfl rfl ?_
  refine sx_guardF rfl rfl rfl rfl rfl rfl ?_
  refine sx_guardF rfl rfl rfl rfl rfl rfl ?_
  refine sx_guardF rfl rfl rfl rfl rfl rfl ?_
  refine sp rfl (px_pick rfl rfl) ?_
  refine wl_nil (q_n (k47 _ _ ?_))
  refine sx_sub (Sub.c 0 rfl (.c 2 rfl (.c 3 rfl (.c 4 rfl (.c 5 rfl (.c 28 rfl .nil)))))) ?_
  refine sx_condF rfl ?_
  refine sx_skip ?_
  refine q_n (k46 _ _ ?_)
  refine sx_seq fun K189 k189 => sx_region ?_
  have f191 := (hb_b11.chg c41 (by omega)).ext cb42
  have f192 := f191.chg cw44 (by omega)
  have f193 := f192.chg c53 (by omega)
  refine sp rfl (px_load rfl (f193.loadA (vs := [.string s10, s]) (look_lit rfl) Tryz.isAgg25 Tryz.sizeOf25)) ?_
  have f194 := gw44.chg c53 (by omega)
  refine sp rfl (px_load rfl (f194.loadA (vs := [.string a41, .string b41, .bool (ng x41), s41, .int .i64 p41]) (look_lit rfl) Tryz.isAgg75 Tryz.sizeOf75)) ?_
  have f196 := (hs_s.chg c41 (by omega)).ext cb42
  have f197 := f196.chg cw44 (by omega)
  have f198 := f197.chg c53 (by omega)
  have f199 := f45.chg cw44 (by omega)
  have f200 := f199.chg c53 (by omega)
  refine sx_call rfl rfl Tryz.call39 (c_sRatePutT f198 f200.sv (by omega) (hzs) (Nat.le_trans (dg_len_le (k := 1) (by simp only [Bs]; omega)) (by decide)) (by assumption) (by assumption) (⟨ng_false.2 (by omega), ⟨_, rfl, by omega, by omega⟩, by dsimp only; omega, by dsimp only; omega⟩)) (fun v201 w201 p201 => ?_)
  obtain ⟨s201, qv201, ts2201, us201, ok201, rfl, os_201, hok201, c201⟩ := p201
  have zw201 := c201.size
  refine mv rfl rfl (sp rfl (px_ex2 rfl rfl) ?_)
  refine sp rfl (px_ex2 rfl rfl) ?_
  refine sx_alloc [.string (⟨#[]⟩), (.slice none 0 0)] rfl Tryz.zeroValue25 rfl (fun b202 w203 eb202 sb202 fb202 cb202 => ?_)
  have zw203 := cb202.size
  have f205 := os_201.ext cb202
  refine sx_store (vs := [.string qv201, s201]) rfl rfl fb202 rfl Tryz.sizeOf25 (nbl rfl) (one_cons rfl (one_cons (f205).toS.one one_nil)) (fun w204 sw204 fw204 cw204 => ?_)
  have zw204 := cw204.size
  have gw204 : Blk w204 b202 [.string qv201, s201] 25 := fw204
  refine av rfl rfl (wl_nil (q_n (k189 _ _ ?_)))
  refine sx_seq fun K206 k206 => sx_region ?_
  refine mv rfl rfl (wl_nil (q_n (k206 _ _ ?_)))
  refine sx_sub (Sub.c 0 rfl (.c 2 rfl (.c 3 rfl (.c 4 rfl (.c 6 rfl (.c 38 rfl .nil)))))) ?_
  refine sx_condB rfl (fun h188 => ?_) (fun h188 => ?_)
  ·
   obtain ⟨rfl, hT2, hsm2⟩ := hok201 h188
   refine sx_region ?_
   refine sp rfl (px_load rfl (gw204.loadA (vs := [.string (s10), s201]) (look_lit rfl) Tryz.isAgg25 Tryz.sizeOf25)) ?_
   have f209 := (f193.ext c201).ext cb202
   have f210 := f209.chg cw204 (by omega)
   have f211 := f205.chg cw204 (by omega)
   refine sx_store (vs := [.string (s10), s201]) rfl rfl f210 rfl Tryz.sizeOf25 (nbl rfl) (one_cons rfl (one_cons (f211).toS.one one_nil)) (fun w207 sw207 fw207 cw207 => ?_)
   have zw207 := cw207.size
   have gw207 : Blk w207 b11 [.string (s10), s201] 25 := fw207
   refine wl_nil ?_
   refine q_bn (q_n (k38 _ _ ?_))
   refine sx_region ?_
   refine mv rfl rfl (sp rfl (px_sub rfl rfl (by omega)) ?_)
   refine av rfl rfl (wl_nil ?_)
   have q212 := Chg.step (l := c) (h := (c + 1)) cwl22 c41 (by omega)
   have q213 := Chg.step (l := c) (h := (c + 1)) q212 cb42 (by omega)
   have q214 := Chg.step (l := c) (h := (c + 1)) q213 cw44 (by omega)
   have q215 := Chg.step (l := c) (h := (c + 1)) q214 c53 (by omega)
   have q216 := Chg.step (l := c) (h := (c + 1)) q215 (c201.t cb202) (by omega)
   have q217 := Chg.step (l := c) (h := (c + 1)) q216 cw204 (by omega)
   have q218 := Chg.step (l := c) (h := (c + 1)) q217 cw207 (by omega)
   have f220 := (xc_53.ext c201).ext cb202
   have f221 := f220.chg cw204 (by omega)
   have f222 := f221.chg cw207 (by omega)
   have f224 := (hb_b2.chg c41 (by omega)).ext cb42
   have f225 := f224.chg cw44 (by omega)
   have f228 := ((f225.chg c53 (by omega)).ext c201).ext cb202
   have f229 := f228.chg cw204 (by omega)
   have f230 := f229.chg cw207 (by omega)
   have f231 := f211.chg cw207 (by omega)
   exact fun a ha => ⟨_, by omega, (n2 - 1), s201, ts2201, us201, i253, h253, ha.sub (Sub.c 0 rfl (.c 2 rfl (.c 3 rfl (.c 4 (look_int (t := 4) rfl (by first | omega | simp)) .nil)))), q218, f222, f230, gw207, ((f231).toS.mono (by omega) (by omega)), rfl, by assumption, by assumption, by omega, by omega, by omega⟩
  refine sx_skip ?_
  refine q_bn (q_n (k38 _ _ ?_))
  refine sx_region ?_
  refine mv rfl rfl (sp rfl (px_sub rfl rfl (by omega)) ?_)
  refine av rfl rfl (wl_nil ?_)
  have q232 := Chg.step (l := c) (h := (c + 1)) cwl22 c41 (by omega)
  have q233 := Chg.step (l := c) (h := (c + 1)) q232 cb42 (by omega)
  have q234 := Chg.step (l := c) (h := (c + 1)) q233 cw44 (by omega)
  have q235 := Chg.step (l := c) (h := (c + 1)) q234 c53 (by omega)
  have q236 := Chg.step (l := c) (h := (c + 1)) q235 (c201.t cb202) (by omega)
  have q237 := Chg.step (l := c) (h := (c + 1)) q236 cw204 (by omega)
  have f239 := (xc_53.ext c201).ext cb202
  have f240 := f239.chg cw204 (by omega)
  have f242 := (hb_b2.chg c41 (by omega)).ext cb42
  have f243 := f242.chg cw44 (by omega)
  have f246 := ((f243.chg c53 (by omega)).ext c201).ext cb202
  have f247 := f246.chg cw204 (by omega)
  have f249 := (f193.ext c201).ext cb202
  have f250 := f249.chg cw204 (by omega)
  have f252 := (f198.ext c201).ext cb202
  have f253 := f252.chg cw204 (by omega)
  exact fun a ha => ⟨_, by omega, (n2 - 1), s, ts, us, i253, h253, ha.sub (Sub.c 0 rfl (.c 2 rfl (.c 3 rfl (.c 4 (look_int (t := 4) rfl (by first | omega | simp)) .nil)))), q237, f240, f247, f250, (f253.mono (by omega) (by omega)), rfl, by assumption, by assumption, by omega, by omega, by omega⟩
 refine sx_exit ?_
 refine q_e (q_e (q_bx (q_n (k14 _ _ ?_))))
 refine sx_seq fun K254 k254 => sx_region ?_
 refine sp rfl (px_load rfl (hb_b11.loadA (vs := [.string s10, s]) (look_lit rfl) Tryz.isAgg25 Tryz.sizeOf25)) ?_
 refine sx_store (vs := [.string s10, s]) rfl rfl hb_b2 rfl Tryz.sizeOf25 (nbl rfl) (one_cons rfl (one_cons hs_s.one one_nil)) (fun w255 sw255 fw255 cw255 => ?_)
 have zw255 := cw255.size
 have gw255 : Blk w255 b2 [.string s10, s] 25 := fw255
 refine wl_nil (q_n (k254 _ _ ?_))
 refine sx_retc ?_
 refine sx_ret1 Tryz.results14 ⟨_, rfl, gw255.loadA (vs := [.string s10, s]) (look_lit rfl) Tryz.isAgg25 Tryz.sizeOf25⟩ ?_
 have f256 := hs_s.chg cw255 (by omega)
 have f257 := hb_c.chg cw255 (by omega)
 have q258 := Chg.step (l := c) (h := (c + 1)) cwl22 cw255 (by omega)
 exact ⟨_, _, _, _, _, _, rfl, (f256).mono (by omega) (by omega), f257, hT, hsm, by omega, q258⟩

theorem c_sCurs {w : World} :
  Ret Tryz.prog 69 [] w fun v w' => ∃ s, v = s ∧ OwnS w' w.heap.size w'.heap.size s strT (tabS.map Cr.code) ∧ Chg 0 0 w w' := by
 refine sx_enter Tryz.func69 rfl Tryz.ntmps69 (nbl rfl) ?_
 refine sx_seq fun K1 k1 => sx_region ?_
 refine av rfl rfl (wl_nil (q_n (k1 _ _ ?_)))
 refine sx_seq fun K2 k2 => sx_region ?_
 refine sx_lit0 rfl xelt71 (fun s3 ws3 ss3 fs3 cs3 => ?_)
 have zws3 := cs3.size
 refine av rfl rfl (wl_nil (q_n (k2 _ _ ?_)))
 refine sx_seq fun K4 k4 => ?_
 refine sx_seq fun K5 k5 => sx_region ?_
 refine sx_call rfl rfl Tryz.call91 (c_l08Table) (fun v6 w6 p6 => ?_)
 obtain ⟨sl6, rfl, osl_6, c6⟩ := p6
 have zw6 := c6.size
 refine sp rfl (px_len rfl Tryz.underlying123 osl_6.sv) ?_
 refine mv rfl rfl (wl_nil (q_n (k5 _ _ ?_)))
 refine sx_block ?_
 have f8 := fs3.ext c6
 refine sx_loop (fun mm aa w' => ∃ (k : Nat) (s : Value) (os : List ByteArray) (gl : Nat) (gh : Nat), Agr 18 [(1, s), (5, v6), (6, .int .i64 20), (7, .int .i64 ↑k)] aa ∧ Chg 0 0 w w' ∧ Own w' gl gh s strT os.length 1 (os.map Value.string) ∧ Own w' ws3.heap.size w6.heap.size v6 99 20 4 (crCells tabS) ∧ (mm = 20 - k) ∧ (k ≤ 20) ∧ (os = (tabS.map Cr.code).take k) ∧ (os.length = k) ∧ (w.heap.size ≤ gl ∧ gl ≤ w'.heap.size ∧ gh ≤ w'.heap.size ∧ (gh ≤ ws3.heap.size ∨ w6.heap.size ≤ gl) ∧ w6.heap.size ≤ w'.heap.size)) (20) (fun a ha => ⟨0, s3, [], w.heap.size, ws3.heap.size, ha.sub (Sub.c 1 rfl (.c 5 rfl (.c 6 rfl (.c 7 (look_int (t := 7) rfl (by first | omega | simp)) .nil)))), (cs3.t c6), f8, osl_6, rfl, by omega, by simp, rfl, by omega⟩) ?_
 rintro mm aa wl7 ⟨k, s, os, gl, gh, hAwl7, cwl7, hs_s, hs_v6, hm, hk, hos, hol, hgg⟩
 refine (show cw Tryz.prog 18 _ _ _ wl7 from ?_) aa hAwl7
 clear hAwl7
 have zwl7 := cwl7.size
 refine sx_seq fun K9 k9 => sx_region ?_
 refine sp rfl (px_lt rfl rfl) ?_
 refine wl_nil (q_n (k9 _ _ ?_))
 refine sx_seq fun K10 k10 => ?_
 refine sx_condP rfl (fun h57 => ?_) (fun h57 => ?_)
 ·
  refine sx_skip ?_
  refine q_n (k10 _ _ ?_)
  refine sx_seq fun K11 k11 => ?_
  refine sx_block ?_
  refine sx_seq fun K12 k12 => sx_region ?_
  refine sp rfl (px_indexK (j := k) rfl rfl (by omega) Tryz.underlying123 Tryz.sizeOf99 hs_v6.sv (by omega)) ?_
  refine sp rfl (px_load rfl (hs_v6.sv.loadA (cr_look (l := tabS) (k := k) (by rw [show tabS.length = 20 from rfl]; omega)) Tryz.isAgg99 Tryz.sizeOf99)) ?_
  refine sx_alloc [.string (⟨#[]⟩), .string (⟨#[]⟩), .int .i64 0, .int .i64 0] rfl Tryz.zeroValue99 rfl (fun b13 w14 eb13 sb13 fb13 cb13 => ?_)
  have zw14 := cb13.size
  refine sx_store (vs := [.string ((tabS.getD k cr0).code), .string ((tabS.getD k cr0).number), .int .i64 ((tabS.getD k cr0).places), .int .i64 ((tabS.getD k cr0).cash)]) rfl rfl fb13 rfl Tryz.sizeOf99 (nbl rfl) (one_cons rfl (o3 rfl rfl rfl)) (fun w15 sw15 fw15 cw15 => ?_)
  have zw15 := cw15.size
  have gw15 : Blk w15 b13 [.string ((tabS.getD k cr0).code), .string ((tabS.getD k cr0).number), .int .i64 ((tabS.getD k cr0).places), .int .i64 ((tabS.getD k cr0).cash)] 99 := fw15
  refine wl_nil (q_n (k12 _ _ ?_))
  refine sx_region ?_
  refine mv rfl rfl (sp rfl (px_field rfl xfld99x0) ?_)
  refine sp rfl (px_load rfl (gw15.load1 rfl Tryz.isAgg9)) ?_
  refine sx_lit1 rfl xelt71 rfl rfl (fun s16 ws16 ss16 fs16 cs16 => ?_)
  have ns16 := Own.norm (f := Value.string) (zs := [(tabS.getD k cr0).code]) fs16
  have zws16 := cs16.size
  have f18 := hs_s.ext cb13
  have f19 := f18.chg cw15 (by omega)
  have f20 := f19.ext cs16
  refine sx_append2 rfl xelt71 rfl rfl f20 ns16.sv (by simp) one_str (by omega) (by simp only [List.length_cons, List.length_nil]; omega) (by unfold maxLen; simp only [List.length_cons, List.length_nil]; omega) (fun a17 w17 alw17 ahw17 adw17 fw17 cw17 => ?_)
  have nw17 := Own.app (f := Value.string) (a := os) (b := [(tabS.getD k cr0).code]) fw17
  have zw17 := cw17.size
  refine av rfl rfl (wl_nil ?_)
  refine q_bn (q_n (k11 _ _ ?_))
  refine sx_region ?_
  refine sp rfl (px_add rfl rfl (by omega)) ?_
  refine mv rfl rfl (wl_nil ?_)
  have q21 := Chg.step (l := 0) (h := 0) (Chg.zero (l := 0) (h := 0) (cwl7.t cb13)) cw15 (by omega)
  have q22 := Chg.step (l := 0) (h := 0) q21 cs16 (by omega)
  have q23 := Chg.step (l := 0) (h := 0) q22 cw17 (by omega)
  have f24 := hs_v6.ext cb13
  have f25 := f24.chg cw15 (by omega)
  have f26 := f25.ext cs16
  have f27 := f26.chg cw17 (by omega)
  exact fun a ha => ⟨_, by omega, (k + 1), a17, (os ++ ([(tabS.getD k cr0).code])), alw17, ahw17, ha.sub (Sub.c 1 rfl (.c 5 rfl (.c 6 rfl (.c 7 (look_int (t := 7) rfl (by first | omega | simp)) .nil)))), q23, nw17, f27, rfl, by omega, by rw [hos]; exact codes_next (by rw [show tabS.length = 20 from rfl]; omega), by simp only [List.length_append, List.length_singleton]; omega, by omega⟩
 refine sx_exit ?_
 refine q_e (q_e (q_bx (q_n (k4 _ _ ?_))))
 refine sx_seq fun K28 k28 => sx_region ?_
 refine mv rfl rfl (av rfl rfl (wl_nil (q_n (k28 _ _ ?_))))
 refine sx_retc ?_
 refine sx_ret1 Tryz.results69 rfl ?_
 have ek : k = 20 := by omega
 subst ek
 have hs := hs_s
 rw [hos, show (tabS.map Cr.code).take 20 = tabS.map Cr.code from rfl] at hs
 exact ⟨_, rfl, hs.mono (by omega) (by omega), cwl7⟩

theorem c_l08Any {w : World} {c : Nat} {vb : Value} {lvb uvb : Nat} {bs : List Int} {i : Int} {h : Int} (hc : Blk w c [vb, .int .i64 i, .int .i64 h] 52) (hvb : SlB w lvb uvb vb (bs)) (hb8 : ∀ j, j < bs.length → 0 ≤ bs.getD j 0 ∧ bs.getD j 0 ≤ 255) (hbl : bs.length ≤ 1048576) (hi : 0 ≤ i ∧ i ≤ bs.length) (hdis : uvb ≤ c) :
  Ret Tryz.prog 40 [.pointer (some ⟨c, 0, none⟩)] w fun v w' => ∃ s i2 h2, v = .string (s) ∧ Blk w' c [vb, .int .i64 (i2), .int .i64 (h2)] 52 ∧ (0 ≤ i2 ∧ i2 ≤ (bs).length) ∧ Chg c (c + 1) w w' := by
 have clt := hc.lt
 have clt := hc.lt
 refine sx_enter Tryz.func40 rfl Tryz.ntmps40 (nbl rfl) ?_
 refine sx_seq fun K1 k1 => sx_region ?_
 refine av rfl rfl (wl_nil (q_n (k1 _ _ ?_)))
 refine sx_seq fun K2 k2 => ?_
 refine sx_seq fun K3 k3 => sx_region ?_
 refine mv rfl rfl (sx_call rfl rfl Tryz.call38 (c_l01Once hc hvb (by assumption) (by omega) (by omega) (by omega) (by omega)) (fun v4 w4 p4 => ?_))
 obtain ⟨x4, i24, h24, rfl, xc_4, hx4, hi24, c4⟩ := p4
 have zw4 := c4.size
 refine wl_nil (q_n (k3 _ _ ?_))
 refine sx_condP rfl (fun h78 => ?_) (fun h78 => ?_)
 ·
  refine sx_seq fun K5 k5 => sx_region ?_
  refine mv rfl rfl ?_
  refine sx_lit5 rfl xelt71 rfl rfl rfl rfl rfl rfl rfl rfl rfl rfl (fun s6 ws6 ss6 fs6 cs6 => ?_)
  have ns6 := Own.norm (f := Value.string) (zs := [⟨#[]⟩, ⟨#[99, 104, 102]⟩, ⟨#[88, 88, 88]⟩, ⟨#[67, 72]⟩, ⟨#[69, 85, 82, 79]⟩]) fs6
  have zws6 := cs6.size
  have f7 := xc_4.ext cs6
  have f9 := (hvb.chg c4 (by omega)).ext cs6
  refine sx_call rfl rfl Tryz.call36 (c_l01Str f7 f9 ns6.sv (by assumption) (by omega) (by omega) (by omega) (by first | omega | decide | simp) (by omega)) (fun v10 w10 p10 => ?_)
  obtain ⟨s10, i210, h210, rfl, xc_10, hx10, hi210, c10⟩ := p10
  have zw10 := c10.size
  refine av rfl rfl (wl_nil (q_n (k5 _ _ ?_)))
  refine sx_retc ?_
  refine q_r (sx_ret1 Tryz.results40 rfl ?_)
  have q11 := Chg.step (l := c) (h := (c + 1)) c4 cs6 (by omega)
  have q12 := Chg.step (l := c) (h := (c + 1)) q11 c10 (by omega)
  exact ⟨_, _, _, rfl, xc_10, by omega, q12⟩
 refine sx_skip ?_
 refine q_n (k2 _ _ ?_)
 refine sx_seq fun K13 k13 => sx_region ?_
 refine mv rfl rfl (sx_call rfl rfl Tryz.call69 (c_sCurs) (fun v14 w14 p14 => ?_))
 obtain ⟨s14, rfl, os_14, c14⟩ := p14
 have zw14 := c14.size
 have f15 := xc_4.ext c14
 have f17 := (hvb.chg c4 (by omega)).ext c14
 refine sx_call rfl rfl Tryz.call36 (c_l01Str f15 f17 os_14.sv (by assumption) (by omega) (by omega) (by omega) (by first | omega | decide | simp) (by omega)) (fun v18 w18 p18 => ?_)
 obtain ⟨s18, i218, h218, rfl, xc_18, hx18, hi218, c18⟩ := p18
 have zw18 := c18.size
 refine av rfl rfl (wl_nil (q_n (k13 _ _ ?_)))
 refine sx_retc ?_
 refine sx_ret1 Tryz.results40 rfl ?_
 have q19 := Chg.step (l := c) (h := (c + 1)) c4 c14 (by omega)
 have q20 := Chg.step (l := c) (h := (c + 1)) q19 c18 (by omega)
 exact ⟨_, _, _, rfl, xc_18, by omega, q20⟩

theorem c_l10Pair {w : World} {c : Nat} {vb : Value} {lvb uvb : Nat} {bs : List Int} {i : Int} {h : Int} {pv : ByteArray} {vt : Value} {lvt uvt : Nat} {ts : List Rt} {vvt : List Value} (hc : Blk w c [vb, .int .i64 i, .int .i64 h] 52) (hvb : SlB w lvb uvb vb (bs)) (hvt : RtS w lvt uvt vt ts vvt) (hb8 : ∀ j, j < bs.length → 0 ≤ bs.getD j 0 ∧ bs.getD j 0 ≤ 255) (hbl : bs.length ≤ 1048576) (hi : 0 ≤ i ∧ i ≤ bs.length) (hdis : uvb ≤ c) (h63 : ts.length ≤ 1000) (hd2 : uvt ≤ c ∨ c < lvt) (hd3 : uvt ≤ w.heap.size) :
  Ret Tryz.prog 15 [.pointer (some ⟨c, 0, none⟩), .agg #[.string pv, vt]] w fun v w' => ∃ a b i2 h2, v = .tuple #[.string (a), .string (b)] ∧ Blk w' c [vb, .int .i64 (i2), .int .i64 (h2)] 52 ∧ (0 ≤ i2 ∧ i2 ≤ (bs).length) ∧ Chg c (c + 1) w w' := by
 have clt := hc.lt
 have clt := hc.lt
 refine sx_enter Tryz.func15 rfl Tryz.ntmps15 (nbl rfl) ?_
 refine sx_seq fun K1 k1 => sx_region ?_
 refine sx_box [.string pv, vt] rfl rfl rfl (fun b2 w3 eb2 sb2 fb2 cb2 => ?_)
 have zw3 := cb2.size
 refine av rfl rfl (av rfl rfl (wl_nil (q_n (k1 _ _ ?_))))
 refine sx_seq fun K4 k4 => ?_
 refine sx_seq fun K5 k5 => sx_region ?_
 refine sp rfl (px_field rfl xfld25x1) ?_
 refine sp rfl (px_load rfl (fb2.load1 rfl Tryz.isAgg23)) ?_
 have f6 := hvt.ext cb2
 refine sp rfl (px_len rfl Tryz.underlying23 f6.sv) ?_
 refine sp rfl (px_gt rfl rfl) ?_
 refine mv rfl rfl ?_
 refine sx_tmpP (t := 12) rfl (fun h207 => ?_) (fun h207 => ?_)
 ·
  refine sx_guardT rfl rfl rfl ?_
  refine mv rfl rfl ?_
  refine sx_guardT rfl rfl rfl ?_
  have f7 := hc.ext cb2
  have f8 := hvb.ext cb2
  refine sx_call rfl rfl Tryz.call38 (c_l01Once f7 f8 (by assumption) (by omega) (by omega) (by omega) (by omega)) (fun v9 w9 p9 => ?_)
  obtain ⟨x9, i29, h29, rfl, xc_9, hx9, hi29, c9⟩ := p9
  have zw9 := c9.size
  refine sx_guardT rfl rfl rfl ?_
  refine sp rfl (px_notP rfl) ?_
  refine sp rfl (px_pick rfl rfl) ?_
  refine wl_nil (q_n (k5 _ _ ?_))
  refine sx_condP rfl (fun h207x1 => ?_) (fun h207x1 => ?_)
  ·
   refine sx_seq fun K10 k10 => ?_
   refine sx_cut k10 (fun fr w' => ∃ (gb11x0 : Nat) (gs11x1 : Value) (gi11x0 : Int) (gi11x1 : Int) (gi11x2 : Int), fr = [(0, .pointer (some ⟨c, 0, none⟩)), (3, .pointer (some ⟨b2, 0, none⟩)), (4, .string (⟨#[]⟩)), (5, .string (⟨#[]⟩)), (6, .pointer (some ⟨gb11x0, 0, none⟩))] ∧ Chg c (c + 1) w9 w' ∧ (0 ≤ gi11x0 ∧ gi11x0 < (↑((ts).length))) ∧ (0 ≤ gi11x1 ∧ gi11x1 ≤ (bs).length) ∧ (Blk w' gb11x0 [.string ((ts.getD gi11x0.toNat rt0).1), .string ((ts.getD gi11x0.toNat rt0).2.1), .bool ((ts.getD gi11x0.toNat rt0).2.2.1), gs11x1, .int .i64 ((ts.getD gi11x0.toNat rt0).2.2.2.2)] 75) ∧ (Sv w' lvt uvt gs11x1 (((ts.getD gi11x0.toNat rt0).2.2.2.1).length) 1 (((ts.getD gi11x0.toNat rt0).2.2.2.1).map (Value.int .i64))) ∧ (Blk w' c [vb, .int .i64 gi11x1, .int .i64 gi11x2] 52) ∧ (w9.heap.size ≤ gb11x0 ∧ gb11x0 + 1 ≤ w'.heap.size)) (fun kc11 => ?_) ?_
   ·
    have f12 := fb2.chg c9 (by omega)
    have f13 := f8.chg c9 (by omega)
    have f14 := f6.chg c9 (by omega)
    refine dx_region (fun w' => Chg c (c + 1) w9 w') (by kernel_rfl) (Chg.zero (Chg.drew _)) ?_
    have d15 := Chg.drew w9
    have s15 : Chg c (c + 1) w9 (World.drew w9) := Chg.zero (Chg.drew _)
    have y15 : (World.drew w9).heap.size = w9.heap.size := rfl
    generalize World.drew w9 = w15 at *
    have zw15 := d15.size
    refine dt 0 rfl rfl rfl rfl s15 (fun _ hS => px_field rfl xfld25x1) ?_
    refine dt 1 rfl rfl rfl rfl s15 (fun _ hS => px_load rfl ((f12.chg hS (by omega)).load1 rfl Tryz.isAgg23)) ?_
    refine dt 2 rfl rfl rfl rfl s15 (fun _ hS => px_move rfl) ?_
    refine dt 3 rfl rfl rfl rfl s15 (fun _ hS => px_field rfl xfld25x1) ?_
    refine dt 4 rfl rfl rfl rfl s15 (fun _ hS => px_load rfl ((f12.chg hS (by omega)).load1 rfl Tryz.isAgg23)) ?_
    refine dt 5 rfl rfl rfl rfl s15 (fun _ hS => px_len rfl Tryz.underlying23 ((f14.sv).chg hS (by omega))) ?_
    refine dx_eff2 6 9 rfl rfl (by kernel_rfl) ?_ ?_
    ·
     have f16 := xc_9.ext d15
     have f17 := f13.ext d15
     refine sx_call rfl rfl Tryz.call17 (c_l01Below f16 f17 (by assumption) (by omega) (by omega) (by omega) (by omega)) (fun v18 w18 p18 => ?_)
     obtain ⟨x18, i218, h218, rfl, xc_18, hx18, hi218, c18⟩ := p18
     have zw18 := c18.size
     have q20 := Chg.step (l := c) (h := (c + 1)) (Chg.zero (l := c) (h := (c + 1)) d15) c18 (by omega)
     have s19 : Chg c (c + 1) w9 w18 := q20
     refine wl_nil ?_
     refine dx_next s19 ?_
     refine dt 7 rfl rfl rfl rfl s19 (fun _ hS => px_indexK (j := x18.toNat) rfl rfl (by omega) Tryz.underlying23 Tryz.sizeOf75 ((f14.sv).chg hS (by omega)) (by omega)) ?_
     refine dt 8 rfl rfl rfl rfl s19 (fun _ hS => px_load rfl (((f14.sv).chg hS (by omega)).loadA (rt_look f14.len (by omega)) Tryz.isAgg75 Tryz.sizeOf75)) ?_
     refine dx_eff 9 rfl (by kernel_rfl) ?_
     refine sx_alloc [.string (⟨#[]⟩), .string (⟨#[]⟩), .bool false, (.slice none 0 0), .int .i64 0] rfl Tryz.zeroValue75 rfl (fun b21 w22 eb21 sb21 fb21 cb21 => ?_)
     have zw22 := cb21.size
     have q24 := Chg.step (l := c) (h := (c + 1)) (Chg.zero (l := c) (h := (c + 1)) d15) c18 (by omega)
     have q25 := Chg.step (l := c) (h := (c + 1)) q24 cb21 (by omega)
     have s23 : Chg c (c + 1) w9 w22 := q25
     refine wl_nil ?_
     refine dx_next s23 ?_
     refine dx_eff 10 rfl (by kernel_rfl) ?_
     have f29 := (((f14.nest x18.toNat (by omega)).ext d15).chg c18 (by omega)).ext cb21
     refine sx_store (vs := [.string ((ts.getD x18.toNat rt0).1), .string ((ts.getD x18.toNat rt0).2.1), .bool ((ts.getD x18.toNat rt0).2.2.1), (vvt.getD x18.toNat vz), .int .i64 ((ts.getD x18.toNat rt0).2.2.2.2)]) rfl rfl fb21 rfl Tryz.sizeOf75 (nbl rfl) (one_cons rfl (one_cons rfl (one_cons rfl (one_cons f29.one (o1 rfl))))) (fun w26 sw26 fw26 cw26 => ?_)
     have zw26 := cw26.size
     have gw26 : Blk w26 b21 [.string ((ts.getD x18.toNat rt0).1), .string ((ts.getD x18.toNat rt0).2.1), .bool ((ts.getD x18.toNat rt0).2.2.1), (vvt.getD x18.toNat vz), .int .i64 ((ts.getD x18.toNat rt0).2.2.2.2)] 75 := fw26
     have q31 := Chg.step (l := c) (h := (c + 1)) (Chg.zero (l := c) (h := (c + 1)) d15) c18 (by omega)
     have q32 := Chg.step (l := c) (h := (c + 1)) q31 cb21 (by omega)
     have q33 := Chg.step (l := c) (h := (c + 1)) q32 cw26 (by omega)
     have s30 : Chg c (c + 1) w9 w26 := q33
     refine wl_nil ?_
     refine dx_next s30 ?_
     refine dx_done (by kernel_rfl) ?_
     have f34 := f29.chg cw26 (by omega)
     have f35 := xc_18.ext cb21
     have f36 := f35.chg cw26 (by omega)
     have q37 := Chg.step (l := c) (h := (c + 1)) (Chg.zero (l := c) (h := (c + 1)) d15) c18 (by omega)
     have q38 := Chg.step (l := c) (h := (c + 1)) q37 cb21 (by omega)
     have q39 := Chg.step (l := c) (h := (c + 1)) q38 cw26 (by omega)
     exact q_n (kw_sub (Sub.c 0 rfl (.c 3 rfl (.c 4 rfl (.c 5 rfl (.c 6 rfl .nil))))) (kc11 _ _ ⟨b21, (vvt.getD x18.toNat vz), x18, i218, h218, rfl, q39, hx18, hi218, gw26, f34, f36, by omega⟩))
    refine sx_alloc [.string (⟨#[]⟩), .string (⟨#[]⟩), .bool false, (.slice none 0 0), .int .i64 0] rfl Tryz.zeroValue75 rfl (fun b40 w41 eb40 sb40 fb40 cb40 => ?_)
    have zw41 := cb40.size
    have s42 : Chg c (c + 1) w9 w41 := (Chg.zero (l := c) (h := (c + 1)) (d15.t cb40))
    refine wl_nil ?_
    refine dx_next s42 ?_
    refine dx_eff 6 rfl (by kernel_rfl) ?_
    have f44 := (xc_9.ext d15).ext cb40
    have f46 := (f13.ext d15).ext cb40
    refine sx_call rfl rfl Tryz.call17 (c_l01Below f44 f46 (by assumption) (by omega) (by omega) (by omega) (by omega)) (fun v47 w47 p47 => ?_)
    obtain ⟨x47, i247, h247, rfl, xc_47, hx47, hi247, c47⟩ := p47
    have zw47 := c47.size
    have q49 := Chg.step (l := c) (h := (c + 1)) (Chg.zero (l := c) (h := (c + 1)) (d15.t cb40)) c47 (by omega)
    have s48 : Chg c (c + 1) w9 w47 := q49
    refine wl_nil ?_
    refine dx_next s48 ?_
    refine dt 7 rfl rfl rfl rfl s48 (fun _ hS => px_indexK (j := x47.toNat) rfl rfl (by omega) Tryz.underlying23 Tryz.sizeOf75 ((f14.sv).chg hS (by omega)) (by omega)) ?_
    refine dt 8 rfl rfl rfl rfl s48 (fun _ hS => px_load rfl (((f14.sv).chg hS (by omega)).loadA (rt_look f14.len (by omega)) Tryz.isAgg75 Tryz.sizeOf75)) ?_
    refine dx_eff 10 rfl (by kernel_rfl) ?_
    have f51 := fb40.chg c47 (by omega)
    have f53 := ((f14.nest x47.toNat (by omega)).ext d15).ext cb40
    have f54 := f53.chg c47 (by omega)
    refine sx_store (vs := [.string ((ts.getD x47.toNat rt0).1), .string ((ts.getD x47.toNat rt0).2.1), .bool ((ts.getD x47.toNat rt0).2.2.1), (vvt.getD x47.toNat vz), .int .i64 ((ts.getD x47.toNat rt0).2.2.2.2)]) rfl rfl f51 rfl Tryz.sizeOf75 (nbl rfl) (one_cons rfl (one_cons rfl (one_cons rfl (one_cons f54.one (o1 rfl))))) (fun w50 sw50 fw50 cw50 => ?_)
    have zw50 := cw50.size
    have gw50 : Blk w50 b40 [.string ((ts.getD x47.toNat rt0).1), .string ((ts.getD x47.toNat rt0).2.1), .bool ((ts.getD x47.toNat rt0).2.2.1), (vvt.getD x47.toNat vz), .int .i64 ((ts.getD x47.toNat rt0).2.2.2.2)] 75 := fw50
    have q56 := Chg.step (l := c) (h := (c + 1)) (Chg.zero (l := c) (h := (c + 1)) (d15.t cb40)) c47 (by omega)
    have q57 := Chg.step (l := c) (h := (c + 1)) q56 cw50 (by omega)
    have s55 : Chg c (c + 1) w9 w50 := q57
    refine wl_nil ?_
    refine dx_next s55 ?_
    refine dx_done (by kernel_rfl) ?_
    have f58 := f54.chg cw50 (by omega)
    have f59 := xc_47.chg cw50 (by omega)
    have q60 := Chg.step (l := c) (h := (c + 1)) (Chg.zero (l := c) (h := (c + 1)) (d15.t cb40)) c47 (by omega)
    have q61 := Chg.step (l := c) (h := (c + 1)) q60 cw50 (by omega)
    exact q_n (kw_sub (Sub.c 0 rfl (.c 3 rfl (.c 4 rfl (.c 5 rfl (.c 6 rfl .nil))))) (kc11 _ _ ⟨b40, (vvt.getD x47.toNat vz), x47, i247, h247, rfl, q61, hx47, hi247, gw50, f58, f59, by omega⟩))
   rintro fr w'11 ⟨gb11x0, gs11x1, gi11x0, gi11x1, gi11x2, rfl, cw'11, pp11x1, pp11x2, xgb11x0, xgs11x1, xc, ygb11x0⟩
   have zw'11 := cw'11.size
   refine sx_seq fun K62 k62 => ?_
   refine sx_cut k62 (fun fr w' => ∃ (gb63x0 : Nat) (gs63x1 : Value) (gi63x0 : Int) (gi63x1 : Int) (gi63x2 : Int), fr = [(0, .pointer (some ⟨c, 0, none⟩)), (4, .string (⟨#[]⟩)), (5, .string (⟨#[]⟩)), (6, .pointer (some ⟨gb11x0, 0, none⟩)), (7, .pointer (some ⟨gb63x0, 0, none⟩))] ∧ Chg c (c + 1) w'11 w' ∧ (0 ≤ gi63x0 ∧ gi63x0 < (↑((ts).length))) ∧ (0 ≤ gi63x1 ∧ gi63x1 ≤ (bs).length) ∧ (Blk w' gb63x0 [.string ((ts.getD gi63x0.toNat rt0).1), .string ((ts.getD gi63x0.toNat rt0).2.1), .bool ((ts.getD gi63x0.toNat rt0).2.2.1), gs63x1, .int .i64 ((ts.getD gi63x0.toNat rt0).2.2.2.2)] 75) ∧ (Sv w' lvt uvt gs63x1 (((ts.getD gi63x0.toNat rt0).2.2.2.1).length) 1 (((ts.getD gi63x0.toNat rt0).2.2.2.1).map (Value.int .i64))) ∧ (Blk w' c [vb, .int .i64 gi63x1, .int .i64 gi63x2] 52) ∧ (w'11.heap.size ≤ gb63x0 ∧ gb63x0 + 1 ≤ w'.heap.size)) (fun kc63 => ?_) ?_
   ·
    have f65 := (fb2.chg c9 (by omega)).chg cw'11 (by omega)
    have f67 := (f8.chg c9 (by omega)).chg cw'11 (by omega)
    have f69 := (f6.chg c9 (by omega)).chg cw'11 (by omega)
    refine dx_region (fun w' => Chg c (c + 1) w'11 w') (by kernel_rfl) (Chg.zero (Chg.drew _)) ?_
    have d70 := Chg.drew w'11
    have s70 : Chg c (c + 1) w'11 (World.drew w'11) := Chg.zero (Chg.drew _)
    have y70 : (World.drew w'11).heap.size = w'11.heap.size := rfl
    generalize World.drew w'11 = w70 at *
    have zw70 := d70.size
    refine dt 0 rfl rfl rfl rfl s70 (fun _ hS => px_field rfl xfld25x1) ?_
    refine dt 1 rfl rfl rfl rfl s70 (fun _ hS => px_load rfl ((f65.chg hS (by omega)).load1 rfl Tryz.isAgg23)) ?_
    refine dt 2 rfl rfl rfl rfl s70 (fun _ hS => px_move rfl) ?_
    refine dt 3 rfl rfl rfl rfl s70 (fun _ hS => px_field rfl xfld25x1) ?_
    refine dt 4 rfl rfl rfl rfl s70 (fun _ hS => px_load rfl ((f65.chg hS (by omega)).load1 rfl Tryz.isAgg23)) ?_
    refine dt 5 rfl rfl rfl rfl s70 (fun _ hS => px_len rfl Tryz.underlying23 ((f69.sv).chg hS (by omega))) ?_
    refine dx_eff2 6 9 rfl rfl (by kernel_rfl) ?_ ?_
    ·
     have f71 := xc.ext d70
     have f72 := f67.ext d70
     refine sx_call rfl rfl Tryz.call17 (c_l01Below f71 f72 (by assumption) (by omega) (by omega) (by omega) (by omega)) (fun v73 w73 p73 => ?_)
     obtain ⟨x73, i273, h273, rfl, xc_73, hx73, hi273, c73⟩ := p73
     have zw73 := c73.size
     have q75 := Chg.step (l := c) (h := (c + 1)) (Chg.zero (l := c) (h := (c + 1)) d70) c73 (by omega)
     have s74 : Chg c (c + 1) w'11 w73 := q75
     refine wl_nil ?_
     refine dx_next s74 ?_
     refine dt 7 rfl rfl rfl rfl s74 (fun _ hS => px_indexK (j := x73.toNat) rfl rfl (by omega) Tryz.underlying23 Tryz.sizeOf75 ((f69.sv).chg hS (by omega)) (by omega)) ?_
     refine dt 8 rfl rfl rfl rfl s74 (fun _ hS => px_load rfl (((f69.sv).chg hS (by omega)).loadA (rt_look f69.len (by omega)) Tryz.isAgg75 Tryz.sizeOf75)) ?_
     refine dx_eff 9 rfl (by kernel_rfl) ?_
     refine sx_alloc [.string (⟨#[]⟩), .string (⟨#[]⟩), .bool false, (.slice none 0 0), .int .i64 0] rfl Tryz.zeroValue75 rfl (fun b76 w77 eb76 sb76 fb76 cb76 => ?_)
     have zw77 := cb76.size
     have q79 := Chg.step (l := c) (h := (c + 1)) (Chg.zero (l := c) (h := (c + 1)) d70) c73 (by omega)
     have q80 := Chg.step (l := c) (h := (c + 1)) q79 cb76 (by omega)
     have s78 : Chg c (c + 1) w'11 w77 := q80
     refine wl_nil ?_
     refine dx_next s78 ?_
     refine dx_eff 10 rfl (by kernel_rfl) ?_
     have f84 := (((f69.nest x73.toNat (by omega)).ext d70).chg c73 (by omega)).ext cb76
     refine sx_store (vs := [.string ((ts.getD x73.toNat rt0).1), .string ((ts.getD x73.toNat rt0).2.1), .bool ((ts.getD x73.toNat rt0).2.2.1), (vvt.getD x73.toNat vz), .int .i64 ((ts.getD x73.toNat rt0).2.2.2.2)]) rfl rfl fb76 rfl Tryz.sizeOf75 (nbl rfl) (one_cons rfl (one_cons rfl (one_cons rfl (one_cons f84.one (o1 rfl))))) (fun w81 sw81 fw81 cw81 => ?_)
     have zw81 := cw81.size
     have gw81 : Blk w81 b76 [.string ((ts.getD x73.toNat rt0).1), .string ((ts.getD x73.toNat rt0).2.1), .bool ((ts.getD x73.toNat rt0).2.2.1), (vvt.getD x73.toNat vz), .int .i64 ((ts.getD x73.toNat rt0).2.2.2.2)] 75 := fw81
     have q86 := Chg.step (l := c) (h := (c + 1)) (Chg.zero (l := c) (h := (c + 1)) d70) c73 (by omega)
     have q87 := Chg.step (l := c) (h := (c + 1)) q86 cb76 (by omega)
     have q88 := Chg.step (l := c) (h := (c + 1)) q87 cw81 (by omega)
     have s85 : Chg c (c + 1) w'11 w81 := q88
     refine wl_nil ?_
     refine dx_next s85 ?_
     refine dx_done (by kernel_rfl) ?_
     have f89 := f84.chg cw81 (by omega)
     have f90 := xc_73.ext cb76
     have f91 := f90.chg cw81 (by omega)
     have q92 := Chg.step (l := c) (h := (c + 1)) (Chg.zero (l := c) (h := (c + 1)) d70) c73 (by omega)
     have q93 := Chg.step (l := c) (h := (c + 1)) q92 cb76 (by omega)
     have q94 := Chg.step (l := c) (h := (c + 1)) q93 cw81 (by omega)
     exact q_n (kw_sub (Sub.c 0 rfl (.c 4 rfl (.c 5 rfl (.c 6 rfl (.c 7 rfl .nil))))) (kc63 _ _ ⟨b76, (vvt.getD x73.toNat vz), x73, i273, h273, rfl, q94, hx73, hi273, gw81, f89, f91, by omega⟩))
    refine sx_alloc [.string (⟨#[]⟩), .string (⟨#[]⟩), .bool false, (.slice none 0 0), .int .i64 0] rfl Tryz.zeroValue75 rfl (fun b95 w96 eb95 sb95 fb95 cb95 => ?_)
    have zw96 := cb95.size
    have s97 : Chg c (c + 1) w'11 w96 := (Chg.zero (l := c) (h := (c + 1)) (d70.t cb95))
    refine wl_nil ?_
    refine dx_next s97 ?_
    refine dx_eff 6 rfl (by kernel_rfl) ?_
    have f99 := (xc.ext d70).ext cb95
    have f101 := (f67.ext d70).ext cb95
    refine sx_call rfl rfl Tryz.call17 (c_l01Below f99 f101 (by assumption) (by omega) (by omega) (by omega) (by omega)) (fun v102 w102 p102 => ?_)
    obtain ⟨x102, i2102, h2102, rfl, xc_102, hx102, hi2102, c102⟩ := p102
    have zw102 := c102.size
    have q104 := Chg.step (l := c) (h := (c + 1)) (Chg.zero (l := c) (h := (c + 1)) (d70.t cb95)) c102 (by omega)
    have s103 : Chg c (c + 1) w'11 w102 := q104
    refine wl_nil ?_
    refine dx_next s103 ?_
    refine dt 7 rfl rfl rfl rfl s103 (fun _ hS => px_indexK (j := x102.toNat) rfl rfl (by omega) Tryz.underlying23 Tryz.sizeOf75 ((f69.sv).chg hS (by omega)) (by omega)) ?_
    refine dt 8 rfl rfl rfl rfl s103 (fun _ hS => px_load rfl (((f69.sv).chg hS (by omega)).loadA (rt_look f69.len (by omega)) Tryz.isAgg75 Tryz.sizeOf75)) ?_
    refine dx_eff 10 rfl (by kernel_rfl) ?_
    have f106 := fb95.chg c102 (by omega)
    have f108 := ((f69.nest x102.toNat (by omega)).ext d70).ext cb95
    have f109 := f108.chg c102 (by omega)
    refine sx_store (vs := [.string ((ts.getD x102.toNat rt0).1), .string ((ts.getD x102.toNat rt0).2.1), .bool ((ts.getD x102.toNat rt0).2.2.1), (vvt.getD x102.toNat vz), .int .i64 ((ts.getD x102.toNat rt0).2.2.2.2)]) rfl rfl f106 rfl Tryz.sizeOf75 (nbl rfl) (one_cons rfl (one_cons rfl (one_cons rfl (one_cons f109.one (o1 rfl))))) (fun w105 sw105 fw105 cw105 => ?_)
    have zw105 := cw105.size
    have gw105 : Blk w105 b95 [.string ((ts.getD x102.toNat rt0).1), .string ((ts.getD x102.toNat rt0).2.1), .bool ((ts.getD x102.toNat rt0).2.2.1), (vvt.getD x102.toNat vz), .int .i64 ((ts.getD x102.toNat rt0).2.2.2.2)] 75 := fw105
    have q111 := Chg.step (l := c) (h := (c + 1)) (Chg.zero (l := c) (h := (c + 1)) (d70.t cb95)) c102 (by omega)
    have q112 := Chg.step (l := c) (h := (c + 1)) q111 cw105 (by omega)
    have s110 : Chg c (c + 1) w'11 w105 := q112
    refine wl_nil ?_
    refine dx_next s110 ?_
    refine dx_done (by kernel_rfl) ?_
    have f113 := f109.chg cw105 (by omega)
    have f114 := xc_102.chg cw105 (by omega)
    have q115 := Chg.step (l := c) (h := (c + 1)) (Chg.zero (l := c) (h := (c + 1)) (d70.t cb95)) c102 (by omega)
    have q116 := Chg.step (l := c) (h := (c + 1)) q115 cw105 (by omega)
    exact q_n (kw_sub (Sub.c 0 rfl (.c 4 rfl (.c 5 rfl (.c 6 rfl (.c 7 rfl .nil))))) (kc63 _ _ ⟨b95, (vvt.getD x102.toNat vz), x102, i2102, h2102, rfl, q116, hx102, hi2102, gw105, f113, f114, by omega⟩))
   rintro fr w'63 ⟨gb63x0, gs63x1, gi63x0, gi63x1, gi63x2, rfl, cw'63, pp63x1, pp63x2, xgb63x0, xgs63x1, xc, ygb63x0⟩
   have zw'63 := cw'63.size
   refine sx_seq fun K117 k117 => ?_
   refine sx_seq fun K118 k118 => sx_region ?_
   refine mv rfl rfl ?_
   have f120 := (f8.chg c9 (by omega)).chg cw'11 (by omega)
   have f121 := f120.chg cw'63 (by omega)
   refine sx_call rfl rfl Tryz.call17 (c_l01Below xc f121 (by assumption) (by omega) (by omega) (by omega) (by omega)) (fun v122 w122 p122 => ?_)
   obtain ⟨x122, i2122, h2122, rfl, xc_122, hx122, hi2122, c122⟩ := p122
   have zw122 := c122.size
   refine wl_nil (q_n (k118 _ _ ?_))
   refine sx_block ?_
   refine sx_seq fun K123 k123 => sx_region ?_
   refine sp rfl (px_eq rfl rfl) ?_
   refine av rfl rfl (wl_nil (q_n (k123 _ _ ?_)))
   refine sx_condP rfl (fun h211 => ?_) (fun h211 => ?_)
   ·
    refine sx_seq fun K124 k124 => ?_
    have f126 := (fb2.chg c9 (by omega)).chg cw'11 (by omega)
    have f127 := f126.chg cw'63 (by omega)
    have f128 := f127.chg c122 (by omega)
    have f129 := xgb11x0.chg cw'63 (by omega)
    have f130 := f129.chg c122 (by omega)
    have f131 := xgb63x0.chg c122 (by omega)
    have f132 := f121.chg c122 (by omega)
    have f134 := (f6.chg c9 (by omega)).chg cw'11 (by omega)
    have f135 := f134.chg cw'63 (by omega)
    have f136 := f135.chg c122 (by omega)
    have f137 := xgs11x1.chg cw'63 (by omega)
    have f138 := f137.chg c122 (by omega)
    have f139 := xgs63x1.chg c122 (by omega)
    refine dx_region (fun w' => Chg 0 0 w122 w') (by kernel_rfl) (Chg.zero (Chg.drew _)) ?_
    have d140 := Chg.drew w122
    have s140 : Chg 0 0 w122 (World.drew w122) := Chg.zero (Chg.drew _)
    have y140 : (World.drew w122).heap.size = w122.heap.size := rfl
    generalize World.drew w122 = w140 at *
    have zw140 := d140.size
    refine dt 0 rfl rfl rfl rfl s140 (fun _ hS => px_field rfl xfld75x0) ?_
    refine dt 1 rfl rfl rfl rfl s140 (fun _ hS => px_load rfl ((f130.chg hS (by omega)).load1 rfl Tryz.isAgg9)) ?_
    refine dt 2 rfl rfl rfl rfl s140 (fun _ hS => px_field rfl xfld75x1) ?_
    refine dt 3 rfl rfl rfl rfl s140 (fun _ hS => px_load rfl ((f131.chg hS (by omega)).load1 rfl Tryz.isAgg9)) ?_
    refine dt 4 rfl rfl rfl rfl s140 (fun _ hS => px_assign rfl) ?_
    refine dt 5 rfl rfl rfl rfl s140 (fun _ hS => px_assign rfl) ?_
    refine dx_done (by kernel_rfl) ?_
    refine q_n (k124 _ _ ?_)
    refine sx_retc ?_
    refine q_br (q_r (q_r (sx_ret2 Tryz.results15 rfl rfl ?_)))
    have f141 := xc_122.ext d140
    have q142 := Chg.step (l := c) (h := (c + 1)) (Chg.zero (l := c) (h := (c + 1)) cb2) c9 (by omega)
    have q143 := Chg.step (l := c) (h := (c + 1)) q142 cw'11 (by omega)
    have q144 := Chg.step (l := c) (h := (c + 1)) q143 cw'63 (by omega)
    have q145 := Chg.step (l := c) (h := (c + 1)) q144 c122 (by omega)
    have q146 := Chg.step (l := c) (h := (c + 1)) q145 d140 (by omega)
    exact ⟨_, _, _, _, rfl, f141, by omega, q146⟩
   refine sx_seq fun K147 k147 => sx_region ?_
   refine sp rfl (px_eq rfl rfl) ?_
   refine av rfl rfl (wl_nil (q_n (k147 _ _ ?_)))
   refine sx_condP rfl (fun h213 => ?_) (fun h213 => ?_)
   ·
    refine sx_seq fun K148 k148 => ?_
    have f150 := (fb2.chg c9 (by omega)).chg cw'11 (by omega)
    have f151 := f150.chg cw'63 (by omega)
    have f152 := f151.chg c122 (by omega)
    have f153 := xgb11x0.chg cw'63 (by omega)
    have f154 := f153.chg c122 (by omega)
    have f155 := xgb63x0.chg c122 (by omega)
    have f156 := f121.chg c122 (by omega)
    have f158 := (f6.chg c9 (by omega)).chg cw'11 (by omega)
    have f159 := f158.chg cw'63 (by omega)
    have f160 := f159.chg c122 (by omega)
    have f161 := xgs11x1.chg cw'63 (by omega)
    have f162 := f161.chg c122 (by omega)
    have f163 := xgs63x1.chg c122 (by omega)
    refine dx_region (fun w' => Chg 0 0 w122 w') (by kernel_rfl) (Chg.zero (Chg.drew _)) ?_
    have d164 := Chg.drew w122
    have s164 : Chg 0 0 w122 (World.drew w122) := Chg.zero (Chg.drew _)
    have y164 : (World.drew w122).heap.size = w122.heap.size := rfl
    generalize World.drew w122 = w164 at *
    have zw164 := d164.size
    refine dt 0 rfl rfl rfl rfl s164 (fun _ hS => px_field rfl xfld75x1) ?_
    refine dt 1 rfl rfl rfl rfl s164 (fun _ hS => px_load rfl ((f154.chg hS (by omega)).load1 rfl Tryz.isAgg9)) ?_
    refine dt 2 rfl rfl rfl rfl s164 (fun _ hS => px_field rfl xfld75x0) ?_
    refine dt 3 rfl rfl rfl rfl s164 (fun _ hS => px_load rfl ((f154.chg hS (by omega)).load1 rfl Tryz.isAgg9)) ?_
    refine dt 4 rfl rfl rfl rfl s164 (fun _ hS => px_assign rfl) ?_
    refine dt 5 rfl rfl rfl rfl s164 (fun _ hS => px_assign rfl) ?_
    refine dx_done (by kernel_rfl) ?_
    refine q_n (k148 _ _ ?_)
    refine sx_sub (Sub.c 0 rfl (.c 4 rfl (.c 5 rfl (.c 6 rfl (.c 7 rfl .nil))))) ?_
    refine sx_retc ?_
    refine q_br (q_r (q_r (sx_ret2 Tryz.results15 rfl rfl ?_)))
    have f165 := xc_122.ext d164
    have q166 := Chg.step (l := c) (h := (c + 1)) (Chg.zero (l := c) (h := (c + 1)) cb2) c9 (by omega)
    have q167 := Chg.step (l := c) (h := (c + 1)) q166 cw'11 (by omega)
    have q168 := Chg.step (l := c) (h := (c + 1)) q167 cw'63 (by omega)
    have q169 := Chg.step (l := c) (h := (c + 1)) q168 c122 (by omega)
    have q170 := Chg.step (l := c) (h := (c + 1)) q169 d164 (by omega)
    exact ⟨_, _, _, _, rfl, f165, by omega, q170⟩
   refine sx_skip ?_
   refine q_bn (q_n (k117 _ _ ?_))
   refine sx_seq fun K171 k171 => ?_
   have f173 := (fb2.chg c9 (by omega)).chg cw'11 (by omega)
   have f174 := f173.chg cw'63 (by omega)
   have f175 := f174.chg c122 (by omega)
   have f176 := xgb11x0.chg cw'63 (by omega)
   have f177 := f176.chg c122 (by omega)
   have f178 := xgb63x0.chg c122 (by omega)
   have f179 := f121.chg c122 (by omega)
   have f181 := (f6.chg c9 (by omega)).chg cw'11 (by omega)
   have f182 := f181.chg cw'63 (by omega)
   have f183 := f182.chg c122 (by omega)
   have f184 := xgs11x1.chg cw'63 (by omega)
   have f185 := f184.chg c122 (by omega)
   have f186 := xgs63x1.chg c122 (by omega)
   refine dx_region (fun w' => Chg 0 0 w122 w') (by kernel_rfl) (Chg.zero (Chg.drew _)) ?_
   have d187 := Chg.drew w122
   have s187 : Chg 0 0 w122 (World.drew w122) := Chg.zero (Chg.drew _)
   have y187 : (World.drew w122).heap.size = w122.heap.size := rfl
   generalize World.drew w122 = w187 at *
   have zw187 := d187.size
   refine dt 0 rfl rfl rfl rfl s187 (fun _ hS => px_field rfl xfld75x0) ?_
   refine dt 1 rfl rfl rfl rfl s187 (fun _ hS => px_load rfl ((f177.chg hS (by omega)).load1 rfl Tryz.isAgg9)) ?_
   refine dt 2 rfl rfl rfl rfl s187 (fun _ hS => px_field rfl xfld75x0) ?_
   refine dt 3 rfl rfl rfl rfl s187 (fun _ hS => px_load rfl ((f178.chg hS (by omega)).load1 rfl Tryz.isAgg9)) ?_
   refine dt 4 rfl rfl rfl rfl s187 (fun _ hS => px_assign rfl) ?_
   refine dt 5 rfl rfl rfl rfl s187 (fun _ hS => px_assign rfl) ?_
   refine dx_done (by kernel_rfl) ?_
   refine q_n (k171 _ _ ?_)
   refine sx_sub (Sub.c 0 rfl (.c 4 rfl (.c 5 rfl .nil))) ?_
   refine sx_retc ?_
   refine q_r (sx_ret2 Tryz.results15 rfl rfl ?_)
   have f188 := xc_122.ext d187
   have q189 := Chg.step (l := c) (h := (c + 1)) (Chg.zero (l := c) (h := (c + 1)) cb2) c9 (by omega)
   have q190 := Chg.step (l := c) (h := (c + 1)) q189 cw'11 (by omega)
   have q191 := Chg.step (l := c) (h := (c + 1)) q190 cw'63 (by omega)
   have q192 := Chg.step (l := c) (h := (c + 1)) q191 c122 (by omega)
   have q193 := Chg.step (l := c) (h := (c + 1)) q192 d187 (by omega)
   exact ⟨_, _, _, _, rfl, f188, by omega, q193⟩
  refine sx_skip ?_
  refine q_n (k4 _ _ ?_)
  refine sx_seq fun K194 k194 => sx_region ?_
  refine mv rfl rfl ?_
  have f195 := f8.chg c9 (by omega)
  refine sx_call rfl rfl Tryz.call40 (c_l08Any xc_9 f195 (by assumption) (by omega) (by omega) (by omega)) (fun v196 w196 p196 => ?_)
  obtain ⟨s196, i2196, h2196, rfl, xc_196, hi2196, c196⟩ := p196
  have zw196 := c196.size
  refine mv rfl rfl ?_
  have f197 := f195.chg c196 (by omega)
  refine sx_call rfl rfl Tryz.call41 (c_l08Cur xc_196 f197 (by assumption) (by omega) (by omega) (by omega)) (fun v198 w198 p198 => ?_)
  obtain ⟨s198, i2198, h2198, rfl, xc_198, hk198, hi2198, c198⟩ := p198
  have zw198 := c198.size
  refine av rfl rfl (av rfl rfl (wl_nil (q_n (k194 _ _ ?_))))
  refine sx_sub (Sub.c 4 rfl (.c 5 rfl .nil)) ?_
  refine sx_retc ?_
  refine sx_ret2 Tryz.results15 rfl rfl ?_
  have q199 := Chg.step (l := c) (h := (c + 1)) (Chg.zero (l := c) (h := (c + 1)) cb2) c9 (by omega)
  have q200 := Chg.step (l := c) (h := (c + 1)) q199 c196 (by omega)
  have q201 := Chg.step (l := c) (h := (c + 1)) q200 c198 (by omega)
  exact ⟨_, _, _, _, rfl, xc_198, by omega, q201⟩
 refine sx_guardF rfl rfl rfl rfl rfl rfl ?_
 refine sx_guardF rfl rfl rfl rfl rfl rfl ?_
 refine sx_guardF rfl rfl rfl rfl rfl rfl ?_
 refine sp rfl (px_pick rfl rfl) ?_
 refine wl_nil (q_n (k5 _ _ ?_))
 refine sx_condF rfl ?_
 refine sx_skip ?_
 refine q_n (k4 _ _ ?_)
 refine sx_seq fun K202 k202 => sx_region ?_
 refine mv rfl rfl ?_
 have f203 := hc.ext cb2
 have f204 := hvb.ext cb2
 refine sx_call rfl rfl Tryz.call40 (c_l08Any f203 f204 (by assumption) (by omega) (by omega) (by omega)) (fun v205 w205 p205 => ?_)
 obtain ⟨s205, i2205, h2205, rfl, xc_205, hi2205, c205⟩ := p205
 have zw205 := c205.size
 refine mv rfl rfl ?_
 have f206 := f204.chg c205 (by omega)
 refine sx_call rfl rfl Tryz.call41 (c_l08Cur xc_205 f206 (by assumption) (by omega) (by omega) (by omega)) (fun v207 w207 p207 => ?_)
 obtain ⟨s207, i2207, h2207, rfl, xc_207, hk207, hi2207, c207⟩ := p207
 have zw207 := c207.size
 refine av rfl rfl (av rfl rfl (wl_nil (q_n (k202 _ _ ?_))))
 refine sx_sub (Sub.c 4 rfl (.c 5 rfl .nil)) ?_
 refine sx_retc ?_
 refine sx_ret2 Tryz.results15 rfl rfl ?_
 have q208 := Chg.step (l := c) (h := (c + 1)) (Chg.zero (l := c) (h := (c + 1)) cb2) c205 (by omega)
 have q209 := Chg.step (l := c) (h := (c + 1)) q208 c207 (by omega)
 exact ⟨_, _, _, _, rfl, xc_207, by omega, q209⟩

theorem c_MakeRates {w : World} {vb : Value} {lvb uvb : Nat} {bs : List Int} (hvb : SlB w lvb uvb vb (bs)) (hb8 : ∀ j, j < bs.length → 0 ≤ bs.getD j 0 ∧ bs.getD j 0 ≤ 255) (hbl : bs.length ≤ 1048576) :
  Ret Tryz.prog 4 [vb] w fun v w' => ∃ s qv ts us a b, v = .tuple #[.agg #[.string (qv), s], .string (a), .string (b)] ∧ RtS w' (w.heap.size) (w'.heap.size) s (ts) us ∧ (RsOk qv ts) ∧ (∀ i, i < (ts).length → SmR ((ts).getD i rt0)) ∧ Chg 0 0 w w' := by
 have hvb0 := hvb.fit
 refine sx_enter Tryz.func4 rfl Tryz.ntmps4 (nbl rfl) ?_
 refine sx_seq fun K1 k1 => sx_region ?_
 refine sx_alloc [.string (⟨#[]⟩), (.slice none 0 0)] rfl Tryz.zeroValue25 rfl (fun b2 w3 eb2 sb2 fb2 cb2 => ?_)
 have zw3 := cb2.size
 refine av rfl rfl (av rfl rfl (wl_nil (q_n (k1 _ _ ?_))))
 refine sx_seq fun K4 k4 => sx_region ?_
 refine mv rfl rfl ?_
 have f5 := hvb0.ext cb2
 refine sx_call rfl rfl Tryz.call13 (c_l01New f5 (by assumption) (by omega)) (fun v6 w6 p6 => ?_)
 obtain ⟨c6, h26, rfl, xc_6, hh6, hc6, cq6⟩ := p6
 have zw6 := cq6.size
 refine av rfl rfl (wl_nil (q_n (k4 _ _ ?_)))
 refine sx_seq fun K7 k7 => sx_region ?_
 refine mv rfl rfl ?_
 have f8 := f5.ext cq6
 refine sx_call rfl rfl Tryz.call14 (c_l10Table xc_6 f8 (by assumption) (by omega) (by omega) (by omega)) (fun v9 w9 p9 => ?_)
 obtain ⟨s9, qv9, ts9, us9, i29, h29, rfl, os_9, xc_9, hT9, hsm9, hi29, c9⟩ := p9
 have zw9 := c9.size
 have hl12 := hT9.2.1
 refine sx_alloc [.string (⟨#[]⟩), (.slice none 0 0)] rfl Tryz.zeroValue25 rfl (fun b10 w11 eb10 sb10 fb10 cb10 => ?_)
 have zw11 := cb10.size
 have f13 := os_9.ext cb10
 refine sx_store (vs := [.string qv9, s9]) rfl rfl fb10 rfl Tryz.sizeOf25 (nbl rfl) (one_cons rfl (one_cons f13.one one_nil)) (fun w12 sw12 fw12 cw12 => ?_)
 have zw12 := cw12.size
 have gw12 : Blk w12 b10 [.string qv9, s9] 25 := fw12
 refine wl_nil (q_n (k7 _ _ ?_))
 refine sx_seq fun K14 k14 => sx_region ?_
 refine mv rfl rfl (sp rfl (px_load rfl (gw12.loadA (vs := [.string qv9, s9]) (look_lit rfl) Tryz.isAgg25 Tryz.sizeOf25)) ?_)
 have f15 := xc_9.ext cb10
 have f16 := f15.chg cw12 (by omega)
 have f18 := (f8.chg c9 (by omega)).ext cb10
 have f19 := f18.chg cw12 (by omega)
 have f20 := f13.chg cw12 (by omega)
 refine sx_call rfl rfl Tryz.call15 (c_l10Pair f16 f19 f20 (by assumption) (by omega) (by omega) (by omega) (by omega) (by omega) (by omega)) (fun v21 w21 p21 => ?_)
 obtain ⟨a21, b21, i221, h221, rfl, xc_21, hi221, c21⟩ := p21
 have zw21 := c21.size
 refine mv rfl rfl (sp rfl (px_ex2 rfl rfl) ?_)
 refine sp rfl (px_ex2 rfl rfl) ?_
 refine av rfl rfl (av rfl rfl (wl_nil (q_n (k14 _ _ ?_))))
 refine sx_sub (Sub.c 2 rfl (.c 3 rfl (.c 4 rfl (.c 6 rfl (.c 7 rfl (.c 8 rfl .nil)))))) ?_
 refine sx_seq fun K22 k22 => sx_region ?_
 have f23 := gw12.chg c21 (by omega)
 refine sp rfl (px_load rfl (f23.loadA (vs := [.string qv9, s9]) (look_lit rfl) Tryz.isAgg25 Tryz.sizeOf25)) ?_
 refine mv rfl rfl (mv rfl rfl ?_)
 have f25 := fb2.ext cq6
 have f27 := (f25.chg c9 (by omega)).ext cb10
 have f28 := f27.chg cw12 (by omega)
 have f29 := f28.chg c21 (by omega)
 have f30 := f20.chg c21 (by omega)
 refine sx_store (vs := [.string qv9, s9]) rfl rfl f29 rfl Tryz.sizeOf25 (nbl rfl) (one_cons rfl (one_cons f30.one one_nil)) (fun w24 sw24 fw24 cw24 => ?_)
 have zw24 := cw24.size
 have gw24 : Blk w24 b2 [.string qv9, s9] 25 := fw24
 refine av rfl rfl (av rfl rfl (wl_nil (q_n (k22 _ _ ?_))))
 refine sx_retc ?_
 refine sx_ret3 Tryz.results4 ⟨_, rfl, gw24.loadA (vs := [.string qv9, s9]) (look_lit rfl) Tryz.isAgg25 Tryz.sizeOf25⟩ rfl rfl ?_
 have f31 := f30.chg cw24 (by omega)
 have q32 := Chg.step (l := 0) (h := 0) (Chg.zero (l := 0) (h := 0) (cb2.t cq6)) c9 (by omega)
 have q33 := Chg.step (l := 0) (h := 0) q32 cb10 (by omega)
 have q34 := Chg.step (l := 0) (h := 0) q33 cw12 (by omega)
 have q35 := Chg.step (l := 0) (h := 0) q34 c21 (by omega)
 have q36 := Chg.step (l := 0) (h := 0) q35 cw24 (by omega)
 exact ⟨_, _, _, _, _, _, rfl, (f31).mono (by omega) (by omega), by assumption, by assumption, q36⟩

theorem c_currencyOf {w : World} {s : ByteArray} (hG0 : Glob w) :
  Ret Tryz.prog 71 [.string s] w fun v w' => v = .tuple #[.agg #[.string ((curOf s).code), .string ((curOf s).number), .int .i64 ((curOf s).places), .int .i64 ((curOf s).cash)], .bool (decide (Known s))] ∧ Chg 0 0 w w' := by
 refine sx_enter Tryz.func71 rfl Tryz.ntmps71 (nbl rfl) ?_
 refine sx_seq fun K1 k1 => sx_region ?_
 refine sx_alloc [.string (⟨#[]⟩), .string (⟨#[]⟩), .int .i64 0, .int .i64 0] rfl Tryz.zeroValue111 rfl (fun b2 w3 eb2 sb2 fb2 cb2 => ?_)
 have zw3 := cb2.size
 refine av rfl rfl (wl_nil (q_n (k1 _ _ ?_)))
 refine sx_seq fun K4 k4 => ?_
 refine sx_seq fun K5 k5 => sx_region ?_
 have f6 := hG0.ext cb2
 refine sp rfl (px_load rfl (Glob.load f6 Tryz.isAgg125 Tryz.sizeOf125)) ?_
 refine mv rfl rfl (wl_nil (q_n (k5 _ _ ?_)))
 refine sx_block ?_
 refine sx_loop (fun mm aa w' => ∃ (k : Nat), Agr 17 [(0, .string s), (2, .pointer (some ⟨b2, 0, none⟩)), (6, .agg (crCells tabI).toArray), (7, .int .i64 ↑k)] aa ∧ Chg 0 0 w3 w' ∧ (mm = 20 - k) ∧ (k ≤ 20) ∧ (∀ i, i < k → ¬ (tabI.getD i cr0).code = s)) (20) (fun a ha => ⟨0, ha.sub (Sub.c 0 rfl (.c 2 rfl (.c 6 rfl (.c 7 (look_int (t := 7) rfl (by first | omega | simp)) .nil)))), Chg.refl _ _ _, rfl, by omega, fun i h => by omega⟩) ?_
 rintro mm aa wl7 ⟨k, hAwl7, cwl7, hm, hk, hn⟩
 refine (show cw Tryz.prog 17 _ _ _ wl7 from ?_) aa hAwl7
 clear hAwl7
 have zwl7 := cwl7.size
 refine sx_seq fun K8 k8 => sx_region ?_
 refine sp rfl (px_lt rfl rfl) ?_
 refine wl_nil (q_n (k8 _ _ ?_))
 refine sx_seq fun K9 k9 => ?_
 refine sx_condP rfl (fun h39 => ?_) (fun h39 => ?_)
 ·
  refine sx_skip ?_
  refine q_n (k9 _ _ ?_)
  refine sx_seq fun K10 k10 => ?_
  refine sx_block ?_
  refine sx_seq fun K11 k11 => sx_region ?_
  refine sp rfl (px_indexCr (l := tabI) (j := k) rfl rfl (by omega) Tryz.underlying125 rfl Tryz.sizeOf111 Tryz.isAgg111 (by rw [show tabI.length = 20 from rfl]; omega)) ?_
  refine sx_alloc [.string (⟨#[]⟩), .string (⟨#[]⟩), .int .i64 0, .int .i64 0] rfl Tryz.zeroValue111 rfl (fun b12 w13 eb12 sb12 fb12 cb12 => ?_)
  have zw13 := cb12.size
  refine sx_store (vs := [.string ((tabI.getD k cr0).code), .string ((tabI.getD k cr0).number), .int .i64 ((tabI.getD k cr0).places), .int .i64 ((tabI.getD k cr0).cash)]) rfl rfl fb12 rfl Tryz.sizeOf111 (nbl rfl) (one_cons rfl (o3 rfl rfl rfl)) (fun w14 sw14 fw14 cw14 => ?_)
  have zw14 := cw14.size
  have gw14 : Blk w14 b12 [.string ((tabI.getD k cr0).code), .string ((tabI.getD k cr0).number), .int .i64 ((tabI.getD k cr0).places), .int .i64 ((tabI.getD k cr0).cash)] 111 := fw14
  refine wl_nil (q_n (k11 _ _ ?_))
  refine sx_seq fun K15 k15 => sx_region ?_
  refine sp rfl (px_field rfl xfld111x0) ?_
  refine sp rfl (px_load rfl (gw14.load1 rfl Tryz.isAgg9)) ?_
  refine mv rfl rfl (sp rfl (px_eqS rfl rfl) ?_)
  refine wl_nil (q_n (k15 _ _ ?_))
  refine sx_condP rfl (fun h40 => ?_) (fun h40 => ?_)
  ·
   refine sx_seq fun K16 k16 => sx_region ?_
   refine sp rfl (px_load rfl (gw14.loadA (vs := [.string ((tabI.getD k cr0).code), .string ((tabI.getD k cr0).number), .int .i64 ((tabI.getD k cr0).places), .int .i64 ((tabI.getD k cr0).cash)]) (look_lit rfl) Tryz.isAgg111 Tryz.sizeOf111)) ?_
   have f18 := fb2.ext cwl7
   have f19 := f18.ext cb12
   have f20 := f19.chg cw14 (by omega)
   refine sx_store (vs := [.string ((tabI.getD k cr0).code), .string ((tabI.getD k cr0).number), .int .i64 ((tabI.getD k cr0).places), .int .i64 ((tabI.getD k cr0).cash)]) rfl rfl f20 rfl Tryz.sizeOf111 (nbl rfl) (one_cons rfl (o3 rfl rfl rfl)) (fun w17 sw17 fw17 cw17 => ?_)
   have zw17 := cw17.size
   have gw17 : Blk w17 b2 [.string ((tabI.getD k cr0).code), .string ((tabI.getD k cr0).number), .int .i64 ((tabI.getD k cr0).places), .int .i64 ((tabI.getD k cr0).cash)] 111 := fw17
   refine av rfl rfl (wl_nil (q_n (k16 _ _ ?_)))
   refine sx_retc ?_
   refine q_br (q_r (q_r (q_br (q_r (sx_ret2 Tryz.results71 ⟨_, rfl, gw17.loadA (vs := [.string ((tabI.getD k cr0).code), .string ((tabI.getD k cr0).number), .int .i64 ((tabI.getD k cr0).places), .int .i64 ((tabI.getD k cr0).cash)]) (look_lit rfl) Tryz.isAgg111 Tryz.sizeOf111⟩ rfl ?_)))))
   have e := curOf_some (by rw [show tabI.length = 20 from rfl]; omega) hn h40
   have e2 := known_some (by rw [show tabI.length = 20 from rfl]; omega) hn h40
   rw [e]
   have q21 := Chg.step (l := 0) (h := 0) (Chg.zero (l := 0) (h := 0) ((cb2.t cwl7).t cb12)) cw14 (by omega)
   have q22 := Chg.step (l := 0) (h := 0) q21 cw17 (by omega)
   exact ⟨by simp [e2], q22⟩
  refine sx_skip ?_
  refine q_bn (q_n (k10 _ _ ?_))
  refine sx_region ?_
  refine sp rfl (px_add rfl rfl (by omega)) ?_
  refine mv rfl rfl (wl_nil ?_)
  have q23 := Chg.step (l := 0) (h := 0) (Chg.zero (l := 0) (h := 0) (cwl7.t cb12)) cw14 (by omega)
  exact fun a ha => ⟨_, by omega, (k + 1), ha.sub (Sub.c 0 rfl (.c 2 rfl (.c 6 rfl (.c 7 (look_int (t := 7) rfl (by first | omega | simp)) .nil)))), q23, rfl, by omega, upto_succ hn h40⟩
 refine sx_exit ?_
 refine q_e (q_e (q_bx (q_n (k4 _ _ ?_))))
 refine sx_seq fun K24 k24 => sx_region ?_
 refine sp rfl (px_build rfl (xbld111x  _)) ?_
 have f26 := fb2.ext cwl7
 refine sx_store (vs := [.string (⟨#[]⟩), .string (⟨#[]⟩), .int .i64 0, .int .i64 0]) rfl rfl f26 rfl Tryz.sizeOf111 (nbl rfl) (one_cons rfl (o3 rfl rfl rfl)) (fun w25 sw25 fw25 cw25 => ?_)
 have zw25 := cw25.size
 have gw25 : Blk w25 b2 [.string (⟨#[]⟩), .string (⟨#[]⟩), .int .i64 0, .int .i64 0] 111 := fw25
 refine av rfl rfl (wl_nil (q_n (k24 _ _ ?_)))
 refine sx_retc ?_
 refine sx_ret2 Tryz.results71 ⟨_, rfl, gw25.loadA (vs := [.string (⟨#[]⟩), .string (⟨#[]⟩), .int .i64 0, .int .i64 0]) (look_lit rfl) Tryz.isAgg111 Tryz.sizeOf111⟩ rfl ?_
 have e := curOf_none (s := s) (fun i hi => hn i (by rw [show tabI.length = 20 from rfl] at hi; omega))
 have e2 := known_none (s := s) (fun i hi => hn i (by rw [show tabI.length = 20 from rfl] at hi; omega))
 rw [e]
 have q27 := Chg.step (l := 0) (h := 0) (Chg.zero (l := 0) (h := 0) (cb2.t cwl7)) cw25 (by omega)
 exact ⟨by simp [e2, cr0], q27⟩

theorem c_iCurKnown {w : World} {s : ByteArray} (hG0 : Glob w) :
  Ret Tryz.prog 45 [.string s] w fun v w' => v = .bool (decide (Known s)) ∧ Chg 0 0 w w' := by
 refine sx_enter Tryz.func45 rfl Tryz.ntmps45 (nbl rfl) ?_
 refine sx_seq fun K1 k1 => sx_region ?_
 refine av rfl rfl (wl_nil (q_n (k1 _ _ ?_)))
 refine sx_seq fun K2 k2 => sx_region ?_
 refine mv rfl rfl (sx_call rfl rfl Tryz.call71 (c_currencyOf hG0) (fun v3 w3 p3 => ?_))
 obtain ⟨rfl, c3⟩ := p3
 have zw3 := c3.size
 refine mv rfl rfl (sp rfl (px_ex2 rfl rfl) ?_)
 refine sp rfl (px_ex2 rfl rfl) ?_
 refine sx_alloc [.string (⟨#[]⟩), .string (⟨#[]⟩), .int .i64 0, .int .i64 0] rfl Tryz.zeroValue111 rfl (fun b4 w5 eb4 sb4 fb4 cb4 => ?_)
 have zw5 := cb4.size
 refine sx_store (vs := [.string ((curOf s).code), .string ((curOf s).number), .int .i64 ((curOf s).places), .int .i64 ((curOf s).cash)]) rfl rfl fb4 rfl Tryz.sizeOf111 (nbl rfl) (one_cons rfl (o3 rfl rfl rfl)) (fun w6 sw6 fw6 cw6 => ?_)
 have zw6 := cw6.size
 have gw6 : Blk w6 b4 [.string ((curOf s).code), .string ((curOf s).number), .int .i64 ((curOf s).places), .int .i64 ((curOf s).cash)] 111 := fw6
 refine av rfl rfl (wl_nil (q_n (k2 _ _ ?_)))
 refine sx_seq fun K7 k7 => sx_region ?_
 refine mv rfl rfl (av rfl rfl (wl_nil (q_n (k7 _ _ ?_))))
 refine sx_retc ?_
 refine sx_ret1 Tryz.results45 rfl ?_
 have q8 := Chg.step (l := 0) (h := 0) (Chg.zero (l := 0) (h := 0) (c3.t cb4)) cw6 (by omega)
 exact ⟨rfl, q8⟩

theorem c_iNatOk {w : World} {va : Value} {lva uva : Nat} {zs : List Int} (hva : Sl w lva uva va (zs)) (h63 : zs.length ≤ 4611686018427387904) :
  Ret Tryz.prog 72 [va] w fun v w' => v = .bool (decide (NOk zs)) ∧ Chg 0 0 w w' := by
 have hva0 := hva.fit
 refine sx_enter Tryz.func72 rfl Tryz.ntmps72 (nbl rfl) ?_
 refine sx_seq fun K1 k1 => sx_region ?_
 refine av rfl rfl (wl_nil (q_n (k1 _ _ ?_)))
 refine sx_seq fun K2 k2 => ?_
 refine sx_seq fun K3 k3 => sx_region ?_
 refine mv rfl rfl (sp rfl (px_len rfl Tryz.underlying28 hva0) ?_)
 refine sp rfl (px_gt rfl rfl) ?_
 refine mv rfl rfl ?_
 refine sx_tmpP (t := 8) rfl (fun h13 => ?_) (fun h13 => ?_)
 ·
  refine sx_guardF rfl rfl rfl rfl rfl rfl ?_
  refine sx_guardF rfl rfl rfl rfl rfl rfl ?_
  refine sx_guardF rfl rfl rfl rfl rfl rfl ?_
  refine sx_guardF rfl rfl rfl rfl rfl rfl ?_
  refine sx_guardFU rfl rfl rfl rfl rfl ?_
  refine sx_guardFU rfl rfl rfl rfl rfl ?_
  refine sx_guardFU rfl rfl rfl rfl rfl ?_
  refine sx_guardFU rfl rfl rfl rfl rfl ?_
  refine sx_guardFU rfl rfl rfl rfl rfl ?_
  refine sx_guardFU rfl rfl rfl rfl rfl ?_
  refine sx_guardFU rfl rfl rfl rfl rfl ?_
  refine sx_guardF rfl rfl rfl rfl rfl rfl ?_
  refine sp rfl (px_pick rfl rfl) ?_
  refine wl_nil (q_n (k3 _ _ ?_))
  refine sx_sub (Sub.c 0 rfl (.c 2 rfl (.c 21 rfl .nil))) ?_
  refine sx_condT rfl ?_
  refine sx_seq fun K4 k4 => sx_region ?_
  refine av rfl rfl (wl_nil (q_n (k4 _ _ ?_)))
  refine sx_retc ?_
  refine q_r (sx_ret1 Tryz.results72 rfl ?_)
  exact ⟨bFalse (fun h => by first | (have h1 := h.2.1; omega) | exact h.2.2 ((last_getD (by omega)).2 (by assumption))), (Chg.refl 0 0 _)⟩
 refine sx_guardT rfl rfl rfl ?_
 refine mv rfl rfl ?_
 refine sx_guardT rfl rfl rfl ?_
 refine sp rfl (px_len rfl Tryz.underlying28 hva0) ?_
 refine sx_guardT rfl rfl rfl ?_
 refine sp rfl (px_gt rfl rfl) ?_
 refine sx_guardT rfl rfl rfl ?_
 refine mv rfl rfl ?_
 refine sx_tmpP (t := 12) rfl (fun h13x1 => ?_) (fun h13x1 => ?_)
 ·
  refine sx_guardT rfl rfl rfl ?_
  refine mv rfl rfl ?_
  refine sx_guardT rfl rfl rfl ?_
  refine mv rfl rfl ?_
  refine sx_guardT rfl rfl rfl ?_
  refine sp rfl (px_len rfl Tryz.underlying28 hva0) ?_
  refine sx_guardT rfl rfl rfl ?_
  refine sp rfl (px_sub rfl rfl (by omega)) ?_
  refine sx_guardT rfl rfl rfl ?_
  refine sp rfl (px_index1 (j := (zs.length - 1)) rfl rfl (by omega) Tryz.underlying28 Tryz.sizeOf3 hva0 (by omega)) ?_
  refine sx_guardT rfl rfl rfl ?_
  refine sp rfl (px_load rfl (hva0.load1 (at_int (by omega)) Tryz.isAgg3)) ?_
  refine sx_guardT rfl rfl rfl ?_
  refine sp rfl (px_eq rfl rfl) ?_
  refine sx_guardT rfl rfl rfl ?_
  refine sp rfl (px_pick rfl rfl) ?_
  refine sp rfl (px_pick rfl rfl) ?_
  refine wl_nil (q_n (k3 _ _ ?_))
  refine sx_sub (Sub.c 0 rfl (.c 2 rfl (.c 21 rfl .nil))) ?_
  refine sx_condP rfl (fun h13x2 => ?_) (fun h13x2 => ?_)
  ·
   refine sx_seq fun K5 k5 => sx_region ?_
   refine av rfl rfl (wl_nil (q_n (k5 _ _ ?_)))
   refine sx_retc ?_
   refine q_r (sx_ret1 Tryz.results72 rfl ?_)
   exact ⟨bFalse (fun h => by first | (have h1 := h.2.1; omega) | exact h.2.2 ((last_getD (by omega)).2 (by assumption))), (Chg.refl 0 0 _)⟩
  refine sx_skip ?_
  refine q_n (k2 _ _ ?_)
  refine sx_seq fun K6 k6 => ?_
  refine sx_seq fun K7 k7 => sx_region ?_
  refine mv rfl rfl (sp rfl (px_len rfl Tryz.underlying28 hva0) ?_)
  refine mv rfl rfl (wl_nil (q_n (k7 _ _ ?_)))
  refine sx_block ?_
  refine sx_loop (fun mm aa w' => ∃ (k : Nat), Agr 35 [(22, va), (23, .int .i64 ↑zs.length), (24, .int .i64 ↑k)] aa ∧ Chg 0 0 w w' ∧ (mm = zs.length - k) ∧ (k ≤ zs.length) ∧ (∀ i, i < k → 0 ≤ zs.getD i 0 ∧ zs.getD i 0 < 1000000000)) (_) (fun a ha => ⟨0, ha.sub (Sub.c 22 rfl (.c 23 (look_int (t := 23) rfl (by first | omega | simp)) (.c 24 (look_int (t := 24) rfl (by first | omega | simp)) .nil))), Chg.refl _ _ _, rfl, by omega, fun i h => by omega⟩) ?_
  rintro mm aa wl8 ⟨k, hAwl8, cwl8, hm, hk, hall⟩
  refine (show cw Tryz.prog 35 _ _ _ wl8 from ?_) aa hAwl8
  clear hAwl8
  have zwl8 := cwl8.size
  refine sx_seq fun K9 k9 => sx_region ?_
  refine sp rfl (px_lt rfl rfl) ?_
  refine wl_nil (q_n (k9 _ _ ?_))
  refine sx_seq fun K10 k10 => ?_
  refine sx_condP rfl (fun h16 => ?_) (fun h16 => ?_)
  ·
   refine sx_skip ?_
   refine q_n (k10 _ _ ?_)
   refine sx_seq fun K11 k11 => ?_
   refine sx_block ?_
   refine sx_seq fun K12 k12 => sx_region ?_
   have f13 := hva0.ext cwl8
   refine sp rfl (px_index1 (j := k) rfl rfl (by omega) Tryz.underlying28 Tryz.sizeOf3 f13 (by omega)) ?_
   refine sp rfl (px_load rfl (f13.load1 (at_int (by omega)) Tryz.isAgg3)) ?_
   refine av rfl rfl (wl_nil (q_n (k12 _ _ ?_)))
   refine sx_seq fun K14 k14 => sx_region ?_
   refine mv rfl rfl (sp rfl (px_lt rfl rfl) ?_)
   refine mv rfl rfl ?_
   refine sx_tmpP (t := 30) rfl (fun h17 => ?_) (fun h17 => ?_)
   ·
    refine sx_guardF rfl rfl rfl rfl rfl rfl ?_
    refine sx_guardF rfl rfl rfl rfl rfl rfl ?_
    refine sp rfl (px_pick rfl rfl) ?_
    refine wl_nil (q_n (k14 _ _ ?_))
    refine sx_condT rfl ?_
    refine sx_seq fun K15 k15 => sx_region ?_
    refine av rfl rfl (wl_nil (q_n (k15 _ _ ?_)))
    refine sx_retc ?_
    refine q_br (q_r (q_r (q_br (q_r (sx_ret1 Tryz.results72 rfl ?_)))))
    exact ⟨bFalse (fun h => by have h1 := h.1.getD k; omega), cwl8⟩
   refine sx_guardT rfl rfl rfl ?_
   refine mv rfl rfl ?_
   refine sx_guardT rfl rfl rfl ?_
   refine sp rfl (px_ge rfl rfl) ?_
   refine sp rfl (px_pick rfl rfl) ?_
   refine wl_nil (q_n (k14 _ _ ?_))
   refine sx_condP rfl (fun h17x1 => ?_) (fun h17x1 => ?_)
   ·
    refine sx_seq fun K16 k16 => sx_region ?_
    refine av rfl rfl (wl_nil (q_n (k16 _ _ ?_)))
    refine sx_retc ?_
    refine q_br (q_r (q_r (q_br (q_r (sx_ret1 Tryz.results72 rfl ?_)))))
    exact ⟨bFalse (fun h => by have h1 := h.1.getD k; omega), cwl8⟩
   refine sx_skip ?_
   refine q_bn (q_n (k11 _ _ ?_))
   refine sx_region ?_
   refine sp rfl (px_add rfl rfl (by omega)) ?_
   refine mv rfl rfl (wl_nil ?_)
   exact fun a ha => ⟨_, by omega, (k + 1), ha.sub (Sub.c 22 rfl (.c 23 rfl (.c 24 (look_int (t := 24) rfl (by first | omega | simp)) .nil))), cwl8, rfl, by omega, lm_succ hall (by omega)⟩
  refine sx_exit ?_
  refine q_e (q_e (q_bx (q_n (k6 _ _ ?_))))
  refine sx_seq fun K17 k17 => sx_region ?_
  refine av rfl rfl (wl_nil (q_n (k17 _ _ ?_)))
  refine sx_retc ?_
  refine sx_ret1 Tryz.results72 rfl ?_
  have ek : k = zs.length := by omega
  have hz : Lm zs := lm_mem (by rw [← ek]; exact hall)
  exact ⟨bTrue (NOk_mk hz (by omega) (by first | exact .inl (by omega) | exact .inr (by assumption))), cwl8⟩
 refine sx_guardF rfl rfl rfl rfl rfl rfl ?_
 refine sx_guardF rfl rfl rfl rfl rfl rfl ?_
 refine sx_guardF rfl rfl rfl rfl rfl rfl ?_
 refine sx_guardF rfl rfl rfl rfl rfl rfl ?_
 refine sx_guardF rfl rfl rfl rfl rfl rfl ?_
 refine sx_guardF rfl rfl rfl rfl rfl rfl ?_
 refine sx_guardF rfl rfl rfl rfl rfl rfl ?_
 refine sx_guardT rfl rfl rfl ?_
 refine sp rfl (px_pick rfl rfl) ?_
 refine sp rfl (px_pick rfl rfl) ?_
 refine wl_nil (q_n (k3 _ _ ?_))
 refine sx_sub (Sub.c 0 rfl (.c 2 rfl (.c 21 rfl .nil))) ?_
 refine sx_condF rfl ?_
 refine sx_skip ?_
 refine q_n (k2 _ _ ?_)
 refine sx_seq fun K18 k18 => ?_
 refine sx_seq fun K19 k19 => sx_region ?_
 refine mv rfl rfl (sp rfl (px_len rfl Tryz.underlying28 hva0) ?_)
 refine mv rfl rfl (wl_nil (q_n (k19 _ _ ?_)))
 refine sx_block ?_
 refine sx_loop (fun mm aa w' => ∃ (k : Nat), Agr 35 [(22, va), (23, .int .i64 ↑zs.length), (24, .int .i64 ↑k)] aa ∧ Chg 0 0 w w' ∧ (mm = zs.length - k) ∧ (k ≤ zs.length) ∧ (∀ i, i < k → 0 ≤ zs.getD i 0 ∧ zs.getD i 0 < 1000000000)) (_) (fun a ha => ⟨0, ha.sub (Sub.c 22 rfl (.c 23 (look_int (t := 23) rfl (by first | omega | simp)) (.c 24 (look_int (t := 24) rfl (by first | omega | simp)) .nil))), Chg.refl _ _ _, rfl, by omega, fun i h => by omega⟩) ?_
 rintro mm aa wl20 ⟨k, hAwl20, cwl20, hm, hk, hall⟩
 refine (show cw Tryz.prog 35 _ _ _ wl20 from ?_) aa hAwl20
 clear hAwl20
 have zwl20 := cwl20.size
 refine sx_seq fun K21 k21 => sx_region ?_
 refine sp rfl (px_lt rfl rfl) ?_
 refine wl_nil (q_n (k21 _ _ ?_))
 refine sx_seq fun K22 k22 => ?_
 refine sx_condP rfl (fun h16 => ?_) (fun h16 => ?_)
 ·
  refine sx_skip ?_
  refine q_n (k22 _ _ ?_)
  refine sx_seq fun K23 k23 => ?_
  refine sx_block ?_
  refine sx_seq fun K24 k24 => sx_region ?_
  have f25 := hva0.ext cwl20
  refine sp rfl (px_index1 (j := k) rfl rfl (by omega) Tryz.underlying28 Tryz.sizeOf3 f25 (by omega)) ?_
  refine sp rfl (px_load rfl (f25.load1 (at_int (by omega)) Tryz.isAgg3)) ?_
  refine av rfl rfl (wl_nil (q_n (k24 _ _ ?_)))
  refine sx_seq fun K26 k26 => sx_region ?_
  refine mv rfl rfl (sp rfl (px_lt rfl rfl) ?_)
  refine mv rfl rfl ?_
  refine sx_tmpP (t := 30) rfl (fun h17 => ?_) (fun h17 => ?_)
  ·
   refine sx_guardF rfl rfl rfl rfl rfl rfl ?_
   refine sx_guardF rfl rfl rfl rfl rfl rfl ?_
   refine sp rfl (px_pick rfl rfl) ?_
   refine wl_nil (q_n (k26 _ _ ?_))
   refine sx_condT rfl ?_
   refine sx_seq fun K27 k27 => sx_region ?_
   refine av rfl rfl (wl_nil (q_n (k27 _ _ ?_)))
   refine sx_retc ?_
   refine q_br (q_r (q_r (q_br (q_r (sx_ret1 Tryz.results72 rfl ?_)))))
   exact ⟨bFalse (fun h => by have h1 := h.1.getD k; omega), cwl20⟩
  refine sx_guardT rfl rfl rfl ?_
  refine mv rfl rfl ?_
  refine sx_guardT rfl rfl rfl ?_
  refine sp rfl (px_ge rfl rfl) ?_
  refine sp rfl (px_pick rfl rfl) ?_
  refine wl_nil (q_n (k26 _ _ ?_))
  refine sx_condP rfl (fun h17x1 => ?_) (fun h17x1 => ?_)
  ·
   refine sx_seq fun K28 k28 => sx_region ?_
   refine av rfl rfl (wl_nil (q_n (k28 _ _ ?_)))
   refine sx_retc ?_
   refine q_br (q_r (q_r (q_br (q_r (sx_ret1 Tryz.results72 rfl ?_)))))
   exact ⟨bFalse (fun h => by have h1 := h.1.getD k; omega), cwl20⟩
  refine sx_skip ?_
  refine q_bn (q_n (k23 _ _ ?_))
  refine sx_region ?_
  refine sp rfl (px_add rfl rfl (by omega)) ?_
  refine mv rfl rfl (wl_nil ?_)
  exact fun a ha => ⟨_, by omega, (k + 1), ha.sub (Sub.c 22 rfl (.c 23 rfl (.c 24 (look_int (t := 24) rfl (by first | omega | simp)) .nil))), cwl20, rfl, by omega, lm_succ hall (by omega)⟩
 refine sx_exit ?_
 refine q_e (q_e (q_bx (q_n (k18 _ _ ?_))))
 refine sx_seq fun K29 k29 => sx_region ?_
 refine av rfl rfl (wl_nil (q_n (k29 _ _ ?_)))
 refine sx_retc ?_
 refine sx_ret1 Tryz.results72 rfl ?_
 have ek : k = zs.length := by omega
 have hz : Lm zs := lm_mem (by rw [← ek]; exact hall)
 exact ⟨bTrue (NOk_mk hz (by omega) (by first | exact .inl (by omega) | exact .inr (by assumption))), cwl20⟩

theorem c_iIntOk {w : World} {n1 : Bool} {v1 : Value} {lv1 uv1 : Nat} {z1 : List Int} (hv1 : Sl w lv1 uv1 v1 (z1)) (h63 : z1.length ≤ 4611686018427387904) :
  Ret Tryz.prog 46 [.agg #[.bool n1, v1]] w fun v w' => v = .bool (decide (IOk n1 z1)) ∧ Chg 0 0 w w' := by
 have hv10 := hv1.fit
 refine sx_enter Tryz.func46 rfl Tryz.ntmps46 (nbl rfl) ?_
 refine sx_seq fun K1 k1 => sx_region ?_
 refine sx_box [.bool n1, v1] rfl rfl rfl (fun b2 w3 eb2 sb2 fb2 cb2 => ?_)
 have zw3 := cb2.size
 refine av rfl rfl (wl_nil (q_n (k1 _ _ ?_)))
 refine sx_seq fun K4 k4 => sx_region ?_
 refine sp rfl (px_field rfl xfld30x1) ?_
 refine sp rfl (px_load rfl (fb2.load1 rfl Tryz.isAgg28)) ?_
 have f5 := hv10.ext cb2
 refine sx_call rfl rfl Tryz.call72 (c_iNatOk f5 (by omega)) (fun v6 w6 p6 => ?_)
 obtain ⟨rfl, c6⟩ := p6
 have zw6 := c6.size
 refine mv rfl rfl ?_
 refine sx_tmpP (t := 6) rfl (fun h10 => ?_) (fun h10 => ?_)
 ·
  refine sx_guardT rfl rfl rfl ?_
  refine sp rfl (px_field rfl xfld30x0) ?_
  refine sx_guardT rfl rfl rfl ?_
  have f7 := fb2.ext c6
  refine sp rfl (px_load rfl (f7.load1 rfl Tryz.isAgg4)) ?_
  refine sx_guardT rfl rfl rfl ?_
  refine sp rfl (px_not rfl) ?_
  refine sx_guardT rfl rfl rfl ?_
  refine mv rfl rfl ?_
  refine sx_tmpB (t := 10) rfl (fun h10x1 => ?_) (fun h10x1 => ?_)
  ·
   refine sx_guardF rfl rfl rfl rfl rfl rfl ?_
   refine sx_guardF rfl rfl rfl rfl rfl rfl ?_
   refine sx_guardF rfl rfl rfl rfl rfl rfl ?_
   refine sx_guardF rfl rfl rfl rfl rfl rfl ?_
   refine sx_guardT rfl rfl rfl ?_
   refine sp rfl (px_pick rfl rfl) ?_
   refine sp rfl (px_pick rfl rfl) ?_
   refine av rfl rfl (wl_nil (q_n (k4 _ _ ?_)))
   refine sx_sub (Sub.c 2 rfl .nil) ?_
   refine sx_retc ?_
   refine sx_ret1 Tryz.results46 rfl ?_
   exact ⟨(by first | exact bTrue (by grind [IOk]) | exact bFalse (by grind [IOk]) | exact bIff (by grind [IOk])), (cb2.t c6)⟩
  refine sx_guardT rfl rfl rfl ?_
  refine sp rfl (px_field rfl xfld30x1) ?_
  refine sx_guardT rfl rfl rfl ?_
  refine sp rfl (px_load rfl (f7.load1 rfl Tryz.isAgg28)) ?_
  refine sx_guardT rfl rfl rfl ?_
  have f8 := f5.ext c6
  refine sp rfl (px_len rfl Tryz.underlying28 f8) ?_
  refine sx_guardT rfl rfl rfl ?_
  refine sp rfl (px_gt rfl rfl) ?_
  refine sx_guardT rfl rfl rfl ?_
  refine sp rfl (px_pick rfl rfl) ?_
  refine sp rfl (px_pick rfl rfl) ?_
  refine av rfl rfl (wl_nil (q_n (k4 _ _ ?_)))
  refine sx_sub (Sub.c 2 rfl .nil) ?_
  refine sx_retc ?_
  refine sx_ret1 Tryz.results46 rfl ?_
  exact ⟨(by first | exact bTrue (by grind [IOk]) | exact bFalse (by grind [IOk]) | exact bIff (by grind [IOk])), (cb2.t c6)⟩
 refine sx_guardF rfl rfl rfl rfl rfl rfl ?_
 refine sx_guardF rfl rfl rfl rfl rfl rfl ?_
 refine sx_guardF rfl rfl rfl rfl rfl rfl ?_
 refine sx_guardF rfl rfl rfl rfl rfl rfl ?_
 refine sx_guardFU rfl rfl rfl rfl rfl ?_
 refine sx_guardFU rfl rfl rfl rfl rfl ?_
 refine sx_guardFU rfl rfl rfl rfl rfl ?_
 refine sx_guardFU rfl rfl rfl rfl rfl ?_
 refine sx_guardF rfl rfl rfl rfl rfl rfl ?_
 refine sp rfl (px_pick rfl rfl) ?_
 refine av rfl rfl (wl_nil (q_n (k4 _ _ ?_)))
 refine sx_sub (Sub.c 2 rfl .nil) ?_
 refine sx_retc ?_
 refine sx_ret1 Tryz.results46 rfl ?_
 exact ⟨(by first | exact bTrue (by grind [IOk]) | exact bFalse (by grind [IOk]) | exact bIff (by grind [IOk])), (cb2.t c6)⟩

theorem c_iMoneyOk {w : World} {c1 : ByteArray} {n1 : Bool} {v1 : Value} {lv1 uv1 : Nat} {z1 : List Int} (hG0 : Glob w) (hv1 : Sl w lv1 uv1 v1 (z1)) (h63 : z1.length ≤ 4611686018427387904) :
  Ret Tryz.prog 18 [.agg #[.string c1, .bool n1, v1]] w fun v w' => v = .bool (decide (MOk c1 n1 z1)) ∧ Chg 0 0 w w' := by
 have hv10 := hv1.fit
 refine sx_enter Tryz.func18 rfl Tryz.ntmps18 (nbl rfl) ?_
 refine sx_seq fun K1 k1 => sx_region ?_
 refine sx_box [.string c1, .bool n1, v1] rfl rfl rfl (fun b2 w3 eb2 sb2 fb2 cb2 => ?_)
 have zw3 := cb2.size
 refine av rfl rfl (wl_nil (q_n (k1 _ _ ?_)))
 refine sx_seq fun K4 k4 => sx_region ?_
 refine sp rfl (px_field rfl xfld32x0) ?_
 refine sp rfl (px_load rfl (fb2.load1 rfl Tryz.isAgg9)) ?_
 have f5 := hG0.ext cb2
 refine sx_call rfl rfl Tryz.call45 (c_iCurKnown f5) (fun v6 w6 p6 => ?_)
 obtain ⟨rfl, c6⟩ := p6
 have zw6 := c6.size
 refine mv rfl rfl ?_
 refine sx_tmpP (t := 6) rfl (fun h14 => ?_) (fun h14 => ?_)
 ·
  refine sx_guardT rfl rfl rfl ?_
  refine sp rfl (px_field rfl xfld32x1) ?_
  refine sx_guardT rfl rfl rfl ?_
  have f7 := fb2.ext c6
  refine sp rfl (px_load rfl (f7.loadA (vs := [.bool n1, v1]) (look_lit rfl) Tryz.isAgg30 Tryz.sizeOf30)) ?_
  refine sx_guardT rfl rfl rfl ?_
  have f8 := hv10.ext cb2
  have f9 := f8.ext c6
  refine sx_call rfl rfl Tryz.call46 (c_iIntOk f9 (by omega)) (fun v10 w10 p10 => ?_)
  obtain ⟨rfl, c10⟩ := p10
  have zw10 := c10.size
  refine sp rfl (px_pick rfl rfl) ?_
  refine mv rfl rfl ?_
  refine sx_tmpP (t := 11) rfl (fun h14x1 => ?_) (fun h14x1 => ?_)
  ·
   refine sx_guardT rfl rfl rfl ?_
   refine sp rfl (px_field rfl xfld32x1) ?_
   refine sx_guardT rfl rfl rfl ?_
   refine sp rfl (px_field rfl xfld30x1) ?_
   refine sx_guardT rfl rfl rfl ?_
   have f11 := f7.ext c10
   refine sp rfl (px_load rfl (f11.load1 rfl Tryz.isAgg28)) ?_
   refine sx_guardT rfl rfl rfl ?_
   have f12 := f9.ext c10
   refine sp rfl (px_len rfl Tryz.underlying28 f12) ?_
   refine sx_guardT rfl rfl rfl ?_
   refine sp rfl (px_le rfl rfl) ?_
   refine sp rfl (px_pick rfl rfl) ?_
   refine av rfl rfl (wl_nil (q_n (k4 _ _ ?_)))
   refine sx_sub (Sub.c 2 rfl .nil) ?_
   refine sx_retc ?_
   refine sx_ret1 Tryz.results18 rfl ?_
   exact ⟨(by first | exact bTrue (by grind [MOk]) | exact bFalse (by grind [MOk]) | exact bIff (by grind [MOk])), ((cb2.t c6).t c10)⟩
  refine sx_guardF rfl rfl rfl rfl rfl rfl ?_
  refine sx_guardF rfl rfl rfl rfl rfl rfl ?_
  refine sx_guardF rfl rfl rfl rfl rfl rfl ?_
  refine sx_guardF rfl rfl rfl rfl rfl rfl ?_
  refine sx_guardF rfl rfl rfl rfl rfl rfl ?_
  refine sp rfl (px_pick rfl rfl) ?_
  refine av rfl rfl (wl_nil (q_n (k4 _ _ ?_)))
  refine sx_sub (Sub.c 2 rfl .nil) ?_
  refine sx_retc ?_
  refine sx_ret1 Tryz.results18 rfl ?_
  exact ⟨(by first | exact bTrue (by grind [MOk]) | exact bFalse (by grind [MOk]) | exact bIff (by grind [MOk])), ((cb2.t c6).t c10)⟩
 refine sx_guardF rfl rfl rfl rfl rfl rfl ?_
 refine sx_guardF rfl rfl rfl rfl rfl rfl ?_
 refine sx_guardF rfl rfl rfl rfl rfl rfl ?_
 refine sp rfl (px_pick rfl rfl) ?_
 refine mv rfl rfl ?_
 refine sx_guardF rfl rfl rfl rfl rfl rfl ?_
 refine sx_guardF rfl rfl rfl rfl rfl rfl ?_
 refine sx_guardF rfl rfl rfl rfl rfl rfl ?_
 refine sx_guardF rfl rfl rfl rfl rfl rfl ?_
 refine sx_guardF rfl rfl rfl rfl rfl rfl ?_
 refine sp rfl (px_pick rfl rfl) ?_
 refine av rfl rfl (wl_nil (q_n (k4 _ _ ?_)))
 refine sx_sub (Sub.c 2 rfl .nil) ?_
 refine sx_retc ?_
 refine sx_ret1 Tryz.results18 rfl ?_
 exact ⟨(by first | exact bTrue (by grind [MOk]) | exact bFalse (by grind [MOk]) | exact bIff (by grind [MOk])), (cb2.t c6)⟩

theorem c_isScale {w : World} {p : Int} :
  Ret Tryz.prog 104 [.int .i64 p] w fun v w' => v = .bool (decide (0 ≤ p ∧ p ≤ 30)) ∧ Chg 0 0 w w' := by
 refine sx_enter Tryz.func104 rfl Tryz.ntmps104 (nbl rfl) ?_
 refine sx_seq fun K1 k1 => sx_region ?_
 refine av rfl rfl (wl_nil (q_n (k1 _ _ ?_)))
 refine sx_seq fun K2 k2 => sx_region ?_
 refine mv rfl rfl (sp rfl (px_ge rfl rfl) ?_)
 refine mv rfl rfl ?_
 refine sx_tmpP (t := 5) rfl (fun h15 => ?_) (fun h15 => ?_)
 ·
  refine sx_guardT rfl rfl rfl ?_
  refine mv rfl rfl ?_
  refine sx_guardT rfl rfl rfl ?_
  refine sp rfl (px_le rfl rfl) ?_
  refine sp rfl (px_pick rfl rfl) ?_
  refine av rfl rfl (wl_nil (q_n (k2 _ _ ?_)))
  refine sx_retc ?_
  refine sx_ret1 Tryz.results104 rfl ?_
  exact ⟨(by first | exact bTrue (by grind) | exact bFalse (by grind) | exact bIff (by grind)), (Chg.refl 0 0 _)⟩
 refine sx_guardF rfl rfl rfl rfl rfl rfl ?_
 refine sx_guardF rfl rfl rfl rfl rfl rfl ?_
 refine sp rfl (px_pick rfl rfl) ?_
 refine av rfl rfl (wl_nil (q_n (k2 _ _ ?_)))
 refine sx_retc ?_
 refine sx_ret1 Tryz.results104 rfl ?_
 exact ⟨(by first | exact bTrue (by grind) | exact bFalse (by grind) | exact bIff (by grind)), (Chg.refl 0 0 _)⟩

theorem c_iDecOk {w : World} {n1 : Bool} {v1 : Value} {lv1 uv1 : Nat} {z1 : List Int} {p1 : Int} (hv1 : Sl w lv1 uv1 v1 (z1)) (h63 : z1.length ≤ 4611686018427387904) :
  Ret Tryz.prog 96 [.agg #[.bool n1, v1, .int .i64 p1]] w fun v w' => v = .bool (decide (DOk n1 z1 p1)) ∧ Chg 0 0 w w' := by
 have hv10 := hv1.fit
 refine sx_enter Tryz.func96 rfl Tryz.ntmps96 (nbl rfl) ?_
 refine sx_seq fun K1 k1 => sx_region ?_
 refine sx_box [.bool n1, v1, .int .i64 p1] rfl rfl rfl (fun b2 w3 eb2 sb2 fb2 cb2 => ?_)
 have zw3 := cb2.size
 refine av rfl rfl (wl_nil (q_n (k1 _ _ ?_)))
 refine sx_seq fun K4 k4 => sx_region ?_
 refine sp rfl (px_field rfl xfld73x0) ?_
 refine sp rfl (px_load rfl (fb2.loadA (vs := [.bool n1, v1]) (look_lit rfl) Tryz.isAgg30 Tryz.sizeOf30)) ?_
 have f5 := hv10.ext cb2
 refine sx_call rfl rfl Tryz.call46 (c_iIntOk f5 (by omega)) (fun v6 w6 p6 => ?_)
 obtain ⟨rfl, c6⟩ := p6
 have zw6 := c6.size
 refine mv rfl rfl ?_
 refine sx_tmpP (t := 6) rfl (fun h18 => ?_) (fun h18 => ?_)
 ·
  refine sx_guardT rfl rfl rfl ?_
  refine sp rfl (px_field rfl xfld73x0) ?_
  refine sx_guardT rfl rfl rfl ?_
  refine sp rfl (px_field rfl xfld30x1) ?_
  refine sx_guardT rfl rfl rfl ?_
  have f7 := fb2.ext c6
  refine sp rfl (px_load rfl (f7.load1 rfl Tryz.isAgg28)) ?_
  refine sx_guardT rfl rfl rfl ?_
  have f8 := f5.ext c6
  refine sp rfl (px_len rfl Tryz.underlying28 f8) ?_
  refine sx_guardT rfl rfl rfl ?_
  refine sp rfl (px_le rfl rfl) ?_
  refine sp rfl (px_pick rfl rfl) ?_
  refine mv rfl rfl ?_
  refine sx_tmpP (t := 13) rfl (fun h18x1 => ?_) (fun h18x1 => ?_)
  ·
   refine sx_guardT rfl rfl rfl ?_
   refine sp rfl (px_field rfl xfld73x1) ?_
   refine sx_guardT rfl rfl rfl ?_
   refine sp rfl (px_load rfl (f7.load1 rfl Tryz.isAgg3)) ?_
   refine sx_guardT rfl rfl rfl ?_
   refine sx_call rfl rfl Tryz.call104 (c_isScale) (fun v9 w9 p9 => ?_)
   obtain ⟨rfl, c9⟩ := p9
   have zw9 := c9.size
   refine sp rfl (px_pick rfl rfl) ?_
   refine av rfl rfl (wl_nil (q_n (k4 _ _ ?_)))
   refine sx_sub (Sub.c 2 rfl .nil) ?_
   refine sx_retc ?_
   refine sx_ret1 Tryz.results96 rfl ?_
   exact ⟨(by first | exact bTrue (by grind [DOk]) | exact bFalse (by grind [DOk]) | exact bIff (by grind [DOk])), ((cb2.t c6).t c9)⟩
  refine sx_guardF rfl rfl rfl rfl rfl rfl ?_
  refine sx_guardF rfl rfl rfl rfl rfl rfl ?_
  refine sx_guardF rfl rfl rfl rfl rfl rfl ?_
  refine sp rfl (px_pick rfl rfl) ?_
  refine av rfl rfl (wl_nil (q_n (k4 _ _ ?_)))
  refine sx_sub (Sub.c 2 rfl .nil) ?_
  refine sx_retc ?_
  refine sx_ret1 Tryz.results96 rfl ?_
  exact ⟨(by first | exact bTrue (by grind [DOk]) | exact bFalse (by grind [DOk]) | exact bIff (by grind [DOk])), (cb2.t c6)⟩
 refine sx_guardF rfl rfl rfl rfl rfl rfl ?_
 refine sx_guardF rfl rfl rfl rfl rfl rfl ?_
 refine sx_guardF rfl rfl rfl rfl rfl rfl ?_
 refine sx_guardF rfl rfl rfl rfl rfl rfl ?_
 refine sx_guardF rfl rfl rfl rfl rfl rfl ?_
 refine sp rfl (px_pick rfl rfl) ?_
 refine mv rfl rfl ?_
 refine sx_guardF rfl rfl rfl rfl rfl rfl ?_
 refine sx_guardF rfl rfl rfl rfl rfl rfl ?_
 refine sx_guardF rfl rfl rfl rfl rfl rfl ?_
 refine sp rfl (px_pick rfl rfl) ?_
 refine av rfl rfl (wl_nil (q_n (k4 _ _ ?_)))
 refine sx_sub (Sub.c 2 rfl .nil) ?_
 refine sx_retc ?_
 refine sx_ret1 Tryz.results96 rfl ?_
 exact ⟨(by first | exact bTrue (by grind [DOk]) | exact bFalse (by grind [DOk]) | exact bIff (by grind [DOk])), (cb2.t c6)⟩

theorem c_intSign {w : World} {va : Value} {lva uva : Nat} {x : Int} (hva : Sl w lva uva va (dg x.natAbs)) (hbx : (dg x.natAbs).length ≤ 1000) :
  Ret Tryz.prog 65 [.agg #[.bool (ng x), va]] w fun v w' => v = .int .i64 ((x).sign) ∧ Chg 0 0 w w' := by
 have hva0 := hva.fit
 refine sx_enter Tryz.func65 rfl Tryz.ntmps65 (nbl rfl) ?_
 refine sx_seq fun K1 k1 => sx_region ?_
 refine sx_box [.bool (ng x), va] rfl rfl rfl (fun b2 w3 eb2 sb2 fb2 cb2 => ?_)
 have zw3 := cb2.size
 refine av rfl rfl (wl_nil (q_n (k1 _ _ ?_)))
 refine sx_seq fun K4 k4 => ?_
 refine sx_block ?_
 refine sx_seq fun K5 k5 => sx_region ?_
 refine sp rfl (px_field rfl xfld30x1) ?_
 refine sp rfl (px_load rfl (fb2.load1 rfl Tryz.isAgg28)) ?_
 have f6 := hva0.ext cb2
 refine sp rfl (px_len rfl Tryz.underlying28 f6) ?_
 refine sp rfl (px_eq rfl rfl) ?_
 refine av rfl rfl (wl_nil (q_n (k5 _ _ ?_)))
 refine sx_condP rfl (fun h101 => ?_) (fun h101 => ?_)
 ·
  refine sx_seq fun K7 k7 => sx_region ?_
  refine av rfl rfl (wl_nil (q_n (k7 _ _ ?_)))
  refine sx_retc ?_
  refine q_br (q_r (sx_ret1 Tryz.results65 rfl ?_))
  exact ⟨(by rw [sign_z (by omega)]), cb2⟩
 refine sx_seq fun K8 k8 => sx_region ?_
 refine sp rfl (px_field rfl xfld30x0) ?_
 refine sp rfl (px_load rfl (fb2.load1 rfl Tryz.isAgg4)) ?_
 refine av rfl rfl (wl_nil (q_n (k8 _ _ ?_)))
 refine sx_condB rfl (fun h103 => ?_) (fun h103 => ?_)
 ·
  refine sx_seq fun K9 k9 => sx_region ?_
  refine av rfl rfl (wl_nil (q_n (k9 _ _ ?_)))
  refine sx_retc ?_
  refine q_br (q_r (sx_ret1 Tryz.results65 rfl ?_))
  exact ⟨(by rw [sign_n h103]), cb2⟩
 refine sx_skip ?_
 refine q_bn (q_n (k4 _ _ ?_))
 refine sx_seq fun K10 k10 => sx_region ?_
 refine av rfl rfl (wl_nil (q_n (k10 _ _ ?_)))
 refine sx_retc ?_
 refine sx_ret1 Tryz.results65 rfl ?_
 exact ⟨(by rw [sign_p (by omega) h103]), cb2⟩

theorem c_iRateOk {w : World} {f1 : ByteArray} {t1 : ByteArray} {n1 : Bool} {v1 : Value} {lv1 uv1 : Nat} {z1 : List Int} {p1 : Int} (hG0 : Glob w) (hv1 : Sl w lv1 uv1 v1 (z1)) (h63 : z1.length ≤ 4611686018427387904) :
  Ret Tryz.prog 102 [.agg #[.string f1, .string t1, .bool n1, v1, .int .i64 p1]] w fun v w' => v = .bool (decide (RateP f1 t1 n1 z1 p1)) ∧ Chg 0 0 w w' := by
 have hv10 := hv1.fit
 refine sx_enter Tryz.func102 rfl Tryz.ntmps102 (nbl rfl) ?_
 refine sx_seq fun K1 k1 => sx_region ?_
 refine sx_box [.string f1, .string t1, .bool n1, v1, .int .i64 p1] rfl rfl rfl (fun b2 w3 eb2 sb2 fb2 cb2 => ?_)
 have zw3 := cb2.size
 refine av rfl rfl (wl_nil (q_n (k1 _ _ ?_)))
 refine sx_seq fun K4 k4 => sx_region ?_
 refine sp rfl (px_field rfl xfld75x0) ?_
 refine sp rfl (px_load rfl (fb2.load1 rfl Tryz.isAgg9)) ?_
 have f5 := hG0.ext cb2
 refine sx_call rfl rfl Tryz.call45 (c_iCurKnown f5) (fun v6 w6 p6 => ?_)
 obtain ⟨rfl, c6⟩ := p6
 have zw6 := c6.size
 refine mv rfl rfl ?_
 refine sx_tmpP (t := 6) rfl (fun h36 => ?_) (fun h36 => ?_)
 ·
  refine sx_guardT rfl rfl rfl ?_
  refine sp rfl (px_field rfl xfld75x1) ?_
  refine sx_guardT rfl rfl rfl ?_
  have f7 := fb2.ext c6
  refine sp rfl (px_load rfl (f7.load1 rfl Tryz.isAgg9)) ?_
  refine sx_guardT rfl rfl rfl ?_
  have f8 := f5.ext c6
  refine sx_call rfl rfl Tryz.call45 (c_iCurKnown f8) (fun v9 w9 p9 => ?_)
  obtain ⟨rfl, c9⟩ := p9
  have zw9 := c9.size
  refine sp rfl (px_pick rfl rfl) ?_
  refine mv rfl rfl ?_
  refine sx_tmpP (t := 11) rfl (fun h36x1 => ?_) (fun h36x1 => ?_)
  ·
   refine sx_guardT rfl rfl rfl ?_
   refine sp rfl (px_field rfl xfld75x0) ?_
   refine sx_guardT rfl rfl rfl ?_
   have f10 := f7.ext c9
   refine sp rfl (px_load rfl (f10.load1 rfl Tryz.isAgg9)) ?_
   refine sx_guardT rfl rfl rfl ?_
   refine sp rfl (px_field rfl xfld75x1) ?_
   refine sx_guardT rfl rfl rfl ?_
   refine sp rfl (px_load rfl (f10.load1 rfl Tryz.isAgg9)) ?_
   refine sx_guardT rfl rfl rfl ?_
   refine sp rfl (px_neS rfl rfl) ?_
   refine sp rfl (px_pick rfl rfl) ?_
   refine mv rfl rfl ?_
   refine sx_tmpP (t := 18) rfl (fun h36x2 => ?_) (fun h36x2 => ?_)
   ·
    refine sx_guardT rfl rfl rfl ?_
    refine sp rfl (px_field rfl xfld75x2) ?_
    refine sx_guardT rfl rfl rfl ?_
    refine sp rfl (px_load rfl (f10.loadA (vs := [.bool n1, v1, .int .i64 p1]) (look_lit rfl) Tryz.isAgg73 Tryz.sizeOf73)) ?_
    refine sx_guardT rfl rfl rfl ?_
    have f11 := hv10.ext cb2
    have f13 := (f11.ext c6).ext c9
    refine sx_call rfl rfl Tryz.call96 (c_iDecOk f13 (by omega)) (fun v14 w14 p14 => ?_)
    obtain ⟨rfl, c14⟩ := p14
    have zw14 := c14.size
    refine sp rfl (px_pick rfl rfl) ?_
    refine mv rfl rfl ?_
    refine sx_tmpP (t := 23) rfl (fun h36x3 => ?_) (fun h36x3 => ?_)
    ·
     have hD := h36x3
     obtain ⟨x1, rfl, rfl, hx1⟩ := hD.int
     have hvx := vI_ng x1
     have hsx := sign_gt (x := x1)
     have hcx := cmpI_gt0 (x := x1)
     refine sx_guardT rfl rfl rfl ?_
     refine sp rfl (px_field rfl xfld75x2) ?_
     refine sx_guardT rfl rfl rfl ?_
     refine sp rfl (px_field rfl xfld73x0) ?_
     refine sx_guardT rfl rfl rfl ?_
     have f15 := f10.ext c14
     refine sp rfl (px_load rfl (f15.loadA (vs := [.bool (ng x1), v1]) (look_lit rfl) Tryz.isAgg30 Tryz.sizeOf30)) ?_
     refine sx_guardT rfl rfl rfl ?_
     have f16 := f13.ext c14
     refine sx_call rfl rfl Tryz.call65 (c_intSign f16 (by omega)) (fun v17 w17 p17 => ?_)
     obtain ⟨rfl, c17⟩ := p17
     have zw17 := c17.size
     refine sx_guardT rfl rfl rfl ?_
     refine sp rfl (px_gt rfl rfl) ?_
     refine sp rfl (px_pick rfl rfl) ?_
     refine mv rfl rfl ?_
     refine sx_tmpP (t := 30) rfl (fun h36x4 => ?_) (fun h36x4 => ?_)
     ·
      refine sx_guardT rfl rfl rfl ?_
      refine sp rfl (px_field rfl xfld75x2) ?_
      refine sx_guardT rfl rfl rfl ?_
      refine sp rfl (px_field rfl xfld73x0) ?_
      refine sx_guardT rfl rfl rfl ?_
      refine sp rfl (px_field rfl xfld30x1) ?_
      refine sx_guardT rfl rfl rfl ?_
      have f18 := f15.ext c17
      refine sp rfl (px_load rfl (f18.load1 rfl Tryz.isAgg28)) ?_
      refine sx_guardT rfl rfl rfl ?_
      have f19 := f16.ext c17
      refine sp rfl (px_len rfl Tryz.underlying28 f19) ?_
      refine sx_guardT rfl rfl rfl ?_
      refine sp rfl (px_le rfl rfl) ?_
      refine sp rfl (px_pick rfl rfl) ?_
      refine av rfl rfl (wl_nil (q_n (k4 _ _ ?_)))
      refine sx_sub (Sub.c 2 rfl .nil) ?_
      refine sx_retc ?_
      refine sx_ret1 Tryz.results102 rfl ?_
      exact ⟨(by first | exact bTrue (by grind [RateP]) | exact bFalse (by grind [RateP]) | exact bIff (by grind [RateP])), ((((cb2.t c6).t c9).t c14).t c17)⟩
     refine sx_guardF rfl rfl rfl rfl rfl rfl ?_
     refine sx_guardF rfl rfl rfl rfl rfl rfl ?_
     refine sx_guardF rfl rfl rfl rfl rfl rfl ?_
     refine sx_guardF rfl rfl rfl rfl rfl rfl ?_
     refine sx_guardF rfl rfl rfl rfl rfl rfl ?_
     refine sx_guardF rfl rfl rfl rfl rfl rfl ?_
     refine sp rfl (px_pick rfl rfl) ?_
     refine av rfl rfl (wl_nil (q_n (k4 _ _ ?_)))
     refine sx_sub (Sub.c 2 rfl .nil) ?_
     refine sx_retc ?_
     refine sx_ret1 Tryz.results102 rfl ?_
     exact ⟨(by first | exact bTrue (by grind [RateP]) | exact bFalse (by grind [RateP]) | exact bIff (by grind [RateP])), ((((cb2.t c6).t c9).t c14).t c17)⟩
    refine sx_guardF rfl rfl rfl rfl rfl rfl ?_
    refine sx_guardF rfl rfl rfl rfl rfl rfl ?_
    refine sx_guardF rfl rfl rfl rfl rfl rfl ?_
    refine sx_guardF rfl rfl rfl rfl rfl rfl ?_
    refine sx_guardF rfl rfl rfl rfl rfl rfl ?_
    refine sp rfl (px_pick rfl rfl) ?_
    refine mv rfl rfl ?_
    refine sx_guardF rfl rfl rfl rfl rfl rfl ?_
    refine sx_guardF rfl rfl rfl rfl rfl rfl ?_
    refine sx_guardF rfl rfl rfl rfl rfl rfl ?_
    refine sx_guardF rfl rfl rfl rfl rfl rfl ?_
    refine sx_guardF rfl rfl rfl rfl rfl rfl ?_
    refine sx_guardF rfl rfl rfl rfl rfl rfl ?_
    refine sp rfl (px_pick rfl rfl) ?_
    refine av rfl rfl (wl_nil (q_n (k4 _ _ ?_)))
    refine sx_sub (Sub.c 2 rfl .nil) ?_
    refine sx_retc ?_
    refine sx_ret1 Tryz.results102 rfl ?_
    exact ⟨(by first | exact bTrue (by grind [RateP]) | exact bFalse (by grind [RateP]) | exact bIff (by grind [RateP])), (((cb2.t c6).t c9).t c14)⟩
   refine sx_guardF rfl rfl rfl rfl rfl rfl ?_
   refine sx_guardF rfl rfl rfl rfl rfl rfl ?_
   refine sx_guardF rfl rfl rfl rfl rfl rfl ?_
   refine sp rfl (px_pick rfl rfl) ?_
   refine mv rfl rfl ?_
   refine sx_guardF rfl rfl rfl rfl rfl rfl ?_
   refine sx_guardF rfl rfl rfl rfl rfl rfl ?_
   refine sx_guardF rfl rfl rfl rfl rfl rfl ?_
   refine sx_guardF rfl rfl rfl rfl rfl rfl ?_
   refine sx_guardF rfl rfl rfl rfl rfl rfl ?_
   refine sp rfl (px_pick rfl rfl) ?_
   refine mv rfl rfl ?_
   refine sx_guardF rfl rfl rfl rfl rfl rfl ?_
   refine sx_guardF rfl rfl rfl rfl rfl rfl ?_
   refine sx_guardF rfl rfl rfl rfl rfl rfl ?_
   refine sx_guardF rfl rfl rfl rfl rfl rfl ?_
   refine sx_guardF rfl rfl rfl rfl rfl rfl ?_
   refine sx_guardF rfl rfl rfl rfl rfl rfl ?_
   refine sp rfl (px_pick rfl rfl) ?_
   refine av rfl rfl (wl_nil (q_n (k4 _ _ ?_)))
   refine sx_sub (Sub.c 2 rfl .nil) ?_
   refine sx_retc ?_
   refine sx_ret1 Tryz.results102 rfl ?_
   exact ⟨(by first | exact bTrue (by grind [RateP]) | exact bFalse (by grind [RateP]) | exact bIff (by grind [RateP])), ((cb2.t c6).t c9)⟩
  refine sx_guardF rfl rfl rfl rfl rfl rfl ?_
  refine sx_guardF rfl rfl rfl rfl rfl rfl ?_
  refine sx_guardF rfl rfl rfl rfl rfl rfl ?_
  refine sx_guardF rfl rfl rfl rfl rfl rfl ?_
  refine sx_guardF rfl rfl rfl rfl rfl rfl ?_
  refine sp rfl (px_pick rfl rfl) ?_
  refine mv rfl rfl ?_
  refine sx_guardF rfl rfl rfl rfl rfl rfl ?_
  refine sx_guardF rfl rfl rfl rfl rfl rfl ?_
  refine sx_guardF rfl rfl rfl rfl rfl rfl ?_
  refine sp rfl (px_pick rfl rfl) ?_
  refine mv rfl rfl ?_
  refine sx_guardF rfl rfl rfl rfl rfl rfl ?_
  refine sx_guardF rfl rfl rfl rfl rfl rfl ?_
  refine sx_guardF rfl rfl rfl rfl rfl rfl ?_
  refine sx_guardF rfl rfl rfl rfl rfl rfl ?_
  refine sx_guardF rfl rfl rfl rfl rfl rfl ?_
  refine sp rfl (px_pick rfl rfl) ?_
  refine mv rfl rfl ?_
  refine sx_guardF rfl rfl rfl rfl rfl rfl ?_
  refine sx_guardF rfl rfl rfl rfl rfl rfl ?_
  refine sx_guardF rfl rfl rfl rfl rfl rfl ?_
  refine sx_guardF rfl rfl rfl rfl rfl rfl ?_
  refine sx_guardF rfl rfl rfl rfl rfl rfl ?_
  refine sx_guardF rfl rfl rfl rfl rfl rfl ?_
  refine sp rfl (px_pick rfl rfl) ?_
  refine av rfl rfl (wl_nil (q_n (k4 _ _ ?_)))
  refine sx_sub (Sub.c 2 rfl .nil) ?_
  refine sx_retc ?_
  refine sx_ret1 Tryz.results102 rfl ?_
  exact ⟨(by first | exact bTrue (by grind [RateP]) | exact bFalse (by grind [RateP]) | exact bIff (by grind [RateP])), ((cb2.t c6).t c9)⟩
 refine sx_guardF rfl rfl rfl rfl rfl rfl ?_
 refine sx_guardF rfl rfl rfl rfl rfl rfl ?_
 refine sx_guardF rfl rfl rfl rfl rfl rfl ?_
 refine sp rfl (px_pick rfl rfl) ?_
 refine mv rfl rfl ?_
 refine sx_guardF rfl rfl rfl rfl rfl rfl ?_
 refine sx_guardF rfl rfl rfl rfl rfl rfl ?_
 refine sx_guardF rfl rfl rfl rfl rfl rfl ?_
 refine sx_guardF rfl rfl rfl rfl rfl rfl ?_
 refine sx_guardF rfl rfl rfl rfl rfl rfl ?_
 refine sp rfl (px_pick rfl rfl) ?_
 refine mv rfl rfl ?_
 refine sx_guardF rfl rfl rfl rfl rfl rfl ?_
 refine sx_guardF rfl rfl rfl rfl rfl rfl ?_
 refine sx_guardF rfl rfl rfl rfl rfl rfl ?_
 refine sp rfl (px_pick rfl rfl) ?_
 refine mv rfl rfl ?_
 refine sx_guardF rfl rfl rfl rfl rfl rfl ?_
 refine sx_guardF rfl rfl rfl rfl rfl rfl ?_
 refine sx_guardF rfl rfl rfl rfl rfl rfl ?_
 refine sx_guardF rfl rfl rfl rfl rfl rfl ?_
 refine sx_guardF rfl rfl rfl rfl rfl rfl ?_
 refine sp rfl (px_pick rfl rfl) ?_
 refine mv rfl rfl ?_
 refine sx_guardF rfl rfl rfl rfl rfl rfl ?_
 refine sx_guardF rfl rfl rfl rfl rfl rfl ?_
 refine sx_guardF rfl rfl rfl rfl rfl rfl ?_
 refine sx_guardF rfl rfl rfl rfl rfl rfl ?_
 refine sx_guardF rfl rfl rfl rfl rfl rfl ?_
 refine sx_guardF rfl rfl rfl rfl rfl rfl ?_
 refine sp rfl (px_pick rfl rfl) ?_
 refine av rfl rfl (wl_nil (q_n (k4 _ _ ?_)))
 refine sx_sub (Sub.c 2 rfl .nil) ?_
 refine sx_retc ?_
 refine sx_ret1 Tryz.results102 rfl ?_
 exact ⟨(by first | exact bTrue (by grind [RateP]) | exact bFalse (by grind [RateP]) | exact bIff (by grind [RateP])), (cb2.t c6)⟩

theorem c_iRatesOk {w : World} {pv : ByteArray} {vt : Value} {lvt uvt : Nat} {ts : List Rt} {vvt : List Value} (hG0 : Glob w) (hvt : RtS w lvt uvt vt ts vvt) (h63 : ts.length ≤ 4611686018427387904) (hz : ∀ i, i < ts.length → (ts.getD i rt0).2.2.2.1.length ≤ 4611686018427387904) :
  Ret Tryz.prog 93 [.agg #[.string pv, vt]] w fun v w' => v = .bool (decide (RsOk pv ts)) ∧ Chg 0 0 w w' := by
 have hvt0 := hvt.fit
 refine sx_enter Tryz.func93 rfl Tryz.ntmps93 (nbl rfl) ?_
 refine sx_seq fun K1 k1 => sx_region ?_
 refine sx_box [.string pv, vt] rfl rfl rfl (fun b2 w3 eb2 sb2 fb2 cb2 => ?_)
 have zw3 := cb2.size
 refine av rfl rfl (wl_nil (q_n (k1 _ _ ?_)))
 refine sx_seq fun K4 k4 => ?_
 refine sx_seq fun K5 k5 => sx_region ?_
 refine sp rfl (px_field rfl xfld25x0) ?_
 refine sp rfl (px_load rfl (fb2.load1 rfl Tryz.isAgg9)) ?_
 have f6 := hG0.ext cb2
 refine sx_call rfl rfl Tryz.call45 (c_iCurKnown f6) (fun v7 w7 p7 => ?_)
 obtain ⟨rfl, c7⟩ := p7
 have zw7 := c7.size
 refine sp rfl (px_notP rfl) ?_
 refine mv rfl rfl ?_
 refine sx_tmpP (t := 11) rfl (fun h41 => ?_) (fun h41 => ?_)
 ·
  refine sx_guardF rfl rfl rfl rfl rfl rfl ?_
  refine sx_guardF rfl rfl rfl rfl rfl rfl ?_
  refine sx_guardF rfl rfl rfl rfl rfl rfl ?_
  refine sx_guardF rfl rfl rfl rfl rfl rfl ?_
  refine sp rfl (px_pick rfl rfl) ?_
  refine wl_nil (q_n (k5 _ _ ?_))
  refine sx_condT rfl ?_
  refine sx_seq fun K8 k8 => sx_region ?_
  refine av rfl rfl (wl_nil (q_n (k8 _ _ ?_)))
  refine sx_retc ?_
  refine q_r (sx_ret1 Tryz.results93 rfl ?_)
  exact ⟨bFalse (fun h => by first | exact absurd h.1 (by assumption) | (have := h.2.1; omega)), (cb2.t c7)⟩
 refine sx_guardT rfl rfl rfl ?_
 refine sp rfl (px_field rfl xfld25x1) ?_
 refine sx_guardT rfl rfl rfl ?_
 have f9 := fb2.ext c7
 refine sp rfl (px_load rfl (f9.load1 rfl Tryz.isAgg23)) ?_
 refine sx_guardT rfl rfl rfl ?_
 have f10 := hvt0.ext cb2
 have f11 := f10.ext c7
 refine sp rfl (px_len rfl Tryz.underlying23 f11.sv) ?_
 refine sx_guardT rfl rfl rfl ?_
 refine sp rfl (px_gt rfl rfl) ?_
 refine sp rfl (px_pick rfl rfl) ?_
 refine wl_nil (q_n (k5 _ _ ?_))
 refine sx_condP rfl (fun h41x1 => ?_) (fun h41x1 => ?_)
 ·
  refine sx_seq fun K12 k12 => sx_region ?_
  refine av rfl rfl (wl_nil (q_n (k12 _ _ ?_)))
  refine sx_retc ?_
  refine q_r (sx_ret1 Tryz.results93 rfl ?_)
  exact ⟨bFalse (fun h => by first | exact absurd h.1 (by assumption) | (have := h.2.1; omega)), (cb2.t c7)⟩
 refine sx_skip ?_
 refine q_n (k4 _ _ ?_)
 refine sx_seq fun K13 k13 => sx_region ?_
 refine sx_makeMap rfl (fun b14 w15 eb14 sb14 fb14 cb14 => ?_)
 have zw15 := cb14.size
 refine av rfl rfl (wl_nil (q_n (k13 _ _ ?_)))
 refine sx_sub (Sub.c 1 rfl (.c 2 rfl (.c 3 rfl .nil))) ?_
 refine sx_seq fun K16 k16 => ?_
 refine sx_seq fun K17 k17 => sx_region ?_
 refine sp rfl (px_field rfl xfld25x1) ?_
 have f18 := f9.ext cb14
 refine sp rfl (px_load rfl (f18.load1 rfl Tryz.isAgg23)) ?_
 have f19 := f11.ext cb14
 refine sp rfl (px_len rfl Tryz.underlying23 f19.sv) ?_
 refine mv rfl rfl (wl_nil (q_n (k17 _ _ ?_)))
 refine sx_block ?_
 refine sx_loop (fun mm aa w' => ∃ (k : Nat), Agr 41 [(3, .map (some b14)), (19, vt), (20, .int .i64 (↑(ts).length)), (21, .int .i64 ↑k)] aa ∧ Chg b14 (b14 + 1) w15 w' ∧ Mp w' b14 (keysTo ts k) ∧ (mm = ts.length - k) ∧ (k ≤ ts.length) ∧ (AllTo ts k)) (_) (fun a ha => ⟨0, ha.sub (Sub.c 3 rfl (.c 19 rfl (.c 20 (look_int (t := 20) rfl (by first | omega | simp)) (.c 21 (look_int (t := 21) rfl (by first | omega | simp)) .nil)))), Chg.refl _ _ _, (by rw [show keysTo ts 0 = [] by simp [keysTo]]; exact fb14), rfl, by omega, AllTo_zero ts⟩) ?_
 rintro mm aa wl20 ⟨k, hAwl20, cwl20, hs_Mb14, hm, hk, hall⟩
 refine (show cw Tryz.prog 41 _ _ _ wl20 from ?_) aa hAwl20
 clear hAwl20
 have zwl20 := cwl20.size
 refine sx_seq fun K21 k21 => sx_region ?_
 refine sp rfl (px_lt rfl rfl) ?_
 refine wl_nil (q_n (k21 _ _ ?_))
 refine sx_seq fun K22 k22 => ?_
 refine sx_condP rfl (fun h45 => ?_) (fun h45 => ?_)
 ·
  refine sx_skip ?_
  refine q_n (k22 _ _ ?_)
  refine sx_seq fun K23 k23 => ?_
  refine sx_block ?_
  refine sx_seq fun K24 k24 => sx_region ?_
  have f25 := f19.chg cwl20 (by omega)
  refine sp rfl (px_indexK (j := k) rfl rfl (by omega) Tryz.underlying23 Tryz.sizeOf75 f25.sv (by omega)) ?_
  refine sp rfl (px_load rfl (f25.sv.loadA (rt_look f25.len (by omega)) Tryz.isAgg75 Tryz.sizeOf75)) ?_
  refine sx_alloc [.string (⟨#[]⟩), .string (⟨#[]⟩), .bool false, (.slice none 0 0), .int .i64 0] rfl Tryz.zeroValue75 rfl (fun b26 w27 eb26 sb26 fb26 cb26 => ?_)
  have zw27 := cb26.size
  have f29 := (f25.nest k (by omega)).ext cb26
  refine sx_store (vs := [.string ((ts.getD k rt0).1), .string ((ts.getD k rt0).2.1), .bool ((ts.getD k rt0).2.2.1), (vvt.getD k vz), .int .i64 ((ts.getD k rt0).2.2.2.2)]) rfl rfl fb26 rfl Tryz.sizeOf75 (nbl rfl) (one_cons rfl (one_cons rfl (one_cons rfl (one_cons f29.one (o1 rfl))))) (fun w28 sw28 fw28 cw28 => ?_)
  have zw28 := cw28.size
  have gw28 : Blk w28 b26 [.string ((ts.getD k rt0).1), .string ((ts.getD k rt0).2.1), .bool ((ts.getD k rt0).2.2.1), (vvt.getD k vz), .int .i64 ((ts.getD k rt0).2.2.2.2)] 75 := fw28
  refine wl_nil (q_n (k24 _ _ ?_))
  refine sx_seq fun K30 k30 => sx_region ?_
  refine sp rfl (px_field rfl xfld75x0) ?_
  refine sp rfl (px_load rfl (gw28.load1 rfl Tryz.isAgg9)) ?_
  refine sp rfl (px_field rfl xfld75x1) ?_
  refine sp rfl (px_load rfl (gw28.load1 rfl Tryz.isAgg9)) ?_
  refine sp rfl (px_build rfl (xbld118x0x1 rfl rfl _)) ?_
  refine sx_alloc [.string (⟨#[]⟩), .string (⟨#[]⟩)] rfl Tryz.zeroValue118 rfl (fun b31 w32 eb31 sb31 fb31 cb31 => ?_)
  have zw32 := cb31.size
  refine sx_store (vs := [.string ((ts.getD k rt0).1), .string ((ts.getD k rt0).2.1)]) rfl rfl fb31 rfl Tryz.sizeOf118 (nbl rfl) (o2 rfl rfl) (fun w33 sw33 fw33 cw33 => ?_)
  have zw33 := cw33.size
  have gw33 : Blk w33 b31 [.string ((ts.getD k rt0).1), .string ((ts.getD k rt0).2.1)] 118 := fw33
  refine wl_nil (q_n (k30 _ _ ?_))
  refine sx_seq fun K34 k34 => ?_
  refine sx_seq fun K35 k35 => sx_region ?_
  have f36 := gw28.ext cb31
  have f37 := f36.chg cw33 (by omega)
  refine sp rfl (px_load rfl (f37.loadA (vs := [.string ((ts.getD k rt0).1), .string ((ts.getD k rt0).2.1), .bool ((ts.getD k rt0).2.2.1), (vvt.getD k vz), .int .i64 ((ts.getD k rt0).2.2.2.2)]) (look_lit rfl) Tryz.isAgg75 Tryz.sizeOf75)) ?_
  have f39 := (f6.ext c7).ext cb14
  have f40 := f39.chg cwl20 (by omega)
  have f41 := f40.ext cb26
  have f42 := f41.chg cw28 (by omega)
  have f43 := f42.ext cb31
  have f44 := f43.chg cw33 (by omega)
  have f45 := f29.chg cw28 (by omega)
  have f46 := f45.ext cb31
  have f47 := f46.chg cw33 (by omega)
  refine sx_call rfl rfl Tryz.call102 (c_iRateOk f44 f47 (hz k (by omega))) (fun v48 w48 p48 => ?_)
  obtain ⟨rfl, c48⟩ := p48
  have zw48 := c48.size
  refine sp rfl (px_notP rfl) ?_
  refine mv rfl rfl ?_
  refine sx_tmpP (t := 33) rfl (fun h47 => ?_) (fun h47 => ?_)
  ·
   refine sx_guardF rfl rfl rfl rfl rfl rfl ?_
   refine sx_guardF rfl rfl rfl rfl rfl rfl ?_
   refine sx_guardF rfl rfl rfl rfl rfl rfl ?_
   refine sp rfl (px_pick rfl rfl) ?_
   refine wl_nil (q_n (k35 _ _ ?_))
   refine sx_sub (Sub.c 3 rfl (.c 6 rfl (.c 19 rfl (.c 20 rfl (.c 21 rfl (.c 37 rfl .nil)))))) ?_
   refine sx_condT rfl ?_
   refine sx_seq fun K49 k49 => sx_region ?_
   refine av rfl rfl (wl_nil (q_n (k49 _ _ ?_)))
   refine sx_retc ?_
   refine q_r (q_br (q_r (q_r (q_br (q_r (sx_ret1 Tryz.results93 rfl ?_))))))
   have q50 := Chg.step (l := 0) (h := 0) (Chg.zero (l := 0) (h := 0) ((cb2.t c7).t cb14)) cwl20 (by omega)
   have q51 := Chg.step (l := 0) (h := 0) q50 cb26 (by omega)
   have q52 := Chg.step (l := 0) (h := 0) q51 cw28 (by omega)
   have q53 := Chg.step (l := 0) (h := 0) q52 cb31 (by omega)
   have q54 := Chg.step (l := 0) (h := 0) q53 cw33 (by omega)
   have q55 := Chg.step (l := 0) (h := 0) q54 c48 (by omega)
   exact ⟨(by first | exact bFalse (rsok_no_rate (k := k) (by omega) h47) | exact bFalse (rsok_no_key (k := k) (by omega) (fun hh => by obtain ⟨i, hi, hs⟩ := (mem_keysTo (by omega)).1 h47x1; exact hh i hi hs))), q55⟩
  refine sx_guardT rfl rfl rfl ?_
  refine mv rfl rfl ?_
  refine sx_guardT rfl rfl rfl ?_
  have f56 := gw33.ext c48
  refine sp rfl (px_load rfl (f56.loadA (vs := [.string ((ts.getD k rt0).1), .string ((ts.getD k rt0).2.1)]) (look_lit rfl) Tryz.isAgg118 Tryz.sizeOf118)) ?_
  refine sx_guardT rfl rfl rfl ?_
  have f57 := hs_Mb14.ext cb26
  have f58 := f57.chg cw28 (by omega)
  have f59 := f58.ext cb31
  have f60 := f59.chg cw33 (by omega)
  have f61 := f60.ext c48
  refine sp rfl (px_lookupM rfl rfl Tryz.underlying131 xpair118 Tryz.zeroValue4 f61) ?_
  refine sp rfl (px_pick rfl rfl) ?_
  refine wl_nil (q_n (k35 _ _ ?_))
  refine sx_sub (Sub.c 3 rfl (.c 6 rfl (.c 19 rfl (.c 20 rfl (.c 21 rfl (.c 37 rfl .nil)))))) ?_
  refine sx_condP rfl (fun h47x1 => ?_) (fun h47x1 => ?_)
  ·
   refine sx_seq fun K62 k62 => sx_region ?_
   refine av rfl rfl (wl_nil (q_n (k62 _ _ ?_)))
   refine sx_retc ?_
   refine q_r (q_br (q_r (q_r (q_br (q_r (sx_ret1 Tryz.results93 rfl ?_))))))
   have q63 := Chg.step (l := 0) (h := 0) (Chg.zero (l := 0) (h := 0) ((cb2.t c7).t cb14)) cwl20 (by omega)
   have q64 := Chg.step (l := 0) (h := 0) q63 cb26 (by omega)
   have q65 := Chg.step (l := 0) (h := 0) q64 cw28 (by omega)
   have q66 := Chg.step (l := 0) (h := 0) q65 cb31 (by omega)
   have q67 := Chg.step (l := 0) (h := 0) q66 cw33 (by omega)
   have q68 := Chg.step (l := 0) (h := 0) q67 c48 (by omega)
   exact ⟨(by first | exact bFalse (rsok_no_rate (k := k) (by omega) h47) | exact bFalse (rsok_no_key (k := k) (by omega) (fun hh => by obtain ⟨i, hi, hs⟩ := (mem_keysTo (by omega)).1 h47x1; exact hh i hi hs))), q68⟩
  refine sx_skip ?_
  refine q_n (k34 _ _ ?_)
  refine sx_region ?_
  refine mv rfl rfl (sp rfl (px_load rfl (f56.loadA (vs := [.string ((ts.getD k rt0).1), .string ((ts.getD k rt0).2.1)]) (look_lit rfl) Tryz.isAgg118 Tryz.sizeOf118)) ?_)
  refine sx_mapUpdateM rfl rfl rfl Tryz.underlying131 xpair118 f61 (by assumption) (fun w69 sw69 fw69 cw69 => ?_)
  have zw69 := cw69.size
  refine wl_nil ?_
  refine q_bn (q_n (k23 _ _ ?_))
  refine sx_region ?_
  refine sp rfl (px_add rfl rfl (by omega)) ?_
  refine mv rfl rfl (wl_nil ?_)
  have q70 := Chg.step (l := b14) (h := (b14 + 1)) cwl20 cb26 (by omega)
  have q71 := Chg.step (l := b14) (h := (b14 + 1)) q70 cw28 (by omega)
  have q72 := Chg.step (l := b14) (h := (b14 + 1)) q71 cb31 (by omega)
  have q73 := Chg.step (l := b14) (h := (b14 + 1)) q72 cw33 (by omega)
  have q74 := Chg.step (l := b14) (h := (b14 + 1)) q73 c48 (by omega)
  have q75 := Chg.step (l := b14) (h := (b14 + 1)) q74 cw69 (by omega)
  exact fun a ha => ⟨_, by omega, (k + 1), ha.sub (Sub.c 3 rfl (.c 19 rfl (.c 20 rfl (.c 21 (look_int (t := 21) rfl (by first | omega | simp)) .nil)))), q75, (by rw [keysTo_succ (by omega)]; exact fw69), rfl, by omega, AllTo_succ hall (Decidable.not_not.1 h47) (fun i hi hs => h47x1 ((mem_keysTo (by omega)).2 ⟨i, hi, hs⟩))⟩
 refine sx_exit ?_
 refine q_e (q_e (q_bx (q_n (k16 _ _ ?_))))
 refine sx_seq fun K76 k76 => sx_region ?_
 refine av rfl rfl (wl_nil (q_n (k76 _ _ ?_)))
 refine sx_retc ?_
 refine sx_ret1 Tryz.results93 rfl ?_
 have ek : k = ts.length := by omega
 subst ek
 have q77 := Chg.step (l := 0) (h := 0) (Chg.zero (l := 0) (h := 0) ((cb2.t c7).t cb14)) cwl20 (by omega)
 exact ⟨bTrue ⟨Decidable.not_not.1 h41, by omega, hall⟩, q77⟩

theorem c_listed {w : World} {pv : ByteArray} {vt : Value} {lvt uvt : Nat} {ts : List Rt} {vvt : List Value} {a : ByteArray} {b : ByteArray} (hvt : RtS w lvt uvt vt ts vvt) (h63 : ts.length ≤ 4611686018427387904) :
  Ret Tryz.prog 75 [.agg #[.string pv, vt], .agg #[.string a, .string b]] w fun v w' => ∃ s, v = .tuple #[.agg #[.bool ((lst ts a b).1), s, .int .i64 ((lst ts a b).2.2.1)], .bool ((lst ts a b).2.2.2)] ∧ Sl w' (lvt) (w.heap.size) s ((lst ts a b).2.1) ∧ Chg 0 0 w w' := by
 have hvt0 := hvt.fit
 refine sx_enter Tryz.func75 rfl Tryz.ntmps75 (nbl rfl) ?_
 refine sx_seq fun K1 k1 => sx_region ?_
 refine sx_box [.string pv, vt] rfl rfl rfl (fun b2 w3 eb2 sb2 fb2 cb2 => ?_)
 have zw3 := cb2.size
 refine sx_box [.string a, .string b] rfl rfl rfl (fun b4 w5 eb4 sb4 fb4 cb4 => ?_)
 have zw5 := cb4.size
 refine sx_alloc [.bool false, (.slice none 0 0), .int .i64 0] rfl Tryz.zeroValue73 rfl (fun b6 w7 eb6 sb6 fb6 cb6 => ?_)
 have zw7 := cb6.size
 refine av rfl rfl (wl_nil (q_n (k1 _ _ ?_)))
 refine sx_seq fun K8 k8 => ?_
 refine sx_seq fun K9 k9 => sx_region ?_
 refine sp rfl (px_field rfl xfld25x1) ?_
 have f10 := fb2.ext cb4
 have f11 := f10.ext cb6
 refine sp rfl (px_load rfl (f11.load1 rfl Tryz.isAgg23)) ?_
 have f12 := hvt0.ext cb2
 have f13 := f12.ext cb4
 have f14 := f13.ext cb6
 refine sp rfl (px_len rfl Tryz.underlying23 f14.sv) ?_
 refine mv rfl rfl (wl_nil (q_n (k9 _ _ ?_)))
 refine sx_block ?_
 have f16 := fb4.ext cb6
 refine sx_loop (fun mm aa w' => ∃ (k : Nat), Agr 26 [(3, .pointer (some ⟨b4, 0, none⟩)), (4, .pointer (some ⟨b6, 0, none⟩)), (9, vt), (10, .int .i64 (↑(ts).length)), (11, .int .i64 ↑k)] aa ∧ Chg 0 0 w7 w' ∧ Blk w' b4 [.string a, .string b] 118 ∧ Blk w' b6 [.bool false, (.slice none 0 0), .int .i64 0] 73 ∧ (mm = ts.length - k) ∧ (k ≤ ts.length) ∧ (∀ i, i < k → ¬ ((ts.getD i rt0).1 = a ∧ (ts.getD i rt0).2.1 = b))) (_) (fun a ha => ⟨0, ha.sub (Sub.c 3 rfl (.c 4 rfl (.c 9 rfl (.c 10 (look_int (t := 10) rfl (by first | omega | simp)) (.c 11 (look_int (t := 11) rfl (by first | omega | simp)) .nil))))), Chg.refl _ _ _, f16, fb6, rfl, by omega, fun i hi => by omega⟩) ?_
 rintro mm aa wl15 ⟨k, hAwl15, cwl15, hb_b4, hb_b6, hm, hk, hn⟩
 refine (show cw Tryz.prog 26 _ _ _ wl15 from ?_) aa hAwl15
 clear hAwl15
 have zwl15 := cwl15.size
 refine sx_seq fun K17 k17 => sx_region ?_
 refine sp rfl (px_lt rfl rfl) ?_
 refine wl_nil (q_n (k17 _ _ ?_))
 refine sx_seq fun K18 k18 => ?_
 refine sx_condP rfl (fun h69 => ?_) (fun h69 => ?_)
 ·
  refine sx_skip ?_
  refine q_n (k18 _ _ ?_)
  refine sx_seq fun K19 k19 => ?_
  refine sx_block ?_
  refine sx_seq fun K20 k20 => sx_region ?_
  have f21 := f14.ext cwl15
  refine sp rfl (px_indexK (j := k) rfl rfl (by omega) Tryz.underlying23 Tryz.sizeOf75 f21.sv (by omega)) ?_
  refine sp rfl (px_load rfl (f21.sv.loadA (rt_look f21.len (by omega)) Tryz.isAgg75 Tryz.sizeOf75)) ?_
  refine sx_alloc [.string (⟨#[]⟩), .string (⟨#[]⟩), .bool false, (.slice none 0 0), .int .i64 0] rfl Tryz.zeroValue75 rfl (fun b22 w23 eb22 sb22 fb22 cb22 => ?_)
  have zw23 := cb22.size
  have f25 := (f21.nest k (by omega)).ext cb22
  refine sx_store (vs := [.string ((ts.getD k rt0).1), .string ((ts.getD k rt0).2.1), .bool ((ts.getD k rt0).2.2.1), (vvt.getD k vz), .int .i64 ((ts.getD k rt0).2.2.2.2)]) rfl rfl fb22 rfl Tryz.sizeOf75 (nbl rfl) (one_cons rfl (one_cons rfl (one_cons rfl (one_cons f25.one (o1 rfl))))) (fun w24 sw24 fw24 cw24 => ?_)
  have zw24 := cw24.size
  have gw24 : Blk w24 b22 [.string ((ts.getD k rt0).1), .string ((ts.getD k rt0).2.1), .bool ((ts.getD k rt0).2.2.1), (vvt.getD k vz), .int .i64 ((ts.getD k rt0).2.2.2.2)] 75 := fw24
  refine wl_nil (q_n (k20 _ _ ?_))
  refine sx_seq fun K26 k26 => sx_region ?_
  refine sp rfl (px_field rfl xfld75x0) ?_
  refine sp rfl (px_load rfl (gw24.load1 rfl Tryz.isAgg9)) ?_
  refine sp rfl (px_field rfl xfld75x1) ?_
  refine sp rfl (px_load rfl (gw24.load1 rfl Tryz.isAgg9)) ?_
  refine sp rfl (px_build rfl (xbld118x0x1 rfl rfl _)) ?_
  have f27 := hb_b4.ext cb22
  have f28 := f27.chg cw24 (by omega)
  refine sp rfl (px_load rfl (f28.loadA (vs := [.string a, .string b]) (look_lit rfl) Tryz.isAgg118 Tryz.sizeOf118)) ?_
  refine sp rfl (px_eqPair rfl rfl xpair118) ?_
  refine wl_nil (q_n (k26 _ _ ?_))
  refine sx_sub (Sub.c 3 rfl (.c 4 rfl (.c 7 rfl (.c 9 rfl (.c 10 rfl (.c 11 rfl (.c 21 rfl .nil))))))) ?_
  refine sx_condP rfl (fun h70 => ?_) (fun h70 => ?_)
  ·
   refine sx_seq fun K29 k29 => sx_region ?_
   refine sp rfl (px_field rfl xfld75x2) ?_
   refine sp rfl (px_load rfl (gw24.loadA (vs := [.bool ((ts.getD k rt0).2.2.1), (vvt.getD k vz), .int .i64 ((ts.getD k rt0).2.2.2.2)]) (look_lit rfl) Tryz.isAgg73 Tryz.sizeOf73)) ?_
   have f31 := hb_b6.ext cb22
   have f32 := f31.chg cw24 (by omega)
   have f33 := f25.chg cw24 (by omega)
   refine sx_store (vs := [.bool ((ts.getD k rt0).2.2.1), (vvt.getD k vz), .int .i64 ((ts.getD k rt0).2.2.2.2)]) rfl rfl f32 rfl Tryz.sizeOf73 (nbl rfl) (one_cons rfl (one_cons f33.one (o1 rfl))) (fun w30 sw30 fw30 cw30 => ?_)
   have zw30 := cw30.size
   have gw30 : Blk w30 b6 [.bool ((ts.getD k rt0).2.2.1), (vvt.getD k vz), .int .i64 ((ts.getD k rt0).2.2.2.2)] 73 := fw30
   refine av rfl rfl (wl_nil (q_n (k29 _ _ ?_)))
   refine sx_retc ?_
   refine q_br (q_r (q_r (q_br (q_r (sx_ret2 Tryz.results75 ⟨_, rfl, gw30.loadA (vs := [.bool ((ts.getD k rt0).2.2.1), (vvt.getD k vz), .int .i64 ((ts.getD k rt0).2.2.2.2)]) (look_lit rfl) Tryz.isAgg73 Tryz.sizeOf73⟩ rfl ?_)))))
   rw [lst_some (by omega) hn h70]
   have q34 := Chg.step (l := 0) (h := 0) (Chg.zero (l := 0) (h := 0) ((((cb2.t cb4).t cb6).t cwl15).t cb22)) cw24 (by omega)
   have q35 := Chg.step (l := 0) (h := 0) q34 cw30 (by omega)
   have f36 := f33.chg cw30 (by omega)
   exact ⟨_, rfl, (Sv.mono f36 (by omega) (by omega)), q35⟩
  refine sx_skip ?_
  refine q_bn (q_n (k19 _ _ ?_))
  refine sx_region ?_
  refine sp rfl (px_add rfl rfl (by omega)) ?_
  refine mv rfl rfl (wl_nil ?_)
  have q37 := Chg.step (l := 0) (h := 0) (Chg.zero (l := 0) (h := 0) (cwl15.t cb22)) cw24 (by omega)
  have f38 := hb_b6.ext cb22
  have f39 := f38.chg cw24 (by omega)
  exact fun a ha => ⟨_, by omega, (k + 1), ha.sub (Sub.c 3 rfl (.c 4 rfl (.c 9 rfl (.c 10 rfl (.c 11 (look_int (t := 11) rfl (by first | omega | simp)) .nil))))), q37, f28, f39, rfl, by omega, upto_next hn h70⟩
 refine sx_exit ?_
 refine q_e (q_e (q_bx (q_n (k8 _ _ ?_))))
 refine sx_seq fun K40 k40 => sx_region ?_
 refine sp rfl (px_build rfl (xbld73x  _)) ?_
 refine sx_store (vs := [.bool false, (.slice none 0 0), .int .i64 0]) rfl rfl hb_b6 rfl Tryz.sizeOf73 (nbl rfl) (o3 rfl rfl rfl) (fun w41 sw41 fw41 cw41 => ?_)
 have zw41 := cw41.size
 have gw41 : Blk w41 b6 [.bool false, (.slice none 0 0), .int .i64 0] 73 := fw41
 refine av rfl rfl (wl_nil (q_n (k40 _ _ ?_)))
 refine sx_retc ?_
 refine sx_ret2 Tryz.results75 ⟨_, rfl, gw41.loadA (vs := [.bool false, (.slice none 0 0), .int .i64 0]) (look_lit rfl) Tryz.isAgg73 Tryz.sizeOf73⟩ rfl ?_
 rw [lst_none (fun i hi => hn i (by omega))]
 have q42 := Chg.step (l := 0) (h := 0) (Chg.zero (l := 0) (h := 0) (((cb2.t cb4).t cb6).t cwl15)) cw41 (by omega)
 exact ⟨_, rfl, Sv.nil _ _ _ _, q42⟩

theorem c_simple {w : World} {pv : ByteArray} {vt : Value} {lvt uvt : Nat} {ts : List Rt} {vvt : List Value} {a : ByteArray} {b : ByteArray} (hvt : RtS w lvt uvt vt ts vvt) (h63 : ts.length ≤ 4611686018427387904) :
  Ret Tryz.prog 94 [.agg #[.string pv, vt], .string a, .string b] w fun v w' => v = .int .i64 (leg ts a b) ∧ Chg 0 0 w w' := by
 have hvt0 := hvt.fit
 refine sx_enter Tryz.func94 rfl Tryz.ntmps94 (nbl rfl) ?_
 refine sx_seq fun K1 k1 => sx_region ?_
 refine sx_box [.string pv, vt] rfl rfl rfl (fun b2 w3 eb2 sb2 fb2 cb2 => ?_)
 have zw3 := cb2.size
 refine av rfl rfl (wl_nil (q_n (k1 _ _ ?_)))
 refine sx_seq fun K4 k4 => ?_
 refine sx_seq fun K5 k5 => sx_region ?_
 refine sp rfl (px_load rfl (fb2.loadA (vs := [.string pv, vt]) (look_lit rfl) Tryz.isAgg25 Tryz.sizeOf25)) ?_
 refine mv rfl rfl (mv rfl rfl (sp rfl (px_build rfl (xbld118x0x1 rfl rfl _)) ?_))
 have f6 := hvt0.ext cb2
 refine sx_call rfl rfl Tryz.call75 (c_listed f6 (by omega)) (fun v7 w7 p7 => ?_)
 obtain ⟨s7, rfl, os_7, c7⟩ := p7
 have zw7 := c7.size
 refine mv rfl rfl (sp rfl (px_ex2 rfl rfl) ?_)
 refine sp rfl (px_ex2 rfl rfl) ?_
 refine sx_alloc [.bool false, (.slice none 0 0), .int .i64 0] rfl Tryz.zeroValue73 rfl (fun b8 w9 eb8 sb8 fb8 cb8 => ?_)
 have zw9 := cb8.size
 have f11 := os_7.ext cb8
 refine sx_store (vs := [.bool ((lst ts a b).1), s7, .int .i64 ((lst ts a b).2.2.1)]) rfl rfl fb8 rfl Tryz.sizeOf73 (nbl rfl) (one_cons rfl (one_cons f11.one (o1 rfl))) (fun w10 sw10 fw10 cw10 => ?_)
 have zw10 := cw10.size
 have gw10 : Blk w10 b8 [.bool ((lst ts a b).1), s7, .int .i64 ((lst ts a b).2.2.1)] 73 := fw10
 refine av rfl rfl (wl_nil (q_n (k5 _ _ ?_)))
 refine sx_sub (Sub.c 1 rfl (.c 2 rfl (.c 3 rfl (.c 6 rfl (.c 8 rfl .nil))))) ?_
 refine sx_seq fun K12 k12 => sx_region ?_
 refine mv rfl rfl (wl_nil (q_n (k12 _ _ ?_)))
 refine sx_condB rfl (fun h98 => ?_) (fun h98 => ?_)
 ·
  refine sx_seq fun K13 k13 => sx_region ?_
  refine av rfl rfl (wl_nil (q_n (k13 _ _ ?_)))
  refine sx_retc ?_
  refine q_r (sx_ret1 Tryz.results94 rfl ?_)
  have q14 := Chg.step (l := 0) (h := 0) (Chg.zero (l := 0) (h := 0) ((cb2.t c7).t cb8)) cw10 (by omega)
  exact ⟨(by rw [leg_2 h98]), q14⟩
 refine sx_skip ?_
 refine q_n (k4 _ _ ?_)
 refine sx_seq fun K15 k15 => ?_
 refine sx_seq fun K16 k16 => sx_region ?_
 have f18 := (fb2.ext c7).ext cb8
 have f19 := f18.chg cw10 (by omega)
 refine sp rfl (px_load rfl (f19.loadA (vs := [.string pv, vt]) (look_lit rfl) Tryz.isAgg25 Tryz.sizeOf25)) ?_
 refine mv rfl rfl (mv rfl rfl (sp rfl (px_build rfl (xbld118x0x1 rfl rfl _)) ?_))
 have f21 := (f6.ext c7).ext cb8
 have f22 := f21.chg cw10 (by omega)
 refine sx_call rfl rfl Tryz.call75 (c_listed f22 (by omega)) (fun v23 w23 p23 => ?_)
 obtain ⟨s23, rfl, os_23, c23⟩ := p23
 have zw23 := c23.size
 refine mv rfl rfl (sp rfl (px_ex2 rfl rfl) ?_)
 refine sp rfl (px_ex2 rfl rfl) ?_
 refine sx_alloc [.bool false, (.slice none 0 0), .int .i64 0] rfl Tryz.zeroValue73 rfl (fun b24 w25 eb24 sb24 fb24 cb24 => ?_)
 have zw25 := cb24.size
 have f27 := os_23.ext cb24
 refine sx_store (vs := [.bool ((lst ts b a).1), s23, .int .i64 ((lst ts b a).2.2.1)]) rfl rfl fb24 rfl Tryz.sizeOf73 (nbl rfl) (one_cons rfl (one_cons f27.one (o1 rfl))) (fun w26 sw26 fw26 cw26 => ?_)
 have zw26 := cw26.size
 have gw26 : Blk w26 b24 [.bool ((lst ts b a).1), s23, .int .i64 ((lst ts b a).2.2.1)] 73 := fw26
 refine av rfl rfl (wl_nil (q_n (k16 _ _ ?_)))
 refine sx_sub (Sub.c 6 rfl (.c 10 rfl .nil)) ?_
 refine sx_seq fun K28 k28 => sx_region ?_
 refine mv rfl rfl (wl_nil (q_n (k28 _ _ ?_)))
 refine sx_condB rfl (fun h101 => ?_) (fun h101 => ?_)
 ·
  refine sx_seq fun K29 k29 => sx_region ?_
  refine av rfl rfl (wl_nil (q_n (k29 _ _ ?_)))
  refine sx_retc ?_
  refine q_r (sx_ret1 Tryz.results94 rfl ?_)
  have q30 := Chg.step (l := 0) (h := 0) (Chg.zero (l := 0) (h := 0) ((cb2.t c7).t cb8)) cw10 (by omega)
  have q31 := Chg.step (l := 0) (h := 0) q30 (c23.t cb24) (by omega)
  have q32 := Chg.step (l := 0) (h := 0) q31 cw26 (by omega)
  exact ⟨(by rw [leg_3 h98 h101]), q32⟩
 refine sx_skip ?_
 refine q_n (k15 _ _ ?_)
 refine sx_seq fun K33 k33 => sx_region ?_
 refine av rfl rfl (wl_nil (q_n (k33 _ _ ?_)))
 refine sx_retc ?_
 refine sx_ret1 Tryz.results94 rfl ?_
 have q34 := Chg.step (l := 0) (h := 0) (Chg.zero (l := 0) (h := 0) ((cb2.t c7).t cb8)) cw10 (by omega)
 have q35 := Chg.step (l := 0) (h := 0) q34 (c23.t cb24) (by omega)
 have q36 := Chg.step (l := 0) (h := 0) q35 cw26 (by omega)
 exact ⟨(by rw [leg_0 h98 h101]), q36⟩

theorem c_iRateHow {w : World} {pv : ByteArray} {vt : Value} {lvt uvt : Nat} {ts : List Rt} {vvt : List Value} {a : ByteArray} {b : ByteArray} (hG0 : Glob w) (hvt : RtS w lvt uvt vt ts vvt) (h63 : ts.length ≤ 4611686018427387904) (hz : ∀ i, i < ts.length → (ts.getD i rt0).2.2.2.1.length ≤ 4611686018427387904) :
  Ret Tryz.prog 73 [.agg #[.string pv, vt], .string a, .string b] w fun v w' => v = .int .i64 (how pv ts a b) ∧ Chg 0 0 w w' := by
 have hvt0 := hvt.fit
 refine sx_enter Tryz.func73 rfl Tryz.ntmps73 (nbl rfl) ?_
 refine sx_seq fun K1 k1 => sx_region ?_
 refine sx_box [.string pv, vt] rfl rfl rfl (fun b2 w3 eb2 sb2 fb2 cb2 => ?_)
 have zw3 := cb2.size
 refine av rfl rfl (wl_nil (q_n (k1 _ _ ?_)))
 refine sx_seq fun K4 k4 => ?_
 refine sx_block ?_
 refine sx_seq fun K5 k5 => sx_region ?_
 refine sp rfl (px_load rfl (fb2.loadA (vs := [.string pv, vt]) (look_lit rfl) Tryz.isAgg25 Tryz.sizeOf25)) ?_
 have f6 := hG0.ext cb2
 have f7 := hvt0.ext cb2
 refine sx_call rfl rfl Tryz.call93 (c_iRatesOk f6 f7 (by omega) (by first | assumption | exact fun i hi => Nat.le_trans (hzz i hi) (by omega))) (fun v8 w8 p8 => ?_)
 obtain ⟨rfl, c8⟩ := p8
 have zw8 := c8.size
 refine sp rfl (px_notP rfl) ?_
 refine mv rfl rfl ?_
 refine sx_tmpP (t := 11) rfl (fun h110 => ?_) (fun h110 => ?_)
 ·
  refine sx_guardF rfl rfl rfl rfl rfl rfl ?_
  refine sx_guardF rfl rfl rfl rfl rfl rfl ?_
  refine sx_guardF rfl rfl rfl rfl rfl rfl ?_
  refine sp rfl (px_pick rfl rfl) ?_
  refine mv rfl rfl ?_
  refine sx_guardF rfl rfl rfl rfl rfl rfl ?_
  refine sx_guardF rfl rfl rfl rfl rfl rfl ?_
  refine sx_guardF rfl rfl rfl rfl rfl rfl ?_
  refine sp rfl (px_pick rfl rfl) ?_
  refine av rfl rfl (wl_nil (q_n (k5 _ _ ?_)))
  refine sx_sub (Sub.c 1 rfl (.c 2 rfl (.c 3 rfl (.c 6 rfl (.c 7 rfl .nil))))) ?_
  refine sx_condT rfl ?_
  refine sx_seq fun K9 k9 => sx_region ?_
  refine av rfl rfl (wl_nil (q_n (k9 _ _ ?_)))
  refine sx_retc ?_
  refine q_br (q_r (sx_ret1 Tryz.results73 rfl ?_))
  exact ⟨(by unfold how; first | grind | simp_all), (cb2.t c8)⟩
 refine sx_guardT rfl rfl rfl ?_
 refine mv rfl rfl ?_
 refine sx_guardT rfl rfl rfl ?_
 have f10 := f6.ext c8
 refine sx_call rfl rfl Tryz.call45 (c_iCurKnown f10) (fun v11 w11 p11 => ?_)
 obtain ⟨rfl, c11⟩ := p11
 have zw11 := c11.size
 refine sx_guardT rfl rfl rfl ?_
 refine sp rfl (px_notP rfl) ?_
 refine sp rfl (px_pick rfl rfl) ?_
 refine mv rfl rfl ?_
 refine sx_tmpP (t := 16) rfl (fun h110x1 => ?_) (fun h110x1 => ?_)
 ·
  refine sx_guardF rfl rfl rfl rfl rfl rfl ?_
  refine sx_guardF rfl rfl rfl rfl rfl rfl ?_
  refine sx_guardF rfl rfl rfl rfl rfl rfl ?_
  refine sp rfl (px_pick rfl rfl) ?_
  refine av rfl rfl (wl_nil (q_n (k5 _ _ ?_)))
  refine sx_sub (Sub.c 1 rfl (.c 2 rfl (.c 3 rfl (.c 6 rfl (.c 7 rfl .nil))))) ?_
  refine sx_condT rfl ?_
  refine sx_seq fun K12 k12 => sx_region ?_
  refine av rfl rfl (wl_nil (q_n (k12 _ _ ?_)))
  refine sx_retc ?_
  refine q_br (q_r (sx_ret1 Tryz.results73 rfl ?_))
  exact ⟨(by unfold how; first | grind | simp_all), ((cb2.t c8).t c11)⟩
 refine sx_guardT rfl rfl rfl ?_
 refine mv rfl rfl ?_
 refine sx_guardT rfl rfl rfl ?_
 have f13 := f10.ext c11
 refine sx_call rfl rfl Tryz.call45 (c_iCurKnown f13) (fun v14 w14 p14 => ?_)
 obtain ⟨rfl, c14⟩ := p14
 have zw14 := c14.size
 refine sx_guardT rfl rfl rfl ?_
 refine sp rfl (px_notP rfl) ?_
 refine sp rfl (px_pick rfl rfl) ?_
 refine av rfl rfl (wl_nil (q_n (k5 _ _ ?_)))
 refine sx_sub (Sub.c 1 rfl (.c 2 rfl (.c 3 rfl (.c 6 rfl (.c 7 rfl .nil))))) ?_
 refine sx_condP rfl (fun h110x2 => ?_) (fun h110x2 => ?_)
 ·
  refine sx_seq fun K15 k15 => sx_region ?_
  refine av rfl rfl (wl_nil (q_n (k15 _ _ ?_)))
  refine sx_retc ?_
  refine q_br (q_r (sx_ret1 Tryz.results73 rfl ?_))
  exact ⟨(by unfold how; first | grind | simp_all), (((cb2.t c8).t c11).t c14)⟩
 refine sx_seq fun K16 k16 => sx_region ?_
 refine mv rfl rfl (mv rfl rfl (sp rfl (px_eqS rfl rfl) ?_))
 refine av rfl rfl (wl_nil (q_n (k16 _ _ ?_)))
 refine sx_condP rfl (fun h112 => ?_) (fun h112 => ?_)
 ·
  refine sx_seq fun K17 k17 => sx_region ?_
  refine av rfl rfl (wl_nil (q_n (k17 _ _ ?_)))
  refine sx_retc ?_
  refine q_br (q_r (sx_ret1 Tryz.results73 rfl ?_))
  exact ⟨(by unfold how; first | grind | simp_all), (((cb2.t c8).t c11).t c14)⟩
 refine sx_seq fun K18 k18 => sx_region ?_
 have f21 := ((fb2.ext c8).ext c11).ext c14
 refine sp rfl (px_load rfl (f21.loadA (vs := [.string pv, vt]) (look_lit rfl) Tryz.isAgg25 Tryz.sizeOf25)) ?_
 refine mv rfl rfl (mv rfl rfl ?_)
 have f24 := ((f7.ext c8).ext c11).ext c14
 refine sx_call rfl rfl Tryz.call94 (c_simple f24 (by omega)) (fun v25 w25 p25 => ?_)
 obtain ⟨rfl, c25⟩ := p25
 have zw25 := c25.size
 refine sp rfl (px_ne rfl rfl) ?_
 refine av rfl rfl (wl_nil (q_n (k18 _ _ ?_)))
 refine sx_sub (Sub.c 1 rfl (.c 2 rfl (.c 3 rfl (.c 6 rfl (.c 25 rfl .nil))))) ?_
 refine sx_condP rfl (fun h114 => ?_) (fun h114 => ?_)
 ·
  refine sx_seq fun K26 k26 => sx_region ?_
  have f27 := f21.ext c25
  refine sp rfl (px_load rfl (f27.loadA (vs := [.string pv, vt]) (look_lit rfl) Tryz.isAgg25 Tryz.sizeOf25)) ?_
  refine mv rfl rfl (mv rfl rfl ?_)
  have f28 := f24.ext c25
  refine sx_call rfl rfl Tryz.call94 (c_simple f28 (by omega)) (fun v29 w29 p29 => ?_)
  obtain ⟨rfl, c29⟩ := p29
  have zw29 := c29.size
  refine av rfl rfl (wl_nil (q_n (k26 _ _ ?_)))
  refine sx_retc ?_
  refine q_br (q_r (sx_ret1 Tryz.results73 rfl ?_))
  exact ⟨(by unfold how; first | grind | simp_all), (((((cb2.t c8).t c11).t c14).t c25).t c29)⟩
 refine sx_seq fun K30 k30 => sx_region ?_
 refine mv rfl rfl (sp rfl (px_field rfl xfld25x0) ?_)
 have f31 := f21.ext c25
 refine sp rfl (px_load rfl (f31.load1 rfl Tryz.isAgg9)) ?_
 refine sp rfl (px_neS rfl rfl) ?_
 refine mv rfl rfl ?_
 refine sx_tmpP (t := 40) rfl (fun h116 => ?_) (fun h116 => ?_)
 ·
  refine sx_guardT rfl rfl rfl ?_
  refine mv rfl rfl ?_
  refine sx_guardT rfl rfl rfl ?_
  refine sp rfl (px_field rfl xfld25x0) ?_
  refine sx_guardT rfl rfl rfl ?_
  refine sp rfl (px_load rfl (f31.load1 rfl Tryz.isAgg9)) ?_
  refine sx_guardT rfl rfl rfl ?_
  refine sp rfl (px_neS rfl rfl) ?_
  refine sp rfl (px_pick rfl rfl) ?_
  refine mv rfl rfl ?_
  refine sx_tmpP (t := 46) rfl (fun h116x1 => ?_) (fun h116x1 => ?_)
  ·
   refine sx_guardT rfl rfl rfl ?_
   refine sp rfl (px_load rfl (f31.loadA (vs := [.string pv, vt]) (look_lit rfl) Tryz.isAgg25 Tryz.sizeOf25)) ?_
   refine sx_guardT rfl rfl rfl ?_
   refine mv rfl rfl ?_
   refine sx_guardT rfl rfl rfl ?_
   refine sp rfl (px_field rfl xfld25x0) ?_
   refine sx_guardT rfl rfl rfl ?_
   refine sp rfl (px_load rfl (f31.load1 rfl Tryz.isAgg9)) ?_
   refine sx_guardT rfl rfl rfl ?_
   have f32 := f24.ext c25
   refine sx_call rfl rfl Tryz.call94 (c_simple f32 (by omega)) (fun v33 w33 p33 => ?_)
   obtain ⟨rfl, c33⟩ := p33
   have zw33 := c33.size
   refine sx_guardT rfl rfl rfl ?_
   refine sp rfl (px_ne rfl rfl) ?_
   refine sp rfl (px_pick rfl rfl) ?_
   refine mv rfl rfl ?_
   refine sx_tmpP (t := 54) rfl (fun h116x2 => ?_) (fun h116x2 => ?_)
   ·
    refine sx_guardT rfl rfl rfl ?_
    have f34 := f31.ext c33
    refine sp rfl (px_load rfl (f34.loadA (vs := [.string pv, vt]) (look_lit rfl) Tryz.isAgg25 Tryz.sizeOf25)) ?_
    refine sx_guardT rfl rfl rfl ?_
    refine sp rfl (px_field rfl xfld25x0) ?_
    refine sx_guardT rfl rfl rfl ?_
    refine sp rfl (px_load rfl (f34.load1 rfl Tryz.isAgg9)) ?_
    refine sx_guardT rfl rfl rfl ?_
    refine mv rfl rfl ?_
    refine sx_guardT rfl rfl rfl ?_
    have f35 := f32.ext c33
    refine sx_call rfl rfl Tryz.call94 (c_simple f35 (by omega)) (fun v36 w36 p36 => ?_)
    obtain ⟨rfl, c36⟩ := p36
    have zw36 := c36.size
    refine sx_guardT rfl rfl rfl ?_
    refine sp rfl (px_ne rfl rfl) ?_
    refine sp rfl (px_pick rfl rfl) ?_
    refine av rfl rfl (wl_nil (q_n (k30 _ _ ?_)))
    refine sx_sub (Sub.c 6 rfl (.c 35 rfl .nil)) ?_
    refine sx_condP rfl (fun h116x3 => ?_) (fun h116x3 => ?_)
    ·
     refine sx_seq fun K37 k37 => sx_region ?_
     refine av rfl rfl (wl_nil (q_n (k37 _ _ ?_)))
     refine sx_retc ?_
     refine q_br (q_r (sx_ret1 Tryz.results73 rfl ?_))
     exact ⟨(by unfold how; first | grind | simp_all), ((((((cb2.t c8).t c11).t c14).t c25).t c33).t c36)⟩
    refine sx_skip ?_
    refine q_bn (q_n (k4 _ _ ?_))
    refine sx_seq fun K38 k38 => sx_region ?_
    refine av rfl rfl (wl_nil (q_n (k38 _ _ ?_)))
    refine sx_retc ?_
    refine sx_ret1 Tryz.results73 rfl ?_
    exact ⟨(by unfold how; first | grind | simp_all), ((((((cb2.t c8).t c11).t c14).t c25).t c33).t c36)⟩
   refine sx_guardF rfl rfl rfl rfl rfl rfl ?_
   refine sx_guardF rfl rfl rfl rfl rfl rfl ?_
   refine sx_guardF rfl rfl rfl rfl rfl rfl ?_
   refine sx_guardF rfl rfl rfl rfl rfl rfl ?_
   refine sx_guardF rfl rfl rfl rfl rfl rfl ?_
   refine sx_guardF rfl rfl rfl rfl rfl rfl ?_
   refine sp rfl (px_pick rfl rfl) ?_
   refine av rfl rfl (wl_nil (q_n (k30 _ _ ?_)))
   refine sx_sub (Sub.c 6 rfl (.c 35 rfl .nil)) ?_
   refine sx_condF rfl ?_
   refine sx_skip ?_
   refine q_bn (q_n (k4 _ _ ?_))
   refine sx_seq fun K39 k39 => sx_region ?_
   refine av rfl rfl (wl_nil (q_n (k39 _ _ ?_)))
   refine sx_retc ?_
   refine sx_ret1 Tryz.results73 rfl ?_
   exact ⟨(by unfold how; first | grind | simp_all), (((((cb2.t c8).t c11).t c14).t c25).t c33)⟩
  refine sx_guardF rfl rfl rfl rfl rfl rfl ?_
  refine sx_guardF rfl rfl rfl rfl rfl rfl ?_
  refine sx_guardF rfl rfl rfl rfl rfl rfl ?_
  refine sx_guardF rfl rfl rfl rfl rfl rfl ?_
  refine sx_guardF rfl rfl rfl rfl rfl rfl ?_
  refine sx_guardF rfl rfl rfl rfl rfl rfl ?_
  refine sp rfl (px_pick rfl rfl) ?_
  refine mv rfl rfl ?_
  refine sx_guardF rfl rfl rfl rfl rfl rfl ?_
  refine sx_guardF rfl rfl rfl rfl rfl rfl ?_
  refine sx_guardF rfl rfl rfl rfl rfl rfl ?_
  refine sx_guardF rfl rfl rfl rfl rfl rfl ?_
  refine sx_guardF rfl rfl rfl rfl rfl rfl ?_
  refine sx_guardF rfl rfl rfl rfl rfl rfl ?_
  refine sp rfl (px_pick rfl rfl) ?_
  refine av rfl rfl (wl_nil (q_n (k30 _ _ ?_)))
  refine sx_sub (Sub.c 6 rfl (.c 35 rfl .nil)) ?_
  refine sx_condF rfl ?_
  refine sx_skip ?_
  refine q_bn (q_n (k4 _ _ ?_))
  refine sx_seq fun K40 k40 => sx_region ?_
  refine av rfl rfl (wl_nil (q_n (k40 _ _ ?_)))
  refine sx_retc ?_
  refine sx_ret1 Tryz.results73 rfl ?_
  exact ⟨(by unfold how; first | grind | simp_all), ((((cb2.t c8).t c11).t c14).t c25)⟩
 refine sx_guardF rfl rfl rfl rfl rfl rfl ?_
 refine sx_guardF rfl rfl rfl rfl rfl rfl ?_
 refine sx_guardF rfl rfl rfl rfl rfl rfl ?_
 refine sx_guardF rfl rfl rfl rfl rfl rfl ?_
 refine sp rfl (px_pick rfl rfl) ?_
 refine mv rfl rfl ?_
 refine sx_guardF rfl rfl rfl rfl rfl rfl ?_
 refine sx_guardF rfl rfl rfl rfl rfl rfl ?_
 refine sx_guardF rfl rfl rfl rfl rfl rfl ?_
 refine sx_guardF rfl rfl rfl rfl rfl rfl ?_
 refine sx_guardF rfl rfl rfl rfl rfl rfl ?_
 refine sx_guardF rfl rfl rfl rfl rfl rfl ?_
 refine sp rfl (px_pick rfl rfl) ?_
 refine mv rfl rfl ?_
 refine sx_guardF rfl rfl rfl rfl rfl rfl ?_
 refine sx_guardF rfl rfl rfl rfl rfl rfl ?_
 refine sx_guardF rfl rfl rfl rfl rfl rfl ?_
 refine sx_guardF rfl rfl rfl rfl rfl rfl ?_
 refine sx_guardF rfl rfl rfl rfl rfl rfl ?_
 refine sx_guardF rfl rfl rfl rfl rfl rfl ?_
 refine sp rfl (px_pick rfl rfl) ?_
 refine av rfl rfl (wl_nil (q_n (k30 _ _ ?_)))
 refine sx_sub (Sub.c 6 rfl (.c 35 rfl .nil)) ?_
 refine sx_condF rfl ?_
 refine sx_skip ?_
 refine q_bn (q_n (k4 _ _ ?_))
 refine sx_seq fun K41 k41 => sx_region ?_
 refine av rfl rfl (wl_nil (q_n (k41 _ _ ?_)))
 refine sx_retc ?_
 refine sx_ret1 Tryz.results73 rfl ?_
 exact ⟨(by unfold how; first | grind | simp_all), ((((cb2.t c8).t c11).t c14).t c25)⟩

theorem c_natOf {w : World} {n : Int} (hn : 0 ≤ n ∧ n ≤ 18446744073709551615) :
  Ret Tryz.prog 61 [.int .u64 n] w fun v w' => ∃ s, v = s ∧ OwnI w' w.heap.size w'.heap.size s intT (dg (n).toNat) ∧ Chg 0 0 w w' := by
 have l0 := len_u64 (n := n) (by omega)
 refine sx_enter Tryz.func61 rfl Tryz.ntmps61 (nbl rfl) ?_
 refine sx_seq fun K1 k1 => sx_region ?_
 refine av rfl rfl (wl_nil (q_n (k1 _ _ ?_)))
 refine sx_seq fun K2 k2 => sx_region ?_
 refine sx_lit0 rfl xelt28 (fun s3 ws3 ss3 fs3 cs3 => ?_)
 have zws3 := cs3.size
 refine av rfl rfl (wl_nil (q_n (k2 _ _ ?_)))
 refine sx_seq fun K4 k4 => ?_
 refine sx_block ?_
 refine sx_loop (fun mm aa w' => ∃ (s : Value) (os : List Int) (m : Int), Agr 16 [(0, .int .u64 m), (3, s)] aa ∧ Chg w.heap.size ws3.heap.size ws3 w' ∧ Own w' w.heap.size w'.heap.size s intT os.length 1 (os.map (Value.int .i64)) ∧ (mm = m.toNat) ∧ (Lm os) ∧ (0 ≤ m ∧ m ≤ n) ∧ (vl os + Bs ^ os.length * m.toNat = n.toNat) ∧ (os.length + (dg m.toNat).length = (dg n.toNat).length) ∧ (os.length = 0 ∨ Bs ^ (os.length - 1) ≤ n.toNat)) (_) (fun a ha => ⟨s3, [], n, ha.sub (Sub.c 0 rfl (.c 3 rfl .nil)), Chg.refl _ _ _, (fs3.mono (by omega) (by omega)), rfl, Lm.nil, by omega, by simp [vl], by simp, .inl rfl⟩) ?_
 rintro mm aa wl5 ⟨s, os, m, hAwl5, cwl5, hs_s, hm, hlm, hb, hv, hln, hl⟩
 refine (show cw Tryz.prog 16 _ _ _ wl5 from ?_) aa hAwl5
 clear hAwl5
 have zwl5 := cwl5.size
 refine sx_seq fun K6 k6 => ?_
 refine sx_seq fun K7 k7 => sx_region ?_
 refine mv rfl rfl (sp rfl (px_gt rfl rfl) ?_)
 refine wl_nil (q_n (k7 _ _ ?_))
 refine sx_condP rfl (fun h47 => ?_) (fun h47 => ?_)
 ·
  refine sx_skip ?_
  refine q_n (k6 _ _ ?_)
  refine sx_block ?_
  refine sx_seq fun K8 k8 => sx_region ?_
  refine mv rfl rfl (mv rfl rfl (sp rfl (px_remU rfl rfl (by omega) (by omega)) ?_))
  refine sp rfl (px_convI Tryz.underlying102 Tryz.underlying3 rfl (by omega)) ?_
  refine sx_lit1 rfl xelt28 rfl rfl (fun s9 ws9 ss9 fs9 cs9 => ?_)
  have ns9 := Own.norm (f := (Value.int .i64)) (zs := [m % 1000000000]) fs9
  have zws9 := cs9.size
  have f11 := hs_s.ext cs9
  refine sx_append rfl xelt28 rfl rfl f11 ns9.sv one_int (by omega) (by simp only [List.length_cons, List.length_nil]; omega) (by unfold maxLen; simp only [List.length_cons, List.length_nil]; omega) (fun a10 w10 fw10 cw10 => ?_)
  have nw10 := Own.app (f := (Value.int .i64)) (a := os) (b := [m % 1000000000]) fw10
  have zw10 := cw10.size
  refine av rfl rfl (wl_nil (q_n (k8 _ _ ?_)))
  refine sx_region ?_
  refine mv rfl rfl (sp rfl (px_quoU rfl rfl (by omega) (by omega) (by omega)) ?_)
  refine av rfl rfl (wl_nil ?_)
  have q12 := Chg.step (l := w.heap.size) (h := ws3.heap.size) cwl5 cs9 (by omega)
  have q13 := Chg.step (l := w.heap.size) (h := ws3.heap.size) q12 cw10 (by omega)
  have hmd := mod_bd (s := m) (by omega)
  have hm0 : m / 1000000000 < m := by omega
  exact q_bn (fun a ha => ⟨_, by omega, a10, (os ++ ([m % 1000000000])), (m / 1000000000), ha.sub (Sub.c 0 rfl (.c 3 rfl .nil)), q13, (nw10.mono (by omega) (by omega)), rfl, hlm.append (Lm.single hmd.1 hmd.2), by omega, of_stepI (by omega) hv, by have h9 := of_ln (m := m) (by omega); simp only [List.length_append, List.length_singleton]; omega, .inr (of_len (by omega) hv)⟩)
 refine sx_exit ?_
 refine q_e (q_e (q_bx (q_n (k4 _ _ ?_))))
 refine sx_seq fun K14 k14 => sx_region ?_
 refine mv rfl rfl (av rfl rfl (wl_nil (q_n (k14 _ _ ?_))))
 refine sx_retc ?_
 refine sx_ret1 Tryz.results61 rfl ?_
 have hm0 : m = 0 := by omega
 subst hm0
 have hd : os = dg n.toNat := dg_of hlm (by simpa using hv) hl
 subst hd
 have q15 := Chg.step (l := 0) (h := 0) (Chg.zero (l := 0) (h := 0) cs3) cwl5 (by omega)
 exact ⟨_, rfl, (Own.mono hs_s (by omega) (by omega)), q15⟩

theorem c_iIntOf {w : World} {n : Int} (hn : -9223372036854775808 ≤ n ∧ n ≤ 9223372036854775807) :
  Ret Tryz.prog 28 [.int .i64 n] w fun v w' => ∃ s, v = .agg #[.bool (ng n), s] ∧ OwnI w' w.heap.size w'.heap.size s intT (dg (n).natAbs) ∧ Chg 0 0 w w' := by
 refine sx_enter Tryz.func28 rfl Tryz.ntmps28 (nbl rfl) ?_
 refine sx_seq fun K1 k1 => sx_region ?_
 refine sx_alloc [.bool false, (.slice none 0 0)] rfl Tryz.zeroValue30 rfl (fun b2 w3 eb2 sb2 fb2 cb2 => ?_)
 have zw3 := cb2.size
 refine wl_nil (q_n (k1 _ _ ?_))
 refine sx_seq fun K4 k4 => ?_
 refine sx_seq fun K5 k5 => sx_region ?_
 refine mv rfl rfl (sp rfl (px_lt rfl rfl) ?_)
 refine wl_nil (q_n (k5 _ _ ?_))
 refine sx_condP rfl (fun h23 => ?_) (fun h23 => ?_)
 ·
  refine sx_seq fun K6 k6 => sx_region ?_
  refine mv rfl rfl (sp rfl (px_convUn Tryz.underlying3 Tryz.underlying102 rfl (by omega)) ?_)
  refine sp rfl (px_negU rfl (by omega)) ?_
  refine sx_call rfl rfl Tryz.call61 (c_natOf (by omega)) (fun v7 w7 p7 => ?_)
  obtain ⟨s7, rfl, os_7, c7⟩ := p7
  have zw7 := c7.size
  refine sp rfl (px_build rfl (xbld30x0x1 rfl os_7.one _)) ?_
  have f9 := fb2.ext c7
  refine sx_store (vs := [.bool true, v7]) rfl rfl f9 rfl Tryz.sizeOf30 (nbl rfl) (one_cons rfl (one_cons os_7.one one_nil)) (fun w8 sw8 fw8 cw8 => ?_)
  have zw8 := cw8.size
  have gw8 : Blk w8 b2 [.bool true, v7] 30 := fw8
  refine wl_nil (q_n (k6 _ _ ?_))
  refine sx_retc ?_
  refine q_r (sx_ret1 Tryz.results28 ⟨_, rfl, gw8.loadA (vs := [.bool true, v7]) (look_lit rfl) Tryz.isAgg30 Tryz.sizeOf30⟩ ?_)
  have e1 : (18446744073709551616 - (n + 18446744073709551616)).toNat = n.natAbs := by omega
  have e2 : ng n = true := ng_true.2 (by omega)
  rw [e2, ← e1]
  have q10 := Chg.step (l := 0) (h := 0) (Chg.zero (l := 0) (h := 0) (cb2.t c7)) cw8 (by omega)
  have f11 := os_7.chg cw8 (by omega)
  exact ⟨_, rfl, (Own.mono f11 (by omega) (by omega)), q10⟩
 refine sx_skip ?_
 refine q_n (k4 _ _ ?_)
 refine sx_seq fun K12 k12 => sx_region ?_
 refine mv rfl rfl (sp rfl (px_convU Tryz.underlying3 Tryz.underlying102 rfl (by omega)) ?_)
 refine sx_call rfl rfl Tryz.call61 (c_natOf (by omega)) (fun v13 w13 p13 => ?_)
 obtain ⟨s13, rfl, os_13, c13⟩ := p13
 have zw13 := c13.size
 refine sp rfl (px_build rfl (xbld30x0x1 rfl os_13.one _)) ?_
 have f15 := fb2.ext c13
 refine sx_store (vs := [.bool false, v13]) rfl rfl f15 rfl Tryz.sizeOf30 (nbl rfl) (one_cons rfl (one_cons os_13.one one_nil)) (fun w14 sw14 fw14 cw14 => ?_)
 have zw14 := cw14.size
 have gw14 : Blk w14 b2 [.bool false, v13] 30 := fw14
 refine wl_nil (q_n (k12 _ _ ?_))
 refine sx_retc ?_
 refine sx_ret1 Tryz.results28 ⟨_, rfl, gw14.loadA (vs := [.bool false, v13]) (look_lit rfl) Tryz.isAgg30 Tryz.sizeOf30⟩ ?_
 have e1 : n.toNat = n.natAbs := by omega
 have e2 : ng n = false := ng_false.2 (by omega)
 rw [e2, ← e1]
 have q16 := Chg.step (l := 0) (h := 0) (Chg.zero (l := 0) (h := 0) (cb2.t c13)) cw14 (by omega)
 have f17 := os_13.chg cw14 (by omega)
 exact ⟨_, rfl, (Own.mono f17 (by omega) (by omega)), q16⟩

theorem c_intsOk {w : World} {n1 : Bool} {v1 : Value} {lv1 uv1 : Nat} {z1 : List Int} {n2 : Bool} {v2 : Value} {lv2 uv2 : Nat} {z2 : List Int} (hv1 : Sl w lv1 uv1 v1 (z1)) (hv2 : Sl w lv2 uv2 v2 (z2)) (h63 : z1.length ≤ 4611686018427387904 ∧ z2.length ≤ 4611686018427387904) :
  Ret Tryz.prog 103 [.agg #[.bool n1, v1], .agg #[.bool n2, v2]] w fun v w' => v = .bool (decide (IOk n1 z1 ∧ IOk n2 z2)) ∧ Chg 0 0 w w' := by
 have hv10 := hv1.fit
 have hv20 := hv2.fit
 refine sx_enter Tryz.func103 rfl Tryz.ntmps103 (nbl rfl) ?_
 refine sx_seq fun K1 k1 => sx_region ?_
 refine sx_box [.bool n1, v1] rfl rfl rfl (fun b2 w3 eb2 sb2 fb2 cb2 => ?_)
 have zw3 := cb2.size
 refine sx_box [.bool n2, v2] rfl rfl rfl (fun b4 w5 eb4 sb4 fb4 cb4 => ?_)
 have zw5 := cb4.size
 refine av rfl rfl (wl_nil (q_n (k1 _ _ ?_)))
 refine sx_seq fun K6 k6 => sx_region ?_
 have f7 := fb2.ext cb4
 refine sp rfl (px_load rfl (f7.loadA (vs := [.bool n1, v1]) (look_lit rfl) Tryz.isAgg30 Tryz.sizeOf30)) ?_
 have f8 := hv10.ext cb2
 have f9 := f8.ext cb4
 refine sx_call rfl rfl Tryz.call46 (c_iIntOk f9 (by omega)) (fun v10 w10 p10 => ?_)
 obtain ⟨rfl, c10⟩ := p10
 have zw10 := c10.size
 refine mv rfl rfl ?_
 refine sx_tmpP (t := 7) rfl (fun h13 => ?_) (fun h13 => ?_)
 ·
  refine sx_guardT rfl rfl rfl ?_
  have f11 := fb4.ext c10
  refine sp rfl (px_load rfl (f11.loadA (vs := [.bool n2, v2]) (look_lit rfl) Tryz.isAgg30 Tryz.sizeOf30)) ?_
  refine sx_guardT rfl rfl rfl ?_
  have f12 := hv20.ext cb2
  have f13 := f12.ext cb4
  have f14 := f13.ext c10
  refine sx_call rfl rfl Tryz.call46 (c_iIntOk f14 (by omega)) (fun v15 w15 p15 => ?_)
  obtain ⟨rfl, c15⟩ := p15
  have zw15 := c15.size
  refine sp rfl (px_pick rfl rfl) ?_
  refine av rfl rfl (wl_nil (q_n (k6 _ _ ?_)))
  refine sx_retc ?_
  refine sx_ret1 Tryz.results103 rfl ?_
  exact ⟨(by first | exact bTrue (by grind) | exact bFalse (by grind) | exact bIff (by grind)), (((cb2.t cb4).t c10).t c15)⟩
 refine sx_guardF rfl rfl rfl rfl rfl rfl ?_
 refine sx_guardF rfl rfl rfl rfl rfl rfl ?_
 refine sp rfl (px_pick rfl rfl) ?_
 refine av rfl rfl (wl_nil (q_n (k6 _ _ ?_)))
 refine sx_retc ?_
 refine sx_ret1 Tryz.results103 rfl ?_
 exact ⟨(by first | exact bTrue (by grind) | exact bFalse (by grind) | exact bIff (by grind)), ((cb2.t cb4).t c10)⟩

theorem c_signed {w : World} {n : Bool} {va : Value} {lva uva : Nat} {zs : List Int} (hva : Sl w lva uva va (zs)) (h63 : zs.length ≤ 4611686018427387904) :
  Ret Tryz.prog 20 [.bool n, va] w fun v w' => v = .agg #[.bool (nz n zs), va] ∧ Chg 0 0 w w' := by
 have hva0 := hva.fit
 refine sx_enter Tryz.func20 rfl Tryz.ntmps20 (nbl rfl) ?_
 refine sx_seq fun K1 k1 => sx_region ?_
 refine sx_alloc [.bool false, (.slice none 0 0)] rfl Tryz.zeroValue30 rfl (fun b2 w3 eb2 sb2 fb2 cb2 => ?_)
 have zw3 := cb2.size
 refine wl_nil (q_n (k1 _ _ ?_))
 refine sx_seq fun K4 k4 => sx_region ?_
 refine mv rfl rfl (mv rfl rfl ?_)
 refine sx_tmpB (t := 6) rfl (fun h16 => ?_) (fun h16 => ?_)
 ·
  refine sx_guardT rfl rfl rfl ?_
  refine mv rfl rfl ?_
  refine sx_guardT rfl rfl rfl ?_
  have f5 := hva0.ext cb2
  refine sp rfl (px_len rfl Tryz.underlying28 f5) ?_
  refine sx_guardT rfl rfl rfl ?_
  refine sp rfl (px_gt rfl rfl) ?_
  refine sp rfl (px_pick rfl rfl) ?_
  refine mv rfl rfl (sp rfl (px_build rfl (xbld30x0x1 rfl f5.one _)) ?_)
  refine sx_store (vs := [.bool (decide ((0 : Int) < ↑((zs).length))), va]) rfl rfl fb2 rfl Tryz.sizeOf30 (nbl rfl) (one_cons rfl (one_cons f5.one one_nil)) (fun w6 sw6 fw6 cw6 => ?_)
  have zw6 := cw6.size
  have gw6 : Blk w6 b2 [.bool (decide ((0 : Int) < ↑((zs).length))), va] 30 := fw6
  refine wl_nil (q_n (k4 _ _ ?_))
  refine sx_retc ?_
  refine sx_ret1 Tryz.results20 ⟨_, rfl, gw6.loadA (vs := [.bool (decide ((0 : Int) < ↑((zs).length))), va]) (look_lit rfl) Tryz.isAgg30 Tryz.sizeOf30⟩ ?_
  have q7 := Chg.step (l := 0) (h := 0) (Chg.zero (l := 0) (h := 0) cb2) cw6 (by omega)
  exact ⟨(by simp [nz, h16]), q7⟩
 refine sx_guardF rfl rfl rfl rfl rfl rfl ?_
 refine sx_guardF rfl rfl rfl rfl rfl rfl ?_
 refine sx_guardF rfl rfl rfl rfl rfl rfl ?_
 refine sp rfl (px_pick rfl rfl) ?_
 refine mv rfl rfl ?_
 have f8 := hva0.ext cb2
 refine sp rfl (px_build rfl (xbld30x0x1 rfl f8.one _)) ?_
 refine sx_store (vs := [.bool false, va]) rfl rfl fb2 rfl Tryz.sizeOf30 (nbl rfl) (one_cons rfl (one_cons f8.one one_nil)) (fun w9 sw9 fw9 cw9 => ?_)
 have zw9 := cw9.size
 have gw9 : Blk w9 b2 [.bool false, va] 30 := fw9
 refine wl_nil (q_n (k4 _ _ ?_))
 refine sx_retc ?_
 refine sx_ret1 Tryz.results20 ⟨_, rfl, gw9.loadA (vs := [.bool false, va]) (look_lit rfl) Tryz.isAgg30 Tryz.sizeOf30⟩ ?_
 have q10 := Chg.step (l := 0) (h := 0) (Chg.zero (l := 0) (h := 0) cb2) cw9 (by omega)
 exact ⟨(by simp [nz, h16]), q10⟩

theorem c_natCmp {w : World} {va : Value} {lva uva : Nat} {zs : List Int} {vb : Value} {lvb uvb : Nat} {ys : List Int} (hva : Sl w lva uva va (zs)) (hvb : Sl w lvb uvb vb (ys)) (h63 : zs.length ≤ 4611686018427387904 ∧ ys.length ≤ 4611686018427387904) :
  Ret Tryz.prog 54 [va, vb] w fun v w' => v = .int .i64 (cmpL zs ys) ∧ Chg 0 0 w w' := by
 have hva0 := hva.fit
 have hvb0 := hvb.fit
 have zs0 : zs.drop zs.length = [] := by simp
 have ys0 : ys.drop ys.length = [] := by simp
 refine sx_enter Tryz.func54 rfl Tryz.ntmps54 (nbl rfl) ?_
 refine sx_seq fun K1 k1 => sx_region ?_
 refine av rfl rfl (wl_nil (q_n (k1 _ _ ?_)))
 refine sx_seq fun K2 k2 => ?_
 refine sx_seq fun K3 k3 => sx_region ?_
 refine mv rfl rfl (sp rfl (px_len rfl Tryz.underlying28 hva0) ?_)
 refine mv rfl rfl (sp rfl (px_len rfl Tryz.underlying28 hvb0) ?_)
 refine sp rfl (px_ne rfl rfl) ?_
 refine wl_nil (q_n (k3 _ _ ?_))
 refine sx_condP rfl (fun h76 => ?_) (fun h76 => ?_)
 ·
  refine sx_seq fun K4 k4 => ?_
  refine sx_seq fun K5 k5 => sx_region ?_
  refine mv rfl rfl (sp rfl (px_len rfl Tryz.underlying28 hva0) ?_)
  refine mv rfl rfl (sp rfl (px_len rfl Tryz.underlying28 hvb0) ?_)
  refine sp rfl (px_lt rfl rfl) ?_
  refine wl_nil (q_n (k5 _ _ ?_))
  refine sx_condP rfl (fun h77 => ?_) (fun h77 => ?_)
  ·
   refine sx_seq fun K6 k6 => sx_region ?_
   refine av rfl rfl (wl_nil (q_n (k6 _ _ ?_)))
   refine sx_retc ?_
   refine q_r (q_r (sx_ret1 Tryz.results54 rfl ?_))
   exact ⟨iEq (cmpL_short (by omega)).symm, (Chg.refl 0 0 _)⟩
  refine sx_skip ?_
  refine q_n (k4 _ _ ?_)
  refine sx_seq fun K7 k7 => sx_region ?_
  refine av rfl rfl (wl_nil (q_n (k7 _ _ ?_)))
  refine sx_retc ?_
  refine q_r (sx_ret1 Tryz.results54 rfl ?_)
  exact ⟨iEq (cmpL_long (by omega)).symm, (Chg.refl 0 0 _)⟩
 refine sx_skip ?_
 refine q_n (k2 _ _ ?_)
 refine sx_seq fun K8 k8 => ?_
 refine sx_seq fun K9 k9 => sx_region ?_
 refine mv rfl rfl (sp rfl (px_len rfl Tryz.underlying28 hva0) ?_)
 refine sp rfl (px_sub rfl rfl (by omega)) ?_
 refine av rfl rfl (wl_nil (q_n (k9 _ _ ?_)))
 refine sx_block ?_
 have e00 : zs.length = ys.length := by omega
 have he0 : zs.drop zs.length = ys.drop zs.length := by rw [zs0, e00, ys0]
 refine sx_loop (fun mm aa w' => ∃ (k : Nat), Agr 41 [(0, va), (1, vb), (5, .int .i64 (↑k - 1))] aa ∧ Chg 0 0 w w' ∧ (mm = k) ∧ (k ≤ zs.length) ∧ (zs.drop k = ys.drop k)) (_) (fun a ha => ⟨zs.length, ha.sub (Sub.c 0 rfl (.c 1 rfl (.c 5 (look_int (t := 5) rfl (by first | omega | simp)) .nil))), Chg.refl _ _ _, rfl, by omega, he0⟩) ?_
 rintro mm aa wl10 ⟨k, hAwl10, cwl10, hm, hk, he⟩
 refine (show cw Tryz.prog 41 _ _ _ wl10 from ?_) aa hAwl10
 clear hAwl10
 have zwl10 := cwl10.size
 have hl : zs.length = ys.length := by omega
 refine sx_seq fun K11 k11 => ?_
 refine sx_seq fun K12 k12 => sx_region ?_
 refine mv rfl rfl (sp rfl (px_ge rfl rfl) ?_)
 refine wl_nil (q_n (k12 _ _ ?_))
 refine sx_condP rfl (fun h82 => ?_) (fun h82 => ?_)
 ·
  refine sx_skip ?_
  refine q_n (k11 _ _ ?_)
  refine sx_seq fun K13 k13 => ?_
  refine sx_block ?_
  refine sx_seq fun K14 k14 => ?_
  have f15 := hva0.ext cwl10
  have f16 := hvb0.ext cwl10
  refine dx_region (fun w' => Chg 0 0 wl10 w') (by kernel_rfl) (Chg.zero (Chg.drew _)) ?_
  have d17 := Chg.drew wl10
  have s17 : Chg 0 0 wl10 (World.drew wl10) := Chg.zero (Chg.drew _)
  have y17 : (World.drew wl10).heap.size = wl10.heap.size := rfl
  generalize World.drew wl10 = w17 at *
  have zw17 := d17.size
  refine dt 0 rfl rfl rfl rfl s17 (fun _ hS => px_move rfl) ?_
  refine dt 1 rfl rfl rfl rfl s17 (fun _ hS => px_move rfl) ?_
  refine dt 2 rfl rfl rfl rfl s17 (fun _ hS => px_index1 (j := (k - 1)) rfl rfl (by omega) Tryz.underlying28 Tryz.sizeOf3 ((f15).chg hS (by omega)) (by omega)) ?_
  refine dt 3 rfl rfl rfl rfl s17 (fun _ hS => px_load rfl (((f15).chg hS (by omega)).load1 (at_int (by omega)) Tryz.isAgg3)) ?_
  refine dt 4 rfl rfl rfl rfl s17 (fun _ hS => px_move rfl) ?_
  refine dt 5 rfl rfl rfl rfl s17 (fun _ hS => px_move rfl) ?_
  refine dt 6 rfl rfl rfl rfl s17 (fun _ hS => px_index1 (j := (k - 1)) rfl rfl (by omega) Tryz.underlying28 Tryz.sizeOf3 ((f16).chg hS (by omega)) (by omega)) ?_
  refine dt 7 rfl rfl rfl rfl s17 (fun _ hS => px_load rfl (((f16).chg hS (by omega)).load1 (at_int (by omega)) Tryz.isAgg3)) ?_
  refine dt 8 rfl rfl rfl rfl s17 (fun _ hS => px_ne rfl rfl) ?_
  refine dx_done (by kernel_rfl) ?_
  refine q_n (k14 _ _ ?_)
  refine sx_condP rfl (fun h83 => ?_) (fun h83 => ?_)
  ·
   refine sx_seq fun K18 k18 => ?_
   refine sx_seq fun K19 k19 => ?_
   have f20 := f15.ext d17
   have f21 := f16.ext d17
   refine dx_region (fun w' => Chg 0 0 w17 w') (by kernel_rfl) (Chg.zero (Chg.drew _)) ?_
   have d22 := Chg.drew w17
   have s22 : Chg 0 0 w17 (World.drew w17) := Chg.zero (Chg.drew _)
   have y22 : (World.drew w17).heap.size = w17.heap.size := rfl
   generalize World.drew w17 = w22 at *
   have zw22 := d22.size
   refine dt 0 rfl rfl rfl rfl s22 (fun _ hS => px_move rfl) ?_
   refine dt 1 rfl rfl rfl rfl s22 (fun _ hS => px_move rfl) ?_
   refine dt 2 rfl rfl rfl rfl s22 (fun _ hS => px_index1 (j := (k - 1)) rfl rfl (by omega) Tryz.underlying28 Tryz.sizeOf3 ((f20).chg hS (by omega)) (by omega)) ?_
   refine dt 3 rfl rfl rfl rfl s22 (fun _ hS => px_load rfl (((f20).chg hS (by omega)).load1 (at_int (by omega)) Tryz.isAgg3)) ?_
   refine dt 4 rfl rfl rfl rfl s22 (fun _ hS => px_move rfl) ?_
   refine dt 5 rfl rfl rfl rfl s22 (fun _ hS => px_move rfl) ?_
   refine dt 6 rfl rfl rfl rfl s22 (fun _ hS => px_index1 (j := (k - 1)) rfl rfl (by omega) Tryz.underlying28 Tryz.sizeOf3 ((f21).chg hS (by omega)) (by omega)) ?_
   refine dt 7 rfl rfl rfl rfl s22 (fun _ hS => px_load rfl (((f21).chg hS (by omega)).load1 (at_int (by omega)) Tryz.isAgg3)) ?_
   refine dt 8 rfl rfl rfl rfl s22 (fun _ hS => px_lt rfl rfl) ?_
   refine dx_done (by kernel_rfl) ?_
   refine q_n (k19 _ _ ?_)
   refine sx_sub (Sub.c 0 rfl (.c 1 rfl (.c 5 rfl (.c 40 rfl .nil)))) ?_
   refine sx_condP rfl (fun h84 => ?_) (fun h84 => ?_)
   ·
    refine sx_seq fun K23 k23 => sx_region ?_
    refine av rfl rfl (wl_nil (q_n (k23 _ _ ?_)))
    refine sx_retc ?_
    refine q_r (q_br (q_r (q_r (q_br (q_r (sx_ret1 Tryz.results54 rfl ?_))))))
    have hlt := cmpL_lt hl (k := k - 1) (by omega) (by rw [Nat.sub_add_cancel (by omega)]; exact he) (h84)
    exact ⟨iEq hlt.symm, ((cwl10.t d17).t d22)⟩
   refine sx_skip ?_
   refine q_n (k18 _ _ ?_)
   refine sx_seq fun K24 k24 => sx_region ?_
   refine av rfl rfl (wl_nil (q_n (k24 _ _ ?_)))
   refine sx_retc ?_
   refine q_br (q_r (q_r (q_br (q_r (sx_ret1 Tryz.results54 rfl ?_)))))
   have hlt := cmpL_gt hl (k := k - 1) (by omega) (by rw [Nat.sub_add_cancel (by omega)]; exact he) (by omega)
   exact ⟨iEq hlt.symm, ((cwl10.t d17).t d22)⟩
  refine sx_skip ?_
  refine q_bn (q_n (k13 _ _ ?_))
  refine sx_region ?_
  refine mv rfl rfl (sp rfl (px_sub rfl rfl (by omega)) ?_)
  refine av rfl rfl (wl_nil ?_)
  exact fun a ha => ⟨_, by omega, (k - 1), ha.sub (Sub.c 0 rfl (.c 1 rfl (.c 5 (look_int (t := 5) rfl (by first | omega | simp)) .nil))), (cwl10.t d17), rfl, by omega, drop_succ_eq (by omega) (by omega) (by rw [Nat.sub_add_cancel (by omega)]; exact he) (by omega)⟩
 refine sx_exit ?_
 refine q_e (q_e (q_bx (q_n (k8 _ _ ?_))))
 refine sx_seq fun K25 k25 => sx_region ?_
 refine av rfl rfl (wl_nil (q_n (k25 _ _ ?_)))
 refine sx_retc ?_
 refine sx_ret1 Tryz.results54 rfl ?_
 have e1 : k = 0 := by omega
 subst e1
 have e2 : zs = ys := by simpa using he
 subst e2
 exact ⟨iEq (cmpL_self zs).symm, cwl10⟩

theorem c_natCopy {w : World} {va : Value} {lva uva : Nat} {zs : List Int} (hva : Sl w lva uva va (zs)) (h63 : zs.length ≤ 1048576) :
  Ret Tryz.prog 63 [va] w fun v w' => ∃ s, v = s ∧ OwnI w' w.heap.size w'.heap.size s intT (zs) ∧ Chg 0 0 w w' := by
 have hva0 := hva.fit
 refine sx_enter Tryz.func63 rfl Tryz.ntmps63 (nbl rfl) ?_
 refine sx_seq fun K1 k1 => sx_region ?_
 refine av rfl rfl (wl_nil (q_n (k1 _ _ ?_)))
 refine sx_seq fun K2 k2 => sx_region ?_
 refine sx_lit0 rfl xelt28 (fun s3 ws3 ss3 fs3 cs3 => ?_)
 have zws3 := cs3.size
 refine mv rfl rfl ?_
 have f5 := hva0.ext cs3
 refine sx_append rfl xelt28 rfl rfl fs3 f5 one_int (by omega) (by omega) (by unfold maxLen; omega) (fun a4 w4 fw4 cw4 => ?_)
 have nw4 := Own.norm (f := (Value.int .i64)) (zs := zs) fw4
 have zw4 := cw4.size
 refine av rfl rfl (wl_nil (q_n (k2 _ _ ?_)))
 refine sx_retc ?_
 refine sx_ret1 Tryz.results63 rfl ?_
 have q6 := Chg.step (l := 0) (h := 0) (Chg.zero (l := 0) (h := 0) cs3) cw4 (by omega)
 exact ⟨_, rfl, Own.mono nw4 (by omega) (by omega), q6⟩

theorem c_trim {w : World} {va : Value} {lva uva : Nat} {zs : List Int} (hva : OwnI w lva uva va intT (zs)) (hz : Lm zs) (h63 : zs.length ≤ 1000000) :
  Ret Tryz.prog 51 [va] w fun v w' => ∃ s, v = s ∧ OwnI w' (lva) (uva) s intT (dg (vl zs)) ∧ Chg 0 0 w w' := by
 refine sx_enter Tryz.func51 rfl Tryz.ntmps51 (nbl rfl) ?_
 refine sx_seq fun K1 k1 => sx_region ?_
 refine av rfl rfl (wl_nil (q_n (k1 _ _ ?_)))
 refine sx_seq fun K2 k2 => ?_
 refine sx_block ?_
 refine sx_loop (fun mm aa w' => ∃ (k : Nat) (s : Value), Agr 21 [(0, s)] aa ∧ Chg 0 0 w w' ∧ Own w' lva uva s intT ((zs.take k).length) 1 ((zs.take k).map (Value.int .i64)) ∧ (mm = k) ∧ (k ≤ zs.length) ∧ (vl (zs.take k) = vl zs)) (_) (fun a ha => ⟨zs.length, va, ha.sub (Sub.c 0 rfl .nil), Chg.refl _ _ _, (by rw [List.take_length]; exact hva), rfl, by omega, vl_take_all zs⟩) ?_
 rintro mm aa wl3 ⟨k, s, hAwl3, cwl3, hs_s, hm, hk, hv⟩
 refine (show cw Tryz.prog 21 _ _ _ wl3 from ?_) aa hAwl3
 clear hAwl3
 have zwl3 := cwl3.size
 have hlt : (zs.take k).length = k := by rw [List.length_take]; omega
 refine sx_seq fun K4 k4 => ?_
 refine sx_seq fun K5 k5 => sx_region ?_
 refine mv rfl rfl (sp rfl (px_len rfl Tryz.underlying28 hs_s.sv) ?_)
 refine sp rfl (px_gt rfl rfl) ?_
 refine mv rfl rfl ?_
 refine sx_tmpP (t := 6) rfl (fun h29 => ?_) (fun h29 => ?_)
 ·
  refine sx_guardT rfl rfl rfl ?_
  refine mv rfl rfl ?_
  refine sx_guardT rfl rfl rfl ?_
  refine mv rfl rfl ?_
  refine sx_guardT rfl rfl rfl ?_
  refine sp rfl (px_len rfl Tryz.underlying28 hs_s.sv) ?_
  refine sx_guardT rfl rfl rfl ?_
  refine sp rfl (px_sub rfl rfl (by omega)) ?_
  refine sx_guardT rfl rfl rfl ?_
  refine sp rfl (px_index1 (j := (k - 1)) rfl rfl (by omega) Tryz.underlying28 Tryz.sizeOf3 hs_s.sv (by omega)) ?_
  refine sx_guardT rfl rfl rfl ?_
  refine sp rfl (px_load rfl (hs_s.sv.load1 (at_int (by omega)) Tryz.isAgg3)) ?_
  refine sx_guardT rfl rfl rfl ?_
  refine sp rfl (px_eq rfl rfl) ?_
  refine sp rfl (px_pick rfl rfl) ?_
  refine wl_nil (q_n (k5 _ _ ?_))
  refine sx_condP rfl (fun h29x1 => ?_) (fun h29x1 => ?_)
  ·
   refine sx_skip ?_
   refine q_n (k4 _ _ ?_)
   refine sx_block ?_
   refine sx_region ?_
   refine mv rfl rfl (mv rfl rfl (sp rfl (px_len rfl Tryz.underlying28 hs_s.sv) ?_))
   refine sp rfl (px_sub rfl rfl (by omega)) ?_
   refine sp rfl (px_sliceTo (h := (k - 1)) rfl rfl (by omega) Tryz.underlying28 Tryz.sizeOf3 hs_s.sv (by omega)) ?_
   refine av rfl rfl (wl_nil ?_)
   exact q_bn (fun a ha => ⟨_, by omega, (k - 1), (vtake s (k - 1)), ha.sub (Sub.c 0 rfl .nil), cwl3, (by have hh := (Own.takeI hs_s (h := (k - 1)) (by omega)); rwa [List.take_take, Nat.min_eq_left (by omega)] at hh), rfl, by omega, trim_step (by omega) hk h29x1 hv⟩)
  refine sx_exit ?_
  refine q_e (q_e (q_bx (q_n (k2 _ _ ?_))))
  refine sx_seq fun K6 k6 => sx_region ?_
  refine mv rfl rfl (av rfl rfl (wl_nil (q_n (k6 _ _ ?_))))
  refine sx_sub (Sub.c 2 rfl .nil) ?_
  refine sx_retc ?_
  refine sx_ret1 Tryz.results51 rfl ?_
  have hd := trim_done hz hk hv (by first | exact .inl (by omega) | exact .inr (by assumption))
  rw [← hd]
  exact ⟨_, rfl, hs_s, cwl3⟩
 refine sx_guardF rfl rfl rfl rfl rfl rfl ?_
 refine sx_guardF rfl rfl rfl rfl rfl rfl ?_
 refine sx_guardF rfl rfl rfl rfl rfl rfl ?_
 refine sx_guardF rfl rfl rfl rfl rfl rfl ?_
 refine sx_guardF rfl rfl rfl rfl rfl rfl ?_
 refine sx_guardF rfl rfl rfl rfl rfl rfl ?_
 refine sx_guardF rfl rfl rfl rfl rfl rfl ?_
 refine sp rfl (px_pick rfl rfl) ?_
 refine wl_nil (q_n (k5 _ _ ?_))
 refine sx_condF rfl ?_
 refine sx_exit ?_
 refine q_e (q_e (q_bx (q_n (k2 _ _ ?_))))
 refine sx_seq fun K7 k7 => sx_region ?_
 refine mv rfl rfl (av rfl rfl (wl_nil (q_n (k7 _ _ ?_))))
 refine sx_sub (Sub.c 2 rfl .nil) ?_
 refine sx_retc ?_
 refine sx_ret1 Tryz.results51 rfl ?_
 have hd := trim_done hz hk hv (by first | exact .inl (by omega) | exact .inr (by assumption))
 rw [← hd]
 exact ⟨_, rfl, hs_s, cwl3⟩

theorem c_natSmall {w : World} {va : Value} {lva uva : Nat} {m : Nat} {d : Int} (hva : Sl w lva uva va (dg m)) (hbm : (dg m).length ≤ 1000) (hd : 1 ≤ d ∧ d ≤ 999999999) :
  Ret Tryz.prog 79 [va, .int .i64 d] w fun v w' => ∃ s, v = .tuple #[s, .int .i64 (((m % (d).toNat : Nat) : Int))] ∧ OwnI w' w.heap.size w'.heap.size s intT (dg (m / (d).toNat)) ∧ Chg 0 0 w w' := by
 have hva0 := hva.fit
 refine sx_enter Tryz.func79 rfl Tryz.ntmps79 (nbl rfl) ?_
 refine sx_seq fun K1 k1 => sx_region ?_
 refine av rfl rfl (av rfl rfl (wl_nil (q_n (k1 _ _ ?_))))
 refine sx_seq fun K2 k2 => sx_region ?_
 refine mv rfl rfl (sp rfl (px_len rfl Tryz.underlying28 hva0) ?_)
 refine sx_make (c := (dg m).length) rfl xelt28 (rfl) (rfl) (by omega) (by unfold maxLen; omega) (fun s3 ws3 fs3 cs3 ls3 => ?_)
 have ns3 := fs3.made
 have zws3 := cs3.size
 refine av rfl rfl (wl_nil (q_n (k2 _ _ ?_)))
 refine sx_seq fun K4 k4 => sx_region ?_
 refine av rfl rfl (wl_nil (q_n (k4 _ _ ?_)))
 refine sx_seq fun K5 k5 => ?_
 refine sx_seq fun K6 k6 => sx_region ?_
 refine mv rfl rfl ?_
 have f7 := hva0.ext cs3
 refine sp rfl (px_len rfl Tryz.underlying28 f7) ?_
 refine sp rfl (px_sub rfl rfl (by omega)) ?_
 refine av rfl rfl (wl_nil (q_n (k6 _ _ ?_)))
 refine sx_block ?_
 refine sx_loop (fun mm aa w' => ∃ (k : Nat) (os : List Int) (r : Int), Agr 38 [(0, va), (1, .int .i64 d), (6, s3), (7, .int .i64 r), (8, .int .i64 (↑k - 1))] aa ∧ Chg w.heap.size ws3.heap.size ws3 w' ∧ Own w' w.heap.size ws3.heap.size s3 intT os.length 1 (os.map (Value.int .i64)) ∧ (mm = k) ∧ (k ≤ (dg m).length) ∧ (os.length = (dg m).length) ∧ (Lm os) ∧ (0 ≤ r ∧ r < d) ∧ (vl ((dg m).drop k) = d.toNat * vl (os.drop k) + r.toNat)) (_) (fun a ha => ⟨(dg m).length, List.replicate (dg m).length 0, 0, ha.sub (Sub.c 0 rfl (.c 1 rfl (.c 6 rfl (.c 7 (look_int (t := 7) rfl (by first | omega | simp)) (.c 8 (look_int (t := 8) rfl (by first | omega | simp)) .nil))))), Chg.refl _ _ _, ns3, rfl, by omega, by simp, Lm.replicate _, by omega, by simp [vl]⟩) ?_
 rintro mm aa wl8 ⟨k, os, r, hAwl8, cwl8, hs_s3, hm, hk, hos, hlm, hr, hv⟩
 refine (show cw Tryz.prog 38 _ _ _ wl8 from ?_) aa hAwl8
 clear hAwl8
 have zwl8 := cwl8.size
 have am := (Lm_dg m).getD (k - 1)
 have hq := small_q hr.1 hr.2 am.1 am.2
 refine sx_seq fun K9 k9 => ?_
 refine sx_seq fun K10 k10 => sx_region ?_
 refine mv rfl rfl (sp rfl (px_ge rfl rfl) ?_)
 refine wl_nil (q_n (k10 _ _ ?_))
 refine sx_condP rfl (fun h7 => ?_) (fun h7 => ?_)
 ·
  refine sx_skip ?_
  refine q_n (k9 _ _ ?_)
  refine sx_seq fun K11 k11 => ?_
  refine sx_block ?_
  refine sx_seq fun K12 k12 => sx_region ?_
  refine mv rfl rfl (sp rfl (px_mul rfl rfl (by omega)) ?_)
  refine mv rfl rfl (mv rfl rfl ?_)
  have f13 := f7.chg cwl8 (by omega)
  refine sp rfl (px_index1 (j := (k - 1)) rfl rfl (by omega) Tryz.underlying28 Tryz.sizeOf3 f13 (by omega)) ?_
  refine sp rfl (px_load rfl (f13.load1 (at_int (by omega)) Tryz.isAgg3)) ?_
  refine sp rfl (px_add rfl rfl (by omega)) ?_
  refine av rfl rfl (wl_nil (q_n (k12 _ _ ?_)))
  refine sx_seq fun K14 k14 => sx_region ?_
  refine mv rfl rfl (mv rfl rfl (mv rfl rfl (mv rfl rfl (sp rfl (px_quo rfl rfl (by omega) (by omega) (by omega)) ?_))))
  refine sp rfl (px_index1 (j := (k - 1)) rfl rfl (by omega) Tryz.underlying28 Tryz.sizeOf3 hs_s3.sv (by omega)) ?_
  refine sx_storeO rfl rfl hs_s3 (by first | omega | (simp only [List.length_map]; omega)) Tryz.sizeOf3 rfl (fun w15 sw15 fw15 cw15 => ?_)
  have zw15 := cw15.size
  have nw15 := fw15.set
  refine wl_nil (q_n (k14 _ _ ?_))
  refine sx_sub (Sub.c 0 rfl (.c 1 rfl (.c 6 rfl (.c 7 rfl (.c 8 rfl .nil))))) ?_
  refine sx_region ?_
  refine mv rfl rfl (mv rfl rfl (sp rfl (px_rem rfl rfl (by omega) (by omega)) ?_))
  refine av rfl rfl (wl_nil ?_)
  refine q_bn (q_n (k11 _ _ ?_))
  refine sx_region ?_
  refine mv rfl rfl (sp rfl (px_sub rfl rfl (by omega)) ?_)
  refine av rfl rfl (wl_nil ?_)
  have q16 := Chg.step (l := w.heap.size) (h := ws3.heap.size) cwl8 cw15 (by omega)
  have hst := small_step (X := ((r * 1000000000) + ((dg m).getD (k - 1) 0))) (by omega) (by omega) (by omega) hr am rfl hv
  exact fun a ha => ⟨_, by omega, (k - 1), ((os).set (k - 1) (((r * 1000000000) + ((dg m).getD (k - 1) 0)) / d)), (((r * 1000000000) + ((dg m).getD (k - 1) 0)) % d), ha.sub (Sub.c 0 rfl (.c 1 rfl (.c 6 rfl (.c 7 (look_int (t := 7) rfl (by first | omega | simp)) (.c 8 (look_int (t := 8) rfl (by first | omega | simp)) .nil))))), q16, (nw15.mono (by omega) (by omega)), rfl, by omega, by simpa using hos, hlm.set _ hq.1 hq.2.1, hq.2.2, hst⟩
 refine sx_exit ?_
 refine q_e (q_e (q_bx (q_n (k5 _ _ ?_))))
 refine sx_seq fun K17 k17 => sx_region ?_
 refine mv rfl rfl (sx_call rfl rfl Tryz.call51 (c_trim hs_s3 (by assumption) (by first | omega | (simp only [List.length_append, List.length_set, List.length_replicate, List.length_cons, List.length_nil] at *; omega))) (fun v18 w18 p18 => ?_))
 obtain ⟨s18, rfl, os_18, c18⟩ := p18
 have zw18 := c18.size
 refine mv rfl rfl (av rfl rfl (av rfl rfl (wl_nil (q_n (k17 _ _ ?_)))))
 refine sx_retc ?_
 refine sx_ret2 Tryz.results79 rfl rfl ?_
 have e0 : k = 0 := by omega
 subst e0
 have he := div_end (m := m) (d := d.toNat) (v := vl os) (r := r.toNat) (by rw [List.drop_zero, List.drop_zero, vl_dg] at hv; exact hv) (show r.toNat < d.toNat by omega)
 have hr2 := os_18
 rw [he.1] at hr2
 have er : r = ((m % d.toNat : Nat) : Int) := by omega
 have q19 := Chg.step (l := 0) (h := 0) (Chg.zero (l := 0) (h := 0) cs3) cwl8 (by omega)
 have q20 := Chg.step (l := 0) (h := 0) q19 c18 (by omega)
 exact ⟨_, by rw [er], hr2.mono (by omega) (by omega), q20⟩

theorem c_iNatOf {w : World} {n : Int} (hn : 0 ≤ n ∧ n ≤ 9223372036854775807) :
  Ret Tryz.prog 80 [.int .i64 n] w fun v w' => ∃ s, v = s ∧ OwnI w' w.heap.size w'.heap.size s intT (dg (n).toNat) ∧ Chg 0 0 w w' := by
 refine sx_enter Tryz.func80 rfl Tryz.ntmps80 (nbl rfl) ?_
 refine sx_seq fun K1 k1 => sx_region ?_
 refine av rfl rfl (wl_nil (q_n (k1 _ _ ?_)))
 refine sx_seq fun K2 k2 => ?_
 refine sx_seq fun K3 k3 => sx_region ?_
 refine mv rfl rfl (sp rfl (px_lt rfl rfl) ?_)
 refine wl_nil (q_n (k3 _ _ ?_))
 have h56 : ¬ ((n : Int) < 0) := by omega
 refine sx_condPF rfl h56 ?_
 refine sx_skip ?_
 refine q_n (k2 _ _ ?_)
 refine sx_seq fun K4 k4 => sx_region ?_
 refine mv rfl rfl (sp rfl (px_convU Tryz.underlying3 Tryz.underlying102 rfl (by omega)) ?_)
 refine sx_call rfl rfl Tryz.call61 (c_natOf (by omega)) (fun v5 w5 p5 => ?_)
 obtain ⟨s5, rfl, os_5, c5⟩ := p5
 have zw5 := c5.size
 refine av rfl rfl (wl_nil (q_n (k4 _ _ ?_)))
 refine sx_retc ?_
 refine sx_ret1 Tryz.results80 rfl ?_
 exact ⟨_, rfl, (Own.mono os_5 (by omega) (by omega)), c5⟩

theorem c_natMul {w : World} {va : Value} {lva uva : Nat} {m : Nat} {vb : Value} {lvb uvb : Nat} {n : Nat} (hva : Sl w lva uva va (dg m)) (hvb : Sl w lvb uvb vb (dg n)) (hbm : (dg m).length ≤ 1000) (hbn : (dg n).length ≤ 1000) :
  Ret Tryz.prog 21 [va, vb] w fun v w' => ∃ s, v = s ∧ OwnI w' w.heap.size w'.heap.size s intT (dg (m * n)) ∧ Chg 0 0 w w' := by
 have hva0 := hva.fit
 have hvb0 := hvb.fit
 refine sx_enter Tryz.func21 rfl Tryz.ntmps21 (nbl rfl) ?_
 refine sx_seq fun K1 k1 => sx_region ?_
 refine av rfl rfl (wl_nil (q_n (k1 _ _ ?_)))
 refine sx_seq fun K2 k2 => sx_region ?_
 refine mv rfl rfl (sp rfl (px_len rfl Tryz.underlying28 hva0) ?_)
 refine mv rfl rfl (sp rfl (px_len rfl Tryz.underlying28 hvb0) ?_)
 refine sp rfl (px_add rfl rfl (by omega)) ?_
 refine sp rfl (px_add rfl rfl (by omega)) ?_
 refine sx_make (c := (dg m).length + (dg n).length + 1) rfl xelt28 (look_int rfl (by omega)) (look_int rfl (by omega)) (by omega) (by unfold maxLen; omega) (fun s3 ws3 fs3 cs3 ls3 => ?_)
 have ns3 := fs3.made
 have zws3 := cs3.size
 refine av rfl rfl (wl_nil (q_n (k2 _ _ ?_)))
 refine sx_seq fun K4 k4 => ?_
 refine sx_seq fun K5 k5 => sx_region ?_
 refine mv rfl rfl ?_
 have f6 := hva0.ext cs3
 refine sp rfl (px_len rfl Tryz.underlying28 f6) ?_
 refine mv rfl rfl (wl_nil (q_n (k5 _ _ ?_)))
 refine sx_block ?_
 refine sx_loop (fun mm aa w' => ∃ (k : Nat) (os : List Int), Agr 79 [(1, vb), (5, s3), (19, va), (20, .int .i64 (↑(dg m).length)), (21, .int .i64 ↑k)] aa ∧ Chg w.heap.size ws3.heap.size ws3 w' ∧ Own w' w.heap.size ws3.heap.size s3 intT os.length 1 (os.map (Value.int .i64)) ∧ (mm = (dg m).length - k) ∧ (k ≤ (dg m).length) ∧ (os.length = (dg m).length + (dg n).length + 1) ∧ (Lm os) ∧ (∀ i, k + (dg n).length ≤ i → os.getD i 0 = 0) ∧ (vl os = vl ((dg m).take k) * n)) (_) (fun a ha => ⟨0, List.replicate ((dg m).length + (dg n).length + 1) 0, ha.sub (Sub.c 1 rfl (.c 5 rfl (.c 19 rfl (.c 20 (look_int (t := 20) rfl (by first | omega | simp)) (.c 21 (look_int (t := 21) rfl (by first | omega | simp)) .nil))))), Chg.refl _ _ _, (ns3.mono (by omega) (by omega)), rfl, by omega, by simp, Lm.replicate _, fun i _ => zero_rep _ i (Nat.zero_le _), by rw [vl_replicate, List.take_zero]; simp [vl]⟩) ?_
 rintro mm aa wl7 ⟨k, os, hAwl7, cwl7, hs_s3, hm, hk, hos, hlm, hz, hv⟩
 refine (show cw Tryz.prog 79 _ _ _ wl7 from ?_) aa hAwl7
 clear hAwl7
 have zwl7 := cwl7.size
 have am := (Lm_dg m).getD k
 refine sx_seq fun K8 k8 => sx_region ?_
 refine sp rfl (px_lt rfl rfl) ?_
 refine wl_nil (q_n (k8 _ _ ?_))
 refine sx_seq fun K9 k9 => ?_
 refine sx_condP rfl (fun h140 => ?_) (fun h140 => ?_)
 ·
  refine sx_skip ?_
  refine q_n (k9 _ _ ?_)
  refine sx_seq fun K10 k10 => ?_
  refine sx_block ?_
  refine sx_seq fun K11 k11 => sx_region ?_
  refine mv rfl rfl ?_
  have f12 := f6.chg cwl7 (by omega)
  refine sp rfl (px_index1 (j := k) rfl rfl (by omega) Tryz.underlying28 Tryz.sizeOf3 f12 (by first | omega | (simp only [List.length_set]; omega))) ?_
  refine sp rfl (px_load rfl (f12.load1 (at_int (by omega)) Tryz.isAgg3)) ?_
  refine av rfl rfl (av rfl rfl (wl_nil (q_n (k11 _ _ ?_))))
  refine sx_seq fun K13 k13 => sx_region ?_
  refine av rfl rfl (wl_nil (q_n (k13 _ _ ?_)))
  refine sx_seq fun K14 k14 => ?_
  refine sx_seq fun K15 k15 => sx_region ?_
  refine mv rfl rfl ?_
  have f16 := hvb0.ext cs3
  have f17 := f16.chg cwl7 (by omega)
  refine sp rfl (px_len rfl Tryz.underlying28 f17) ?_
  refine mv rfl rfl (wl_nil (q_n (k15 _ _ ?_)))
  refine sx_sub (Sub.c 1 rfl (.c 5 rfl (.c 6 rfl (.c 7 rfl (.c 8 rfl (.c 19 rfl (.c 20 rfl (.c 21 rfl (.c 26 rfl (.c 27 rfl (.c 28 rfl .nil))))))))))) ?_
  refine sx_block ?_
  refine sx_loop (fun mm aa w' => ∃ (j : Nat) (o2 : List Int) (c : Int), Agr 79 [(1, vb), (5, s3), (6, .int .i64 ↑k), (7, .int .i64 ((dg m).getD k 0)), (8, .int .i64 c), (19, va), (20, .int .i64 (↑(dg m).length)), (21, .int .i64 ↑k), (26, vb), (27, .int .i64 (↑(dg n).length)), (28, .int .i64 ↑j)] aa ∧ Chg w.heap.size ws3.heap.size wl7 w' ∧ Own w' w.heap.size ws3.heap.size s3 intT o2.length 1 (o2.map (Value.int .i64)) ∧ (mm = (dg n).length - j) ∧ (j ≤ (dg n).length) ∧ (o2.length = (dg m).length + (dg n).length + 1) ∧ (Lm o2) ∧ (∀ i, k + (dg n).length ≤ i → o2.getD i 0 = 0) ∧ (0 ≤ c ∧ c < 1000000000) ∧ (vl o2 + Bs ^ (k + j) * c.toNat = vl os + Bs ^ k * (((dg m).getD k 0).toNat * vl ((dg n).take j)))) (_) (fun a ha => ⟨0, os, 0, ha.sub (Sub.c 1 rfl (.c 5 rfl (.c 6 rfl (.c 7 rfl (.c 8 (look_int (t := 8) rfl (by first | omega | simp)) (.c 19 rfl (.c 20 rfl (.c 21 rfl (.c 26 rfl (.c 27 (look_int (t := 27) rfl (by first | omega | simp)) (.c 28 (look_int (t := 28) rfl (by first | omega | simp)) .nil))))))))))), Chg.refl _ _ _, hs_s3, rfl, by omega, hos, hlm, hz, by omega, by simp [vl]⟩) ?_
  rintro mm aa wl18 ⟨j, o2, c, hAwl18, cwl18, hs_s3, hm, hj, hos2, hlm2, hz2, hc, hv2⟩
  refine (show cw Tryz.prog 79 _ _ _ wl18 from ?_) aa hAwl18
  clear hAwl18
  have zwl18 := cwl18.size
  have bn := (Lm_dg n).getD j
  have on := hlm2.getD (k + j)
  have hxy := mul_limb am.1 am.2 bn.1 bn.2
  refine sx_seq fun K19 k19 => sx_region ?_
  refine sp rfl (px_lt rfl rfl) ?_
  refine wl_nil (q_n (k19 _ _ ?_))
  refine sx_seq fun K20 k20 => ?_
  refine sx_condP rfl (fun h142 => ?_) (fun h142 => ?_)
  ·
   refine sx_skip ?_
   refine q_n (k20 _ _ ?_)
   refine sx_seq fun K21 k21 => ?_
   refine sx_block ?_
   refine sx_seq fun K22 k22 => sx_region ?_
   refine mv rfl rfl ?_
   have f23 := f17.chg cwl18 (by omega)
   refine sp rfl (px_index1 (j := j) rfl rfl (by omega) Tryz.underlying28 Tryz.sizeOf3 f23 (by first | omega | (simp only [List.length_set]; omega))) ?_
   refine sp rfl (px_load rfl (f23.load1 (at_int (by omega)) Tryz.isAgg3)) ?_
   refine av rfl rfl (av rfl rfl (wl_nil (q_n (k22 _ _ ?_))))
   refine sx_sub (Sub.c 1 rfl (.c 5 rfl (.c 6 rfl (.c 7 rfl (.c 8 rfl (.c 9 rfl (.c 10 rfl (.c 19 rfl (.c 20 rfl (.c 21 rfl (.c 26 rfl (.c 27 rfl (.c 28 rfl .nil))))))))))))) ?_
   refine sx_seq fun K24 k24 => sx_region ?_
   refine mv rfl rfl (mv rfl rfl (mv rfl rfl (mv rfl rfl (sp rfl (px_add rfl rfl (by omega)) ?_))))
   refine sp rfl (px_index1 (j := (k + j)) rfl rfl (by omega) Tryz.underlying28 Tryz.sizeOf3 hs_s3.sv (by first | omega | (simp only [List.length_set]; omega))) ?_
   refine sp rfl (px_load rfl (hs_s3.sv.load1 (at_int (by omega)) Tryz.isAgg3)) ?_
   refine mv rfl rfl (mv rfl rfl (sp rfl (px_mul rfl rfl (by omega)) ?_))
   refine sp rfl (px_add rfl rfl (by omega)) ?_
   refine sp rfl (px_add rfl rfl (by omega)) ?_
   refine av rfl rfl (wl_nil (q_n (k24 _ _ ?_)))
   refine sx_sub (Sub.c 1 rfl (.c 5 rfl (.c 6 rfl (.c 7 rfl (.c 8 rfl (.c 9 rfl (.c 19 rfl (.c 20 rfl (.c 21 rfl (.c 26 rfl (.c 27 rfl (.c 28 rfl .nil)))))))))))) ?_
   refine sx_seq fun K25 k25 => sx_region ?_
   refine mv rfl rfl (mv rfl rfl (mv rfl rfl (sp rfl (px_add rfl rfl (by omega)) ?_)))
   refine mv rfl rfl (sp rfl (px_rem rfl rfl (by omega) (by omega)) ?_)
   refine sp rfl (px_index1 (j := (k + j)) rfl rfl (by omega) Tryz.underlying28 Tryz.sizeOf3 hs_s3.sv (by first | omega | (simp only [List.length_set]; omega))) ?_
   refine sx_storeO rfl rfl hs_s3 (by first | omega | (simp only [List.length_map]; omega)) Tryz.sizeOf3 rfl (fun w26 sw26 fw26 cw26 => ?_)
   have zw26 := cw26.size
   have nw26 := fw26.set
   refine wl_nil (q_n (k25 _ _ ?_))
   refine sx_sub (Sub.c 1 rfl (.c 5 rfl (.c 6 rfl (.c 7 rfl (.c 8 rfl (.c 19 rfl (.c 20 rfl (.c 21 rfl (.c 26 rfl (.c 27 rfl (.c 28 rfl .nil))))))))))) ?_
   refine sx_region ?_
   refine mv rfl rfl (sp rfl (px_quo rfl rfl (by omega) (by omega) (by omega)) ?_)
   refine av rfl rfl (wl_nil ?_)
   refine q_bn (q_n (k21 _ _ ?_))
   refine sx_region ?_
   refine sp rfl (px_add rfl rfl (by omega)) ?_
   refine mv rfl rfl (wl_nil ?_)
   have q27 := Chg.step (l := w.heap.size) (h := ws3.heap.size) cwl18 cw26 (by omega)
   have hs : (c + (((o2).getD (k + j) 0) + (((dg m).getD k 0) * ((dg n).getD j 0)))) = c + (o2.getD (k + j) 0 + (dg m).getD k 0 * (dg n).getD j 0) := by omega
   have hm2 := mul_step (V := vl os) hc.1 am.1 on.1 bn.1 (by omega) (by omega) hs hv2
   exact fun a ha => ⟨_, by omega, (j + 1), ((o2).set (k + j) ((c + (((o2).getD (k + j) 0) + (((dg m).getD k 0) * ((dg n).getD j 0)))) % 1000000000)), ((c + (((o2).getD (k + j) 0) + (((dg m).getD k 0) * ((dg n).getD j 0)))) / 1000000000), ha.sub (Sub.c 1 rfl (.c 5 rfl (.c 6 rfl (.c 7 rfl (.c 8 (look_int (t := 8) rfl (by first | omega | simp)) (.c 19 rfl (.c 20 rfl (.c 21 rfl (.c 26 rfl (.c 27 rfl (.c 28 (look_int (t := 28) rfl (by first | omega | simp)) .nil))))))))))), q27, (nw26.mono (by omega) (by omega)), rfl, by omega, by simpa using hos2, hlm2.set _ (by omega) (by omega), zero_set' hz2 (by omega), by omega, hm2⟩
  refine sx_exit ?_
  refine q_e (q_e (q_bx (q_n (k14 _ _ ?_))))
  refine sx_seq fun K28 k28 => sx_region ?_
  refine mv rfl rfl (mv rfl rfl ?_)
  have f29 := f17.chg cwl18 (by omega)
  refine sp rfl (px_len rfl Tryz.underlying28 f29) ?_
  refine sp rfl (px_add rfl rfl (by omega)) ?_
  refine av rfl rfl (wl_nil (q_n (k28 _ _ ?_)))
  refine sx_sub (Sub.c 1 rfl (.c 5 rfl (.c 8 rfl (.c 11 rfl (.c 19 rfl (.c 20 rfl (.c 21 rfl .nil))))))) ?_
  refine sx_block ?_
  have ej : j = (dg n).length := by omega
  rw [ej, List.take_length, vl_dg] at hv2
  refine sx_loop (fun mm aa w' => ∃ (q : Nat) (o3 : List Int) (e : Int), Agr 79 [(1, vb), (5, s3), (8, .int .i64 e), (11, .int .i64 ↑q), (19, va), (20, .int .i64 (↑(dg m).length)), (21, .int .i64 ↑k)] aa ∧ Chg w.heap.size ws3.heap.size wl18 w' ∧ Own w' w.heap.size ws3.heap.size s3 intT o3.length 1 (o3.map (Value.int .i64)) ∧ (mm = k + (dg n).length + 1 - q) ∧ (o3.length = (dg m).length + (dg n).length + 1) ∧ (Lm o3) ∧ (∀ i, q ≤ i → o3.getD i 0 = 0) ∧ (0 ≤ e ∧ e < 1000000000) ∧ (q = k + (dg n).length ∨ (q = k + (dg n).length + 1 ∧ e = 0)) ∧ (vl o3 + Bs ^ q * e.toNat = vl os + Bs ^ k * (((dg m).getD k 0).toNat * n))) (_) (fun a ha => ⟨(k + (dg n).length), o2, c, ha.sub (Sub.c 1 rfl (.c 5 rfl (.c 8 (look_int (t := 8) rfl (by first | omega | simp)) (.c 11 (look_int (t := 11) rfl (by first | omega | simp)) (.c 19 rfl (.c 20 rfl (.c 21 rfl .nil))))))), Chg.refl _ _ _, hs_s3, rfl, hos2, hlm2, hz2, by omega, .inl rfl, hv2⟩) ?_
  rintro mm aa wl30 ⟨q, o3, e, hAwl30, cwl30, hs_s3, hm, hos3, hlm3, hz3, he, hq, hv3⟩
  refine (show cw Tryz.prog 79 _ _ _ wl30 from ?_) aa hAwl30
  clear hAwl30
  have zwl30 := cwl30.size
  have on := hlm3.getD q
  have oz := hz3 q (Nat.le_refl _)
  refine sx_seq fun K31 k31 => ?_
  refine sx_seq fun K32 k32 => sx_region ?_
  refine mv rfl rfl (sp rfl (px_gt rfl rfl) ?_)
  refine wl_nil (q_n (k32 _ _ ?_))
  refine sx_condP rfl (fun h147 => ?_) (fun h147 => ?_)
  ·
   refine sx_skip ?_
   refine q_n (k31 _ _ ?_)
   refine sx_seq fun K33 k33 => ?_
   refine sx_block ?_
   refine sx_seq fun K34 k34 => sx_region ?_
   refine mv rfl rfl (mv rfl rfl (mv rfl rfl (sp rfl (px_index1 (j := q) rfl rfl (by omega) Tryz.underlying28 Tryz.sizeOf3 hs_s3.sv (by first | omega | (simp only [List.length_set]; omega))) ?_)))
   refine sp rfl (px_load rfl (hs_s3.sv.load1 (at_int (by omega)) Tryz.isAgg3)) ?_
   refine sp rfl (px_add rfl rfl (by omega)) ?_
   refine av rfl rfl (wl_nil (q_n (k34 _ _ ?_)))
   refine sx_sub (Sub.c 1 rfl (.c 5 rfl (.c 8 rfl (.c 11 rfl (.c 19 rfl (.c 20 rfl (.c 21 rfl .nil))))))) ?_
   refine sx_seq fun K35 k35 => sx_region ?_
   refine mv rfl rfl (mv rfl rfl (mv rfl rfl (sp rfl (px_rem rfl rfl (by omega) (by omega)) ?_)))
   refine sp rfl (px_index1 (j := q) rfl rfl (by omega) Tryz.underlying28 Tryz.sizeOf3 hs_s3.sv (by first | omega | (simp only [List.length_set]; omega))) ?_
   refine sx_storeO rfl rfl hs_s3 (by first | omega | (simp only [List.length_map]; omega)) Tryz.sizeOf3 rfl (fun w36 sw36 fw36 cw36 => ?_)
   have zw36 := cw36.size
   have nw36 := fw36.set
   refine wl_nil (q_n (k35 _ _ ?_))
   refine sx_region ?_
   refine mv rfl rfl (sp rfl (px_quo rfl rfl (by omega) (by omega) (by omega)) ?_)
   refine av rfl rfl (wl_nil ?_)
   refine q_bn (q_n (k33 _ _ ?_))
   refine sx_region ?_
   refine mv rfl rfl (sp rfl (px_add rfl rfl (by omega)) ?_)
   refine av rfl rfl (wl_nil ?_)
   have q37 := Chg.step (l := w.heap.size) (h := ws3.heap.size) cwl30 cw36 (by omega)
   have hs : (e + ((o3).getD q 0)) = e + o3.getD q 0 := by omega
   have hm3 := carry_gen (by omega) he.1 on.1 hs hv3
   exact fun a ha => ⟨_, by omega, (q + 1), ((o3).set q ((e + ((o3).getD q 0)) % 1000000000)), ((e + ((o3).getD q 0)) / 1000000000), ha.sub (Sub.c 1 rfl (.c 5 rfl (.c 8 (look_int (t := 8) rfl (by first | omega | simp)) (.c 11 (look_int (t := 11) rfl (by first | omega | simp)) (.c 19 rfl (.c 20 rfl (.c 21 rfl .nil))))))), q37, (nw36.mono (by omega) (by omega)), rfl, by simpa using hos3, hlm3.set _ (by omega) (by omega), zero_set hz3 (by omega), by omega, .inr (by omega), hm3⟩
  refine sx_exit ?_
  refine q_e (q_e (q_bx (q_bn (q_n (k10 _ _ ?_)))))
  have e0 : e = 0 := by omega
  subst e0
  have hosR := hos3
  have hlmR := hlm3
  have hzR : ∀ i, k + (dg n).length + 1 ≤ i → o3.getD i 0 = 0 := fun i hi => hz3 i (by omega)
  have hvR : vl o3 = vl os + Bs ^ k * (((dg m).getD k 0).toNat * n) := by simpa using hv3
  refine sx_region ?_
  refine sp rfl (px_add rfl rfl (by omega)) ?_
  refine mv rfl rfl (wl_nil ?_)
  have q38 := Chg.step (l := w.heap.size) (h := ws3.heap.size) cwl7 cwl18 (by omega)
  have q39 := Chg.step (l := w.heap.size) (h := ws3.heap.size) q38 cwl30 (by omega)
  have hrow := mul_row (P := Bs ^ k) (a := ((dg m).getD k 0).toNat) hv
  rw [← vl_take_succ'] at hrow
  exact fun a ha => ⟨_, by omega, (k + 1), o3, ha.sub (Sub.c 1 rfl (.c 5 rfl (.c 19 rfl (.c 20 rfl (.c 21 (look_int (t := 21) rfl (by first | omega | simp)) .nil))))), q39, (hs_s3.mono (by omega) (by omega)), rfl, by omega, by simpa using hosR, hlmR, fun i hi => hzR i (by omega), hvR.trans hrow⟩
 refine sx_exit ?_
 refine q_e (q_e (q_bx (q_n (k4 _ _ ?_))))
 refine sx_seq fun K40 k40 => ?_
 have ek : k = (dg m).length := by omega
 rw [ek, List.take_length, vl_dg] at hv
 have hzz := hlm
 refine sx_region ?_
 refine mv rfl rfl (sx_call rfl rfl Tryz.call51 (c_trim hs_s3 (by assumption) (by first | omega | (simp only [List.length_append, List.length_set, List.length_replicate, List.length_cons, List.length_nil] at *; omega))) (fun v41 w41 p41 => ?_))
 obtain ⟨s41, rfl, os_41, c41⟩ := p41
 have zw41 := c41.size
 refine av rfl rfl (wl_nil (q_n (k40 _ _ ?_)))
 refine sx_retc ?_
 refine sx_ret1 Tryz.results21 rfl ?_
 have hr := os_41
 rw [hv] at hr
 have q42 := Chg.step (l := 0) (h := 0) (Chg.zero (l := 0) (h := 0) cs3) cwl7 (by omega)
 have q43 := Chg.step (l := 0) (h := 0) q42 c41 (by omega)
 exact ⟨_, rfl, hr.mono (by omega) (by omega), q43⟩

theorem c_natMulS {w : World} {va : Value} {lva uva : Nat} {m : Nat} {vb : Value} {lvb uvb : Nat} {ys : List Int} (hva : Sl w lva uva va (dg m)) (hvb : Sl w lvb uvb vb (ys)) (hbm : (dg m).length ≤ 1000) (hbn : ys.length ≤ 1000) (hy : ys = dg (vl ys)) :
  Ret Tryz.prog 21 [va, vb] w fun v w' => ∃ s, v = s ∧ OwnI w' w.heap.size w'.heap.size s intT (dg (m * vl ys)) ∧ Chg 0 0 w w' := by
 have hl : (dg (vl ys)).length ≤ 1000 := by rw [← hy]; exact hbn
 rw [hy] at hvb; exact c_natMul hva hvb hbm hl

theorem c_subTimes {w : World} {va : Value} {lva uva : Nat} {preva sufva : List Value} {zs : List Int} {vb : Value} {lvb uvb : Nat} {ys : List Int} {q : Int} (hva : Win w lva uva va intT preva sufva zs) (hvb : Sl w lvb uvb vb (ys)) (hd : uvb ≤ lva ∨ uva ≤ lvb) (hzl : zs.length = ys.length + 1) (hz : Lm zs) (hy : Lm ys) (hq : 0 ≤ q ∧ q ≤ 999999999) (h63 : zs.length ≤ 1000) :
  Ret Tryz.prog 97 [va, vb, .int .i64 q] w fun v w' => ∃ os, v = .bool (decide ((os).getD (ys).length 0 < 0)) ∧ Win w' lva uva va intT preva sufva (os) ∧ ((os).length = (zs).length ∧ Lm ((os).take (ys).length) ∧ ((vl ((os).take (ys).length) : Nat) : Int) + ((Bs ^ (ys).length : Nat) : Int) * (os).getD (ys).length 0 = ((vl ((zs).take (ys).length) : Nat) : Int) + ((Bs ^ (ys).length : Nat) : Int) * (zs).getD (ys).length 0 - q * ((vl ys : Nat) : Int)) ∧ Chg lva uva w w' := by
 refine sx_enter Tryz.func97 rfl Tryz.ntmps97 (nbl rfl) ?_
 refine sx_seq fun K1 k1 => sx_region ?_
 refine av rfl rfl (wl_nil (q_n (k1 _ _ ?_)))
 refine sx_seq fun K2 k2 => sx_region ?_
 refine av rfl rfl (wl_nil (q_n (k2 _ _ ?_)))
 refine sx_seq fun K3 k3 => ?_
 refine sx_seq fun K4 k4 => sx_region ?_
 refine mv rfl rfl (sp rfl (px_len rfl Tryz.underlying28 hvb) ?_)
 refine mv rfl rfl (wl_nil (q_n (k4 _ _ ?_)))
 refine sx_block ?_
 refine sx_loop (fun mm aa w' => ∃ (k : Nat) (os : List Int) (c : Int), Agr 58 [(0, va), (1, vb), (2, .int .i64 q), (7, .int .i64 c), (11, vb), (12, .int .i64 ↑ys.length), (13, .int .i64 ↑k)] aa ∧ Chg lva uva w w' ∧ Win w' lva uva va intT preva sufva (os) ∧ (mm = ys.length - k) ∧ (k ≤ ys.length) ∧ (os.length = zs.length) ∧ (Lm (os.take k)) ∧ (os.drop k = zs.drop k) ∧ (0 ≤ c ∧ c < 1000000000) ∧ (vl (zs.take k) + Bs ^ k * c.toNat = vl (os.take k) + q.toNat * vl (ys.take k))) (_) (fun a ha => ⟨0, zs, 0, ha.sub (Sub.c 0 rfl (.c 1 rfl (.c 2 rfl (.c 7 (look_int (t := 7) rfl (by first | omega | simp)) (.c 11 rfl (.c 12 (look_int (t := 12) rfl (by first | omega | simp)) (.c 13 (look_int (t := 13) rfl (by first | omega | simp)) .nil))))))), Chg.refl _ _ _, hva, rfl, by omega, rfl, Lm.nil, rfl, by omega, by simp [vl]⟩) ?_
 rintro mm aa wl5 ⟨k, os, c, hAwl5, cwl5, hs_va, hm, hk, ho, hlm, hdr, hc, hv⟩
 refine (show cw Tryz.prog 58 _ _ _ wl5 from ?_) aa hAwl5
 clear hAwl5
 have zwl5 := cwl5.size
 have un := hz.getD k
 have yn := hy.getD k
 have hxy := mul_limb yn.1 yn.2 hq.1 (by omega)
 have ue := getD_drop hdr
 refine sx_seq fun K6 k6 => sx_region ?_
 refine sp rfl (px_lt rfl rfl) ?_
 refine wl_nil (q_n (k6 _ _ ?_))
 refine sx_seq fun K7 k7 => ?_
 refine sx_condP rfl (fun h57 => ?_) (fun h57 => ?_)
 ·
  refine sx_skip ?_
  refine q_n (k7 _ _ ?_)
  refine sx_seq fun K8 k8 => ?_
  refine sx_block ?_
  refine sx_seq fun K9 k9 => sx_region ?_
  refine mv rfl rfl ?_
  have f10 := hvb.chg cwl5 (by omega)
  refine sp rfl (px_index1 (j := k) rfl rfl (by omega) Tryz.underlying28 Tryz.sizeOf3 f10 (by first | omega | (simp only [List.length_set]; omega))) ?_
  refine sp rfl (px_load rfl (f10.load1 (at_int (by first | omega | (simp only [List.length_set]; omega))) Tryz.isAgg3)) ?_
  refine av rfl rfl (av rfl rfl (wl_nil (q_n (k9 _ _ ?_))))
  refine sx_seq fun K11 k11 => sx_region ?_
  refine mv rfl rfl (mv rfl rfl (sp rfl (px_index1 (j := k) rfl rfl (by omega) Tryz.underlying28 Tryz.sizeOf3 hs_va.sv (by first | omega | (simp only [List.length_set]; omega))) ?_))
  refine sp rfl (px_load rfl (hs_va.sv.load1 (at_int (by first | omega | (simp only [List.length_set]; omega))) Tryz.isAgg3)) ?_
  refine mv rfl rfl (mv rfl rfl (sp rfl (px_mul rfl rfl (by omega)) ?_))
  refine sp rfl (px_sub rfl rfl (by omega)) ?_
  refine mv rfl rfl (sp rfl (px_sub rfl rfl (by omega)) ?_)
  refine av rfl rfl (wl_nil (q_n (k11 _ _ ?_)))
  refine sx_sub (Sub.c 0 rfl (.c 1 rfl (.c 2 rfl (.c 7 rfl (.c 8 rfl (.c 10 rfl (.c 11 rfl (.c 12 rfl (.c 13 rfl .nil))))))))) ?_
  refine sx_seq fun K12 k12 => sx_region ?_
  refine av rfl rfl (wl_nil (q_n (k12 _ _ ?_)))
  refine sx_seq fun K13 k13 => ?_
  refine sx_seq fun K14 k14 => sx_region ?_
  refine mv rfl rfl (sp rfl (px_lt rfl rfl) ?_)
  refine wl_nil (q_n (k14 _ _ ?_))
  refine sx_condP rfl (fun h60 => ?_) (fun h60 => ?_)
  ·
   refine sx_seq fun K15 k15 => sx_region ?_
   refine mv rfl rfl (sp rfl (px_neg rfl (by omega)) ?_)
   refine sp rfl (px_add rfl rfl (by omega)) ?_
   refine sp rfl (px_sub rfl rfl (by omega)) ?_
   refine sp rfl (px_quo rfl rfl (by omega) (by omega) (by omega)) ?_
   refine av rfl rfl (wl_nil (q_n (k15 _ _ ?_)))
   refine sx_sub (Sub.c 0 rfl (.c 1 rfl (.c 2 rfl (.c 7 rfl (.c 8 rfl (.c 10 rfl (.c 11 rfl (.c 12 rfl (.c 13 rfl .nil))))))))) ?_
   refine sx_region ?_
   refine mv rfl rfl (mv rfl rfl (sp rfl (px_mul rfl rfl (by omega)) ?_))
   refine sp rfl (px_add rfl rfl (by omega)) ?_
   refine av rfl rfl (wl_nil (q_n (k13 _ _ ?_)))
   refine sx_region ?_
   refine mv rfl rfl (mv rfl rfl (mv rfl rfl (sp rfl (px_index1 (j := k) rfl rfl (by omega) Tryz.underlying28 Tryz.sizeOf3 hs_va.sv (by first | omega | (simp only [List.length_set]; omega))) ?_)))
   refine sx_storeW rfl rfl hs_va (by first | omega | (simp only [List.length_set]; omega)) Tryz.sizeOf3 (fun w16 sw16 fw16 cw16 => ?_)
   have zw16 := cw16.size
   refine wl_nil ?_
   refine q_bn (q_n (k8 _ _ ?_))
   refine sx_sub (Sub.c 0 rfl (.c 1 rfl (.c 2 rfl (.c 7 rfl (.c 11 rfl (.c 12 rfl (.c 13 rfl .nil))))))) ?_
   refine sx_region ?_
   refine sp rfl (px_add rfl rfl (by omega)) ?_
   refine mv rfl rfl (wl_nil ?_)
   have q17 := Chg.step (l := lva) (h := uva) cwl5 cw16 (by omega)
   have hxl : (0 : Int) ≤ (((((os).getD k 0) - (((ys).getD k 0) * q)) - c) + (((((-((((os).getD k 0) - (((ys).getD k 0) * q)) - c)) + 1000000000) - 1) / 1000000000) * 1000000000)) ∧ (((((os).getD k 0) - (((ys).getD k 0) * q)) - c) + (((((-((((os).getD k 0) - (((ys).getD k 0) * q)) - c)) + 1000000000) - 1) / 1000000000) * 1000000000)) < 1000000000 := by omega
   have hcl : (0 : Int) ≤ ((((-((((os).getD k 0) - (((ys).getD k 0) * q)) - c)) + 1000000000) - 1) / 1000000000) ∧ ((((-((((os).getD k 0) - (((ys).getD k 0) * q)) - c)) + 1000000000) - 1) / 1000000000) < (1000000000 : Int) := by omega
   have hnx := subt_next (ys := ys) (x := (((((os).getD k 0) - (((ys).getD k 0) * q)) - c) + (((((-((((os).getD k 0) - (((ys).getD k 0) * q)) - c)) + 1000000000) - 1) / 1000000000) * 1000000000))) (c' := ((((-((((os).getD k 0) - (((ys).getD k 0) * q)) - c)) + 1000000000) - 1) / 1000000000)) (by omega) hdr hq.1 hc.1 hcl.1 hxl un.1 yn.1 (by omega) hv
   exact fun a ha => ⟨_, by omega, (k + 1), ((os).set k (((((os).getD k 0) - (((ys).getD k 0) * q)) - c) + (((((-((((os).getD k 0) - (((ys).getD k 0) * q)) - c)) + 1000000000) - 1) / 1000000000) * 1000000000))), ((((-((((os).getD k 0) - (((ys).getD k 0) * q)) - c)) + 1000000000) - 1) / 1000000000), ha.sub (Sub.c 0 rfl (.c 1 rfl (.c 2 rfl (.c 7 (look_int (t := 7) rfl (by first | omega | simp)) (.c 11 rfl (.c 12 rfl (.c 13 (look_int (t := 13) rfl (by first | omega | simp)) .nil))))))), q17, (fw16.mono (by omega) (by omega)), rfl, by omega, by rw [List.length_set]; exact ho, Lm_take_set hlm (by omega) hxl.1 hxl.2, drop_set_succ hdr, hcl, hnx⟩
  refine sx_skip ?_
  refine q_n (k13 _ _ ?_)
  refine sx_region ?_
  refine mv rfl rfl (mv rfl rfl (mv rfl rfl (sp rfl (px_index1 (j := k) rfl rfl (by omega) Tryz.underlying28 Tryz.sizeOf3 hs_va.sv (by first | omega | (simp only [List.length_set]; omega))) ?_)))
  refine sx_storeW rfl rfl hs_va (by first | omega | (simp only [List.length_set]; omega)) Tryz.sizeOf3 (fun w18 sw18 fw18 cw18 => ?_)
  have zw18 := cw18.size
  refine wl_nil ?_
  refine q_bn (q_n (k8 _ _ ?_))
  refine sx_sub (Sub.c 0 rfl (.c 1 rfl (.c 2 rfl (.c 7 rfl (.c 11 rfl (.c 12 rfl (.c 13 rfl .nil))))))) ?_
  refine sx_region ?_
  refine sp rfl (px_add rfl rfl (by omega)) ?_
  refine mv rfl rfl (wl_nil ?_)
  have q19 := Chg.step (l := lva) (h := uva) cwl5 cw18 (by omega)
  have hxl : (0 : Int) ≤ ((((os).getD k 0) - (((ys).getD k 0) * q)) - c) ∧ ((((os).getD k 0) - (((ys).getD k 0) * q)) - c) < 1000000000 := by omega
  have hcl : (0 : Int) ≤ 0 ∧ 0 < (1000000000 : Int) := by omega
  have hnx := subt_next (ys := ys) (x := ((((os).getD k 0) - (((ys).getD k 0) * q)) - c)) (c' := 0) (by omega) hdr hq.1 hc.1 hcl.1 hxl un.1 yn.1 (by omega) hv
  exact fun a ha => ⟨_, by omega, (k + 1), ((os).set k ((((os).getD k 0) - (((ys).getD k 0) * q)) - c)), 0, ha.sub (Sub.c 0 rfl (.c 1 rfl (.c 2 rfl (.c 7 (look_int (t := 7) rfl (by first | omega | simp)) (.c 11 rfl (.c 12 rfl (.c 13 (look_int (t := 13) rfl (by first | omega | simp)) .nil))))))), q19, (fw18.mono (by omega) (by omega)), rfl, by omega, by rw [List.length_set]; exact ho, Lm_take_set hlm (by omega) hxl.1 hxl.2, drop_set_succ hdr, hcl, hnx⟩
 refine sx_exit ?_
 refine q_e (q_e (q_bx (q_n (k3 _ _ ?_))))
 refine sx_seq fun K20 k20 => ?_
 have ek : k = ys.length := by omega
 subst ek
 refine sx_region ?_
 refine mv rfl rfl (mv rfl rfl ?_)
 have f21 := hvb.chg cwl5 (by omega)
 refine sp rfl (px_len rfl Tryz.underlying28 f21) ?_
 refine sp rfl (px_index1 (j := (ys).length) rfl rfl (by omega) Tryz.underlying28 Tryz.sizeOf3 hs_va.sv (by first | omega | (simp only [List.length_set]; omega))) ?_
 refine sp rfl (px_load rfl (hs_va.sv.load1 (at_int (by first | omega | (simp only [List.length_set]; omega))) Tryz.isAgg3)) ?_
 refine mv rfl rfl (sp rfl (px_sub rfl rfl (by omega)) ?_)
 refine sp rfl (px_index1 (j := (ys).length) rfl rfl (by omega) Tryz.underlying28 Tryz.sizeOf3 hs_va.sv (by first | omega | (simp only [List.length_set]; omega))) ?_
 refine sx_storeW rfl rfl hs_va (by first | omega | (simp only [List.length_set]; omega)) Tryz.sizeOf3 (fun w22 sw22 fw22 cw22 => ?_)
 have zw22 := cw22.size
 refine wl_nil (q_n (k20 _ _ ?_))
 refine sx_sub (Sub.c 0 rfl (.c 1 rfl .nil)) ?_
 refine sx_seq fun K23 k23 => sx_region ?_
 refine mv rfl rfl (mv rfl rfl ?_)
 have f24 := f21.chg cw22 (by omega)
 refine sp rfl (px_len rfl Tryz.underlying28 f24) ?_
 refine sp rfl (px_index1 (j := (ys).length) rfl rfl (by omega) Tryz.underlying28 Tryz.sizeOf3 fw22.sv (by first | omega | (simp only [List.length_set]; omega))) ?_
 refine sp rfl (px_load rfl (fw22.sv.load1 (at_int (by first | omega | (simp only [List.length_set]; omega))) Tryz.isAgg3)) ?_
 refine sp rfl (px_lt rfl rfl) ?_
 refine av rfl rfl (wl_nil (q_n (k23 _ _ ?_)))
 refine sx_retc ?_
 refine sx_ret1 Tryz.results97 rfl ?_
 have he := subt_end (ys := ys) (by omega) rfl hdr hq.1 hc.1 hv
 have q25 := Chg.step (l := lva) (h := uva) cwl5 cw22 (by omega)
 exact ⟨((os).set ((ys).length) (((os).getD ((ys).length) 0) - c)), rfl, fw22, ⟨by rw [List.length_set]; exact ho, by rw [take_set_self]; exact hlm, he⟩, q25⟩

end Go.Proofs.YtlnemcbdbehehaaGreatDoor
