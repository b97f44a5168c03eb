/- Contracts of functions of the program: what each call returns, and that it changes nothing that was. Conditions: as each says. -/
import Derived.Test.YtbmcabnpmplckaaDoorTy
import Derived.Test.YtbmcabnpmplckaaDoorNatI
import Derived.Test.YtbmcabnpmplckaaDoorSxD
import Derived.Test.YtbmcabnpmplckaaDoorSxT
import Derived.Test.YtbmcabnpmplckaaDoorTab
import Derived.Test.YtbmcabnpmplckaaDoorLay
import Derived.Test.YtbmcabnpmplckaaDoorLayB
import Derived.Test.YtbmcabnpmplckaaDoorNatX
import Derived.Test.YtbmcabnpmplckaaDoorNatRd
import Derived.Test.YtbmcabnpmplckaaDoorNatCt
import Derived.Test.YtbmcabnpmplckaaDoorSxW
import Derived.Test.YtbmcabnpmplckaaDoorNatIr
import Derived.Test.YtbmcabnpmplckaaDoorSxP
import Derived.Test.YtbmcabnpmplckaaDoorL1
import Derived.Test.YtbmcabnpmplckaaDoorL2
set_option linter.unusedVariables false
set_option linter.unusedSimpArgs false
namespace Go.Proofs.YtbmcabnpmplckaaDoor
open Go Go.RowKit
set_option maxRecDepth 100000
set_option maxHeartbeats 1000000
theorem law_TextDec {w : World} {s : ByteArray} (hGT : GlobP w) (bs : s.size ≤ 9223372036854775807) :
  Ret Tryd.prog 3 [.string s] w fun v w' => v = .bool (true) ∧ Chg 0 0 w w' := by
 have hGTl := hGT.lt
 refine sx_enter Tryd.func3 rfl Tryd.ntmps3 (nbl rfl) ?_
 refine sx_seq fun K1 k1 => sx_region ?_
 refine av rfl rfl (wl_nil (q_n (k1 _ _ ?_)))
 refine sx_seq fun K2 k2 => ?_
 refine sx_seq fun K3 k3 => sx_region ?_
 refine mv rfl rfl (sp rfl (px_lenS rfl Tryd.underlying9) ?_)
 refine sp rfl (px_gt rfl rfl) ?_
 refine wl_nil (q_n (k3 _ _ ?_))
 refine sx_condP rfl (fun h4327 => ?_) (fun h4327 => ?_)
 ·
  refine sx_seq fun K4 k4 => sx_region ?_
  refine av rfl rfl (wl_nil (q_n (k4 _ _ ?_)))
  refine sx_retc ?_
  refine q_r (sx_ret1 Tryd.results3 rfl ?_)
  exact ⟨rfl, (Chg.refl 0 0 _)⟩
 refine sx_skip ?_
 refine q_n (k2 _ _ ?_)
 refine sx_seq fun K5 k5 => sx_region ?_
 refine mv rfl rfl (sx_call rfl rfl Tryd.call4 (c_sTextDec (by omega)) (fun v6 w6 p6 => ?_))
 obtain ⟨x6, rfl, ox_6, hl6, c6⟩ := p6
 have zw6 := c6.size
 refine mv rfl rfl (sp rfl (px_ex2 rfl rfl) ?_)
 refine sp rfl (px_ex2 rfl rfl) ?_
 refine sx_alloc [.bool false, (.slice none 0 0), .int .i64 0] rfl Tryd.zeroValue26 rfl (fun b7 w8 eb7 sb7 fb7 cb7 => ?_)
 have zw8 := cb7.size
 have f10 := ox_6.ext cb7
 refine sx_store (vs := [.bool ((rdD s).1), x6, .int .i64 ((rdD s).2.2.1)]) rfl rfl fb7 rfl Tryd.sizeOf26 (nbl rfl) (one_cons rfl (one_cons f10.one (o1 rfl))) (fun w9 sw9 fw9 cw9 => ?_)
 have zw9 := cw9.size
 have gw9 : Blk w9 b7 [.bool ((rdD s).1), x6, .int .i64 ((rdD s).2.2.1)] 26 := fw9
 refine av rfl rfl (wl_nil (q_n (k5 _ _ ?_)))
 refine sx_seq fun K11 k11 => sx_region ?_
 refine mv rfl rfl ?_
 have f13 := (hGT.ext c6).ext cb7
 have f14 := f13.chg cw9 (by omega)
 refine sx_call rfl rfl Tryd.call5 (c_iTextDec f14 (by omega)) (fun v15 w15 p15 => ?_)
 obtain ⟨x15, rfl, ox_15, hl15, c15⟩ := p15
 have zw15 := c15.size
 refine mv rfl rfl (sp rfl (px_ex2 rfl rfl) ?_)
 refine sp rfl (px_ex2 rfl rfl) ?_
 refine sx_alloc [.bool false, (.slice none 0 0), .int .i64 0] rfl Tryd.zeroValue26 rfl (fun b16 w17 eb16 sb16 fb16 cb16 => ?_)
 have zw17 := cb16.size
 have f19 := ox_15.ext cb16
 refine sx_store (vs := [.bool ((rdD s).1), x15, .int .i64 ((rdD s).2.2.1)]) rfl rfl fb16 rfl Tryd.sizeOf26 (nbl rfl) (one_cons rfl (one_cons f19.one (o1 rfl))) (fun w18 sw18 fw18 cw18 => ?_)
 have zw18 := cw18.size
 have gw18 : Blk w18 b16 [.bool ((rdD s).1), x15, .int .i64 ((rdD s).2.2.1)] 26 := fw18
 refine av rfl rfl (wl_nil (q_n (k11 _ _ ?_)))
 refine sx_sub (Sub.c 0 rfl (.c 2 rfl (.c 3 rfl (.c 4 rfl (.c 5 rfl (.c 6 rfl .nil)))))) ?_
 refine sx_seq fun K20 k20 => ?_
 refine sx_seq fun K21 k21 => sx_region ?_
 refine sp rfl (px_load rfl (gw18.loadA (vs := [.bool ((rdD s).1), x15, .int .i64 ((rdD s).2.2.1)]) (look_lit rfl) Tryd.isAgg26 Tryd.sizeOf26)) ?_
 have f23 := (gw9.ext c15).ext cb16
 have f24 := f23.chg cw18 (by omega)
 refine sp rfl (px_load rfl (f24.loadA (vs := [.bool ((rdD s).1), x6, .int .i64 ((rdD s).2.2.1)]) (look_lit rfl) Tryd.isAgg26 Tryd.sizeOf26)) ?_
 have f25 := f19.chg cw18 (by omega)
 have f26 := f10.chg cw9 (by omega)
 have f28 := (f26.ext c15).ext cb16
 have f29 := f28.chg cw18 (by omega)
 refine sx_call rfl rfl Tryd.call6 (c_eqDec f25.sv f29.sv (by omega)) (fun v30 w30 p30 => ?_)
 obtain ⟨rfl, c30⟩ := p30
 have zw30 := c30.size
 refine sp rfl (px_notP rfl) ?_
 refine mv rfl rfl ?_
 have h4332 : ¬ (¬ (((rdD s).1) = ((rdD s).1) ∧ ((rdD s).2.1) = ((rdD s).2.1) ∧ ((rdD s).2.2.1) = ((rdD s).2.2.1))) := by simp [mk_length]
 refine sx_tmpPF (t := 28) rfl h4332 ?_
 refine sx_guardT rfl rfl rfl ?_
 refine mv rfl rfl ?_
 refine sx_guardT rfl rfl rfl ?_
 refine mv rfl rfl ?_
 refine sx_guardT rfl rfl rfl ?_
 refine sp rfl (px_neB Tryd.underlying4 rfl rfl) ?_
 refine sp rfl (px_pick rfl rfl) ?_
 refine wl_nil (q_n (k21 _ _ ?_))
 refine sx_sub (Sub.c 0 rfl (.c 2 rfl (.c 3 rfl (.c 4 rfl (.c 5 rfl (.c 32 rfl .nil)))))) ?_
 have h4332x1 : (((rdD s).2.2.2) != ((rdD s).2.2.2)) = false := by simp [mk_length]
 refine sx_condBF rfl h4332x1 ?_
 refine sx_skip ?_
 refine q_n (k20 _ _ ?_)
 refine sx_seq fun K31 k31 => sx_region ?_
 refine av rfl rfl (wl_nil (q_n (k31 _ _ ?_)))
 refine sx_seq fun K32 k32 => sx_region ?_
 have f33 := gw18.ext c30
 refine sp rfl (px_load rfl (f33.loadA (vs := [.bool ((rdD s).1), x15, .int .i64 ((rdD s).2.2.1)]) (look_lit rfl) Tryd.isAgg26 Tryd.sizeOf26)) ?_
 refine mv rfl rfl ?_
 have f34 := f25.ext c30
 refine sx_call rfl rfl Tryd.call7 (c_markDec f34 (by omega) (by omega)) (fun v35 w35 p35 => ?_)
 obtain ⟨rfl, ov1_35, c35⟩ := p35
 have zw35 := c35.size
 refine av rfl rfl (wl_nil (q_n (k32 _ _ ?_)))
 refine sx_seq fun K36 k36 => sx_region ?_
 refine av rfl rfl (wl_nil (q_n (k36 _ _ ?_)))
 refine sx_seq fun K37 k37 => sx_region ?_
 have f38 := f33.chg c35 (by omega)
 refine sp rfl (px_load rfl (f38.loadA (vs := [.bool ((rdD s).1), x15, .int .i64 ((rdD s).2.2.1)]) (look_lit rfl) Tryd.isAgg26 Tryd.sizeOf26)) ?_
 refine mv rfl rfl (sx_call rfl rfl Tryd.call8 (c_heldDec ov1_35.sv (by first | omega | (simp only [mk_length]; omega)) (by omega) (by first | assumption | simp [mk_length])) (fun v39 w39 p39 => ?_))
 obtain ⟨rfl, c39⟩ := p39
 have zw39 := c39.size
 refine av rfl rfl (wl_nil (q_n (k37 _ _ ?_)))
 refine sx_seq fun K40 k40 => ?_
 refine sx_seq fun K41 k41 => sx_region ?_
 refine mv rfl rfl (sp rfl (px_lt rfl rfl) ?_)
 refine wl_nil (q_n (k41 _ _ ?_))
 refine sx_sub (Sub.c 0 rfl (.c 2 rfl (.c 3 rfl (.c 4 rfl (.c 5 rfl (.c 7 rfl (.c 8 rfl (.c 40 rfl .nil)))))))) ?_
 have h4339 : ¬ (((1 : Int) + ↑((mk (1 : Int) (((rdD s).2.1)).length)).length : Int) < 0) := by omega
 refine sx_condPF rfl h4339 ?_
 refine sx_skip ?_
 refine q_n (k40 _ _ ?_)
 refine sx_seq fun K42 k42 => ?_
 refine sx_seq fun K43 k43 => sx_region ?_
 refine mv rfl rfl (mv rfl rfl (sp rfl (px_ne rfl rfl) ?_))
 refine wl_nil (q_n (k43 _ _ ?_))
 have h4342 : ¬ (((1 : Int) + ↑((mk (1 : Int) (((rdD s).2.1)).length)).length : Int) ≠ (1 : Int) + ↑(((rdD s).2.1)).length) := by simp [mk_length]
 refine sx_condPF rfl h4342 ?_
 refine sx_skip ?_
 refine q_n (k42 _ _ ?_)
 refine sx_seq fun K44 k44 => sx_region ?_
 refine mv rfl rfl ?_
 have f46 := (f14.ext c15).ext cb16
 have f47 := f46.chg cw18 (by omega)
 have f50 := ((f47.ext c30).chg c35 (by omega)).ext c39
 refine sx_call rfl rfl Tryd.call5 (c_iTextDec f50 (by omega)) (fun v51 w51 p51 => ?_)
 obtain ⟨x51, rfl, ox_51, hl51, c51⟩ := p51
 have zw51 := c51.size
 refine mv rfl rfl (sp rfl (px_ex2 rfl rfl) ?_)
 refine sp rfl (px_ex2 rfl rfl) ?_
 refine sx_alloc [.bool false, (.slice none 0 0), .int .i64 0] rfl Tryd.zeroValue26 rfl (fun b52 w53 eb52 sb52 fb52 cb52 => ?_)
 have zw53 := cb52.size
 have f55 := ox_51.ext cb52
 refine sx_store (vs := [.bool ((rdD s).1), x51, .int .i64 ((rdD s).2.2.1)]) rfl rfl fb52 rfl Tryd.sizeOf26 (nbl rfl) (one_cons rfl (one_cons f55.one (o1 rfl))) (fun w54 sw54 fw54 cw54 => ?_)
 have zw54 := cw54.size
 have gw54 : Blk w54 b52 [.bool ((rdD s).1), x51, .int .i64 ((rdD s).2.2.1)] 26 := fw54
 refine av rfl rfl (wl_nil (q_n (k44 _ _ ?_)))
 refine sx_sub (Sub.c 2 rfl (.c 3 rfl (.c 4 rfl (.c 5 rfl (.c 7 rfl (.c 8 rfl (.c 9 rfl (.c 10 rfl .nil)))))))) ?_
 refine sx_seq fun K56 k56 => ?_
 refine sx_seq fun K57 k57 => sx_region ?_
 refine sp rfl (px_load rfl (gw54.loadA (vs := [.bool ((rdD s).1), x51, .int .i64 ((rdD s).2.2.1)]) (look_lit rfl) Tryd.isAgg26 Tryd.sizeOf26)) ?_
 have f62 := ((((f24.ext c30).chg c35 (by omega)).ext c39).ext c51).ext cb52
 have f63 := f62.chg cw54 (by omega)
 refine sp rfl (px_load rfl (f63.loadA (vs := [.bool ((rdD s).1), x6, .int .i64 ((rdD s).2.2.1)]) (look_lit rfl) Tryd.isAgg26 Tryd.sizeOf26)) ?_
 have f64 := f55.chg cw54 (by omega)
 have f69 := ((((f29.ext c30).chg c35 (by omega)).ext c39).ext c51).ext cb52
 have f70 := f69.chg cw54 (by omega)
 refine sx_call rfl rfl Tryd.call6 (c_eqDec f64.sv f70.sv (by omega)) (fun v71 w71 p71 => ?_)
 obtain ⟨rfl, c71⟩ := p71
 have zw71 := c71.size
 refine sp rfl (px_notP rfl) ?_
 refine mv rfl rfl ?_
 have h4346 : ¬ (¬ (((rdD s).1) = ((rdD s).1) ∧ ((rdD s).2.1) = ((rdD s).2.1) ∧ ((rdD s).2.2.1) = ((rdD s).2.2.1))) := by simp [mk_length]
 refine sx_tmpPF (t := 53) rfl h4346 ?_
 refine sx_guardT rfl rfl rfl ?_
 refine mv rfl rfl ?_
 refine sx_guardT rfl rfl rfl ?_
 refine mv rfl rfl ?_
 refine sx_guardT rfl rfl rfl ?_
 refine sp rfl (px_neB Tryd.underlying4 rfl rfl) ?_
 refine sp rfl (px_pick rfl rfl) ?_
 refine wl_nil (q_n (k57 _ _ ?_))
 refine sx_sub (Sub.c 2 rfl (.c 5 rfl (.c 7 rfl (.c 8 rfl (.c 57 rfl .nil))))) ?_
 have h4346x1 : (((rdD s).2.2.2) != ((rdD s).2.2.2)) = false := by simp [mk_length]
 refine sx_condBF rfl h4346x1 ?_
 refine sx_skip ?_
 refine q_n (k56 _ _ ?_)
 refine sx_seq fun K72 k72 => sx_region ?_
 refine av rfl rfl (wl_nil (q_n (k72 _ _ ?_)))
 refine sx_seq fun K73 k73 => sx_region ?_
 have f76 := ((f38.ext c39).ext c51).ext cb52
 have f77 := f76.chg cw54 (by omega)
 have f78 := f77.ext c71
 refine sp rfl (px_load rfl (f78.loadA (vs := [.bool ((rdD s).1), x15, .int .i64 ((rdD s).2.2.1)]) (look_lit rfl) Tryd.isAgg26 Tryd.sizeOf26)) ?_
 refine mv rfl rfl ?_
 have f81 := ((ov1_35.ext c39).ext c51).ext cb52
 have f82 := f81.chg cw54 (by omega)
 have f83 := f82.ext c71
 refine sx_call rfl rfl Tryd.call8 (c_heldDec f83.sv (by first | omega | (simp only [mk_length]; omega)) (by omega) (by first | assumption | simp [mk_length])) (fun v84 w84 p84 => ?_)
 obtain ⟨rfl, c84⟩ := p84
 have zw84 := c84.size
 refine av rfl rfl (wl_nil (q_n (k73 _ _ ?_)))
 refine sx_seq fun K85 k85 => ?_
 refine sx_seq fun K86 k86 => sx_region ?_
 refine mv rfl rfl (sp rfl (px_lt rfl rfl) ?_)
 refine wl_nil (q_n (k86 _ _ ?_))
 have h4351 : ¬ (((1 : Int) + ↑((mk (1 : Int) (((rdD s).2.1)).length)).length : Int) < 0) := by omega
 refine sx_condPF rfl h4351 ?_
 refine sx_skip ?_
 refine q_n (k85 _ _ ?_)
 refine sx_seq fun K87 k87 => ?_
 refine sx_seq fun K88 k88 => sx_region ?_
 refine mv rfl rfl (mv rfl rfl (sp rfl (px_ne rfl rfl) ?_))
 refine wl_nil (q_n (k88 _ _ ?_))
 have h4354 : ¬ (((1 : Int) + ↑((mk (1 : Int) (((rdD s).2.1)).length)).length : Int) ≠ (1 : Int) + ↑(((rdD s).2.1)).length) := by simp [mk_length]
 refine sx_condPF rfl h4354 ?_
 refine sx_skip ?_
 refine q_n (k87 _ _ ?_)
 refine sx_seq fun K89 k89 => sx_region ?_
 refine av rfl rfl (wl_nil (q_n (k89 _ _ ?_)))
 refine sx_retc ?_
 refine sx_ret1 Tryd.results3 rfl ?_
 have q90 := Chg.step (l := 0) (h := 0) (Chg.zero (l := 0) (h := 0) (c6.t cb7)) cw9 (by omega)
 have q91 := Chg.step (l := 0) (h := 0) q90 (c15.t cb16) (by omega)
 have q92 := Chg.step (l := 0) (h := 0) q91 cw18 (by omega)
 have q93 := Chg.step (l := 0) (h := 0) q92 c30 (by omega)
 have q94 := Chg.step (l := 0) (h := 0) q93 c35 (by omega)
 have q95 := Chg.step (l := 0) (h := 0) q94 ((c39.t c51).t cb52) (by omega)
 have q96 := Chg.step (l := 0) (h := 0) q95 cw54 (by omega)
 have q97 := Chg.step (l := 0) (h := 0) q96 (c71.t c84) (by omega)
 exact ⟨rfl, q97⟩

end Go.Proofs.YtbmcabnpmplckaaDoor
