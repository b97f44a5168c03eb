/- Contracts of functions of the program: what each call returns, and that it changes nothing that was. Conditions: as each says. -/
import Derived.Test.YtoeclobdbblohaaDoorTy
import Derived.Test.YtoeclobdbblohaaDoorNatI
import Derived.Test.YtoeclobdbblohaaDoorNatQ
import Derived.Test.YtoeclobdbblohaaDoorSxW
import Derived.Test.YtoeclobdbblohaaDoorNatS
import Derived.Test.YtoeclobdbblohaaDoorSxD
import Derived.Test.YtoeclobdbblohaaDoorSxT
import Derived.Test.YtoeclobdbblohaaDoorTab
import Derived.Test.YtoeclobdbblohaaDoorLay
import Derived.Test.YtoeclobdbblohaaDoorLayB
import Derived.Test.YtoeclobdbblohaaDoorNatX
import Derived.Test.YtoeclobdbblohaaDoorNatRd
import Derived.Test.YtoeclobdbblohaaDoorNatCt
import Derived.Test.YtoeclobdbblohaaDoorNatIr
import Derived.Test.YtoeclobdbblohaaDoorNatTm
import Derived.Test.YtoeclobdbblohaaDoorSxP
import Derived.Test.YtoeclobdbblohaaDoorL3
set_option linter.unusedVariables false
set_option linter.unusedSimpArgs false
namespace Go.Proofs.YtoeclobdbblohaaDoor
open Go Go.RowKit
set_option maxRecDepth 100000
set_option maxHeartbeats 1000000
theorem law_TextRate {w : World} {s : ByteArray} (hG0 : Glob w) (hGT : GlobP w) (bs : s.size ≤ 9223372036854775807) :
  Ret Tryd.prog 4 [.string s] w fun v w' => v = .bool (true) ∧ Chg 0 0 w w' := by
 have hGTl := hGT.lt
 have hG0l : 0 < w.heap.size := by obtain ⟨T, fz, h1⟩ := hG0; rcases Nat.lt_or_ge 0 w.heap.size with h2 | h2; exact h2; simp [Array.getElem?_eq_none h2] at h1
 refine sx_enter Tryd.func4 rfl Tryd.ntmps4 (nbl rfl) ?_
 refine sx_seq fun K1 k1 => sx_region ?_
 refine av rfl rfl (wl_nil (q_n (k1 _ _ ?_)))
 refine sx_seq fun K2 k2 => ?_
 refine sx_seq fun K3 k3 => sx_region ?_
 refine mv rfl rfl (sp rfl (px_lenS rfl Tryd.underlying9) ?_)
 refine sp rfl (px_gt rfl rfl) ?_
 refine wl_nil (q_n (k3 _ _ ?_))
 refine sx_condP rfl (fun h5637 => ?_) (fun h5637 => ?_)
 ·
  refine sx_seq fun K4 k4 => sx_region ?_
  refine av rfl rfl (wl_nil (q_n (k4 _ _ ?_)))
  refine sx_retc ?_
  refine q_r (sx_ret1 Tryd.results4 rfl ?_)
  exact ⟨rfl, (Chg.refl 0 0 _)⟩
 refine sx_skip ?_
 refine q_n (k2 _ _ ?_)
 refine sx_seq fun K5 k5 => sx_region ?_
 refine mv rfl rfl (sx_call rfl rfl Tryd.call11 (c_sTextRate (by omega)) (fun v6 w6 p6 => ?_))
 obtain ⟨x6, rfl, ox_6, hl6, c6⟩ := p6
 have zw6 := c6.size
 refine mv rfl rfl (sp rfl (px_ex2 rfl rfl) ?_)
 refine sp rfl (px_ex2 rfl rfl) ?_
 refine sx_alloc [.string (⟨#[]⟩), .string (⟨#[]⟩), .bool false, (.slice none 0 0), .int .i64 0] rfl Tryd.zeroValue35 rfl (fun b7 w8 eb7 sb7 fb7 cb7 => ?_)
 have zw8 := cb7.size
 have f10 := ox_6.ext cb7
 refine sx_store (vs := [.string ((rdR s).1), .string ((rdR s).2.1), .bool (ng (rdR s).2.2.1), x6, .int .i64 ((rdR s).2.2.2.1)]) rfl rfl fb7 rfl Tryd.sizeOf35 (nbl rfl) (one_cons rfl (one_cons rfl (one_cons rfl (one_cons f10.one (o1 rfl))))) (fun w9 sw9 fw9 cw9 => ?_)
 have zw9 := cw9.size
 have gw9 : Blk w9 b7 [.string ((rdR s).1), .string ((rdR s).2.1), .bool (ng (rdR s).2.2.1), x6, .int .i64 ((rdR s).2.2.2.1)] 35 := fw9
 refine av rfl rfl (wl_nil (q_n (k5 _ _ ?_)))
 refine sx_seq fun K11 k11 => sx_region ?_
 refine mv rfl rfl ?_
 have f13 := (hG0.ext c6).ext cb7
 have f14 := f13.chg cw9 (by omega)
 have f16 := (hGT.ext c6).ext cb7
 have f17 := f16.chg cw9 (by omega)
 refine sx_call rfl rfl Tryd.call12 (c_iTextRate f14 f17 (by omega)) (fun v18 w18 p18 => ?_)
 obtain ⟨x18, rfl, ox_18, hl18, c18⟩ := p18
 have zw18 := c18.size
 refine mv rfl rfl (sp rfl (px_ex2 rfl rfl) ?_)
 refine sp rfl (px_ex2 rfl rfl) ?_
 refine sx_alloc [.string (⟨#[]⟩), .string (⟨#[]⟩), .bool false, (.slice none 0 0), .int .i64 0] rfl Tryd.zeroValue35 rfl (fun b19 w20 eb19 sb19 fb19 cb19 => ?_)
 have zw20 := cb19.size
 have f22 := ox_18.ext cb19
 refine sx_store (vs := [.string ((rdR s).1), .string ((rdR s).2.1), .bool (ng (rdR s).2.2.1), x18, .int .i64 ((rdR s).2.2.2.1)]) rfl rfl fb19 rfl Tryd.sizeOf35 (nbl rfl) (one_cons rfl (one_cons rfl (one_cons rfl (one_cons f22.one (o1 rfl))))) (fun w21 sw21 fw21 cw21 => ?_)
 have zw21 := cw21.size
 have gw21 : Blk w21 b19 [.string ((rdR s).1), .string ((rdR s).2.1), .bool (ng (rdR s).2.2.1), x18, .int .i64 ((rdR s).2.2.2.1)] 35 := fw21
 refine av rfl rfl (wl_nil (q_n (k11 _ _ ?_)))
 refine sx_sub (Sub.c 0 rfl (.c 2 rfl (.c 3 rfl (.c 4 rfl (.c 5 rfl (.c 6 rfl .nil)))))) ?_
 refine sx_seq fun K23 k23 => ?_
 refine sx_seq fun K24 k24 => sx_region ?_
 refine sp rfl (px_load rfl (gw21.loadA (vs := [.string ((rdR s).1), .string ((rdR s).2.1), .bool (ng (rdR s).2.2.1), x18, .int .i64 ((rdR s).2.2.2.1)]) (look_lit rfl) Tryd.isAgg35 Tryd.sizeOf35)) ?_
 have f26 := (gw9.ext c18).ext cb19
 have f27 := f26.chg cw21 (by omega)
 refine sp rfl (px_load rfl (f27.loadA (vs := [.string ((rdR s).1), .string ((rdR s).2.1), .bool (ng (rdR s).2.2.1), x6, .int .i64 ((rdR s).2.2.2.1)]) (look_lit rfl) Tryd.isAgg35 Tryd.sizeOf35)) ?_
 have f28 := f22.chg cw21 (by omega)
 have f29 := f10.chg cw9 (by omega)
 have f31 := (f29.ext c18).ext cb19
 have f32 := f31.chg cw21 (by omega)
 refine sx_call rfl rfl Tryd.call13 (c_eqRate f28.sv f32.sv (by omega)) (fun v33 w33 p33 => ?_)
 obtain ⟨rfl, c33⟩ := p33
 have zw33 := c33.size
 refine sp rfl (px_notP rfl) ?_
 refine mv rfl rfl ?_
 have h5642 : ¬ (¬ (((rdR s).1) = ((rdR s).1) ∧ ((rdR s).2.1) = ((rdR s).2.1) ∧ (ng (rdR s).2.2.1) = (ng (rdR s).2.2.1) ∧ (dg (rdR s).2.2.1.natAbs) = (dg (rdR s).2.2.1.natAbs) ∧ ((rdR s).2.2.2.1) = ((rdR s).2.2.2.1))) := by simp [mk_length]
 refine sx_tmpPF (t := 28) rfl h5642 ?_
 refine sx_guardT rfl rfl rfl ?_
 refine mv rfl rfl ?_
 refine sx_guardT rfl rfl rfl ?_
 refine mv rfl rfl ?_
 refine sx_guardT rfl rfl rfl ?_
 refine sp rfl (px_neB Tryd.underlying4 rfl rfl) ?_
 refine sp rfl (px_pick rfl rfl) ?_
 refine wl_nil (q_n (k24 _ _ ?_))
 refine sx_sub (Sub.c 0 rfl (.c 2 rfl (.c 3 rfl (.c 4 rfl (.c 5 rfl (.c 32 rfl .nil)))))) ?_
 have h5642x1 : (((rdR s).2.2.2.2) != ((rdR s).2.2.2.2)) = false := by simp [mk_length]
 refine sx_condBF rfl h5642x1 ?_
 refine sx_skip ?_
 refine q_n (k23 _ _ ?_)
 refine sx_seq fun K34 k34 => sx_region ?_
 refine av rfl rfl (wl_nil (q_n (k34 _ _ ?_)))
 refine sx_seq fun K35 k35 => sx_region ?_
 have f36 := gw21.ext c33
 refine sp rfl (px_load rfl (f36.loadA (vs := [.string ((rdR s).1), .string ((rdR s).2.1), .bool (ng (rdR s).2.2.1), x18, .int .i64 ((rdR s).2.2.2.1)]) (look_lit rfl) Tryd.isAgg35 Tryd.sizeOf35)) ?_
 refine mv rfl rfl ?_
 have f37 := f28.ext c33
 refine sx_call rfl rfl Tryd.call14 (c_markRate f37 (by omega) (by omega)) (fun v38 w38 p38 => ?_)
 obtain ⟨rfl, ov1_38, c38⟩ := p38
 have zw38 := c38.size
 refine av rfl rfl (wl_nil (q_n (k35 _ _ ?_)))
 refine sx_seq fun K39 k39 => sx_region ?_
 refine av rfl rfl (wl_nil (q_n (k39 _ _ ?_)))
 refine sx_seq fun K40 k40 => sx_region ?_
 have f41 := f36.chg c38 (by omega)
 refine sp rfl (px_load rfl (f41.loadA (vs := [.string ((rdR s).1), .string ((rdR s).2.1), .bool (ng (rdR s).2.2.1), x18, .int .i64 ((rdR s).2.2.2.1)]) (look_lit rfl) Tryd.isAgg35 Tryd.sizeOf35)) ?_
 refine mv rfl rfl (sx_call rfl rfl Tryd.call15 (c_heldRate ov1_38.sv (by first | omega | (simp only [mk_length]; omega)) (by omega) (by first | assumption | simp [mk_length])) (fun v42 w42 p42 => ?_))
 obtain ⟨rfl, c42⟩ := p42
 have zw42 := c42.size
 refine av rfl rfl (wl_nil (q_n (k40 _ _ ?_)))
 refine sx_seq fun K43 k43 => ?_
 refine sx_seq fun K44 k44 => sx_region ?_
 refine mv rfl rfl (sp rfl (px_lt rfl rfl) ?_)
 refine wl_nil (q_n (k44 _ _ ?_))
 refine sx_sub (Sub.c 0 rfl (.c 2 rfl (.c 3 rfl (.c 4 rfl (.c 5 rfl (.c 7 rfl (.c 8 rfl (.c 40 rfl .nil)))))))) ?_
 have h5649 : ¬ (((1 : Int) + ↑((mk (1 : Int) ((dg (rdR s).2.2.1.natAbs)).length)).length : Int) < 0) := by omega
 refine sx_condPF rfl h5649 ?_
 refine sx_skip ?_
 refine q_n (k43 _ _ ?_)
 refine sx_seq fun K45 k45 => ?_
 refine sx_seq fun K46 k46 => sx_region ?_
 refine mv rfl rfl (mv rfl rfl (sp rfl (px_ne rfl rfl) ?_))
 refine wl_nil (q_n (k46 _ _ ?_))
 have h5652 : ¬ (((1 : Int) + ↑((mk (1 : Int) ((dg (rdR s).2.2.1.natAbs)).length)).length : Int) ≠ (1 : Int) + ↑((dg (rdR s).2.2.1.natAbs)).length) := by simp [mk_length]
 refine sx_condPF rfl h5652 ?_
 refine sx_skip ?_
 refine q_n (k45 _ _ ?_)
 refine sx_seq fun K47 k47 => sx_region ?_
 refine mv rfl rfl ?_
 have f49 := (f14.ext c18).ext cb19
 have f50 := f49.chg cw21 (by omega)
 have f53 := ((f50.ext c33).chg c38 (by omega)).ext c42
 have f55 := (f17.ext c18).ext cb19
 have f56 := f55.chg cw21 (by omega)
 have f59 := ((f56.ext c33).chg c38 (by omega)).ext c42
 refine sx_call rfl rfl Tryd.call12 (c_iTextRate f53 f59 (by omega)) (fun v60 w60 p60 => ?_)
 obtain ⟨x60, rfl, ox_60, hl60, c60⟩ := p60
 have zw60 := c60.size
 refine mv rfl rfl (sp rfl (px_ex2 rfl rfl) ?_)
 refine sp rfl (px_ex2 rfl rfl) ?_
 refine sx_alloc [.string (⟨#[]⟩), .string (⟨#[]⟩), .bool false, (.slice none 0 0), .int .i64 0] rfl Tryd.zeroValue35 rfl (fun b61 w62 eb61 sb61 fb61 cb61 => ?_)
 have zw62 := cb61.size
 have f64 := ox_60.ext cb61
 refine sx_store (vs := [.string ((rdR s).1), .string ((rdR s).2.1), .bool (ng (rdR s).2.2.1), x60, .int .i64 ((rdR s).2.2.2.1)]) rfl rfl fb61 rfl Tryd.sizeOf35 (nbl rfl) (one_cons rfl (one_cons rfl (one_cons rfl (one_cons f64.one (o1 rfl))))) (fun w63 sw63 fw63 cw63 => ?_)
 have zw63 := cw63.size
 have gw63 : Blk w63 b61 [.string ((rdR s).1), .string ((rdR s).2.1), .bool (ng (rdR s).2.2.1), x60, .int .i64 ((rdR s).2.2.2.1)] 35 := fw63
 refine av rfl rfl (wl_nil (q_n (k47 _ _ ?_)))
 refine sx_sub (Sub.c 2 rfl (.c 3 rfl (.c 4 rfl (.c 5 rfl (.c 7 rfl (.c 8 rfl (.c 9 rfl (.c 10 rfl .nil)))))))) ?_
 refine sx_seq fun K65 k65 => ?_
 refine sx_seq fun K66 k66 => sx_region ?_
 refine sp rfl (px_load rfl (gw63.loadA (vs := [.string ((rdR s).1), .string ((rdR s).2.1), .bool (ng (rdR s).2.2.1), x60, .int .i64 ((rdR s).2.2.2.1)]) (look_lit rfl) Tryd.isAgg35 Tryd.sizeOf35)) ?_
 have f71 := ((((f27.ext c33).chg c38 (by omega)).ext c42).ext c60).ext cb61
 have f72 := f71.chg cw63 (by omega)
 refine sp rfl (px_load rfl (f72.loadA (vs := [.string ((rdR s).1), .string ((rdR s).2.1), .bool (ng (rdR s).2.2.1), x6, .int .i64 ((rdR s).2.2.2.1)]) (look_lit rfl) Tryd.isAgg35 Tryd.sizeOf35)) ?_
 have f73 := f64.chg cw63 (by omega)
 have f78 := ((((f32.ext c33).chg c38 (by omega)).ext c42).ext c60).ext cb61
 have f79 := f78.chg cw63 (by omega)
 refine sx_call rfl rfl Tryd.call13 (c_eqRate f73.sv f79.sv (by omega)) (fun v80 w80 p80 => ?_)
 obtain ⟨rfl, c80⟩ := p80
 have zw80 := c80.size
 refine sp rfl (px_notP rfl) ?_
 refine mv rfl rfl ?_
 have h5656 : ¬ (¬ (((rdR s).1) = ((rdR s).1) ∧ ((rdR s).2.1) = ((rdR s).2.1) ∧ (ng (rdR s).2.2.1) = (ng (rdR s).2.2.1) ∧ (dg (rdR s).2.2.1.natAbs) = (dg (rdR s).2.2.1.natAbs) ∧ ((rdR s).2.2.2.1) = ((rdR s).2.2.2.1))) := by simp [mk_length]
 refine sx_tmpPF (t := 53) rfl h5656 ?_
 refine sx_guardT rfl rfl rfl ?_
 refine mv rfl rfl ?_
 refine sx_guardT rfl rfl rfl ?_
 refine mv rfl rfl ?_
 refine sx_guardT rfl rfl rfl ?_
 refine sp rfl (px_neB Tryd.underlying4 rfl rfl) ?_
 refine sp rfl (px_pick rfl rfl) ?_
 refine wl_nil (q_n (k66 _ _ ?_))
 refine sx_sub (Sub.c 2 rfl (.c 5 rfl (.c 7 rfl (.c 8 rfl (.c 57 rfl .nil))))) ?_
 have h5656x1 : (((rdR s).2.2.2.2) != ((rdR s).2.2.2.2)) = false := by simp [mk_length]
 refine sx_condBF rfl h5656x1 ?_
 refine sx_skip ?_
 refine q_n (k65 _ _ ?_)
 refine sx_seq fun K81 k81 => sx_region ?_
 refine av rfl rfl (wl_nil (q_n (k81 _ _ ?_)))
 refine sx_seq fun K82 k82 => sx_region ?_
 have f85 := ((f41.ext c42).ext c60).ext cb61
 have f86 := f85.chg cw63 (by omega)
 have f87 := f86.ext c80
 refine sp rfl (px_load rfl (f87.loadA (vs := [.string ((rdR s).1), .string ((rdR s).2.1), .bool (ng (rdR s).2.2.1), x18, .int .i64 ((rdR s).2.2.2.1)]) (look_lit rfl) Tryd.isAgg35 Tryd.sizeOf35)) ?_
 refine mv rfl rfl ?_
 have f90 := ((ov1_38.ext c42).ext c60).ext cb61
 have f91 := f90.chg cw63 (by omega)
 have f92 := f91.ext c80
 refine sx_call rfl rfl Tryd.call15 (c_heldRate f92.sv (by first | omega | (simp only [mk_length]; omega)) (by omega) (by first | assumption | simp [mk_length])) (fun v93 w93 p93 => ?_)
 obtain ⟨rfl, c93⟩ := p93
 have zw93 := c93.size
 refine av rfl rfl (wl_nil (q_n (k82 _ _ ?_)))
 refine sx_seq fun K94 k94 => ?_
 refine sx_seq fun K95 k95 => sx_region ?_
 refine mv rfl rfl (sp rfl (px_lt rfl rfl) ?_)
 refine wl_nil (q_n (k95 _ _ ?_))
 have h5661 : ¬ (((1 : Int) + ↑((mk (1 : Int) ((dg (rdR s).2.2.1.natAbs)).length)).length : Int) < 0) := by omega
 refine sx_condPF rfl h5661 ?_
 refine sx_skip ?_
 refine q_n (k94 _ _ ?_)
 refine sx_seq fun K96 k96 => ?_
 refine sx_seq fun K97 k97 => sx_region ?_
 refine mv rfl rfl (mv rfl rfl (sp rfl (px_ne rfl rfl) ?_))
 refine wl_nil (q_n (k97 _ _ ?_))
 have h5664 : ¬ (((1 : Int) + ↑((mk (1 : Int) ((dg (rdR s).2.2.1.natAbs)).length)).length : Int) ≠ (1 : Int) + ↑((dg (rdR s).2.2.1.natAbs)).length) := by simp [mk_length]
 refine sx_condPF rfl h5664 ?_
 refine sx_skip ?_
 refine q_n (k96 _ _ ?_)
 refine sx_seq fun K98 k98 => sx_region ?_
 refine av rfl rfl (wl_nil (q_n (k98 _ _ ?_)))
 refine sx_retc ?_
 refine sx_ret1 Tryd.results4 rfl ?_
 have q99 := Chg.step (l := 0) (h := 0) (Chg.zero (l := 0) (h := 0) (c6.t cb7)) cw9 (by omega)
 have q100 := Chg.step (l := 0) (h := 0) q99 (c18.t cb19) (by omega)
 have q101 := Chg.step (l := 0) (h := 0) q100 cw21 (by omega)
 have q102 := Chg.step (l := 0) (h := 0) q101 c33 (by omega)
 have q103 := Chg.step (l := 0) (h := 0) q102 c38 (by omega)
 have q104 := Chg.step (l := 0) (h := 0) q103 ((c42.t c60).t cb61) (by omega)
 have q105 := Chg.step (l := 0) (h := 0) q104 cw63 (by omega)
 have q106 := Chg.step (l := 0) (h := 0) q105 (c80.t c93) (by omega)
 exact ⟨rfl, q106⟩

end Go.Proofs.YtoeclobdbblohaaDoor
