/- Contracts of functions of the program: what each call returns, and that it changes nothing that was. Conditions: as each says. -/
import Derived.Test.YtoeclobdbblohaaGreatDoorTy
import Derived.Test.YtoeclobdbblohaaGreatDoorNatJ
import Derived.Test.YtoeclobdbblohaaGreatDoorSxB
import Derived.Test.YtoeclobdbblohaaGreatDoorPair
import Derived.Test.YtoeclobdbblohaaGreatDoorSxW
import Derived.Test.YtoeclobdbblohaaGreatDoorNatI
import Derived.Test.YtoeclobdbblohaaGreatDoorTab
import Derived.Test.YtoeclobdbblohaaGreatDoorLay
import Derived.Test.YtoeclobdbblohaaGreatDoorLayB
import Derived.Test.YtoeclobdbblohaaGreatDoorNatX
import Derived.Test.YtoeclobdbblohaaGreatDoorSxP
import Derived.Test.YtoeclobdbblohaaGreatDoorP1
import Derived.Test.YtoeclobdbblohaaGreatDoorP2
import Derived.Test.YtoeclobdbblohaaGreatDoorNatDx
set_option linter.unusedVariables false
set_option linter.unusedSimpArgs false
namespace Go.Proofs.YtoeclobdbblohaaGreatDoor
open Go Go.RowKit
set_option maxRecDepth 100000
theorem c_iTextRate {w : World} {s : ByteArray} (hG0 : Glob w) (hGT : GlobP w) (hs : s.size ≤ 1048576) :
  Ret Tryz.prog 24 [.string s] w fun v w' => ∃ x, v = .tuple #[.agg #[.string ((rdR s).1), .string ((rdR s).2.1), .bool (ng (rdR s).2.2.1), x, .int .i64 ((rdR s).2.2.2.1)], .bool ((rdR s).2.2.2.2)] ∧ OwnI w' w.heap.size w'.heap.size x intT (dg (rdR s).2.2.1.natAbs) ∧ ((dg (rdR s).2.2.1.natAbs).length ≤ 2) ∧ Chg 0 0 w w' := by
 have hGTl := hGT.lt
 have hp0 := part_size (b := 32) (s := s) 0
 have hp1 := part_size (b := 32) (s := s) 1
 have hp2 := part_size (b := 32) (s := s) 2
 have hx1 := rdX_len ((cutT 32 s).getD 1 ByteArray.empty)
 have hx2 := rdX_len ((cutT 32 s).getD 2 ByteArray.empty)
 refine sx_enter Tryz.func24 rfl Tryz.ntmps24 (nbl rfl) ?_
 refine sx_seq fun K1 k1 => sx_region ?_
 refine sx_alloc [.string (⟨#[]⟩), .string (⟨#[]⟩), .bool false, (.slice none 0 0), .int .i64 0] rfl Tryz.zeroValue54 rfl (fun b2 w3 eb2 sb2 fb2 cb2 => ?_)
 have zw3 := cb2.size
 refine av rfl rfl (wl_nil (q_n (k1 _ _ ?_)))
 refine sx_seq fun K4 k4 => sx_region ?_
 refine mv rfl rfl (sx_call rfl rfl Tryz.call58 (c_iCut (by omega)) (fun v5 w5 p5 => ?_))
 obtain ⟨x5, rfl, ox_5, c5⟩ := p5
 have zw5 := c5.size
 refine av rfl rfl (wl_nil (q_n (k4 _ _ ?_)))
 refine sx_seq fun K6 k6 => ?_
 refine sx_seq fun K7 k7 => sx_region ?_
 refine mv rfl rfl (sp rfl (px_len rfl Tryz.underlying65 ox_5.sv) ?_)
 refine sp rfl (px_ne rfl rfl) ?_
 refine wl_nil (q_n (k7 _ _ ?_))
 refine sx_condP rfl (fun h167 => ?_) (fun h167 => ?_)
 ·
  refine sx_seq fun K8 k8 => sx_region ?_
  refine sp rfl (px_build rfl (xbld54x  _)) ?_
  have f10 := fb2.ext c5
  refine sx_store (vs := [.string (⟨#[]⟩), .string (⟨#[]⟩), .bool false, (.slice none 0 0), .int .i64 0]) rfl rfl f10 rfl Tryz.sizeOf54 (nbl rfl) (one_cons rfl (one_cons rfl (o3 rfl rfl rfl))) (fun w9 sw9 fw9 cw9 => ?_)
  have zw9 := cw9.size
  have gw9 : Blk w9 b2 [.string (⟨#[]⟩), .string (⟨#[]⟩), .bool false, (.slice none 0 0), .int .i64 0] 54 := fw9
  refine av rfl rfl (wl_nil (q_n (k8 _ _ ?_)))
  refine sx_retc ?_
  refine q_r (sx_ret2 Tryz.results24 ⟨_, rfl, gw9.loadA (vs := [.string (⟨#[]⟩), .string (⟨#[]⟩), .bool false, (.slice none 0 0), .int .i64 0]) (look_lit rfl) Tryz.isAgg54 Tryz.sizeOf54⟩ rfl ?_)
  have hB : rdR s = (⟨#[]⟩, ⟨#[]⟩, 0, 0, false) := rdR_no fun h => by
   first
   | exact absurd h.1 (by omega)
   | exact nt h172 h.2.1
   | exact h172x1 h.2.2
   | exact h172x2 (cut_rate (Decidable.not_not.1 h167) h.2.1 h.2.2)
  rw [hB]
  have q11 := Chg.step (l := 0) (h := 0) (Chg.zero (l := 0) (h := 0) (cb2.t c5)) cw9 (by omega)
  exact ⟨_, rfl, own_nil0, len_nil0, q11⟩
 refine sx_skip ?_
 refine q_n (k6 _ _ ?_)
 refine sx_seq fun K12 k12 => sx_region ?_
 refine mv rfl rfl (sp rfl (px_index1 (j := 2) rfl rfl (by omega) Tryz.underlying65 Tryz.sizeOf9 ox_5.sv (by omega)) ?_)
 refine sp rfl (px_load rfl (ox_5.sv.load1 (at_str (by omega)) Tryz.isAgg9)) ?_
 have f13 := hGT.ext cb2
 have f14 := f13.ext c5
 refine sx_call rfl rfl Tryz.call6 (c_iTextDecX f14 (by omega)) (fun v15 w15 p15 => ?_)
 obtain ⟨x15, rfl, ox_15, hl15, c15⟩ := p15
 have zw15 := c15.size
 refine mv rfl rfl (sp rfl (px_ex2 rfl rfl) ?_)
 refine sp rfl (px_ex2 rfl rfl) ?_
 refine sx_alloc [.bool false, (.slice none 0 0), .int .i64 0] rfl Tryz.zeroValue27 rfl (fun b16 w17 eb16 sb16 fb16 cb16 => ?_)
 have zw17 := cb16.size
 have f19 := ox_15.ext cb16
 refine sx_store (vs := [.bool (ng (rdX ((cutT 32 s).getD 2 ByteArray.empty))), x15, .int .i64 (rdP ((cutT 32 s).getD 2 ByteArray.empty))]) rfl rfl fb16 rfl Tryz.sizeOf27 (nbl rfl) (one_cons rfl (one_cons f19.one (o1 rfl))) (fun w18 sw18 fw18 cw18 => ?_)
 have zw18 := cw18.size
 have gw18 : Blk w18 b16 [.bool (ng (rdX ((cutT 32 s).getD 2 ByteArray.empty))), x15, .int .i64 (rdP ((cutT 32 s).getD 2 ByteArray.empty))] 27 := fw18
 refine av rfl rfl (wl_nil (q_n (k12 _ _ ?_)))
 refine sx_sub (Sub.c 2 rfl (.c 3 rfl (.c 4 rfl (.c 5 rfl (.c 6 rfl .nil))))) ?_
 refine sx_seq fun K20 k20 => ?_
 have f21 := hG0.ext cb2
 have f24 := ((f21.ext c5).ext c15).ext cb16
 have f25 := f24.chg cw18 (by omega)
 have f27 := (f14.ext c15).ext cb16
 have f28 := f27.chg cw18 (by omega)
 have f31 := ((fb2.ext c5).ext c15).ext cb16
 have f32 := f31.chg cw18 (by omega)
 have f34 := (ox_5.ext c15).ext cb16
 have f35 := f34.chg cw18 (by omega)
 have f36 := f19.chg cw18 (by omega)
 refine dx_region (fun w' => Chg 0 0 w18 w') (by kernel_rfl) (Chg.zero (Chg.drew _)) ?_
 have d37 := Chg.drew w18
 have s37 : Chg 0 0 w18 (World.drew w18) := Chg.zero (Chg.drew _)
 have y37 : (World.drew w18).heap.size = w18.heap.size := rfl
 generalize World.drew w18 = w37 at *
 have zw37 := d37.size
 refine dt 0 rfl rfl rfl rfl s37 (fun _ hS => px_move rfl) ?_
 refine dt 1 rfl rfl rfl rfl s37 (fun _ hS => px_index1 (j := 0) rfl rfl (by omega) Tryz.underlying65 Tryz.sizeOf9 ((f35.sv).chg hS (by omega)) (by omega)) ?_
 refine dt 2 rfl rfl rfl rfl s37 (fun _ hS => px_load rfl (((f35.sv).chg hS (by omega)).load1 (at_str (by omega)) Tryz.isAgg9)) ?_
 refine dt 3 rfl rfl rfl rfl s37 (fun _ hS => px_move rfl) ?_
 refine dt 4 rfl rfl rfl rfl s37 (fun _ hS => px_index1 (j := 1) rfl rfl (by omega) Tryz.underlying65 Tryz.sizeOf9 ((f35.sv).chg hS (by omega)) (by omega)) ?_
 refine dt 5 rfl rfl rfl rfl s37 (fun _ hS => px_load rfl (((f35.sv).chg hS (by omega)).load1 (at_str (by omega)) Tryz.isAgg9)) ?_
 refine dt 6 rfl rfl rfl rfl s37 (fun _ hS => px_load rfl ((gw18.chg hS (by omega)).loadA (vs := [.bool (ng (rdX ((cutT 32 s).getD 2 ByteArray.empty))), x15, .int .i64 (rdP ((cutT 32 s).getD 2 ByteArray.empty))]) (look_lit rfl) Tryz.isAgg27 Tryz.sizeOf27)) ?_
 refine dt 7 rfl rfl rfl rfl s37 (fun _ hS => px_build rfl (xbld54x0x1x2 rfl rfl _)) ?_
 refine dx_eff 8 rfl (by kernel_rfl) ?_
 refine sx_alloc [.string (⟨#[]⟩), .string (⟨#[]⟩), .bool false, (.slice none 0 0), .int .i64 0] rfl Tryz.zeroValue54 rfl (fun b38 w39 eb38 sb38 fb38 cb38 => ?_)
 have zw39 := cb38.size
 have s40 : Chg 0 0 w18 w39 := (d37.t cb38)
 refine wl_nil ?_
 refine dx_next s40 ?_
 refine dx_eff 9 rfl (by kernel_rfl) ?_
 have f43 := (f36.ext d37).ext cb38
 refine sx_store (vs := [.string ((cutT 32 s).getD 0 ByteArray.empty), .string ((cutT 32 s).getD 1 ByteArray.empty), .bool (ng (rdX ((cutT 32 s).getD 2 ByteArray.empty))), x15, .int .i64 (rdP ((cutT 32 s).getD 2 ByteArray.empty))]) rfl rfl fb38 rfl Tryz.sizeOf54 (nbl rfl) (one_cons rfl (one_cons rfl (one_cons rfl (one_cons f43.one (o1 rfl))))) (fun w41 sw41 fw41 cw41 => ?_)
 have zw41 := cw41.size
 have gw41 : Blk w41 b38 [.string ((cutT 32 s).getD 0 ByteArray.empty), .string ((cutT 32 s).getD 1 ByteArray.empty), .bool (ng (rdX ((cutT 32 s).getD 2 ByteArray.empty))), x15, .int .i64 (rdP ((cutT 32 s).getD 2 ByteArray.empty))] 54 := fw41
 have q45 := Chg.step (l := 0) (h := 0) (Chg.zero (l := 0) (h := 0) (d37.t cb38)) cw41 (by omega)
 have s44 : Chg 0 0 w18 w41 := q45
 refine wl_nil ?_
 refine dx_next s44 ?_
 refine dx_done (by kernel_rfl) ?_
 refine q_n (k20 _ _ ?_)
 refine sx_seq fun K46 k46 => ?_
 refine sx_seq fun K47 k47 => sx_region ?_
 refine mv rfl rfl (sp rfl (px_not rfl) ?_)
 refine mv rfl rfl ?_
 refine sx_tmpB (t := 31) rfl (fun h172 => ?_) (fun h172 => ?_)
 ·
  refine sx_guardF rfl rfl rfl rfl rfl rfl ?_
  refine sx_guardF rfl rfl rfl rfl rfl rfl ?_
  refine sx_guardF rfl rfl rfl rfl rfl rfl ?_
  refine sp rfl (px_pick rfl rfl) ?_
  refine wl_nil (q_n (k47 _ _ ?_))
  refine sx_sub (Sub.c 2 rfl (.c 3 rfl (.c 7 rfl (.c 35 rfl .nil)))) ?_
  refine sx_condT rfl ?_
  refine sx_seq fun K48 k48 => sx_region ?_
  refine sp rfl (px_build rfl (xbld54x  _)) ?_
  have f51 := (f32.ext d37).ext cb38
  have f52 := f51.chg cw41 (by omega)
  refine sx_store (vs := [.string (⟨#[]⟩), .string (⟨#[]⟩), .bool false, (.slice none 0 0), .int .i64 0]) rfl rfl f52 rfl Tryz.sizeOf54 (nbl rfl) (one_cons rfl (one_cons rfl (o3 rfl rfl rfl))) (fun w49 sw49 fw49 cw49 => ?_)
  have zw49 := cw49.size
  have gw49 : Blk w49 b2 [.string (⟨#[]⟩), .string (⟨#[]⟩), .bool false, (.slice none 0 0), .int .i64 0] 54 := fw49
  refine av rfl rfl (wl_nil (q_n (k48 _ _ ?_)))
  refine sx_retc ?_
  refine q_r (sx_ret2 Tryz.results24 ⟨_, rfl, gw49.loadA (vs := [.string (⟨#[]⟩), .string (⟨#[]⟩), .bool false, (.slice none 0 0), .int .i64 0]) (look_lit rfl) Tryz.isAgg54 Tryz.sizeOf54⟩ rfl ?_)
  have hB : rdR s = (⟨#[]⟩, ⟨#[]⟩, 0, 0, false) := rdR_no fun h => by
   first
   | exact absurd h.1 (by omega)
   | exact nt h172 h.2.1
   | exact h172x1 h.2.2
   | exact h172x2 (cut_rate (Decidable.not_not.1 h167) h.2.1 h.2.2)
  rw [hB]
  have q53 := Chg.step (l := 0) (h := 0) (Chg.zero (l := 0) (h := 0) (((cb2.t c5).t c15).t cb16)) cw18 (by omega)
  have q54 := Chg.step (l := 0) (h := 0) q53 (d37.t cb38) (by omega)
  have q55 := Chg.step (l := 0) (h := 0) q54 cw41 (by omega)
  have q56 := Chg.step (l := 0) (h := 0) q55 cw49 (by omega)
  exact ⟨_, rfl, own_nil0, len_nil0, q56⟩
 refine sx_guardT rfl rfl rfl ?_
 refine sp rfl (px_load rfl (gw41.loadA (vs := [.string ((cutT 32 s).getD 0 ByteArray.empty), .string ((cutT 32 s).getD 1 ByteArray.empty), .bool (ng (rdX ((cutT 32 s).getD 2 ByteArray.empty))), x15, .int .i64 (rdP ((cutT 32 s).getD 2 ByteArray.empty))]) (look_lit rfl) Tryz.isAgg54 Tryz.sizeOf54)) ?_
 refine sx_guardT rfl rfl rfl ?_
 have f58 := (f25.ext d37).ext cb38
 have f59 := f58.chg cw41 (by omega)
 have f60 := f43.chg cw41 (by omega)
 refine sx_call rfl rfl Tryz.call55 (c_iRateOk f59 f60.sv (by omega)) (fun v61 w61 p61 => ?_)
 obtain ⟨rfl, c61⟩ := p61
 have zw61 := c61.size
 refine sx_guardT rfl rfl rfl ?_
 refine sp rfl (px_notP rfl) ?_
 refine sp rfl (px_pick rfl rfl) ?_
 refine wl_nil (q_n (k47 _ _ ?_))
 refine sx_sub (Sub.c 2 rfl (.c 3 rfl (.c 7 rfl (.c 35 rfl .nil)))) ?_
 refine sx_condP rfl (fun h172x1 => ?_) (fun h172x1 => ?_)
 ·
  refine sx_seq fun K62 k62 => sx_region ?_
  refine sp rfl (px_build rfl (xbld54x  _)) ?_
  have f65 := (f32.ext d37).ext cb38
  have f66 := f65.chg cw41 (by omega)
  have f67 := f66.ext c61
  refine sx_store (vs := [.string (⟨#[]⟩), .string (⟨#[]⟩), .bool false, (.slice none 0 0), .int .i64 0]) rfl rfl f67 rfl Tryz.sizeOf54 (nbl rfl) (one_cons rfl (one_cons rfl (o3 rfl rfl rfl))) (fun w63 sw63 fw63 cw63 => ?_)
  have zw63 := cw63.size
  have gw63 : Blk w63 b2 [.string (⟨#[]⟩), .string (⟨#[]⟩), .bool false, (.slice none 0 0), .int .i64 0] 54 := fw63
  refine av rfl rfl (wl_nil (q_n (k62 _ _ ?_)))
  refine sx_retc ?_
  refine q_r (sx_ret2 Tryz.results24 ⟨_, rfl, gw63.loadA (vs := [.string (⟨#[]⟩), .string (⟨#[]⟩), .bool false, (.slice none 0 0), .int .i64 0]) (look_lit rfl) Tryz.isAgg54 Tryz.sizeOf54⟩ rfl ?_)
  have hB : rdR s = (⟨#[]⟩, ⟨#[]⟩, 0, 0, false) := rdR_no fun h => by
   first
   | exact absurd h.1 (by omega)
   | exact nt h172 h.2.1
   | exact h172x1 h.2.2
   | exact h172x2 (cut_rate (Decidable.not_not.1 h167) h.2.1 h.2.2)
  rw [hB]
  have q68 := Chg.step (l := 0) (h := 0) (Chg.zero (l := 0) (h := 0) (((cb2.t c5).t c15).t cb16)) cw18 (by omega)
  have q69 := Chg.step (l := 0) (h := 0) q68 (d37.t cb38) (by omega)
  have q70 := Chg.step (l := 0) (h := 0) q69 cw41 (by omega)
  have q71 := Chg.step (l := 0) (h := 0) q70 c61 (by omega)
  have q72 := Chg.step (l := 0) (h := 0) q71 cw63 (by omega)
  exact ⟨_, rfl, own_nil0, len_nil0, q72⟩
 refine sx_skip ?_
 refine q_n (k46 _ _ ?_)
 refine sx_seq fun K73 k73 => sx_region ?_
 have f74 := gw41.ext c61
 refine sp rfl (px_load rfl (f74.loadA (vs := [.string ((cutT 32 s).getD 0 ByteArray.empty), .string ((cutT 32 s).getD 1 ByteArray.empty), .bool (ng (rdX ((cutT 32 s).getD 2 ByteArray.empty))), x15, .int .i64 (rdP ((cutT 32 s).getD 2 ByteArray.empty))]) (look_lit rfl) Tryz.isAgg54 Tryz.sizeOf54)) ?_
 have f77 := (f32.ext d37).ext cb38
 have f78 := f77.chg cw41 (by omega)
 have f79 := f78.ext c61
 have f80 := f60.ext c61
 refine sx_store (vs := [.string ((cutT 32 s).getD 0 ByteArray.empty), .string ((cutT 32 s).getD 1 ByteArray.empty), .bool (ng (rdX ((cutT 32 s).getD 2 ByteArray.empty))), x15, .int .i64 (rdP ((cutT 32 s).getD 2 ByteArray.empty))]) rfl rfl f79 rfl Tryz.sizeOf54 (nbl rfl) (one_cons rfl (one_cons rfl (one_cons rfl (one_cons f80.one (o1 rfl))))) (fun w75 sw75 fw75 cw75 => ?_)
 have zw75 := cw75.size
 have gw75 : Blk w75 b2 [.string ((cutT 32 s).getD 0 ByteArray.empty), .string ((cutT 32 s).getD 1 ByteArray.empty), .bool (ng (rdX ((cutT 32 s).getD 2 ByteArray.empty))), x15, .int .i64 (rdP ((cutT 32 s).getD 2 ByteArray.empty))] 54 := fw75
 refine av rfl rfl (wl_nil (q_n (k73 _ _ ?_)))
 refine sx_retc ?_
 refine sx_ret2 Tryz.results24 ⟨_, rfl, gw75.loadA (vs := [.string ((cutT 32 s).getD 0 ByteArray.empty), .string ((cutT 32 s).getD 1 ByteArray.empty), .bool (ng (rdX ((cutT 32 s).getD 2 ByteArray.empty))), x15, .int .i64 (rdP ((cutT 32 s).getD 2 ByteArray.empty))]) (look_lit rfl) Tryz.isAgg54 Tryz.sizeOf54⟩ rfl ?_
 have hR := rdR_yes (s := s) (Decidable.not_not.1 h167) (nf h172) (Decidable.not_not.1 h172x1)
 have hl := rdR_len s
 rw [hR] at hl
 rw [hR]
 have q81 := Chg.step (l := 0) (h := 0) (Chg.zero (l := 0) (h := 0) (((cb2.t c5).t c15).t cb16)) cw18 (by omega)
 have q82 := Chg.step (l := 0) (h := 0) q81 (d37.t cb38) (by omega)
 have q83 := Chg.step (l := 0) (h := 0) q82 cw41 (by omega)
 have q84 := Chg.step (l := 0) (h := 0) q83 c61 (by omega)
 have q85 := Chg.step (l := 0) (h := 0) q84 cw75 (by omega)
 have f86 := f80.chg cw75 (by omega)
 exact ⟨_, rfl, (Own.mono f86 (by omega) (by omega)), hl, q85⟩

theorem c_iTextRateD {w : World} {f : ByteArray} {t : ByteArray} {x : Int} {p : Int} (hG0 : Glob w) (hGT : GlobP w) (hP : RateP f t (ng x) (dg x.natAbs) p) :
  Ret Tryz.prog 24 [.string (ratT f t (ng x) (dg x.natAbs) p)] w fun v w' => ∃ s, v = .tuple #[.agg #[.string (f), .string (t), .bool (ng x), s, .int .i64 (p)], .bool (true)] ∧ OwnI w' w.heap.size w'.heap.size s intT (dg (x).natAbs) ∧ Chg 0 0 w w' := by
 have hs := ratT_sz hP
 have h := c_iTextRate (s := ratT f t (ng x) (dg x.natAbs) p) hG0 hGT (by omega); rw [rdR_text hP] at h
 exact Calls.mono h fun ev w' ⟨v, he, s, e1, o1, _, hc⟩ => ⟨v, he, s, e1, o1, hc⟩

theorem c_listed {w : World} {pv : ByteArray} {vt : Value} {lvt uvt : Nat} {ts : List Rt} {vvt : List Value} {a : ByteArray} {b : ByteArray} (hvt : RtS w lvt uvt vt ts vvt) (h63 : ts.length ≤ 4611686018427387904) :
  Ret Tryz.prog 61 [.agg #[.string pv, vt], .agg #[.string a, .string b]] w fun v w' => ∃ s, v = .tuple #[.agg #[.bool ((lst ts a b).1), s, .int .i64 ((lst ts a b).2.2.1)], .bool ((lst ts a b).2.2.2)] ∧ Sl w' (lvt) (w.heap.size) s ((lst ts a b).2.1) ∧ Chg 0 0 w w' := by
 have hvt0 := hvt.fit
 refine sx_enter Tryz.func61 rfl Tryz.ntmps61 (nbl rfl) ?_
 refine sx_seq fun K1 k1 => sx_region ?_
 refine sx_box [.string pv, vt] rfl rfl rfl (fun b2 w3 eb2 sb2 fb2 cb2 => ?_)
 have zw3 := cb2.size
 refine sx_box [.string a, .string b] rfl rfl rfl (fun b4 w5 eb4 sb4 fb4 cb4 => ?_)
 have zw5 := cb4.size
 refine sx_alloc [.bool false, (.slice none 0 0), .int .i64 0] rfl Tryz.zeroValue27 rfl (fun b6 w7 eb6 sb6 fb6 cb6 => ?_)
 have zw7 := cb6.size
 refine av rfl rfl (wl_nil (q_n (k1 _ _ ?_)))
 refine sx_seq fun K8 k8 => ?_
 refine sx_seq fun K9 k9 => sx_region ?_
 refine sp rfl (px_field rfl xfld47x1) ?_
 have f10 := fb2.ext cb4
 have f11 := f10.ext cb6
 refine sp rfl (px_load rfl (f11.load1 rfl Tryz.isAgg45)) ?_
 have f12 := hvt0.ext cb2
 have f13 := f12.ext cb4
 have f14 := f13.ext cb6
 refine sp rfl (px_len rfl Tryz.underlying45 f14.sv) ?_
 refine mv rfl rfl (wl_nil (q_n (k9 _ _ ?_)))
 refine sx_block ?_
 have f16 := fb4.ext cb6
 refine sx_loop (fun mm aa w' => ∃ (k : Nat), Agr 26 [(3, .pointer (some ⟨b4, 0, none⟩)), (4, .pointer (some ⟨b6, 0, none⟩)), (9, vt), (10, .int .i64 (↑(ts).length)), (11, .int .i64 ↑k)] aa ∧ Chg 0 0 w7 w' ∧ Blk w' b4 [.string a, .string b] 107 ∧ Blk w' b6 [.bool false, (.slice none 0 0), .int .i64 0] 27 ∧ (mm = ts.length - k) ∧ (k ≤ ts.length) ∧ (∀ i, i < k → ¬ ((ts.getD i rt0).1 = a ∧ (ts.getD i rt0).2.1 = b))) (_) (fun a ha => ⟨0, ha.sub (Sub.c 3 rfl (.c 4 rfl (.c 9 rfl (.c 10 (look_int (t := 10) rfl (by first | omega | simp)) (.c 11 (look_int (t := 11) rfl (by first | omega | simp)) .nil))))), Chg.refl _ _ _, f16, fb6, rfl, by omega, fun i hi => by omega⟩) ?_
 rintro mm aa wl15 ⟨k, hAwl15, cwl15, hb_b4, hb_b6, hm, hk, hn⟩
 refine (show cw Tryz.prog 26 _ _ _ wl15 from ?_) aa hAwl15
 clear hAwl15
 have zwl15 := cwl15.size
 refine sx_seq fun K17 k17 => sx_region ?_
 refine sp rfl (px_lt rfl rfl) ?_
 refine wl_nil (q_n (k17 _ _ ?_))
 refine sx_seq fun K18 k18 => ?_
 refine sx_condP rfl (fun h69 => ?_) (fun h69 => ?_)
 ·
  refine sx_skip ?_
  refine q_n (k18 _ _ ?_)
  refine sx_seq fun K19 k19 => ?_
  refine sx_block ?_
  refine sx_seq fun K20 k20 => sx_region ?_
  have f21 := f14.ext cwl15
  refine sp rfl (px_indexK (j := k) rfl rfl (by omega) Tryz.underlying45 Tryz.sizeOf54 f21.sv (by omega)) ?_
  refine sp rfl (px_load rfl (f21.sv.loadA (rt_look f21.len (by omega)) Tryz.isAgg54 Tryz.sizeOf54)) ?_
  refine sx_alloc [.string (⟨#[]⟩), .string (⟨#[]⟩), .bool false, (.slice none 0 0), .int .i64 0] rfl Tryz.zeroValue54 rfl (fun b22 w23 eb22 sb22 fb22 cb22 => ?_)
  have zw23 := cb22.size
  have f25 := (f21.nest k (by omega)).ext cb22
  refine sx_store (vs := [.string ((ts.getD k rt0).1), .string ((ts.getD k rt0).2.1), .bool ((ts.getD k rt0).2.2.1), (vvt.getD k vz), .int .i64 ((ts.getD k rt0).2.2.2.2)]) rfl rfl fb22 rfl Tryz.sizeOf54 (nbl rfl) (one_cons rfl (one_cons rfl (one_cons rfl (one_cons f25.one (o1 rfl))))) (fun w24 sw24 fw24 cw24 => ?_)
  have zw24 := cw24.size
  have gw24 : Blk w24 b22 [.string ((ts.getD k rt0).1), .string ((ts.getD k rt0).2.1), .bool ((ts.getD k rt0).2.2.1), (vvt.getD k vz), .int .i64 ((ts.getD k rt0).2.2.2.2)] 54 := fw24
  refine wl_nil (q_n (k20 _ _ ?_))
  refine sx_seq fun K26 k26 => sx_region ?_
  refine sp rfl (px_field rfl xfld54x0) ?_
  refine sp rfl (px_load rfl (gw24.load1 rfl Tryz.isAgg9)) ?_
  refine sp rfl (px_field rfl xfld54x1) ?_
  refine sp rfl (px_load rfl (gw24.load1 rfl Tryz.isAgg9)) ?_
  refine sp rfl (px_build rfl (xbld107x0x1 rfl rfl _)) ?_
  have f27 := hb_b4.ext cb22
  have f28 := f27.chg cw24 (by omega)
  refine sp rfl (px_load rfl (f28.loadA (vs := [.string a, .string b]) (look_lit rfl) Tryz.isAgg107 Tryz.sizeOf107)) ?_
  refine sp rfl (px_eqPair rfl rfl xpair107) ?_
  refine wl_nil (q_n (k26 _ _ ?_))
  refine sx_sub (Sub.c 3 rfl (.c 4 rfl (.c 7 rfl (.c 9 rfl (.c 10 rfl (.c 11 rfl (.c 21 rfl .nil))))))) ?_
  refine sx_condP rfl (fun h70 => ?_) (fun h70 => ?_)
  ·
   refine sx_seq fun K29 k29 => sx_region ?_
   refine sp rfl (px_field rfl xfld54x2) ?_
   refine sp rfl (px_load rfl (gw24.loadA (vs := [.bool ((ts.getD k rt0).2.2.1), (vvt.getD k vz), .int .i64 ((ts.getD k rt0).2.2.2.2)]) (look_lit rfl) Tryz.isAgg27 Tryz.sizeOf27)) ?_
   have f31 := hb_b6.ext cb22
   have f32 := f31.chg cw24 (by omega)
   have f33 := f25.chg cw24 (by omega)
   refine sx_store (vs := [.bool ((ts.getD k rt0).2.2.1), (vvt.getD k vz), .int .i64 ((ts.getD k rt0).2.2.2.2)]) rfl rfl f32 rfl Tryz.sizeOf27 (nbl rfl) (one_cons rfl (one_cons f33.one (o1 rfl))) (fun w30 sw30 fw30 cw30 => ?_)
   have zw30 := cw30.size
   have gw30 : Blk w30 b6 [.bool ((ts.getD k rt0).2.2.1), (vvt.getD k vz), .int .i64 ((ts.getD k rt0).2.2.2.2)] 27 := fw30
   refine av rfl rfl (wl_nil (q_n (k29 _ _ ?_)))
   refine sx_retc ?_
   refine q_br (q_r (q_r (q_br (q_r (sx_ret2 Tryz.results61 ⟨_, rfl, gw30.loadA (vs := [.bool ((ts.getD k rt0).2.2.1), (vvt.getD k vz), .int .i64 ((ts.getD k rt0).2.2.2.2)]) (look_lit rfl) Tryz.isAgg27 Tryz.sizeOf27⟩ rfl ?_)))))
   rw [lst_some (by omega) hn h70]
   have q34 := Chg.step (l := 0) (h := 0) (Chg.zero (l := 0) (h := 0) ((((cb2.t cb4).t cb6).t cwl15).t cb22)) cw24 (by omega)
   have q35 := Chg.step (l := 0) (h := 0) q34 cw30 (by omega)
   have f36 := f33.chg cw30 (by omega)
   exact ⟨_, rfl, (Sv.mono f36 (by omega) (by omega)), q35⟩
  refine sx_skip ?_
  refine q_bn (q_n (k19 _ _ ?_))
  refine sx_region ?_
  refine sp rfl (px_add rfl rfl (by omega)) ?_
  refine mv rfl rfl (wl_nil ?_)
  have q37 := Chg.step (l := 0) (h := 0) (Chg.zero (l := 0) (h := 0) (cwl15.t cb22)) cw24 (by omega)
  have f38 := hb_b6.ext cb22
  have f39 := f38.chg cw24 (by omega)
  exact fun a ha => ⟨_, by omega, (k + 1), ha.sub (Sub.c 3 rfl (.c 4 rfl (.c 9 rfl (.c 10 rfl (.c 11 (look_int (t := 11) rfl (by first | omega | simp)) .nil))))), q37, f28, f39, rfl, by omega, upto_next hn h70⟩
 refine sx_exit ?_
 refine q_e (q_e (q_bx (q_n (k8 _ _ ?_))))
 refine sx_seq fun K40 k40 => sx_region ?_
 refine sp rfl (px_build rfl (xbld27x  _)) ?_
 refine sx_store (vs := [.bool false, (.slice none 0 0), .int .i64 0]) rfl rfl hb_b6 rfl Tryz.sizeOf27 (nbl rfl) (o3 rfl rfl rfl) (fun w41 sw41 fw41 cw41 => ?_)
 have zw41 := cw41.size
 have gw41 : Blk w41 b6 [.bool false, (.slice none 0 0), .int .i64 0] 27 := fw41
 refine av rfl rfl (wl_nil (q_n (k40 _ _ ?_)))
 refine sx_retc ?_
 refine sx_ret2 Tryz.results61 ⟨_, rfl, gw41.loadA (vs := [.bool false, (.slice none 0 0), .int .i64 0]) (look_lit rfl) Tryz.isAgg27 Tryz.sizeOf27⟩ rfl ?_
 rw [lst_none (fun i hi => hn i (by omega))]
 have q42 := Chg.step (l := 0) (h := 0) (Chg.zero (l := 0) (h := 0) (((cb2.t cb4).t cb6).t cwl15)) cw41 (by omega)
 exact ⟨_, rfl, Sv.nil _ _ _ _, q42⟩

theorem c_simple {w : World} {pv : ByteArray} {vt : Value} {lvt uvt : Nat} {ts : List Rt} {vvt : List Value} {a : ByteArray} {b : ByteArray} (hvt : RtS w lvt uvt vt ts vvt) (h63 : ts.length ≤ 4611686018427387904) :
  Ret Tryz.prog 93 [.agg #[.string pv, vt], .string a, .string b] w fun v w' => v = .int .i64 (leg ts a b) ∧ Chg 0 0 w w' := by
 have hvt0 := hvt.fit
 refine sx_enter Tryz.func93 rfl Tryz.ntmps93 (nbl rfl) ?_
 refine sx_seq fun K1 k1 => sx_region ?_
 refine sx_box [.string pv, vt] rfl rfl rfl (fun b2 w3 eb2 sb2 fb2 cb2 => ?_)
 have zw3 := cb2.size
 refine av rfl rfl (wl_nil (q_n (k1 _ _ ?_)))
 refine sx_seq fun K4 k4 => ?_
 refine sx_seq fun K5 k5 => sx_region ?_
 refine sp rfl (px_load rfl (fb2.loadA (vs := [.string pv, vt]) (look_lit rfl) Tryz.isAgg47 Tryz.sizeOf47)) ?_
 refine mv rfl rfl (mv rfl rfl (sp rfl (px_build rfl (xbld107x0x1 rfl rfl _)) ?_))
 have f6 := hvt0.ext cb2
 refine sx_call rfl rfl Tryz.call61 (c_listed f6 (by omega)) (fun v7 w7 p7 => ?_)
 obtain ⟨s7, rfl, os_7, c7⟩ := p7
 have zw7 := c7.size
 refine mv rfl rfl (sp rfl (px_ex2 rfl rfl) ?_)
 refine sp rfl (px_ex2 rfl rfl) ?_
 refine sx_alloc [.bool false, (.slice none 0 0), .int .i64 0] rfl Tryz.zeroValue27 rfl (fun b8 w9 eb8 sb8 fb8 cb8 => ?_)
 have zw9 := cb8.size
 have f11 := os_7.ext cb8
 refine sx_store (vs := [.bool ((lst ts a b).1), s7, .int .i64 ((lst ts a b).2.2.1)]) rfl rfl fb8 rfl Tryz.sizeOf27 (nbl rfl) (one_cons rfl (one_cons f11.one (o1 rfl))) (fun w10 sw10 fw10 cw10 => ?_)
 have zw10 := cw10.size
 have gw10 : Blk w10 b8 [.bool ((lst ts a b).1), s7, .int .i64 ((lst ts a b).2.2.1)] 27 := fw10
 refine av rfl rfl (wl_nil (q_n (k5 _ _ ?_)))
 refine sx_sub (Sub.c 1 rfl (.c 2 rfl (.c 3 rfl (.c 6 rfl (.c 8 rfl .nil))))) ?_
 refine sx_seq fun K12 k12 => sx_region ?_
 refine mv rfl rfl (wl_nil (q_n (k12 _ _ ?_)))
 refine sx_condB rfl (fun h98 => ?_) (fun h98 => ?_)
 ·
  refine sx_seq fun K13 k13 => sx_region ?_
  refine av rfl rfl (wl_nil (q_n (k13 _ _ ?_)))
  refine sx_retc ?_
  refine q_r (sx_ret1 Tryz.results93 rfl ?_)
  have q14 := Chg.step (l := 0) (h := 0) (Chg.zero (l := 0) (h := 0) ((cb2.t c7).t cb8)) cw10 (by omega)
  exact ⟨(by rw [leg_2 h98]), q14⟩
 refine sx_skip ?_
 refine q_n (k4 _ _ ?_)
 refine sx_seq fun K15 k15 => ?_
 refine sx_seq fun K16 k16 => sx_region ?_
 have f18 := (fb2.ext c7).ext cb8
 have f19 := f18.chg cw10 (by omega)
 refine sp rfl (px_load rfl (f19.loadA (vs := [.string pv, vt]) (look_lit rfl) Tryz.isAgg47 Tryz.sizeOf47)) ?_
 refine mv rfl rfl (mv rfl rfl (sp rfl (px_build rfl (xbld107x0x1 rfl rfl _)) ?_))
 have f21 := (f6.ext c7).ext cb8
 have f22 := f21.chg cw10 (by omega)
 refine sx_call rfl rfl Tryz.call61 (c_listed f22 (by omega)) (fun v23 w23 p23 => ?_)
 obtain ⟨s23, rfl, os_23, c23⟩ := p23
 have zw23 := c23.size
 refine mv rfl rfl (sp rfl (px_ex2 rfl rfl) ?_)
 refine sp rfl (px_ex2 rfl rfl) ?_
 refine sx_alloc [.bool false, (.slice none 0 0), .int .i64 0] rfl Tryz.zeroValue27 rfl (fun b24 w25 eb24 sb24 fb24 cb24 => ?_)
 have zw25 := cb24.size
 have f27 := os_23.ext cb24
 refine sx_store (vs := [.bool ((lst ts b a).1), s23, .int .i64 ((lst ts b a).2.2.1)]) rfl rfl fb24 rfl Tryz.sizeOf27 (nbl rfl) (one_cons rfl (one_cons f27.one (o1 rfl))) (fun w26 sw26 fw26 cw26 => ?_)
 have zw26 := cw26.size
 have gw26 : Blk w26 b24 [.bool ((lst ts b a).1), s23, .int .i64 ((lst ts b a).2.2.1)] 27 := fw26
 refine av rfl rfl (wl_nil (q_n (k16 _ _ ?_)))
 refine sx_sub (Sub.c 6 rfl (.c 10 rfl .nil)) ?_
 refine sx_seq fun K28 k28 => sx_region ?_
 refine mv rfl rfl (wl_nil (q_n (k28 _ _ ?_)))
 refine sx_condB rfl (fun h101 => ?_) (fun h101 => ?_)
 ·
  refine sx_seq fun K29 k29 => sx_region ?_
  refine av rfl rfl (wl_nil (q_n (k29 _ _ ?_)))
  refine sx_retc ?_
  refine q_r (sx_ret1 Tryz.results93 rfl ?_)
  have q30 := Chg.step (l := 0) (h := 0) (Chg.zero (l := 0) (h := 0) ((cb2.t c7).t cb8)) cw10 (by omega)
  have q31 := Chg.step (l := 0) (h := 0) q30 (c23.t cb24) (by omega)
  have q32 := Chg.step (l := 0) (h := 0) q31 cw26 (by omega)
  exact ⟨(by rw [leg_3 h98 h101]), q32⟩
 refine sx_skip ?_
 refine q_n (k15 _ _ ?_)
 refine sx_seq fun K33 k33 => sx_region ?_
 refine av rfl rfl (wl_nil (q_n (k33 _ _ ?_)))
 refine sx_retc ?_
 refine sx_ret1 Tryz.results93 rfl ?_
 have q34 := Chg.step (l := 0) (h := 0) (Chg.zero (l := 0) (h := 0) ((cb2.t c7).t cb8)) cw10 (by omega)
 have q35 := Chg.step (l := 0) (h := 0) q34 (c23.t cb24) (by omega)
 have q36 := Chg.step (l := 0) (h := 0) q35 cw26 (by omega)
 exact ⟨(by rw [leg_0 h98 h101]), q36⟩

theorem c_iRateHow {w : World} {pv : ByteArray} {vt : Value} {lvt uvt : Nat} {ts : List Rt} {vvt : List Value} {a : ByteArray} {b : ByteArray} (hG0 : Glob w) (hvt : RtS w lvt uvt vt ts vvt) (h63 : ts.length ≤ 4611686018427387904) (hz : ∀ i, i < ts.length → (ts.getD i rt0).2.2.2.1.length ≤ 4611686018427387904) :
  Ret Tryz.prog 59 [.agg #[.string pv, vt], .string a, .string b] w fun v w' => v = .int .i64 (how pv ts a b) ∧ Chg 0 0 w w' := by
 have hvt0 := hvt.fit
 refine sx_enter Tryz.func59 rfl Tryz.ntmps59 (nbl rfl) ?_
 refine sx_seq fun K1 k1 => sx_region ?_
 refine sx_box [.string pv, vt] rfl rfl rfl (fun b2 w3 eb2 sb2 fb2 cb2 => ?_)
 have zw3 := cb2.size
 refine av rfl rfl (wl_nil (q_n (k1 _ _ ?_)))
 refine sx_seq fun K4 k4 => ?_
 refine sx_block ?_
 refine sx_seq fun K5 k5 => sx_region ?_
 refine sp rfl (px_load rfl (fb2.loadA (vs := [.string pv, vt]) (look_lit rfl) Tryz.isAgg47 Tryz.sizeOf47)) ?_
 have f6 := hG0.ext cb2
 have f7 := hvt0.ext cb2
 refine sx_call rfl rfl Tryz.call27 (c_iRatesOk f6 f7 (by omega) (by first | assumption | exact fun i hi => Nat.le_trans (hzz i hi) (by omega))) (fun v8 w8 p8 => ?_)
 obtain ⟨rfl, c8⟩ := p8
 have zw8 := c8.size
 refine sp rfl (px_notP rfl) ?_
 refine mv rfl rfl ?_
 refine sx_tmpP (t := 11) rfl (fun h110 => ?_) (fun h110 => ?_)
 ·
  refine sx_guardF rfl rfl rfl rfl rfl rfl ?_
  refine sx_guardF rfl rfl rfl rfl rfl rfl ?_
  refine sx_guardF rfl rfl rfl rfl rfl rfl ?_
  refine sp rfl (px_pick rfl rfl) ?_
  refine mv rfl rfl ?_
  refine sx_guardF rfl rfl rfl rfl rfl rfl ?_
  refine sx_guardF rfl rfl rfl rfl rfl rfl ?_
  refine sx_guardF rfl rfl rfl rfl rfl rfl ?_
  refine sp rfl (px_pick rfl rfl) ?_
  refine av rfl rfl (wl_nil (q_n (k5 _ _ ?_)))
  refine sx_sub (Sub.c 1 rfl (.c 2 rfl (.c 3 rfl (.c 6 rfl (.c 7 rfl .nil))))) ?_
  refine sx_condT rfl ?_
  refine sx_seq fun K9 k9 => sx_region ?_
  refine av rfl rfl (wl_nil (q_n (k9 _ _ ?_)))
  refine sx_retc ?_
  refine q_br (q_r (sx_ret1 Tryz.results59 rfl ?_))
  exact ⟨(by unfold how; first | grind | simp_all), (cb2.t c8)⟩
 refine sx_guardT rfl rfl rfl ?_
 refine mv rfl rfl ?_
 refine sx_guardT rfl rfl rfl ?_
 have f10 := f6.ext c8
 refine sx_call rfl rfl Tryz.call63 (c_iCurKnown f10) (fun v11 w11 p11 => ?_)
 obtain ⟨rfl, c11⟩ := p11
 have zw11 := c11.size
 refine sx_guardT rfl rfl rfl ?_
 refine sp rfl (px_notP rfl) ?_
 refine sp rfl (px_pick rfl rfl) ?_
 refine mv rfl rfl ?_
 refine sx_tmpP (t := 16) rfl (fun h110x1 => ?_) (fun h110x1 => ?_)
 ·
  refine sx_guardF rfl rfl rfl rfl rfl rfl ?_
  refine sx_guardF rfl rfl rfl rfl rfl rfl ?_
  refine sx_guardF rfl rfl rfl rfl rfl rfl ?_
  refine sp rfl (px_pick rfl rfl) ?_
  refine av rfl rfl (wl_nil (q_n (k5 _ _ ?_)))
  refine sx_sub (Sub.c 1 rfl (.c 2 rfl (.c 3 rfl (.c 6 rfl (.c 7 rfl .nil))))) ?_
  refine sx_condT rfl ?_
  refine sx_seq fun K12 k12 => sx_region ?_
  refine av rfl rfl (wl_nil (q_n (k12 _ _ ?_)))
  refine sx_retc ?_
  refine q_br (q_r (sx_ret1 Tryz.results59 rfl ?_))
  exact ⟨(by unfold how; first | grind | simp_all), ((cb2.t c8).t c11)⟩
 refine sx_guardT rfl rfl rfl ?_
 refine mv rfl rfl ?_
 refine sx_guardT rfl rfl rfl ?_
 have f13 := f10.ext c11
 refine sx_call rfl rfl Tryz.call63 (c_iCurKnown f13) (fun v14 w14 p14 => ?_)
 obtain ⟨rfl, c14⟩ := p14
 have zw14 := c14.size
 refine sx_guardT rfl rfl rfl ?_
 refine sp rfl (px_notP rfl) ?_
 refine sp rfl (px_pick rfl rfl) ?_
 refine av rfl rfl (wl_nil (q_n (k5 _ _ ?_)))
 refine sx_sub (Sub.c 1 rfl (.c 2 rfl (.c 3 rfl (.c 6 rfl (.c 7 rfl .nil))))) ?_
 refine sx_condP rfl (fun h110x2 => ?_) (fun h110x2 => ?_)
 ·
  refine sx_seq fun K15 k15 => sx_region ?_
  refine av rfl rfl (wl_nil (q_n (k15 _ _ ?_)))
  refine sx_retc ?_
  refine q_br (q_r (sx_ret1 Tryz.results59 rfl ?_))
  exact ⟨(by unfold how; first | grind | simp_all), (((cb2.t c8).t c11).t c14)⟩
 refine sx_seq fun K16 k16 => sx_region ?_
 refine mv rfl rfl (mv rfl rfl (sp rfl (px_eqS rfl rfl) ?_))
 refine av rfl rfl (wl_nil (q_n (k16 _ _ ?_)))
 refine sx_condP rfl (fun h112 => ?_) (fun h112 => ?_)
 ·
  refine sx_seq fun K17 k17 => sx_region ?_
  refine av rfl rfl (wl_nil (q_n (k17 _ _ ?_)))
  refine sx_retc ?_
  refine q_br (q_r (sx_ret1 Tryz.results59 rfl ?_))
  exact ⟨(by unfold how; first | grind | simp_all), (((cb2.t c8).t c11).t c14)⟩
 refine sx_seq fun K18 k18 => sx_region ?_
 have f21 := ((fb2.ext c8).ext c11).ext c14
 refine sp rfl (px_load rfl (f21.loadA (vs := [.string pv, vt]) (look_lit rfl) Tryz.isAgg47 Tryz.sizeOf47)) ?_
 refine mv rfl rfl (mv rfl rfl ?_)
 have f24 := ((f7.ext c8).ext c11).ext c14
 refine sx_call rfl rfl Tryz.call93 (c_simple f24 (by omega)) (fun v25 w25 p25 => ?_)
 obtain ⟨rfl, c25⟩ := p25
 have zw25 := c25.size
 refine sp rfl (px_ne rfl rfl) ?_
 refine av rfl rfl (wl_nil (q_n (k18 _ _ ?_)))
 refine sx_sub (Sub.c 1 rfl (.c 2 rfl (.c 3 rfl (.c 6 rfl (.c 25 rfl .nil))))) ?_
 refine sx_condP rfl (fun h114 => ?_) (fun h114 => ?_)
 ·
  refine sx_seq fun K26 k26 => sx_region ?_
  have f27 := f21.ext c25
  refine sp rfl (px_load rfl (f27.loadA (vs := [.string pv, vt]) (look_lit rfl) Tryz.isAgg47 Tryz.sizeOf47)) ?_
  refine mv rfl rfl (mv rfl rfl ?_)
  have f28 := f24.ext c25
  refine sx_call rfl rfl Tryz.call93 (c_simple f28 (by omega)) (fun v29 w29 p29 => ?_)
  obtain ⟨rfl, c29⟩ := p29
  have zw29 := c29.size
  refine av rfl rfl (wl_nil (q_n (k26 _ _ ?_)))
  refine sx_retc ?_
  refine q_br (q_r (sx_ret1 Tryz.results59 rfl ?_))
  exact ⟨(by unfold how; first | grind | simp_all), (((((cb2.t c8).t c11).t c14).t c25).t c29)⟩
 refine sx_seq fun K30 k30 => sx_region ?_
 refine mv rfl rfl (sp rfl (px_field rfl xfld47x0) ?_)
 have f31 := f21.ext c25
 refine sp rfl (px_load rfl (f31.load1 rfl Tryz.isAgg9)) ?_
 refine sp rfl (px_neS rfl rfl) ?_
 refine mv rfl rfl ?_
 refine sx_tmpP (t := 40) rfl (fun h116 => ?_) (fun h116 => ?_)
 ·
  refine sx_guardT rfl rfl rfl ?_
  refine mv rfl rfl ?_
  refine sx_guardT rfl rfl rfl ?_
  refine sp rfl (px_field rfl xfld47x0) ?_
  refine sx_guardT rfl rfl rfl ?_
  refine sp rfl (px_load rfl (f31.load1 rfl Tryz.isAgg9)) ?_
  refine sx_guardT rfl rfl rfl ?_
  refine sp rfl (px_neS rfl rfl) ?_
  refine sp rfl (px_pick rfl rfl) ?_
  refine mv rfl rfl ?_
  refine sx_tmpP (t := 46) rfl (fun h116x1 => ?_) (fun h116x1 => ?_)
  ·
   refine sx_guardT rfl rfl rfl ?_
   refine sp rfl (px_load rfl (f31.loadA (vs := [.string pv, vt]) (look_lit rfl) Tryz.isAgg47 Tryz.sizeOf47)) ?_
   refine sx_guardT rfl rfl rfl ?_
   refine mv rfl rfl ?_
   refine sx_guardT rfl rfl rfl ?_
   refine sp rfl (px_field rfl xfld47x0) ?_
   refine sx_guardT rfl rfl rfl ?_
   refine sp rfl (px_load rfl (f31.load1 rfl Tryz.isAgg9)) ?_
   refine sx_guardT rfl rfl rfl ?_
   have f32 := f24.ext c25
   refine sx_call rfl rfl Tryz.call93 (c_simple f32 (by omega)) (fun v33 w33 p33 => ?_)
   obtain ⟨rfl, c33⟩ := p33
   have zw33 := c33.size
   refine sx_guardT rfl rfl rfl ?_
   refine sp rfl (px_ne rfl rfl) ?_
   refine sp rfl (px_pick rfl rfl) ?_
   refine mv rfl rfl ?_
   refine sx_tmpP (t := 54) rfl (fun h116x2 => ?_) (fun h116x2 => ?_)
   ·
    refine sx_guardT rfl rfl rfl ?_
    have f34 := f31.ext c33
    refine sp rfl (px_load rfl (f34.loadA (vs := [.string pv, vt]) (look_lit rfl) Tryz.isAgg47 Tryz.sizeOf47)) ?_
    refine sx_guardT rfl rfl rfl ?_
    refine sp rfl (px_field rfl xfld47x0) ?_
    refine sx_guardT rfl rfl rfl ?_
    refine sp rfl (px_load rfl (f34.load1 rfl Tryz.isAgg9)) ?_
    refine sx_guardT rfl rfl rfl ?_
    refine mv rfl rfl ?_
    refine sx_guardT rfl rfl rfl ?_
    have f35 := f32.ext c33
    refine sx_call rfl rfl Tryz.call93 (c_simple f35 (by omega)) (fun v36 w36 p36 => ?_)
    obtain ⟨rfl, c36⟩ := p36
    have zw36 := c36.size
    refine sx_guardT rfl rfl rfl ?_
    refine sp rfl (px_ne rfl rfl) ?_
    refine sp rfl (px_pick rfl rfl) ?_
    refine av rfl rfl (wl_nil (q_n (k30 _ _ ?_)))
    refine sx_sub (Sub.c 6 rfl (.c 35 rfl .nil)) ?_
    refine sx_condP rfl (fun h116x3 => ?_) (fun h116x3 => ?_)
    ·
     refine sx_seq fun K37 k37 => sx_region ?_
     refine av rfl rfl (wl_nil (q_n (k37 _ _ ?_)))
     refine sx_retc ?_
     refine q_br (q_r (sx_ret1 Tryz.results59 rfl ?_))
     exact ⟨(by unfold how; first | grind | simp_all), ((((((cb2.t c8).t c11).t c14).t c25).t c33).t c36)⟩
    refine sx_skip ?_
    refine q_bn (q_n (k4 _ _ ?_))
    refine sx_seq fun K38 k38 => sx_region ?_
    refine av rfl rfl (wl_nil (q_n (k38 _ _ ?_)))
    refine sx_retc ?_
    refine sx_ret1 Tryz.results59 rfl ?_
    exact ⟨(by unfold how; first | grind | simp_all), ((((((cb2.t c8).t c11).t c14).t c25).t c33).t c36)⟩
   refine sx_guardF rfl rfl rfl rfl rfl rfl ?_
   refine sx_guardF rfl rfl rfl rfl rfl rfl ?_
   refine sx_guardF rfl rfl rfl rfl rfl rfl ?_
   refine sx_guardF rfl rfl rfl rfl rfl rfl ?_
   refine sx_guardF rfl rfl rfl rfl rfl rfl ?_
   refine sx_guardF rfl rfl rfl rfl rfl rfl ?_
   refine sp rfl (px_pick rfl rfl) ?_
   refine av rfl rfl (wl_nil (q_n (k30 _ _ ?_)))
   refine sx_sub (Sub.c 6 rfl (.c 35 rfl .nil)) ?_
   refine sx_condF rfl ?_
   refine sx_skip ?_
   refine q_bn (q_n (k4 _ _ ?_))
   refine sx_seq fun K39 k39 => sx_region ?_
   refine av rfl rfl (wl_nil (q_n (k39 _ _ ?_)))
   refine sx_retc ?_
   refine sx_ret1 Tryz.results59 rfl ?_
   exact ⟨(by unfold how; first | grind | simp_all), (((((cb2.t c8).t c11).t c14).t c25).t c33)⟩
  refine sx_guardF rfl rfl rfl rfl rfl rfl ?_
  refine sx_guardF rfl rfl rfl rfl rfl rfl ?_
  refine sx_guardF rfl rfl rfl rfl rfl rfl ?_
  refine sx_guardF rfl rfl rfl rfl rfl rfl ?_
  refine sx_guardF rfl rfl rfl rfl rfl rfl ?_
  refine sx_guardF rfl rfl rfl rfl rfl rfl ?_
  refine sp rfl (px_pick rfl rfl) ?_
  refine mv rfl rfl ?_
  refine sx_guardF rfl rfl rfl rfl rfl rfl ?_
  refine sx_guardF rfl rfl rfl rfl rfl rfl ?_
  refine sx_guardF rfl rfl rfl rfl rfl rfl ?_
  refine sx_guardF rfl rfl rfl rfl rfl rfl ?_
  refine sx_guardF rfl rfl rfl rfl rfl rfl ?_
  refine sx_guardF rfl rfl rfl rfl rfl rfl ?_
  refine sp rfl (px_pick rfl rfl) ?_
  refine av rfl rfl (wl_nil (q_n (k30 _ _ ?_)))
  refine sx_sub (Sub.c 6 rfl (.c 35 rfl .nil)) ?_
  refine sx_condF rfl ?_
  refine sx_skip ?_
  refine q_bn (q_n (k4 _ _ ?_))
  refine sx_seq fun K40 k40 => sx_region ?_
  refine av rfl rfl (wl_nil (q_n (k40 _ _ ?_)))
  refine sx_retc ?_
  refine sx_ret1 Tryz.results59 rfl ?_
  exact ⟨(by unfold how; first | grind | simp_all), ((((cb2.t c8).t c11).t c14).t c25)⟩
 refine sx_guardF rfl rfl rfl rfl rfl rfl ?_
 refine sx_guardF rfl rfl rfl rfl rfl rfl ?_
 refine sx_guardF rfl rfl rfl rfl rfl rfl ?_
 refine sx_guardF rfl rfl rfl rfl rfl rfl ?_
 refine sp rfl (px_pick rfl rfl) ?_
 refine mv rfl rfl ?_
 refine sx_guardF rfl rfl rfl rfl rfl rfl ?_
 refine sx_guardF rfl rfl rfl rfl rfl rfl ?_
 refine sx_guardF rfl rfl rfl rfl rfl rfl ?_
 refine sx_guardF rfl rfl rfl rfl rfl rfl ?_
 refine sx_guardF rfl rfl rfl rfl rfl rfl ?_
 refine sx_guardF rfl rfl rfl rfl rfl rfl ?_
 refine sp rfl (px_pick rfl rfl) ?_
 refine mv rfl rfl ?_
 refine sx_guardF rfl rfl rfl rfl rfl rfl ?_
 refine sx_guardF rfl rfl rfl rfl rfl rfl ?_
 refine sx_guardF rfl rfl rfl rfl rfl rfl ?_
 refine sx_guardF rfl rfl rfl rfl rfl rfl ?_
 refine sx_guardF rfl rfl rfl rfl rfl rfl ?_
 refine sx_guardF rfl rfl rfl rfl rfl rfl ?_
 refine sp rfl (px_pick rfl rfl) ?_
 refine av rfl rfl (wl_nil (q_n (k30 _ _ ?_)))
 refine sx_sub (Sub.c 6 rfl (.c 35 rfl .nil)) ?_
 refine sx_condF rfl ?_
 refine sx_skip ?_
 refine q_bn (q_n (k4 _ _ ?_))
 refine sx_seq fun K41 k41 => sx_region ?_
 refine av rfl rfl (wl_nil (q_n (k41 _ _ ?_)))
 refine sx_retc ?_
 refine sx_ret1 Tryz.results59 rfl ?_
 exact ⟨(by unfold how; first | grind | simp_all), ((((cb2.t c8).t c11).t c14).t c25)⟩

theorem c_intsOk {w : World} {n1 : Bool} {v1 : Value} {lv1 uv1 : Nat} {z1 : List Int} {n2 : Bool} {v2 : Value} {lv2 uv2 : Nat} {z2 : List Int} (hv1 : Sl w lv1 uv1 v1 (z1)) (hv2 : Sl w lv2 uv2 v2 (z2)) (h63 : z1.length ≤ 4611686018427387904 ∧ z2.length ≤ 4611686018427387904) :
  Ret Tryz.prog 118 [.agg #[.bool n1, v1], .agg #[.bool n2, v2]] w fun v w' => v = .bool (decide (IOk n1 z1 ∧ IOk n2 z2)) ∧ Chg 0 0 w w' := by
 have hv10 := hv1.fit
 have hv20 := hv2.fit
 refine sx_enter Tryz.func118 rfl Tryz.ntmps118 (nbl rfl) ?_
 refine sx_seq fun K1 k1 => sx_region ?_
 refine sx_box [.bool n1, v1] rfl rfl rfl (fun b2 w3 eb2 sb2 fb2 cb2 => ?_)
 have zw3 := cb2.size
 refine sx_box [.bool n2, v2] rfl rfl rfl (fun b4 w5 eb4 sb4 fb4 cb4 => ?_)
 have zw5 := cb4.size
 refine av rfl rfl (wl_nil (q_n (k1 _ _ ?_)))
 refine sx_seq fun K6 k6 => sx_region ?_
 have f7 := fb2.ext cb4
 refine sp rfl (px_load rfl (f7.loadA (vs := [.bool n1, v1]) (look_lit rfl) Tryz.isAgg25 Tryz.sizeOf25)) ?_
 have f8 := hv10.ext cb2
 have f9 := f8.ext cb4
 refine sx_call rfl rfl Tryz.call70 (c_iIntOk f9 (by omega)) (fun v10 w10 p10 => ?_)
 obtain ⟨rfl, c10⟩ := p10
 have zw10 := c10.size
 refine mv rfl rfl ?_
 refine sx_tmpP (t := 7) rfl (fun h13 => ?_) (fun h13 => ?_)
 ·
  refine sx_guardT rfl rfl rfl ?_
  have f11 := fb4.ext c10
  refine sp rfl (px_load rfl (f11.loadA (vs := [.bool n2, v2]) (look_lit rfl) Tryz.isAgg25 Tryz.sizeOf25)) ?_
  refine sx_guardT rfl rfl rfl ?_
  have f12 := hv20.ext cb2
  have f13 := f12.ext cb4
  have f14 := f13.ext c10
  refine sx_call rfl rfl Tryz.call70 (c_iIntOk f14 (by omega)) (fun v15 w15 p15 => ?_)
  obtain ⟨rfl, c15⟩ := p15
  have zw15 := c15.size
  refine sp rfl (px_pick rfl rfl) ?_
  refine av rfl rfl (wl_nil (q_n (k6 _ _ ?_)))
  refine sx_retc ?_
  refine sx_ret1 Tryz.results118 rfl ?_
  exact ⟨(by first | exact bTrue (by grind) | exact bFalse (by grind) | exact bIff (by grind)), (((cb2.t cb4).t c10).t c15)⟩
 refine sx_guardF rfl rfl rfl rfl rfl rfl ?_
 refine sx_guardF rfl rfl rfl rfl rfl rfl ?_
 refine sp rfl (px_pick rfl rfl) ?_
 refine av rfl rfl (wl_nil (q_n (k6 _ _ ?_)))
 refine sx_retc ?_
 refine sx_ret1 Tryz.results118 rfl ?_
 exact ⟨(by first | exact bTrue (by grind) | exact bFalse (by grind) | exact bIff (by grind)), ((cb2.t cb4).t c10)⟩

theorem c_natCmp {w : World} {va : Value} {lva uva : Nat} {zs : List Int} {vb : Value} {lvb uvb : Nat} {ys : List Int} (hva : Sl w lva uva va (zs)) (hvb : Sl w lvb uvb vb (ys)) (h63 : zs.length ≤ 4611686018427387904 ∧ ys.length ≤ 4611686018427387904) :
  Ret Tryz.prog 74 [va, vb] w fun v w' => v = .int .i64 (cmpL zs ys) ∧ Chg 0 0 w w' := by
 have hva0 := hva.fit
 have hvb0 := hvb.fit
 have zs0 : zs.drop zs.length = [] := by simp
 have ys0 : ys.drop ys.length = [] := by simp
 refine sx_enter Tryz.func74 rfl Tryz.ntmps74 (nbl rfl) ?_
 refine sx_seq fun K1 k1 => sx_region ?_
 refine av rfl rfl (wl_nil (q_n (k1 _ _ ?_)))
 refine sx_seq fun K2 k2 => ?_
 refine sx_seq fun K3 k3 => sx_region ?_
 refine mv rfl rfl (sp rfl (px_len rfl Tryz.underlying23 hva0) ?_)
 refine mv rfl rfl (sp rfl (px_len rfl Tryz.underlying23 hvb0) ?_)
 refine sp rfl (px_ne rfl rfl) ?_
 refine wl_nil (q_n (k3 _ _ ?_))
 refine sx_condP rfl (fun h76 => ?_) (fun h76 => ?_)
 ·
  refine sx_seq fun K4 k4 => ?_
  refine sx_seq fun K5 k5 => sx_region ?_
  refine mv rfl rfl (sp rfl (px_len rfl Tryz.underlying23 hva0) ?_)
  refine mv rfl rfl (sp rfl (px_len rfl Tryz.underlying23 hvb0) ?_)
  refine sp rfl (px_lt rfl rfl) ?_
  refine wl_nil (q_n (k5 _ _ ?_))
  refine sx_condP rfl (fun h77 => ?_) (fun h77 => ?_)
  ·
   refine sx_seq fun K6 k6 => sx_region ?_
   refine av rfl rfl (wl_nil (q_n (k6 _ _ ?_)))
   refine sx_retc ?_
   refine q_r (q_r (sx_ret1 Tryz.results74 rfl ?_))
   exact ⟨iEq (cmpL_short (by omega)).symm, (Chg.refl 0 0 _)⟩
  refine sx_skip ?_
  refine q_n (k4 _ _ ?_)
  refine sx_seq fun K7 k7 => sx_region ?_
  refine av rfl rfl (wl_nil (q_n (k7 _ _ ?_)))
  refine sx_retc ?_
  refine q_r (sx_ret1 Tryz.results74 rfl ?_)
  exact ⟨iEq (cmpL_long (by omega)).symm, (Chg.refl 0 0 _)⟩
 refine sx_skip ?_
 refine q_n (k2 _ _ ?_)
 refine sx_seq fun K8 k8 => ?_
 refine sx_seq fun K9 k9 => sx_region ?_
 refine mv rfl rfl (sp rfl (px_len rfl Tryz.underlying23 hva0) ?_)
 refine sp rfl (px_sub rfl rfl (by omega)) ?_
 refine av rfl rfl (wl_nil (q_n (k9 _ _ ?_)))
 refine sx_block ?_
 have e00 : zs.length = ys.length := by omega
 have he0 : zs.drop zs.length = ys.drop zs.length := by rw [zs0, e00, ys0]
 refine sx_loop (fun mm aa w' => ∃ (k : Nat), Agr 41 [(0, va), (1, vb), (5, .int .i64 (↑k - 1))] aa ∧ Chg 0 0 w w' ∧ (mm = k) ∧ (k ≤ zs.length) ∧ (zs.drop k = ys.drop k)) (_) (fun a ha => ⟨zs.length, ha.sub (Sub.c 0 rfl (.c 1 rfl (.c 5 (look_int (t := 5) rfl (by first | omega | simp)) .nil))), Chg.refl _ _ _, rfl, by omega, he0⟩) ?_
 rintro mm aa wl10 ⟨k, hAwl10, cwl10, hm, hk, he⟩
 refine (show cw Tryz.prog 41 _ _ _ wl10 from ?_) aa hAwl10
 clear hAwl10
 have zwl10 := cwl10.size
 have hl : zs.length = ys.length := by omega
 refine sx_seq fun K11 k11 => ?_
 refine sx_seq fun K12 k12 => sx_region ?_
 refine mv rfl rfl (sp rfl (px_ge rfl rfl) ?_)
 refine wl_nil (q_n (k12 _ _ ?_))
 refine sx_condP rfl (fun h82 => ?_) (fun h82 => ?_)
 ·
  refine sx_skip ?_
  refine q_n (k11 _ _ ?_)
  refine sx_seq fun K13 k13 => ?_
  refine sx_block ?_
  refine sx_seq fun K14 k14 => ?_
  have f15 := hva0.ext cwl10
  have f16 := hvb0.ext cwl10
  refine dx_region (fun w' => Chg 0 0 wl10 w') (by kernel_rfl) (Chg.zero (Chg.drew _)) ?_
  have d17 := Chg.drew wl10
  have s17 : Chg 0 0 wl10 (World.drew wl10) := Chg.zero (Chg.drew _)
  have y17 : (World.drew wl10).heap.size = wl10.heap.size := rfl
  generalize World.drew wl10 = w17 at *
  have zw17 := d17.size
  refine dt 0 rfl rfl rfl rfl s17 (fun _ hS => px_move rfl) ?_
  refine dt 1 rfl rfl rfl rfl s17 (fun _ hS => px_move rfl) ?_
  refine dt 2 rfl rfl rfl rfl s17 (fun _ hS => px_index1 (j := (k - 1)) rfl rfl (by omega) Tryz.underlying23 Tryz.sizeOf3 ((f15).chg hS (by omega)) (by omega)) ?_
  refine dt 3 rfl rfl rfl rfl s17 (fun _ hS => px_load rfl (((f15).chg hS (by omega)).load1 (at_int (by omega)) Tryz.isAgg3)) ?_
  refine dt 4 rfl rfl rfl rfl s17 (fun _ hS => px_move rfl) ?_
  refine dt 5 rfl rfl rfl rfl s17 (fun _ hS => px_move rfl) ?_
  refine dt 6 rfl rfl rfl rfl s17 (fun _ hS => px_index1 (j := (k - 1)) rfl rfl (by omega) Tryz.underlying23 Tryz.sizeOf3 ((f16).chg hS (by omega)) (by omega)) ?_
  refine dt 7 rfl rfl rfl rfl s17 (fun _ hS => px_load rfl (((f16).chg hS (by omega)).load1 (at_int (by omega)) Tryz.isAgg3)) ?_
  refine dt 8 rfl rfl rfl rfl s17 (fun _ hS => px_ne rfl rfl) ?_
  refine dx_done (by kernel_rfl) ?_
  refine q_n (k14 _ _ ?_)
  refine sx_condP rfl (fun h83 => ?_) (fun h83 => ?_)
  ·
   refine sx_seq fun K18 k18 => ?_
   refine sx_seq fun K19 k19 => ?_
   have f20 := f15.ext d17
   have f21 := f16.ext d17
   refine dx_region (fun w' => Chg 0 0 w17 w') (by kernel_rfl) (Chg.zero (Chg.drew _)) ?_
   have d22 := Chg.drew w17
   have s22 : Chg 0 0 w17 (World.drew w17) := Chg.zero (Chg.drew _)
   have y22 : (World.drew w17).heap.size = w17.heap.size := rfl
   generalize World.drew w17 = w22 at *
   have zw22 := d22.size
   refine dt 0 rfl rfl rfl rfl s22 (fun _ hS => px_move rfl) ?_
   refine dt 1 rfl rfl rfl rfl s22 (fun _ hS => px_move rfl) ?_
   refine dt 2 rfl rfl rfl rfl s22 (fun _ hS => px_index1 (j := (k - 1)) rfl rfl (by omega) Tryz.underlying23 Tryz.sizeOf3 ((f20).chg hS (by omega)) (by omega)) ?_
   refine dt 3 rfl rfl rfl rfl s22 (fun _ hS => px_load rfl (((f20).chg hS (by omega)).load1 (at_int (by omega)) Tryz.isAgg3)) ?_
   refine dt 4 rfl rfl rfl rfl s22 (fun _ hS => px_move rfl) ?_
   refine dt 5 rfl rfl rfl rfl s22 (fun _ hS => px_move rfl) ?_
   refine dt 6 rfl rfl rfl rfl s22 (fun _ hS => px_index1 (j := (k - 1)) rfl rfl (by omega) Tryz.underlying23 Tryz.sizeOf3 ((f21).chg hS (by omega)) (by omega)) ?_
   refine dt 7 rfl rfl rfl rfl s22 (fun _ hS => px_load rfl (((f21).chg hS (by omega)).load1 (at_int (by omega)) Tryz.isAgg3)) ?_
   refine dt 8 rfl rfl rfl rfl s22 (fun _ hS => px_lt rfl rfl) ?_
   refine dx_done (by kernel_rfl) ?_
   refine q_n (k19 _ _ ?_)
   refine sx_sub (Sub.c 0 rfl (.c 1 rfl (.c 5 rfl (.c 40 rfl .nil)))) ?_
   refine sx_condP rfl (fun h84 => ?_) (fun h84 => ?_)
   ·
    refine sx_seq fun K23 k23 => sx_region ?_
    refine av rfl rfl (wl_nil (q_n (k23 _ _ ?_)))
    refine sx_retc ?_
    refine q_r (q_br (q_r (q_r (q_br (q_r (sx_ret1 Tryz.results74 rfl ?_))))))
    have hlt := cmpL_lt hl (k := k - 1) (by omega) (by rw [Nat.sub_add_cancel (by omega)]; exact he) (h84)
    exact ⟨iEq hlt.symm, ((cwl10.t d17).t d22)⟩
   refine sx_skip ?_
   refine q_n (k18 _ _ ?_)
   refine sx_seq fun K24 k24 => sx_region ?_
   refine av rfl rfl (wl_nil (q_n (k24 _ _ ?_)))
   refine sx_retc ?_
   refine q_br (q_r (q_r (q_br (q_r (sx_ret1 Tryz.results74 rfl ?_)))))
   have hlt := cmpL_gt hl (k := k - 1) (by omega) (by rw [Nat.sub_add_cancel (by omega)]; exact he) (by omega)
   exact ⟨iEq hlt.symm, ((cwl10.t d17).t d22)⟩
  refine sx_skip ?_
  refine q_bn (q_n (k13 _ _ ?_))
  refine sx_region ?_
  refine mv rfl rfl (sp rfl (px_sub rfl rfl (by omega)) ?_)
  refine av rfl rfl (wl_nil ?_)
  exact fun a ha => ⟨_, by omega, (k - 1), ha.sub (Sub.c 0 rfl (.c 1 rfl (.c 5 (look_int (t := 5) rfl (by first | omega | simp)) .nil))), (cwl10.t d17), rfl, by omega, drop_succ_eq (by omega) (by omega) (by rw [Nat.sub_add_cancel (by omega)]; exact he) (by omega)⟩
 refine sx_exit ?_
 refine q_e (q_e (q_bx (q_n (k8 _ _ ?_))))
 refine sx_seq fun K25 k25 => sx_region ?_
 refine av rfl rfl (wl_nil (q_n (k25 _ _ ?_)))
 refine sx_retc ?_
 refine sx_ret1 Tryz.results74 rfl ?_
 have e1 : k = 0 := by omega
 subst e1
 have e2 : zs = ys := by simpa using he
 subst e2
 exact ⟨iEq (cmpL_self zs).symm, cwl10⟩

theorem c_natSmall {w : World} {va : Value} {lva uva : Nat} {m : Nat} {d : Int} (hva : Sl w lva uva va (dg m)) (hbm : (dg m).length ≤ 1000) (hd : 1 ≤ d ∧ d ≤ 999999999) :
  Ret Tryz.prog 76 [va, .int .i64 d] w fun v w' => ∃ s, v = .tuple #[s, .int .i64 (((m % (d).toNat : Nat) : Int))] ∧ OwnI w' w.heap.size w'.heap.size s intT (dg (m / (d).toNat)) ∧ Chg 0 0 w w' := by
 have hva0 := hva.fit
 refine sx_enter Tryz.func76 rfl Tryz.ntmps76 (nbl rfl) ?_
 refine sx_seq fun K1 k1 => sx_region ?_
 refine av rfl rfl (av rfl rfl (wl_nil (q_n (k1 _ _ ?_))))
 refine sx_seq fun K2 k2 => sx_region ?_
 refine mv rfl rfl (sp rfl (px_len rfl Tryz.underlying23 hva0) ?_)
 refine sx_make (c := (dg m).length) rfl xelt23 (rfl) (rfl) (by omega) (by unfold maxLen; omega) (fun s3 ws3 fs3 cs3 ls3 => ?_)
 have ns3 := fs3.made
 have zws3 := cs3.size
 refine av rfl rfl (wl_nil (q_n (k2 _ _ ?_)))
 refine sx_seq fun K4 k4 => sx_region ?_
 refine av rfl rfl (wl_nil (q_n (k4 _ _ ?_)))
 refine sx_seq fun K5 k5 => ?_
 refine sx_seq fun K6 k6 => sx_region ?_
 refine mv rfl rfl ?_
 have f7 := hva0.ext cs3
 refine sp rfl (px_len rfl Tryz.underlying23 f7) ?_
 refine sp rfl (px_sub rfl rfl (by omega)) ?_
 refine av rfl rfl (wl_nil (q_n (k6 _ _ ?_)))
 refine sx_block ?_
 refine sx_loop (fun mm aa w' => ∃ (k : Nat) (os : List Int) (r : Int), Agr 38 [(0, va), (1, .int .i64 d), (6, s3), (7, .int .i64 r), (8, .int .i64 (↑k - 1))] aa ∧ Chg w.heap.size ws3.heap.size ws3 w' ∧ Own w' w.heap.size ws3.heap.size s3 intT os.length 1 (os.map (Value.int .i64)) ∧ (mm = k) ∧ (k ≤ (dg m).length) ∧ (os.length = (dg m).length) ∧ (Lm os) ∧ (0 ≤ r ∧ r < d) ∧ (vl ((dg m).drop k) = d.toNat * vl (os.drop k) + r.toNat)) (_) (fun a ha => ⟨(dg m).length, List.replicate (dg m).length 0, 0, ha.sub (Sub.c 0 rfl (.c 1 rfl (.c 6 rfl (.c 7 (look_int (t := 7) rfl (by first | omega | simp)) (.c 8 (look_int (t := 8) rfl (by first | omega | simp)) .nil))))), Chg.refl _ _ _, ns3, rfl, by omega, by simp, Lm.replicate _, by omega, by simp [vl]⟩) ?_
 rintro mm aa wl8 ⟨k, os, r, hAwl8, cwl8, hs_s3, hm, hk, hos, hlm, hr, hv⟩
 refine (show cw Tryz.prog 38 _ _ _ wl8 from ?_) aa hAwl8
 clear hAwl8
 have zwl8 := cwl8.size
 have am := (Lm_dg m).getD (k - 1)
 have hq := small_q hr.1 hr.2 am.1 am.2
 refine sx_seq fun K9 k9 => ?_
 refine sx_seq fun K10 k10 => sx_region ?_
 refine mv rfl rfl (sp rfl (px_ge rfl rfl) ?_)
 refine wl_nil (q_n (k10 _ _ ?_))
 refine sx_condP rfl (fun h7 => ?_) (fun h7 => ?_)
 ·
  refine sx_skip ?_
  refine q_n (k9 _ _ ?_)
  refine sx_seq fun K11 k11 => ?_
  refine sx_block ?_
  refine sx_seq fun K12 k12 => sx_region ?_
  refine mv rfl rfl (sp rfl (px_mul rfl rfl (by omega)) ?_)
  refine mv rfl rfl (mv rfl rfl ?_)
  have f13 := f7.chg cwl8 (by omega)
  refine sp rfl (px_index1 (j := (k - 1)) rfl rfl (by omega) Tryz.underlying23 Tryz.sizeOf3 f13 (by omega)) ?_
  refine sp rfl (px_load rfl (f13.load1 (at_int (by omega)) Tryz.isAgg3)) ?_
  refine sp rfl (px_add rfl rfl (by omega)) ?_
  refine av rfl rfl (wl_nil (q_n (k12 _ _ ?_)))
  refine sx_seq fun K14 k14 => sx_region ?_
  refine mv rfl rfl (mv rfl rfl (mv rfl rfl (mv rfl rfl (sp rfl (px_quo rfl rfl (by omega) (by omega) (by omega)) ?_))))
  refine sp rfl (px_index1 (j := (k - 1)) rfl rfl (by omega) Tryz.underlying23 Tryz.sizeOf3 hs_s3.sv (by omega)) ?_
  refine sx_storeO rfl rfl hs_s3 (by first | omega | (simp only [List.length_map]; omega)) Tryz.sizeOf3 rfl (fun w15 sw15 fw15 cw15 => ?_)
  have zw15 := cw15.size
  have nw15 := fw15.set
  refine wl_nil (q_n (k14 _ _ ?_))
  refine sx_sub (Sub.c 0 rfl (.c 1 rfl (.c 6 rfl (.c 7 rfl (.c 8 rfl .nil))))) ?_
  refine sx_region ?_
  refine mv rfl rfl (mv rfl rfl (sp rfl (px_rem rfl rfl (by omega) (by omega)) ?_))
  refine av rfl rfl (wl_nil ?_)
  refine q_bn (q_n (k11 _ _ ?_))
  refine sx_region ?_
  refine mv rfl rfl (sp rfl (px_sub rfl rfl (by omega)) ?_)
  refine av rfl rfl (wl_nil ?_)
  have q16 := Chg.step (l := w.heap.size) (h := ws3.heap.size) cwl8 cw15 (by omega)
  have hst := small_step (X := ((r * 1000000000) + ((dg m).getD (k - 1) 0))) (by omega) (by omega) (by omega) hr am rfl hv
  exact fun a ha => ⟨_, by omega, (k - 1), ((os).set (k - 1) (((r * 1000000000) + ((dg m).getD (k - 1) 0)) / d)), (((r * 1000000000) + ((dg m).getD (k - 1) 0)) % d), ha.sub (Sub.c 0 rfl (.c 1 rfl (.c 6 rfl (.c 7 (look_int (t := 7) rfl (by first | omega | simp)) (.c 8 (look_int (t := 8) rfl (by first | omega | simp)) .nil))))), q16, (nw15.mono (by omega) (by omega)), rfl, by omega, by simpa using hos, hlm.set _ hq.1 hq.2.1, hq.2.2, hst⟩
 refine sx_exit ?_
 refine q_e (q_e (q_bx (q_n (k5 _ _ ?_))))
 refine sx_seq fun K17 k17 => sx_region ?_
 refine mv rfl rfl (sx_call rfl rfl Tryz.call69 (c_trim hs_s3 (by assumption) (by first | omega | (simp only [List.length_append, List.length_set, List.length_replicate, List.length_cons, List.length_nil] at *; omega))) (fun v18 w18 p18 => ?_))
 obtain ⟨s18, rfl, os_18, c18⟩ := p18
 have zw18 := c18.size
 refine mv rfl rfl (av rfl rfl (av rfl rfl (wl_nil (q_n (k17 _ _ ?_)))))
 refine sx_retc ?_
 refine sx_ret2 Tryz.results76 rfl rfl ?_
 have e0 : k = 0 := by omega
 subst e0
 have he := div_end (m := m) (d := d.toNat) (v := vl os) (r := r.toNat) (by rw [List.drop_zero, List.drop_zero, vl_dg] at hv; exact hv) (show r.toNat < d.toNat by omega)
 have hr2 := os_18
 rw [he.1] at hr2
 have er : r = ((m % d.toNat : Nat) : Int) := by omega
 have q19 := Chg.step (l := 0) (h := 0) (Chg.zero (l := 0) (h := 0) cs3) cwl8 (by omega)
 have q20 := Chg.step (l := 0) (h := 0) q19 c18 (by omega)
 exact ⟨_, by rw [er], hr2.mono (by omega) (by omega), q20⟩

theorem c_iNatOf {w : World} {n : Int} (hn : 0 ≤ n ∧ n ≤ 9223372036854775807) :
  Ret Tryz.prog 77 [.int .i64 n] w fun v w' => ∃ s, v = s ∧ OwnI w' w.heap.size w'.heap.size s intT (dg (n).toNat) ∧ Chg 0 0 w w' := by
 refine sx_enter Tryz.func77 rfl Tryz.ntmps77 (nbl rfl) ?_
 refine sx_seq fun K1 k1 => sx_region ?_
 refine av rfl rfl (wl_nil (q_n (k1 _ _ ?_)))
 refine sx_seq fun K2 k2 => ?_
 refine sx_seq fun K3 k3 => sx_region ?_
 refine mv rfl rfl (sp rfl (px_lt rfl rfl) ?_)
 refine wl_nil (q_n (k3 _ _ ?_))
 have h56 : ¬ ((n : Int) < 0) := by omega
 refine sx_condPF rfl h56 ?_
 refine sx_skip ?_
 refine q_n (k2 _ _ ?_)
 refine sx_seq fun K4 k4 => sx_region ?_
 refine mv rfl rfl (sp rfl (px_convU Tryz.underlying3 Tryz.underlying95 rfl (by omega)) ?_)
 refine sx_call rfl rfl Tryz.call53 (c_natOf (by omega)) (fun v5 w5 p5 => ?_)
 obtain ⟨s5, rfl, os_5, c5⟩ := p5
 have zw5 := c5.size
 refine av rfl rfl (wl_nil (q_n (k4 _ _ ?_)))
 refine sx_retc ?_
 refine sx_ret1 Tryz.results77 rfl ?_
 exact ⟨_, rfl, (Own.mono os_5 (by omega) (by omega)), c5⟩

theorem c_natMul {w : World} {va : Value} {lva uva : Nat} {m : Nat} {vb : Value} {lvb uvb : Nat} {n : Nat} (hva : Sl w lva uva va (dg m)) (hvb : Sl w lvb uvb vb (dg n)) (hbm : (dg m).length ≤ 1000) (hbn : (dg n).length ≤ 1000) :
  Ret Tryz.prog 49 [va, vb] w fun v w' => ∃ s, v = s ∧ OwnI w' w.heap.size w'.heap.size s intT (dg (m * n)) ∧ Chg 0 0 w w' := by
 have hva0 := hva.fit
 have hvb0 := hvb.fit
 refine sx_enter Tryz.func49 rfl Tryz.ntmps49 (nbl rfl) ?_
 refine sx_seq fun K1 k1 => sx_region ?_
 refine av rfl rfl (wl_nil (q_n (k1 _ _ ?_)))
 refine sx_seq fun K2 k2 => sx_region ?_
 refine mv rfl rfl (sp rfl (px_len rfl Tryz.underlying23 hva0) ?_)
 refine mv rfl rfl (sp rfl (px_len rfl Tryz.underlying23 hvb0) ?_)
 refine sp rfl (px_add rfl rfl (by omega)) ?_
 refine sp rfl (px_add rfl rfl (by omega)) ?_
 refine sx_make (c := (dg m).length + (dg n).length + 1) rfl xelt23 (look_int rfl (by omega)) (look_int rfl (by omega)) (by omega) (by unfold maxLen; omega) (fun s3 ws3 fs3 cs3 ls3 => ?_)
 have ns3 := fs3.made
 have zws3 := cs3.size
 refine av rfl rfl (wl_nil (q_n (k2 _ _ ?_)))
 refine sx_seq fun K4 k4 => ?_
 refine sx_seq fun K5 k5 => sx_region ?_
 refine mv rfl rfl ?_
 have f6 := hva0.ext cs3
 refine sp rfl (px_len rfl Tryz.underlying23 f6) ?_
 refine mv rfl rfl (wl_nil (q_n (k5 _ _ ?_)))
 refine sx_block ?_
 refine sx_loop (fun mm aa w' => ∃ (k : Nat) (os : List Int), Agr 79 [(1, vb), (5, s3), (19, va), (20, .int .i64 (↑(dg m).length)), (21, .int .i64 ↑k)] aa ∧ Chg w.heap.size ws3.heap.size ws3 w' ∧ Own w' w.heap.size ws3.heap.size s3 intT os.length 1 (os.map (Value.int .i64)) ∧ (mm = (dg m).length - k) ∧ (k ≤ (dg m).length) ∧ (os.length = (dg m).length + (dg n).length + 1) ∧ (Lm os) ∧ (∀ i, k + (dg n).length ≤ i → os.getD i 0 = 0) ∧ (vl os = vl ((dg m).take k) * n)) (_) (fun a ha => ⟨0, List.replicate ((dg m).length + (dg n).length + 1) 0, ha.sub (Sub.c 1 rfl (.c 5 rfl (.c 19 rfl (.c 20 (look_int (t := 20) rfl (by first | omega | simp)) (.c 21 (look_int (t := 21) rfl (by first | omega | simp)) .nil))))), Chg.refl _ _ _, (ns3.mono (by omega) (by omega)), rfl, by omega, by simp, Lm.replicate _, fun i _ => zero_rep _ i (Nat.zero_le _), by rw [vl_replicate, List.take_zero]; simp [vl]⟩) ?_
 rintro mm aa wl7 ⟨k, os, hAwl7, cwl7, hs_s3, hm, hk, hos, hlm, hz, hv⟩
 refine (show cw Tryz.prog 79 _ _ _ wl7 from ?_) aa hAwl7
 clear hAwl7
 have zwl7 := cwl7.size
 have am := (Lm_dg m).getD k
 refine sx_seq fun K8 k8 => sx_region ?_
 refine sp rfl (px_lt rfl rfl) ?_
 refine wl_nil (q_n (k8 _ _ ?_))
 refine sx_seq fun K9 k9 => ?_
 refine sx_condP rfl (fun h140 => ?_) (fun h140 => ?_)
 ·
  refine sx_skip ?_
  refine q_n (k9 _ _ ?_)
  refine sx_seq fun K10 k10 => ?_
  refine sx_block ?_
  refine sx_seq fun K11 k11 => sx_region ?_
  refine mv rfl rfl ?_
  have f12 := f6.chg cwl7 (by omega)
  refine sp rfl (px_index1 (j := k) rfl rfl (by omega) Tryz.underlying23 Tryz.sizeOf3 f12 (by first | omega | (simp only [List.length_set]; omega))) ?_
  refine sp rfl (px_load rfl (f12.load1 (at_int (by omega)) Tryz.isAgg3)) ?_
  refine av rfl rfl (av rfl rfl (wl_nil (q_n (k11 _ _ ?_))))
  refine sx_seq fun K13 k13 => sx_region ?_
  refine av rfl rfl (wl_nil (q_n (k13 _ _ ?_)))
  refine sx_seq fun K14 k14 => ?_
  refine sx_seq fun K15 k15 => sx_region ?_
  refine mv rfl rfl ?_
  have f16 := hvb0.ext cs3
  have f17 := f16.chg cwl7 (by omega)
  refine sp rfl (px_len rfl Tryz.underlying23 f17) ?_
  refine mv rfl rfl (wl_nil (q_n (k15 _ _ ?_)))
  refine sx_sub (Sub.c 1 rfl (.c 5 rfl (.c 6 rfl (.c 7 rfl (.c 8 rfl (.c 19 rfl (.c 20 rfl (.c 21 rfl (.c 26 rfl (.c 27 rfl (.c 28 rfl .nil))))))))))) ?_
  refine sx_block ?_
  refine sx_loop (fun mm aa w' => ∃ (j : Nat) (o2 : List Int) (c : Int), Agr 79 [(1, vb), (5, s3), (6, .int .i64 ↑k), (7, .int .i64 ((dg m).getD k 0)), (8, .int .i64 c), (19, va), (20, .int .i64 (↑(dg m).length)), (21, .int .i64 ↑k), (26, vb), (27, .int .i64 (↑(dg n).length)), (28, .int .i64 ↑j)] aa ∧ Chg w.heap.size ws3.heap.size wl7 w' ∧ Own w' w.heap.size ws3.heap.size s3 intT o2.length 1 (o2.map (Value.int .i64)) ∧ (mm = (dg n).length - j) ∧ (j ≤ (dg n).length) ∧ (o2.length = (dg m).length + (dg n).length + 1) ∧ (Lm o2) ∧ (∀ i, k + (dg n).length ≤ i → o2.getD i 0 = 0) ∧ (0 ≤ c ∧ c < 1000000000) ∧ (vl o2 + Bs ^ (k + j) * c.toNat = vl os + Bs ^ k * (((dg m).getD k 0).toNat * vl ((dg n).take j)))) (_) (fun a ha => ⟨0, os, 0, ha.sub (Sub.c 1 rfl (.c 5 rfl (.c 6 rfl (.c 7 rfl (.c 8 (look_int (t := 8) rfl (by first | omega | simp)) (.c 19 rfl (.c 20 rfl (.c 21 rfl (.c 26 rfl (.c 27 (look_int (t := 27) rfl (by first | omega | simp)) (.c 28 (look_int (t := 28) rfl (by first | omega | simp)) .nil))))))))))), Chg.refl _ _ _, hs_s3, rfl, by omega, hos, hlm, hz, by omega, by simp [vl]⟩) ?_
  rintro mm aa wl18 ⟨j, o2, c, hAwl18, cwl18, hs_s3, hm, hj, hos2, hlm2, hz2, hc, hv2⟩
  refine (show cw Tryz.prog 79 _ _ _ wl18 from ?_) aa hAwl18
  clear hAwl18
  have zwl18 := cwl18.size
  have bn := (Lm_dg n).getD j
  have on := hlm2.getD (k + j)
  have hxy := mul_limb am.1 am.2 bn.1 bn.2
  refine sx_seq fun K19 k19 => sx_region ?_
  refine sp rfl (px_lt rfl rfl) ?_
  refine wl_nil (q_n (k19 _ _ ?_))
  refine sx_seq fun K20 k20 => ?_
  refine sx_condP rfl (fun h142 => ?_) (fun h142 => ?_)
  ·
   refine sx_skip ?_
   refine q_n (k20 _ _ ?_)
   refine sx_seq fun K21 k21 => ?_
   refine sx_block ?_
   refine sx_seq fun K22 k22 => sx_region ?_
   refine mv rfl rfl ?_
   have f23 := f17.chg cwl18 (by omega)
   refine sp rfl (px_index1 (j := j) rfl rfl (by omega) Tryz.underlying23 Tryz.sizeOf3 f23 (by first | omega | (simp only [List.length_set]; omega))) ?_
   refine sp rfl (px_load rfl (f23.load1 (at_int (by omega)) Tryz.isAgg3)) ?_
   refine av rfl rfl (av rfl rfl (wl_nil (q_n (k22 _ _ ?_))))
   refine sx_sub (Sub.c 1 rfl (.c 5 rfl (.c 6 rfl (.c 7 rfl (.c 8 rfl (.c 9 rfl (.c 10 rfl (.c 19 rfl (.c 20 rfl (.c 21 rfl (.c 26 rfl (.c 27 rfl (.c 28 rfl .nil))))))))))))) ?_
   refine sx_seq fun K24 k24 => sx_region ?_
   refine mv rfl rfl (mv rfl rfl (mv rfl rfl (mv rfl rfl (sp rfl (px_add rfl rfl (by omega)) ?_))))
   refine sp rfl (px_index1 (j := (k + j)) rfl rfl (by omega) Tryz.underlying23 Tryz.sizeOf3 hs_s3.sv (by first | omega | (simp only [List.length_set]; omega))) ?_
   refine sp rfl (px_load rfl (hs_s3.sv.load1 (at_int (by omega)) Tryz.isAgg3)) ?_
   refine mv rfl rfl (mv rfl rfl (sp rfl (px_mul rfl rfl (by omega)) ?_))
   refine sp rfl (px_add rfl rfl (by omega)) ?_
   refine sp rfl (px_add rfl rfl (by omega)) ?_
   refine av rfl rfl (wl_nil (q_n (k24 _ _ ?_)))
   refine sx_sub (Sub.c 1 rfl (.c 5 rfl (.c 6 rfl (.c 7 rfl (.c 8 rfl (.c 9 rfl (.c 19 rfl (.c 20 rfl (.c 21 rfl (.c 26 rfl (.c 27 rfl (.c 28 rfl .nil)))))))))))) ?_
   refine sx_seq fun K25 k25 => sx_region ?_
   refine mv rfl rfl (mv rfl rfl (mv rfl rfl (sp rfl (px_add rfl rfl (by omega)) ?_)))
   refine mv rfl rfl (sp rfl (px_rem rfl rfl (by omega) (by omega)) ?_)
   refine sp rfl (px_index1 (j := (k + j)) rfl rfl (by omega) Tryz.underlying23 Tryz.sizeOf3 hs_s3.sv (by first | omega | (simp only [List.length_set]; omega))) ?_
   refine sx_storeO rfl rfl hs_s3 (by first | omega | (simp only [List.length_map]; omega)) Tryz.sizeOf3 rfl (fun w26 sw26 fw26 cw26 => ?_)
   have zw26 := cw26.size
   have nw26 := fw26.set
   refine wl_nil (q_n (k25 _ _ ?_))
   refine sx_sub (Sub.c 1 rfl (.c 5 rfl (.c 6 rfl (.c 7 rfl (.c 8 rfl (.c 19 rfl (.c 20 rfl (.c 21 rfl (.c 26 rfl (.c 27 rfl (.c 28 rfl .nil))))))))))) ?_
   refine sx_region ?_
   refine mv rfl rfl (sp rfl (px_quo rfl rfl (by omega) (by omega) (by omega)) ?_)
   refine av rfl rfl (wl_nil ?_)
   refine q_bn (q_n (k21 _ _ ?_))
   refine sx_region ?_
   refine sp rfl (px_add rfl rfl (by omega)) ?_
   refine mv rfl rfl (wl_nil ?_)
   have q27 := Chg.step (l := w.heap.size) (h := ws3.heap.size) cwl18 cw26 (by omega)
   have hs : (c + (((o2).getD (k + j) 0) + (((dg m).getD k 0) * ((dg n).getD j 0)))) = c + (o2.getD (k + j) 0 + (dg m).getD k 0 * (dg n).getD j 0) := by omega
   have hm2 := mul_step (V := vl os) hc.1 am.1 on.1 bn.1 (by omega) (by omega) hs hv2
   exact fun a ha => ⟨_, by omega, (j + 1), ((o2).set (k + j) ((c + (((o2).getD (k + j) 0) + (((dg m).getD k 0) * ((dg n).getD j 0)))) % 1000000000)), ((c + (((o2).getD (k + j) 0) + (((dg m).getD k 0) * ((dg n).getD j 0)))) / 1000000000), ha.sub (Sub.c 1 rfl (.c 5 rfl (.c 6 rfl (.c 7 rfl (.c 8 (look_int (t := 8) rfl (by first | omega | simp)) (.c 19 rfl (.c 20 rfl (.c 21 rfl (.c 26 rfl (.c 27 rfl (.c 28 (look_int (t := 28) rfl (by first | omega | simp)) .nil))))))))))), q27, (nw26.mono (by omega) (by omega)), rfl, by omega, by simpa using hos2, hlm2.set _ (by omega) (by omega), zero_set' hz2 (by omega), by omega, hm2⟩
  refine sx_exit ?_
  refine q_e (q_e (q_bx (q_n (k14 _ _ ?_))))
  refine sx_seq fun K28 k28 => sx_region ?_
  refine mv rfl rfl (mv rfl rfl ?_)
  have f29 := f17.chg cwl18 (by omega)
  refine sp rfl (px_len rfl Tryz.underlying23 f29) ?_
  refine sp rfl (px_add rfl rfl (by omega)) ?_
  refine av rfl rfl (wl_nil (q_n (k28 _ _ ?_)))
  refine sx_sub (Sub.c 1 rfl (.c 5 rfl (.c 8 rfl (.c 11 rfl (.c 19 rfl (.c 20 rfl (.c 21 rfl .nil))))))) ?_
  refine sx_block ?_
  have ej : j = (dg n).length := by omega
  rw [ej, List.take_length, vl_dg] at hv2
  refine sx_loop (fun mm aa w' => ∃ (q : Nat) (o3 : List Int) (e : Int), Agr 79 [(1, vb), (5, s3), (8, .int .i64 e), (11, .int .i64 ↑q), (19, va), (20, .int .i64 (↑(dg m).length)), (21, .int .i64 ↑k)] aa ∧ Chg w.heap.size ws3.heap.size wl18 w' ∧ Own w' w.heap.size ws3.heap.size s3 intT o3.length 1 (o3.map (Value.int .i64)) ∧ (mm = k + (dg n).length + 1 - q) ∧ (o3.length = (dg m).length + (dg n).length + 1) ∧ (Lm o3) ∧ (∀ i, q ≤ i → o3.getD i 0 = 0) ∧ (0 ≤ e ∧ e < 1000000000) ∧ (q = k + (dg n).length ∨ (q = k + (dg n).length + 1 ∧ e = 0)) ∧ (vl o3 + Bs ^ q * e.toNat = vl os + Bs ^ k * (((dg m).getD k 0).toNat * n))) (_) (fun a ha => ⟨(k + (dg n).length), o2, c, ha.sub (Sub.c 1 rfl (.c 5 rfl (.c 8 (look_int (t := 8) rfl (by first | omega | simp)) (.c 11 (look_int (t := 11) rfl (by first | omega | simp)) (.c 19 rfl (.c 20 rfl (.c 21 rfl .nil))))))), Chg.refl _ _ _, hs_s3, rfl, hos2, hlm2, hz2, by omega, .inl rfl, hv2⟩) ?_
  rintro mm aa wl30 ⟨q, o3, e, hAwl30, cwl30, hs_s3, hm, hos3, hlm3, hz3, he, hq, hv3⟩
  refine (show cw Tryz.prog 79 _ _ _ wl30 from ?_) aa hAwl30
  clear hAwl30
  have zwl30 := cwl30.size
  have on := hlm3.getD q
  have oz := hz3 q (Nat.le_refl _)
  refine sx_seq fun K31 k31 => ?_
  refine sx_seq fun K32 k32 => sx_region ?_
  refine mv rfl rfl (sp rfl (px_gt rfl rfl) ?_)
  refine wl_nil (q_n (k32 _ _ ?_))
  refine sx_condP rfl (fun h147 => ?_) (fun h147 => ?_)
  ·
   refine sx_skip ?_
   refine q_n (k31 _ _ ?_)
   refine sx_seq fun K33 k33 => ?_
   refine sx_block ?_
   refine sx_seq fun K34 k34 => sx_region ?_
   refine mv rfl rfl (mv rfl rfl (mv rfl rfl (sp rfl (px_index1 (j := q) rfl rfl (by omega) Tryz.underlying23 Tryz.sizeOf3 hs_s3.sv (by first | omega | (simp only [List.length_set]; omega))) ?_)))
   refine sp rfl (px_load rfl (hs_s3.sv.load1 (at_int (by omega)) Tryz.isAgg3)) ?_
   refine sp rfl (px_add rfl rfl (by omega)) ?_
   refine av rfl rfl (wl_nil (q_n (k34 _ _ ?_)))
   refine sx_sub (Sub.c 1 rfl (.c 5 rfl (.c 8 rfl (.c 11 rfl (.c 19 rfl (.c 20 rfl (.c 21 rfl .nil))))))) ?_
   refine sx_seq fun K35 k35 => sx_region ?_
   refine mv rfl rfl (mv rfl rfl (mv rfl rfl (sp rfl (px_rem rfl rfl (by omega) (by omega)) ?_)))
   refine sp rfl (px_index1 (j := q) rfl rfl (by omega) Tryz.underlying23 Tryz.sizeOf3 hs_s3.sv (by first | omega | (simp only [List.length_set]; omega))) ?_
   refine sx_storeO rfl rfl hs_s3 (by first | omega | (simp only [List.length_map]; omega)) Tryz.sizeOf3 rfl (fun w36 sw36 fw36 cw36 => ?_)
   have zw36 := cw36.size
   have nw36 := fw36.set
   refine wl_nil (q_n (k35 _ _ ?_))
   refine sx_region ?_
   refine mv rfl rfl (sp rfl (px_quo rfl rfl (by omega) (by omega) (by omega)) ?_)
   refine av rfl rfl (wl_nil ?_)
   refine q_bn (q_n (k33 _ _ ?_))
   refine sx_region ?_
   refine mv rfl rfl (sp rfl (px_add rfl rfl (by omega)) ?_)
   refine av rfl rfl (wl_nil ?_)
   have q37 := Chg.step (l := w.heap.size) (h := ws3.heap.size) cwl30 cw36 (by omega)
   have hs : (e + ((o3).getD q 0)) = e + o3.getD q 0 := by omega
   have hm3 := carry_gen (by omega) he.1 on.1 hs hv3
   exact fun a ha => ⟨_, by omega, (q + 1), ((o3).set q ((e + ((o3).getD q 0)) % 1000000000)), ((e + ((o3).getD q 0)) / 1000000000), ha.sub (Sub.c 1 rfl (.c 5 rfl (.c 8 (look_int (t := 8) rfl (by first | omega | simp)) (.c 11 (look_int (t := 11) rfl (by first | omega | simp)) (.c 19 rfl (.c 20 rfl (.c 21 rfl .nil))))))), q37, (nw36.mono (by omega) (by omega)), rfl, by simpa using hos3, hlm3.set _ (by omega) (by omega), zero_set hz3 (by omega), by omega, .inr (by omega), hm3⟩
  refine sx_exit ?_
  refine q_e (q_e (q_bx (q_bn (q_n (k10 _ _ ?_)))))
  have e0 : e = 0 := by omega
  subst e0
  have hosR := hos3
  have hlmR := hlm3
  have hzR : ∀ i, k + (dg n).length + 1 ≤ i → o3.getD i 0 = 0 := fun i hi => hz3 i (by omega)
  have hvR : vl o3 = vl os + Bs ^ k * (((dg m).getD k 0).toNat * n) := by simpa using hv3
  refine sx_region ?_
  refine sp rfl (px_add rfl rfl (by omega)) ?_
  refine mv rfl rfl (wl_nil ?_)
  have q38 := Chg.step (l := w.heap.size) (h := ws3.heap.size) cwl7 cwl18 (by omega)
  have q39 := Chg.step (l := w.heap.size) (h := ws3.heap.size) q38 cwl30 (by omega)
  have hrow := mul_row (P := Bs ^ k) (a := ((dg m).getD k 0).toNat) hv
  rw [← vl_take_succ'] at hrow
  exact fun a ha => ⟨_, by omega, (k + 1), o3, ha.sub (Sub.c 1 rfl (.c 5 rfl (.c 19 rfl (.c 20 rfl (.c 21 (look_int (t := 21) rfl (by first | omega | simp)) .nil))))), q39, (hs_s3.mono (by omega) (by omega)), rfl, by omega, by simpa using hosR, hlmR, fun i hi => hzR i (by omega), hvR.trans hrow⟩
 refine sx_exit ?_
 refine q_e (q_e (q_bx (q_n (k4 _ _ ?_))))
 refine sx_seq fun K40 k40 => ?_
 have ek : k = (dg m).length := by omega
 rw [ek, List.take_length, vl_dg] at hv
 have hzz := hlm
 refine sx_region ?_
 refine mv rfl rfl (sx_call rfl rfl Tryz.call69 (c_trim hs_s3 (by assumption) (by first | omega | (simp only [List.length_append, List.length_set, List.length_replicate, List.length_cons, List.length_nil] at *; omega))) (fun v41 w41 p41 => ?_))
 obtain ⟨s41, rfl, os_41, c41⟩ := p41
 have zw41 := c41.size
 refine av rfl rfl (wl_nil (q_n (k40 _ _ ?_)))
 refine sx_retc ?_
 refine sx_ret1 Tryz.results49 rfl ?_
 have hr := os_41
 rw [hv] at hr
 have q42 := Chg.step (l := 0) (h := 0) (Chg.zero (l := 0) (h := 0) cs3) cwl7 (by omega)
 have q43 := Chg.step (l := 0) (h := 0) q42 c41 (by omega)
 exact ⟨_, rfl, hr.mono (by omega) (by omega), q43⟩

theorem c_natMulS {w : World} {va : Value} {lva uva : Nat} {m : Nat} {vb : Value} {lvb uvb : Nat} {ys : List Int} (hva : Sl w lva uva va (dg m)) (hvb : Sl w lvb uvb vb (ys)) (hbm : (dg m).length ≤ 1000) (hbn : ys.length ≤ 1000) (hy : ys = dg (vl ys)) :
  Ret Tryz.prog 49 [va, vb] w fun v w' => ∃ s, v = s ∧ OwnI w' w.heap.size w'.heap.size s intT (dg (m * vl ys)) ∧ Chg 0 0 w w' := by
 have hl : (dg (vl ys)).length ≤ 1000 := by rw [← hy]; exact hbn
 rw [hy] at hvb; exact c_natMul hva hvb hbm hl

theorem c_subTimes {w : World} {va : Value} {lva uva : Nat} {preva sufva : List Value} {zs : List Int} {vb : Value} {lvb uvb : Nat} {ys : List Int} {q : Int} (hva : Win w lva uva va intT preva sufva zs) (hvb : Sl w lvb uvb vb (ys)) (hd : uvb ≤ lva ∨ uva ≤ lvb) (hzl : zs.length = ys.length + 1) (hz : Lm zs) (hy : Lm ys) (hq : 0 ≤ q ∧ q ≤ 999999999) (h63 : zs.length ≤ 1000) :
  Ret Tryz.prog 109 [va, vb, .int .i64 q] w fun v w' => ∃ os, v = .bool (decide ((os).getD (ys).length 0 < 0)) ∧ Win w' lva uva va intT preva sufva (os) ∧ ((os).length = (zs).length ∧ Lm ((os).take (ys).length) ∧ ((vl ((os).take (ys).length) : Nat) : Int) + ((Bs ^ (ys).length : Nat) : Int) * (os).getD (ys).length 0 = ((vl ((zs).take (ys).length) : Nat) : Int) + ((Bs ^ (ys).length : Nat) : Int) * (zs).getD (ys).length 0 - q * ((vl ys : Nat) : Int)) ∧ Chg lva uva w w' := by
 refine sx_enter Tryz.func109 rfl Tryz.ntmps109 (nbl rfl) ?_
 refine sx_seq fun K1 k1 => sx_region ?_
 refine av rfl rfl (wl_nil (q_n (k1 _ _ ?_)))
 refine sx_seq fun K2 k2 => sx_region ?_
 refine av rfl rfl (wl_nil (q_n (k2 _ _ ?_)))
 refine sx_seq fun K3 k3 => ?_
 refine sx_seq fun K4 k4 => sx_region ?_
 refine mv rfl rfl (sp rfl (px_len rfl Tryz.underlying23 hvb) ?_)
 refine mv rfl rfl (wl_nil (q_n (k4 _ _ ?_)))
 refine sx_block ?_
 refine sx_loop (fun mm aa w' => ∃ (k : Nat) (os : List Int) (c : Int), Agr 58 [(0, va), (1, vb), (2, .int .i64 q), (7, .int .i64 c), (11, vb), (12, .int .i64 ↑ys.length), (13, .int .i64 ↑k)] aa ∧ Chg lva uva w w' ∧ Win w' lva uva va intT preva sufva (os) ∧ (mm = ys.length - k) ∧ (k ≤ ys.length) ∧ (os.length = zs.length) ∧ (Lm (os.take k)) ∧ (os.drop k = zs.drop k) ∧ (0 ≤ c ∧ c < 1000000000) ∧ (vl (zs.take k) + Bs ^ k * c.toNat = vl (os.take k) + q.toNat * vl (ys.take k))) (_) (fun a ha => ⟨0, zs, 0, ha.sub (Sub.c 0 rfl (.c 1 rfl (.c 2 rfl (.c 7 (look_int (t := 7) rfl (by first | omega | simp)) (.c 11 rfl (.c 12 (look_int (t := 12) rfl (by first | omega | simp)) (.c 13 (look_int (t := 13) rfl (by first | omega | simp)) .nil))))))), Chg.refl _ _ _, hva, rfl, by omega, rfl, Lm.nil, rfl, by omega, by simp [vl]⟩) ?_
 rintro mm aa wl5 ⟨k, os, c, hAwl5, cwl5, hs_va, hm, hk, ho, hlm, hdr, hc, hv⟩
 refine (show cw Tryz.prog 58 _ _ _ wl5 from ?_) aa hAwl5
 clear hAwl5
 have zwl5 := cwl5.size
 have un := hz.getD k
 have yn := hy.getD k
 have hxy := mul_limb yn.1 yn.2 hq.1 (by omega)
 have ue := getD_drop hdr
 refine sx_seq fun K6 k6 => sx_region ?_
 refine sp rfl (px_lt rfl rfl) ?_
 refine wl_nil (q_n (k6 _ _ ?_))
 refine sx_seq fun K7 k7 => ?_
 refine sx_condP rfl (fun h57 => ?_) (fun h57 => ?_)
 ·
  refine sx_skip ?_
  refine q_n (k7 _ _ ?_)
  refine sx_seq fun K8 k8 => ?_
  refine sx_block ?_
  refine sx_seq fun K9 k9 => sx_region ?_
  refine mv rfl rfl ?_
  have f10 := hvb.chg cwl5 (by omega)
  refine sp rfl (px_index1 (j := k) rfl rfl (by omega) Tryz.underlying23 Tryz.sizeOf3 f10 (by first | omega | (simp only [List.length_set]; omega))) ?_
  refine sp rfl (px_load rfl (f10.load1 (at_int (by first | omega | (simp only [List.length_set]; omega))) Tryz.isAgg3)) ?_
  refine av rfl rfl (av rfl rfl (wl_nil (q_n (k9 _ _ ?_))))
  refine sx_seq fun K11 k11 => sx_region ?_
  refine mv rfl rfl (mv rfl rfl (sp rfl (px_index1 (j := k) rfl rfl (by omega) Tryz.underlying23 Tryz.sizeOf3 hs_va.sv (by first | omega | (simp only [List.length_set]; omega))) ?_))
  refine sp rfl (px_load rfl (hs_va.sv.load1 (at_int (by first | omega | (simp only [List.length_set]; omega))) Tryz.isAgg3)) ?_
  refine mv rfl rfl (mv rfl rfl (sp rfl (px_mul rfl rfl (by omega)) ?_))
  refine sp rfl (px_sub rfl rfl (by omega)) ?_
  refine mv rfl rfl (sp rfl (px_sub rfl rfl (by omega)) ?_)
  refine av rfl rfl (wl_nil (q_n (k11 _ _ ?_)))
  refine sx_sub (Sub.c 0 rfl (.c 1 rfl (.c 2 rfl (.c 7 rfl (.c 8 rfl (.c 10 rfl (.c 11 rfl (.c 12 rfl (.c 13 rfl .nil))))))))) ?_
  refine sx_seq fun K12 k12 => sx_region ?_
  refine av rfl rfl (wl_nil (q_n (k12 _ _ ?_)))
  refine sx_seq fun K13 k13 => ?_
  refine sx_seq fun K14 k14 => sx_region ?_
  refine mv rfl rfl (sp rfl (px_lt rfl rfl) ?_)
  refine wl_nil (q_n (k14 _ _ ?_))
  refine sx_condP rfl (fun h60 => ?_) (fun h60 => ?_)
  ·
   refine sx_seq fun K15 k15 => sx_region ?_
   refine mv rfl rfl (sp rfl (px_neg rfl (by omega)) ?_)
   refine sp rfl (px_add rfl rfl (by omega)) ?_
   refine sp rfl (px_sub rfl rfl (by omega)) ?_
   refine sp rfl (px_quo rfl rfl (by omega) (by omega) (by omega)) ?_
   refine av rfl rfl (wl_nil (q_n (k15 _ _ ?_)))
   refine sx_sub (Sub.c 0 rfl (.c 1 rfl (.c 2 rfl (.c 7 rfl (.c 8 rfl (.c 10 rfl (.c 11 rfl (.c 12 rfl (.c 13 rfl .nil))))))))) ?_
   refine sx_region ?_
   refine mv rfl rfl (mv rfl rfl (sp rfl (px_mul rfl rfl (by omega)) ?_))
   refine sp rfl (px_add rfl rfl (by omega)) ?_
   refine av rfl rfl (wl_nil (q_n (k13 _ _ ?_)))
   refine sx_region ?_
   refine mv rfl rfl (mv rfl rfl (mv rfl rfl (sp rfl (px_index1 (j := k) rfl rfl (by omega) Tryz.underlying23 Tryz.sizeOf3 hs_va.sv (by first | omega | (simp only [List.length_set]; omega))) ?_)))
   refine sx_storeW rfl rfl hs_va (by first | omega | (simp only [List.length_set]; omega)) Tryz.sizeOf3 (fun w16 sw16 fw16 cw16 => ?_)
   have zw16 := cw16.size
   refine wl_nil ?_
   refine q_bn (q_n (k8 _ _ ?_))
   refine sx_sub (Sub.c 0 rfl (.c 1 rfl (.c 2 rfl (.c 7 rfl (.c 11 rfl (.c 12 rfl (.c 13 rfl .nil))))))) ?_
   refine sx_region ?_
   refine sp rfl (px_add rfl rfl (by omega)) ?_
   refine mv rfl rfl (wl_nil ?_)
   have q17 := Chg.step (l := lva) (h := uva) cwl5 cw16 (by omega)
   have hxl : (0 : Int) ≤ (((((os).getD k 0) - (((ys).getD k 0) * q)) - c) + (((((-((((os).getD k 0) - (((ys).getD k 0) * q)) - c)) + 1000000000) - 1) / 1000000000) * 1000000000)) ∧ (((((os).getD k 0) - (((ys).getD k 0) * q)) - c) + (((((-((((os).getD k 0) - (((ys).getD k 0) * q)) - c)) + 1000000000) - 1) / 1000000000) * 1000000000)) < 1000000000 := by omega
   have hcl : (0 : Int) ≤ ((((-((((os).getD k 0) - (((ys).getD k 0) * q)) - c)) + 1000000000) - 1) / 1000000000) ∧ ((((-((((os).getD k 0) - (((ys).getD k 0) * q)) - c)) + 1000000000) - 1) / 1000000000) < (1000000000 : Int) := by omega
   have hnx := subt_next (ys := ys) (x := (((((os).getD k 0) - (((ys).getD k 0) * q)) - c) + (((((-((((os).getD k 0) - (((ys).getD k 0) * q)) - c)) + 1000000000) - 1) / 1000000000) * 1000000000))) (c' := ((((-((((os).getD k 0) - (((ys).getD k 0) * q)) - c)) + 1000000000) - 1) / 1000000000)) (by omega) hdr hq.1 hc.1 hcl.1 hxl un.1 yn.1 (by omega) hv
   exact fun a ha => ⟨_, by omega, (k + 1), ((os).set k (((((os).getD k 0) - (((ys).getD k 0) * q)) - c) + (((((-((((os).getD k 0) - (((ys).getD k 0) * q)) - c)) + 1000000000) - 1) / 1000000000) * 1000000000))), ((((-((((os).getD k 0) - (((ys).getD k 0) * q)) - c)) + 1000000000) - 1) / 1000000000), ha.sub (Sub.c 0 rfl (.c 1 rfl (.c 2 rfl (.c 7 (look_int (t := 7) rfl (by first | omega | simp)) (.c 11 rfl (.c 12 rfl (.c 13 (look_int (t := 13) rfl (by first | omega | simp)) .nil))))))), q17, (fw16.mono (by omega) (by omega)), rfl, by omega, by rw [List.length_set]; exact ho, Lm_take_set hlm (by omega) hxl.1 hxl.2, drop_set_succ hdr, hcl, hnx⟩
  refine sx_skip ?_
  refine q_n (k13 _ _ ?_)
  refine sx_region ?_
  refine mv rfl rfl (mv rfl rfl (mv rfl rfl (sp rfl (px_index1 (j := k) rfl rfl (by omega) Tryz.underlying23 Tryz.sizeOf3 hs_va.sv (by first | omega | (simp only [List.length_set]; omega))) ?_)))
  refine sx_storeW rfl rfl hs_va (by first | omega | (simp only [List.length_set]; omega)) Tryz.sizeOf3 (fun w18 sw18 fw18 cw18 => ?_)
  have zw18 := cw18.size
  refine wl_nil ?_
  refine q_bn (q_n (k8 _ _ ?_))
  refine sx_sub (Sub.c 0 rfl (.c 1 rfl (.c 2 rfl (.c 7 rfl (.c 11 rfl (.c 12 rfl (.c 13 rfl .nil))))))) ?_
  refine sx_region ?_
  refine sp rfl (px_add rfl rfl (by omega)) ?_
  refine mv rfl rfl (wl_nil ?_)
  have q19 := Chg.step (l := lva) (h := uva) cwl5 cw18 (by omega)
  have hxl : (0 : Int) ≤ ((((os).getD k 0) - (((ys).getD k 0) * q)) - c) ∧ ((((os).getD k 0) - (((ys).getD k 0) * q)) - c) < 1000000000 := by omega
  have hcl : (0 : Int) ≤ 0 ∧ 0 < (1000000000 : Int) := by omega
  have hnx := subt_next (ys := ys) (x := ((((os).getD k 0) - (((ys).getD k 0) * q)) - c)) (c' := 0) (by omega) hdr hq.1 hc.1 hcl.1 hxl un.1 yn.1 (by omega) hv
  exact fun a ha => ⟨_, by omega, (k + 1), ((os).set k ((((os).getD k 0) - (((ys).getD k 0) * q)) - c)), 0, ha.sub (Sub.c 0 rfl (.c 1 rfl (.c 2 rfl (.c 7 (look_int (t := 7) rfl (by first | omega | simp)) (.c 11 rfl (.c 12 rfl (.c 13 (look_int (t := 13) rfl (by first | omega | simp)) .nil))))))), q19, (fw18.mono (by omega) (by omega)), rfl, by omega, by rw [List.length_set]; exact ho, Lm_take_set hlm (by omega) hxl.1 hxl.2, drop_set_succ hdr, hcl, hnx⟩
 refine sx_exit ?_
 refine q_e (q_e (q_bx (q_n (k3 _ _ ?_))))
 refine sx_seq fun K20 k20 => ?_
 have ek : k = ys.length := by omega
 subst ek
 refine sx_region ?_
 refine mv rfl rfl (mv rfl rfl ?_)
 have f21 := hvb.chg cwl5 (by omega)
 refine sp rfl (px_len rfl Tryz.underlying23 f21) ?_
 refine sp rfl (px_index1 (j := (ys).length) rfl rfl (by omega) Tryz.underlying23 Tryz.sizeOf3 hs_va.sv (by first | omega | (simp only [List.length_set]; omega))) ?_
 refine sp rfl (px_load rfl (hs_va.sv.load1 (at_int (by first | omega | (simp only [List.length_set]; omega))) Tryz.isAgg3)) ?_
 refine mv rfl rfl (sp rfl (px_sub rfl rfl (by omega)) ?_)
 refine sp rfl (px_index1 (j := (ys).length) rfl rfl (by omega) Tryz.underlying23 Tryz.sizeOf3 hs_va.sv (by first | omega | (simp only [List.length_set]; omega))) ?_
 refine sx_storeW rfl rfl hs_va (by first | omega | (simp only [List.length_set]; omega)) Tryz.sizeOf3 (fun w22 sw22 fw22 cw22 => ?_)
 have zw22 := cw22.size
 refine wl_nil (q_n (k20 _ _ ?_))
 refine sx_sub (Sub.c 0 rfl (.c 1 rfl .nil)) ?_
 refine sx_seq fun K23 k23 => sx_region ?_
 refine mv rfl rfl (mv rfl rfl ?_)
 have f24 := f21.chg cw22 (by omega)
 refine sp rfl (px_len rfl Tryz.underlying23 f24) ?_
 refine sp rfl (px_index1 (j := (ys).length) rfl rfl (by omega) Tryz.underlying23 Tryz.sizeOf3 fw22.sv (by first | omega | (simp only [List.length_set]; omega))) ?_
 refine sp rfl (px_load rfl (fw22.sv.load1 (at_int (by first | omega | (simp only [List.length_set]; omega))) Tryz.isAgg3)) ?_
 refine sp rfl (px_lt rfl rfl) ?_
 refine av rfl rfl (wl_nil (q_n (k23 _ _ ?_)))
 refine sx_retc ?_
 refine sx_ret1 Tryz.results109 rfl ?_
 have he := subt_end (ys := ys) (by omega) rfl hdr hq.1 hc.1 hv
 have q25 := Chg.step (l := lva) (h := uva) cwl5 cw22 (by omega)
 exact ⟨((os).set ((ys).length) (((os).getD ((ys).length) 0) - c)), rfl, fw22, ⟨by rw [List.length_set]; exact ho, by rw [take_set_self]; exact hlm, he⟩, q25⟩

theorem c_addBack {w : World} {va : Value} {lva uva : Nat} {preva sufva : List Value} {zs : List Int} {vb : Value} {lvb uvb : Nat} {ys : List Int} (hva : Win w lva uva va intT preva sufva zs) (hvb : Sl w lvb uvb vb (ys)) (hd : uvb ≤ lva ∨ uva ≤ lvb) (hzl : zs.length = ys.length + 1) (hz : Lm (zs.take ys.length)) (hy : Lm ys) (ht : -1000000000 ≤ zs.getD ys.length 0 ∧ zs.getD ys.length 0 ≤ 1000000000) (h63 : zs.length ≤ 1000) :
  Ret Tryz.prog 110 [va, vb] w fun v w' => ∃ os, v = .tuple #[] ∧ Win w' lva uva va intT preva sufva (os) ∧ ((os).length = (zs).length ∧ Lm ((os).take (ys).length) ∧ ((vl ((os).take (ys).length) : Nat) : Int) + ((Bs ^ (ys).length : Nat) : Int) * (os).getD (ys).length 0 = ((vl ((zs).take (ys).length) : Nat) : Int) + ((Bs ^ (ys).length : Nat) : Int) * (zs).getD (ys).length 0 + ((vl ys : Nat) : Int)) ∧ Chg lva uva w w' := by
 refine sx_enter Tryz.func110 rfl Tryz.ntmps110 (nbl rfl) ?_
 refine sx_seq fun K1 k1 => sx_region ?_
 refine av rfl rfl (wl_nil (q_n (k1 _ _ ?_)))
 refine sx_seq fun K2 k2 => ?_
 refine sx_seq fun K3 k3 => sx_region ?_
 refine mv rfl rfl (sp rfl (px_len rfl Tryz.underlying23 hvb) ?_)
 refine mv rfl rfl (wl_nil (q_n (k3 _ _ ?_)))
 refine sx_block ?_
 refine sx_loop (fun mm aa w' => ∃ (k : Nat) (os : List Int) (c : Nat), Agr 38 [(0, va), (1, vb), (4, .int .i64 ((c : Nat) : Int)), (7, vb), (8, .int .i64 ↑ys.length), (9, .int .i64 ↑k)] aa ∧ Chg lva uva w w' ∧ Win w' lva uva va intT preva sufva (os) ∧ (mm = ys.length - k) ∧ (k ≤ ys.length) ∧ (os.length = zs.length) ∧ (Lm (os.take k)) ∧ (os.drop k = zs.drop k) ∧ (c ≤ 1) ∧ (vl (os.take k) + Bs ^ k * c = vl (zs.take k) + vl (ys.take k))) (_) (fun a ha => ⟨0, zs, 0, ha.sub (Sub.c 0 rfl (.c 1 rfl (.c 4 (look_int (t := 4) rfl (by first | omega | simp)) (.c 7 rfl (.c 8 (look_int (t := 8) rfl (by first | omega | simp)) (.c 9 (look_int (t := 9) rfl (by first | omega | simp)) .nil)))))), Chg.refl _ _ _, hva, rfl, by omega, rfl, Lm.nil, rfl, by omega, by simp [vl]⟩) ?_
 rintro mm aa wl4 ⟨k, os, c, hAwl4, cwl4, hs_va, hm, hk, ho, hlm, hdr, hc, hv⟩
 refine (show cw Tryz.prog 38 _ _ _ wl4 from ?_) aa hAwl4
 clear hAwl4
 have zwl4 := cwl4.size
 refine sx_seq fun K5 k5 => sx_region ?_
 refine sp rfl (px_lt rfl rfl) ?_
 refine wl_nil (q_n (k5 _ _ ?_))
 refine sx_seq fun K6 k6 => ?_
 refine sx_condP rfl (fun h73 => ?_) (fun h73 => ?_)
 ·
  have un := hz.getD k
  rw [getD_take (by omega)] at un
  have yn := hy.getD k
  have ue := getD_drop hdr
  refine sx_skip ?_
  refine q_n (k6 _ _ ?_)
  refine sx_seq fun K7 k7 => ?_
  refine sx_block ?_
  refine sx_seq fun K8 k8 => sx_region ?_
  refine mv rfl rfl ?_
  have f9 := hvb.chg cwl4 (by omega)
  refine sp rfl (px_index1 (j := k) rfl rfl (by omega) Tryz.underlying23 Tryz.sizeOf3 f9 (by first | omega | (simp only [List.length_set]; omega))) ?_
  refine sp rfl (px_load rfl (f9.load1 (at_int (by first | omega | (simp only [List.length_set]; omega))) Tryz.isAgg3)) ?_
  refine av rfl rfl (av rfl rfl (wl_nil (q_n (k8 _ _ ?_))))
  refine sx_seq fun K10 k10 => sx_region ?_
  refine mv rfl rfl (mv rfl rfl (mv rfl rfl (sp rfl (px_index1 (j := k) rfl rfl (by omega) Tryz.underlying23 Tryz.sizeOf3 hs_va.sv (by first | omega | (simp only [List.length_set]; omega))) ?_)))
  refine sp rfl (px_load rfl (hs_va.sv.load1 (at_int (by first | omega | (simp only [List.length_set]; omega))) Tryz.isAgg3)) ?_
  refine mv rfl rfl (sp rfl (px_add rfl rfl (by omega)) ?_)
  refine sp rfl (px_add rfl rfl (by omega)) ?_
  refine av rfl rfl (wl_nil (q_n (k10 _ _ ?_)))
  refine sx_sub (Sub.c 0 rfl (.c 1 rfl (.c 4 rfl (.c 5 rfl (.c 7 rfl (.c 8 rfl (.c 9 rfl .nil))))))) ?_
  refine sx_seq fun K11 k11 => sx_region ?_
  refine mv rfl rfl (mv rfl rfl (mv rfl rfl (sp rfl (px_rem rfl rfl (by omega) (by omega)) ?_)))
  refine sp rfl (px_index1 (j := k) rfl rfl (by omega) Tryz.underlying23 Tryz.sizeOf3 hs_va.sv (by first | omega | (simp only [List.length_set]; omega))) ?_
  refine sx_storeW rfl rfl hs_va (by first | omega | (simp only [List.length_set]; omega)) Tryz.sizeOf3 (fun w12 sw12 fw12 cw12 => ?_)
  have zw12 := cw12.size
  refine wl_nil (q_n (k11 _ _ ?_))
  refine sx_region ?_
  refine mv rfl rfl (sp rfl (px_quo rfl rfl (by omega) (by omega) (by omega)) ?_)
  refine av rfl rfl (wl_nil ?_)
  refine q_bn (q_n (k7 _ _ ?_))
  refine sx_region ?_
  refine sp rfl (px_add rfl rfl (by omega)) ?_
  refine mv rfl rfl (wl_nil ?_)
  have q13 := Chg.step (l := lva) (h := uva) cwl4 cw12 (by omega)
  have hnx := addb_next (ys := ys) (s := (((c : Nat) : Int) + (((os).getD k 0) + ((ys).getD k 0)))) (c := c) (by omega) hdr un.1 yn.1 (by omega) hv
  exact fun a ha => ⟨_, by omega, (k + 1), ((os).set k ((((c : Nat) : Int) + (((os).getD k 0) + ((ys).getD k 0))) % 1000000000)), ((((c : Nat) : Int) + (((os).getD k 0) + ((ys).getD k 0))) / 1000000000).toNat, ha.sub (Sub.c 0 rfl (.c 1 rfl (.c 4 (look_int (t := 4) rfl (by first | omega | simp)) (.c 7 rfl (.c 8 rfl (.c 9 (look_int (t := 9) rfl (by first | omega | simp)) .nil)))))), q13, (fw12.mono (by omega) (by omega)), rfl, by omega, by rw [List.length_set]; exact ho, Lm_take_set hlm (by omega) (by omega) (by omega), drop_set_succ hdr, by omega, hnx⟩
 refine sx_exit ?_
 refine q_e (q_e (q_bx (q_n (k2 _ _ ?_))))
 have ek : k = ys.length := by omega
 subst ek
 have ue := getD_drop hdr
 refine sx_region ?_
 refine mv rfl rfl (mv rfl rfl ?_)
 have f14 := hvb.chg cwl4 (by omega)
 refine sp rfl (px_len rfl Tryz.underlying23 f14) ?_
 refine sp rfl (px_index1 (j := (ys).length) rfl rfl (by omega) Tryz.underlying23 Tryz.sizeOf3 hs_va.sv (by first | omega | (simp only [List.length_set]; omega))) ?_
 refine sp rfl (px_load rfl (hs_va.sv.load1 (at_int (by first | omega | (simp only [List.length_set]; omega))) Tryz.isAgg3)) ?_
 refine mv rfl rfl (sp rfl (px_add rfl rfl (by omega)) ?_)
 refine sp rfl (px_index1 (j := (ys).length) rfl rfl (by omega) Tryz.underlying23 Tryz.sizeOf3 hs_va.sv (by first | omega | (simp only [List.length_set]; omega))) ?_
 refine sx_storeW rfl rfl hs_va (by first | omega | (simp only [List.length_set]; omega)) Tryz.sizeOf3 (fun w15 sw15 fw15 cw15 => ?_)
 have zw15 := cw15.size
 refine wl_nil ?_
 refine sx_end0 rfl ?_
 have he := addb_end (ys := ys) (by omega) rfl hdr hv
 have q16 := Chg.step (l := lva) (h := uva) cwl4 cw15 (by omega)
 exact ⟨((os).set ((ys).length) (((os).getD ((ys).length) 0) + ((c : Nat) : Int))), rfl, fw15, ⟨by rw [List.length_set]; exact ho, by rw [take_set_self]; exact hlm, he⟩, q16⟩

theorem c_divStep {w : World} {va : Value} {lva uva : Nat} {preva sufva : List Value} {zs : List Int} {vb : Value} {lvb uvb : Nat} {ys : List Int} (hva : Win w lva uva va intT preva sufva zs) (hvb : Sl w lvb uvb vb (ys)) (hd : uvb ≤ lva ∨ uva ≤ lvb) (hzl : zs.length = ys.length + 1) (h2 : 2 ≤ ys.length) (hz : Lm zs) (hy : Lm ys) (hv1 : 0 < ys.getD (ys.length - 1) 0) (hU : vl zs < 1000000000 * vl ys) (h63 : zs.length ≤ 1000) :
  Ret Tryz.prog 78 [va, vb] w fun v w' => ∃ os, v = .int .i64 (((vl zs / vl ys : Nat) : Int)) ∧ Win w' lva uva va intT preva sufva (os) ∧ (Lm os ∧ (os).length = (zs).length ∧ vl os = vl zs % vl ys) ∧ Chg lva uva w w' := by
 have a0 := hz.getD ys.length
 have a1 := hz.getD (ys.length - 1)
 have a2 := hz.getD (ys.length - 2)
 have b1 := hy.getD (ys.length - 1)
 have b2 := hy.getD (ys.length - 2)
 have hV : 0 < vl ys := by omega
 refine sx_enter Tryz.func78 rfl Tryz.ntmps78 (nbl rfl) ?_
 refine sx_seq fun K1 k1 => sx_region ?_
 refine av rfl rfl (wl_nil (q_n (k1 _ _ ?_)))
 refine sx_seq fun K2 k2 => sx_region ?_
 refine mv rfl rfl (sp rfl (px_len rfl Tryz.underlying23 hvb) ?_)
 refine av rfl rfl (wl_nil (q_n (k2 _ _ ?_)))
 refine sx_seq fun K3 k3 => ?_
 refine dx_region (fun w' => Chg 0 0 w w') (by kernel_rfl) (Chg.zero (Chg.drew _)) ?_
 have d4 := Chg.drew w
 have s4 : Chg 0 0 w (World.drew w) := Chg.zero (Chg.drew _)
 have y4 : (World.drew w).heap.size = w.heap.size := rfl
 generalize World.drew w = w4 at *
 have zw4 := d4.size
 refine dt 0 rfl rfl rfl rfl s4 (fun _ hS => px_move rfl) ?_
 refine dt 1 rfl rfl rfl rfl s4 (fun _ hS => px_move rfl) ?_
 refine dt 2 rfl rfl rfl rfl s4 (fun _ hS => px_index1 (j := (ys).length) rfl rfl (by omega) Tryz.underlying23 Tryz.sizeOf3 ((hva.sv).chg hS (by omega)) (by omega)) ?_
 refine dt 3 rfl rfl rfl rfl s4 (fun _ hS => px_load rfl (((hva.sv).chg hS (by omega)).load1 (at_int (by omega)) Tryz.isAgg3)) ?_
 refine dt 4 rfl rfl rfl rfl s4 (fun _ hS => px_mul rfl rfl (by omega)) ?_
 refine dt 5 rfl rfl rfl rfl s4 (fun _ hS => px_move rfl) ?_
 refine dt 6 rfl rfl rfl rfl s4 (fun _ hS => px_move rfl) ?_
 refine dt 7 rfl rfl rfl rfl s4 (fun _ hS => px_sub rfl rfl (by omega)) ?_
 refine dt 8 rfl rfl rfl rfl s4 (fun _ hS => px_index1 (j := ((ys).length - 1)) rfl rfl (by omega) Tryz.underlying23 Tryz.sizeOf3 ((hva.sv).chg hS (by omega)) (by omega)) ?_
 refine dt 9 rfl rfl rfl rfl s4 (fun _ hS => px_load rfl (((hva.sv).chg hS (by omega)).load1 (at_int (by omega)) Tryz.isAgg3)) ?_
 refine dt 10 rfl rfl rfl rfl s4 (fun _ hS => px_add rfl rfl (by omega)) ?_
 refine dt 11 rfl rfl rfl rfl s4 (fun _ hS => px_assign rfl) ?_
 refine dx_done (by kernel_rfl) ?_
 refine q_n (k3 _ _ ?_)
 refine sx_sub (Sub.c 0 rfl (.c 1 rfl (.c 4 rfl (.c 5 rfl (.c 6 rfl .nil))))) ?_
 refine sx_seq fun K5 k5 => sx_region ?_
 refine mv rfl rfl (mv rfl rfl (mv rfl rfl (sp rfl (px_sub rfl rfl (by omega)) ?_)))
 have f6 := hvb.ext d4
 refine sp rfl (px_index1 (j := ((ys).length - 1)) rfl rfl (by omega) Tryz.underlying23 Tryz.sizeOf3 f6 (by omega)) ?_
 refine sp rfl (px_load rfl (f6.load1 (at_int (by omega)) Tryz.isAgg3)) ?_
 refine sp rfl (px_quo rfl rfl (by omega) (by omega) (by omega)) ?_
 refine sp rfl (px_min rfl rfl) ?_
 refine av rfl rfl (wl_nil (q_n (k5 _ _ ?_)))
 refine sx_seq fun K7 k7 => ?_
 refine sx_block ?_
 refine sx_loop (fun mm aa w' => ∃ (q : Int), Agr 81 [(0, va), (1, vb), (5, .int .i64 ↑ys.length), (6, .int .i64 ((((zs).getD ((ys).length) 0) * 1000000000) + ((zs).getD ((ys).length - 1) 0))), (7, .int .i64 q)] aa ∧ Chg 0 0 w4 w' ∧ (mm = q.toNat) ∧ (Guess zs ys ys.length ((((zs).getD ((ys).length) 0) * 1000000000) + ((zs).getD ((ys).length - 1) 0)) q)) (_) (fun a ha => ⟨(min (((((zs).getD ((ys).length) 0) * 1000000000) + ((zs).getD ((ys).length - 1) 0)) / ((ys).getD ((ys).length - 1) 0)) 999999999), ha.sub (Sub.c 0 rfl (.c 1 rfl (.c 5 (look_int (t := 5) rfl (by first | omega | simp)) (.c 6 rfl (.c 7 (look_int (t := 7) rfl (by first | omega | simp)) .nil))))), Chg.refl _ _ _, rfl, guess_init h2 hzl rfl hz hy hv1 hU rfl⟩) ?_
 rintro mm aa wl8 ⟨q, hAwl8, cwl8, hm, hg⟩
 refine (show cw Tryz.prog 81 _ _ _ wl8 from ?_) aa hAwl8
 clear hAwl8
 have zwl8 := cwl8.size
 have hq0 := hg.q0
 have hq1 := hg.q1
 have hqv := hg.qv
 have m1 := mul_limb hq0 (by omega) b1.1 b1.2
 have m2 := mul_limb hq0 (by omega) b2.1 b2.2
 refine sx_seq fun K9 k9 => ?_
 refine sx_seq fun K10 k10 => ?_
 by_cases ph44 : 0 < q
 ·
  by_cases ph44x1 : zs.getD ys.length 0 * 1000000000 + zs.getD (ys.length - 1) 0 - q * ys.getD (ys.length - 1) 0 < 1000000000
  ·
   have f12 := (hva.ext d4).ext cwl8
   have f13 := f6.ext cwl8
   refine dx_region (fun w' => Chg 0 0 wl8 w') (by kernel_rfl) (Chg.zero (Chg.drew _)) ?_
   have d14 := Chg.drew wl8
   have s14 : Chg 0 0 wl8 (World.drew wl8) := Chg.zero (Chg.drew _)
   have y14 : (World.drew wl8).heap.size = wl8.heap.size := rfl
   generalize World.drew wl8 = w14 at *
   have zw14 := d14.size
   refine dt 0 rfl rfl rfl rfl s14 (fun _ hS => px_move rfl) ?_
   refine dt 1 rfl rfl rfl rfl s14 (fun _ hS => px_gt rfl rfl) ?_
   refine dt 2 rfl rfl rfl rfl s14 (fun _ hS => px_move rfl) ?_
   have h44 : (0 : Int) < q := by first | omega | exact ph44
   refine dx_tmpPT (t := 31) rfl h44 ?_
   refine dx_takeG 3 rfl rfl rfl rfl rfl rfl (by kernel_rfl) (by kernel_rfl) (by kernel_rfl) s14 (fun _ hS => px_move rfl) ?_
   refine dx_takeG 4 rfl rfl rfl rfl rfl rfl (by kernel_rfl) (by kernel_rfl) (by kernel_rfl) s14 (fun _ hS => px_move rfl) ?_
   refine dx_takeG 5 rfl rfl rfl rfl rfl rfl (by kernel_rfl) (by kernel_rfl) (by kernel_rfl) s14 (fun _ hS => px_move rfl) ?_
   refine dx_takeG 6 rfl rfl rfl rfl rfl rfl (by kernel_rfl) (by kernel_rfl) (by kernel_rfl) s14 (fun _ hS => px_move rfl) ?_
   refine dx_takeG 7 rfl rfl rfl rfl rfl rfl (by kernel_rfl) (by kernel_rfl) (by kernel_rfl) s14 (fun _ hS => px_sub rfl rfl (by omega)) ?_
   refine dx_takeG 8 rfl rfl rfl rfl rfl rfl (by kernel_rfl) (by kernel_rfl) (by kernel_rfl) s14 (fun _ hS => px_index1 (j := (ys.length - 1)) rfl rfl (by omega) Tryz.underlying23 Tryz.sizeOf3 ((f13).chg hS (by omega)) (by omega)) ?_
   refine dx_takeG 9 rfl rfl rfl rfl rfl rfl (by kernel_rfl) (by kernel_rfl) (by kernel_rfl) s14 (fun _ hS => px_load rfl (((f13).chg hS (by omega)).load1 (at_int (by omega)) Tryz.isAgg3)) ?_
   refine dx_takeG 10 rfl rfl rfl rfl rfl rfl (by kernel_rfl) (by kernel_rfl) (by kernel_rfl) s14 (fun _ hS => px_mul rfl rfl (by omega)) ?_
   refine dx_takeG 11 rfl rfl rfl rfl rfl rfl (by kernel_rfl) (by kernel_rfl) (by kernel_rfl) s14 (fun _ hS => px_sub rfl rfl (by omega)) ?_
   refine dx_takeG 12 rfl rfl rfl rfl rfl rfl (by kernel_rfl) (by kernel_rfl) (by kernel_rfl) s14 (fun _ hS => px_lt rfl rfl) ?_
   refine dt 13 rfl rfl rfl rfl s14 (fun _ hS => px_pick rfl rfl) ?_
   refine dt 14 rfl rfl rfl rfl s14 (fun _ hS => px_move rfl) ?_
   have h44x1 : (((((zs).getD ((ys).length) 0) * 1000000000) + ((zs).getD ((ys).length - 1) 0)) - (q * ((ys).getD (ys.length - 1) 0)) : Int) < 1000000000 := by first | omega | exact ph44x1
   refine dx_tmpPT (t := 43) rfl h44x1 ?_
   refine dx_takeG 15 rfl rfl rfl rfl rfl rfl (by kernel_rfl) (by kernel_rfl) (by kernel_rfl) s14 (fun _ hS => px_move rfl) ?_
   refine dx_takeG 16 rfl rfl rfl rfl rfl rfl (by kernel_rfl) (by kernel_rfl) (by kernel_rfl) s14 (fun _ hS => px_move rfl) ?_
   refine dx_takeG 17 rfl rfl rfl rfl rfl rfl (by kernel_rfl) (by kernel_rfl) (by kernel_rfl) s14 (fun _ hS => px_move rfl) ?_
   refine dx_takeG 18 rfl rfl rfl rfl rfl rfl (by kernel_rfl) (by kernel_rfl) (by kernel_rfl) s14 (fun _ hS => px_sub rfl rfl (by omega)) ?_
   refine dx_takeG 19 rfl rfl rfl rfl rfl rfl (by kernel_rfl) (by kernel_rfl) (by kernel_rfl) s14 (fun _ hS => px_index1 (j := (ys.length - 2)) rfl rfl (by omega) Tryz.underlying23 Tryz.sizeOf3 ((f13).chg hS (by omega)) (by omega)) ?_
   refine dx_takeG 20 rfl rfl rfl rfl rfl rfl (by kernel_rfl) (by kernel_rfl) (by kernel_rfl) s14 (fun _ hS => px_load rfl (((f13).chg hS (by omega)).load1 (at_int (by omega)) Tryz.isAgg3)) ?_
   refine dx_takeG 21 rfl rfl rfl rfl rfl rfl (by kernel_rfl) (by kernel_rfl) (by kernel_rfl) s14 (fun _ hS => px_mul rfl rfl (by omega)) ?_
   refine dx_takeG 22 rfl rfl rfl rfl rfl rfl (by kernel_rfl) (by kernel_rfl) (by kernel_rfl) s14 (fun _ hS => px_move rfl) ?_
   refine dx_takeG 23 rfl rfl rfl rfl rfl rfl (by kernel_rfl) (by kernel_rfl) (by kernel_rfl) s14 (fun _ hS => px_move rfl) ?_
   refine dx_takeG 24 rfl rfl rfl rfl rfl rfl (by kernel_rfl) (by kernel_rfl) (by kernel_rfl) s14 (fun _ hS => px_move rfl) ?_
   refine dx_takeG 25 rfl rfl rfl rfl rfl rfl (by kernel_rfl) (by kernel_rfl) (by kernel_rfl) s14 (fun _ hS => px_move rfl) ?_
   refine dx_takeG 26 rfl rfl rfl rfl rfl rfl (by kernel_rfl) (by kernel_rfl) (by kernel_rfl) s14 (fun _ hS => px_sub rfl rfl (by omega)) ?_
   refine dx_takeG 27 rfl rfl rfl rfl rfl rfl (by kernel_rfl) (by kernel_rfl) (by kernel_rfl) s14 (fun _ hS => px_index1 (j := (ys.length - 1)) rfl rfl (by omega) Tryz.underlying23 Tryz.sizeOf3 ((f13).chg hS (by omega)) (by omega)) ?_
   refine dx_takeG 28 rfl rfl rfl rfl rfl rfl (by kernel_rfl) (by kernel_rfl) (by kernel_rfl) s14 (fun _ hS => px_load rfl (((f13).chg hS (by omega)).load1 (at_int (by omega)) Tryz.isAgg3)) ?_
   refine dx_takeG 29 rfl rfl rfl rfl rfl rfl (by kernel_rfl) (by kernel_rfl) (by kernel_rfl) s14 (fun _ hS => px_mul rfl rfl (by omega)) ?_
   refine dx_takeG 30 rfl rfl rfl rfl rfl rfl (by kernel_rfl) (by kernel_rfl) (by kernel_rfl) s14 (fun _ hS => px_sub rfl rfl (by omega)) ?_
   refine dx_takeG 31 rfl rfl rfl rfl rfl rfl (by kernel_rfl) (by kernel_rfl) (by kernel_rfl) s14 (fun _ hS => px_mul rfl rfl (by omega)) ?_
   refine dx_takeG 32 rfl rfl rfl rfl rfl rfl (by kernel_rfl) (by kernel_rfl) (by kernel_rfl) s14 (fun _ hS => px_move rfl) ?_
   refine dx_takeG 33 rfl rfl rfl rfl rfl rfl (by kernel_rfl) (by kernel_rfl) (by kernel_rfl) s14 (fun _ hS => px_move rfl) ?_
   refine dx_takeG 34 rfl rfl rfl rfl rfl rfl (by kernel_rfl) (by kernel_rfl) (by kernel_rfl) s14 (fun _ hS => px_sub rfl rfl (by omega)) ?_
   refine dx_takeG 35 rfl rfl rfl rfl rfl rfl (by kernel_rfl) (by kernel_rfl) (by kernel_rfl) s14 (fun _ hS => px_index1 (j := (ys.length - 2)) rfl rfl (by omega) Tryz.underlying23 Tryz.sizeOf3 ((f12.sv).chg hS (by omega)) (by omega)) ?_
   refine dx_takeG 36 rfl rfl rfl rfl rfl rfl (by kernel_rfl) (by kernel_rfl) (by kernel_rfl) s14 (fun _ hS => px_load rfl (((f12.sv).chg hS (by omega)).load1 (at_int (by omega)) Tryz.isAgg3)) ?_
   refine dx_takeG 37 rfl rfl rfl rfl rfl rfl (by kernel_rfl) (by kernel_rfl) (by kernel_rfl) s14 (fun _ hS => px_add rfl rfl (by omega)) ?_
   refine dx_takeG 38 rfl rfl rfl rfl rfl rfl (by kernel_rfl) (by kernel_rfl) (by kernel_rfl) s14 (fun _ hS => px_gt rfl rfl) ?_
   refine dt 39 rfl rfl rfl rfl s14 (fun _ hS => px_pick rfl rfl) ?_
   refine dx_done (by kernel_rfl) ?_
   refine q_n (k10 _ _ ?_)
   refine sx_sub (Sub.c 0 rfl (.c 1 rfl (.c 5 rfl (.c 6 rfl (.c 7 rfl (.c 68 rfl .nil)))))) ?_
   refine sx_condP rfl (fun h44x2 => ?_) (fun h44x2 => ?_)
   ·
    refine sx_skip ?_
    refine q_n (k9 _ _ ?_)
    refine sx_block ?_
    refine sx_region ?_
    refine mv rfl rfl (sp rfl (px_sub rfl rfl (by omega)) ?_)
    refine av rfl rfl (wl_nil ?_)
    exact q_bn (fun a ha => ⟨_, by omega, (q - 1), ha.sub (Sub.c 0 rfl (.c 1 rfl (.c 5 rfl (.c 6 rfl (.c 7 (look_int (t := 7) rfl (by first | omega | simp)) .nil))))), (cwl8.t d14), rfl, guess_next h2 hzl rfl hz hy hv1 rfl hg (by omega) (by omega)⟩)
   refine sx_exit ?_
   refine q_e (q_e (q_bx (q_n (k7 _ _ ?_))))
   refine sx_seq fun K15 k15 => ?_
   refine sx_seq fun K16 k16 => ?_
   have hge := guess_end h2 hzl rfl hz hy hv1 rfl hg (by first | exact .inl (by omega) | exact .inr (.inl (by omega)) | exact .inr (.inr (by omega)))
   refine sx_region ?_
   refine mv rfl rfl (mv rfl rfl (mv rfl rfl ?_))
   have f17 := f12.ext d14
   have f18 := f13.ext d14
   refine sx_call rfl rfl Tryz.call109 (c_subTimes f17 f18 (by omega) (by omega) (by assumption) (by assumption) (by omega) (by omega)) (fun v19 w19 p19 => ?_)
   obtain ⟨os19, rfl, ova_19, hs19, c19⟩ := p19
   have zw19 := c19.size
   have hol := hs19.1.trans hzl
   have hlmx := hs19.2.1
   have hst := step_sub hzl hz hy rfl hV hq0 hg.up hge hol hs19.2.1 hs19.2.2
   refine wl_nil (q_n (k16 _ _ ?_))
   refine sx_condP rfl (fun h47 => ?_) (fun h47 => ?_)
   ·
    have hs2 := hst.2 h47
    have hs3 := hs2.1
    refine sx_seq fun K20 k20 => sx_region ?_
    refine mv rfl rfl (sp rfl (px_sub rfl rfl (by omega)) ?_)
    refine av rfl rfl (wl_nil (q_n (k20 _ _ ?_)))
    refine sx_region ?_
    refine mv rfl rfl (mv rfl rfl ?_)
    have f21 := f18.chg c19 (by omega)
    refine sx_call rfl rfl Tryz.call110 (c_addBack ova_19 f21 (by omega) (hol) (by assumption) (by assumption) (by omega) (by omega)) (fun v22 w22 p22 => ?_)
    obtain ⟨os22, rfl, ova_22, hs22, c22⟩ := p22
    have zw22 := c22.size
    have hfl := hs22.1.trans hol
    have hfin := hs2.2.2 _ hfl hs22.2.1 hs22.2.2
    refine wl_nil (q_n (k15 _ _ ?_))
    refine sx_sub (Sub.c 7 rfl .nil) ?_
    refine sx_seq fun K23 k23 => sx_region ?_
    refine mv rfl rfl (av rfl rfl (wl_nil (q_n (k23 _ _ ?_))))
    refine sx_retc ?_
    refine sx_ret1 Tryz.results78 rfl ?_
    have q24 := Chg.step (l := lva) (h := uva) (Chg.zero (l := lva) (h := uva) ((d4.t cwl8).t d14)) c19 (by omega)
    have q25 := Chg.step (l := lva) (h := uva) q24 c22 (by omega)
    exact ⟨_, by rw [hs2.2.1], ova_22, ⟨hfin.1, by omega, hfin.2⟩, q25⟩
   have hs1 := hst.1 (by omega)
   refine sx_skip ?_
   refine q_n (k15 _ _ ?_)
   refine sx_seq fun K26 k26 => sx_region ?_
   refine mv rfl rfl (av rfl rfl (wl_nil (q_n (k26 _ _ ?_))))
   refine sx_retc ?_
   refine sx_ret1 Tryz.results78 rfl ?_
   have q27 := Chg.step (l := lva) (h := uva) (Chg.zero (l := lva) (h := uva) ((d4.t cwl8).t d14)) c19 (by omega)
   exact ⟨_, by rw [hs1.1], ova_19, ⟨hs1.2.1, by omega, hs1.2.2⟩, q27⟩
  have f29 := (hva.ext d4).ext cwl8
  have f30 := f6.ext cwl8
  refine dx_region (fun w' => Chg 0 0 wl8 w') (by kernel_rfl) (Chg.zero (Chg.drew _)) ?_
  have d31 := Chg.drew wl8
  have s31 : Chg 0 0 wl8 (World.drew wl8) := Chg.zero (Chg.drew _)
  have y31 : (World.drew wl8).heap.size = wl8.heap.size := rfl
  generalize World.drew wl8 = w31 at *
  have zw31 := d31.size
  refine dt 0 rfl rfl rfl rfl s31 (fun _ hS => px_move rfl) ?_
  refine dt 1 rfl rfl rfl rfl s31 (fun _ hS => px_gt rfl rfl) ?_
  refine dt 2 rfl rfl rfl rfl s31 (fun _ hS => px_move rfl) ?_
  have h44 : (0 : Int) < q := by first | omega | exact ph44
  refine dx_tmpPT (t := 31) rfl h44 ?_
  refine dx_takeG 3 rfl rfl rfl rfl rfl rfl (by kernel_rfl) (by kernel_rfl) (by kernel_rfl) s31 (fun _ hS => px_move rfl) ?_
  refine dx_takeG 4 rfl rfl rfl rfl rfl rfl (by kernel_rfl) (by kernel_rfl) (by kernel_rfl) s31 (fun _ hS => px_move rfl) ?_
  refine dx_takeG 5 rfl rfl rfl rfl rfl rfl (by kernel_rfl) (by kernel_rfl) (by kernel_rfl) s31 (fun _ hS => px_move rfl) ?_
  refine dx_takeG 6 rfl rfl rfl rfl rfl rfl (by kernel_rfl) (by kernel_rfl) (by kernel_rfl) s31 (fun _ hS => px_move rfl) ?_
  refine dx_takeG 7 rfl rfl rfl rfl rfl rfl (by kernel_rfl) (by kernel_rfl) (by kernel_rfl) s31 (fun _ hS => px_sub rfl rfl (by omega)) ?_
  refine dx_takeG 8 rfl rfl rfl rfl rfl rfl (by kernel_rfl) (by kernel_rfl) (by kernel_rfl) s31 (fun _ hS => px_index1 (j := (ys.length - 1)) rfl rfl (by omega) Tryz.underlying23 Tryz.sizeOf3 ((f30).chg hS (by omega)) (by omega)) ?_
  refine dx_takeG 9 rfl rfl rfl rfl rfl rfl (by kernel_rfl) (by kernel_rfl) (by kernel_rfl) s31 (fun _ hS => px_load rfl (((f30).chg hS (by omega)).load1 (at_int (by omega)) Tryz.isAgg3)) ?_
  refine dx_takeG 10 rfl rfl rfl rfl rfl rfl (by kernel_rfl) (by kernel_rfl) (by kernel_rfl) s31 (fun _ hS => px_mul rfl rfl (by omega)) ?_
  refine dx_takeG 11 rfl rfl rfl rfl rfl rfl (by kernel_rfl) (by kernel_rfl) (by kernel_rfl) s31 (fun _ hS => px_sub rfl rfl (by omega)) ?_
  refine dx_takeG 12 rfl rfl rfl rfl rfl rfl (by kernel_rfl) (by kernel_rfl) (by kernel_rfl) s31 (fun _ hS => px_lt rfl rfl) ?_
  refine dt 13 rfl rfl rfl rfl s31 (fun _ hS => px_pick rfl rfl) ?_
  refine dt 14 rfl rfl rfl rfl s31 (fun _ hS => px_move rfl) ?_
  have h44x1 : ¬ ((((((zs).getD ((ys).length) 0) * 1000000000) + ((zs).getD ((ys).length - 1) 0)) - (q * ((ys).getD (ys.length - 1) 0)) : Int) < 1000000000) := by first | omega | exact ph44x1
  refine dx_tmpPF (t := 43) rfl h44x1 ?_
  refine dx_skip 15 rfl rfl rfl rfl rfl rfl rfl (by kernel_rfl) (by kernel_rfl) (by kernel_rfl) s31 ?_
  refine dx_skip 16 rfl rfl rfl rfl rfl rfl rfl (by kernel_rfl) (by kernel_rfl) (by kernel_rfl) s31 ?_
  refine dx_skip 17 rfl rfl rfl rfl rfl rfl rfl (by kernel_rfl) (by kernel_rfl) (by kernel_rfl) s31 ?_
  refine dx_skip 18 rfl rfl rfl rfl rfl rfl rfl (by kernel_rfl) (by kernel_rfl) (by kernel_rfl) s31 ?_
  refine dx_skip 19 rfl rfl rfl rfl rfl rfl rfl (by kernel_rfl) (by kernel_rfl) (by kernel_rfl) s31 ?_
  refine dx_skip 20 rfl rfl rfl rfl rfl rfl rfl (by kernel_rfl) (by kernel_rfl) (by kernel_rfl) s31 ?_
  refine dx_skip 21 rfl rfl rfl rfl rfl rfl rfl (by kernel_rfl) (by kernel_rfl) (by kernel_rfl) s31 ?_
  refine dx_skip 22 rfl rfl rfl rfl rfl rfl rfl (by kernel_rfl) (by kernel_rfl) (by kernel_rfl) s31 ?_
  refine dx_skip 23 rfl rfl rfl rfl rfl rfl rfl (by kernel_rfl) (by kernel_rfl) (by kernel_rfl) s31 ?_
  refine dx_skip 24 rfl rfl rfl rfl rfl rfl rfl (by kernel_rfl) (by kernel_rfl) (by kernel_rfl) s31 ?_
  refine dx_skip 25 rfl rfl rfl rfl rfl rfl rfl (by kernel_rfl) (by kernel_rfl) (by kernel_rfl) s31 ?_
  refine dx_skip 26 rfl rfl rfl rfl rfl rfl rfl (by kernel_rfl) (by kernel_rfl) (by kernel_rfl) s31 ?_
  refine dx_skip 27 rfl rfl rfl rfl rfl rfl rfl (by kernel_rfl) (by kernel_rfl) (by kernel_rfl) s31 ?_
  refine dx_skip 28 rfl rfl rfl rfl rfl rfl rfl (by kernel_rfl) (by kernel_rfl) (by kernel_rfl) s31 ?_
  refine dx_skip 29 rfl rfl rfl rfl rfl rfl rfl (by kernel_rfl) (by kernel_rfl) (by kernel_rfl) s31 ?_
  refine dx_skip 30 rfl rfl rfl rfl rfl rfl rfl (by kernel_rfl) (by kernel_rfl) (by kernel_rfl) s31 ?_
  refine dx_skip 31 rfl rfl rfl rfl rfl rfl rfl (by kernel_rfl) (by kernel_rfl) (by kernel_rfl) s31 ?_
  refine dx_skip 32 rfl rfl rfl rfl rfl rfl rfl (by kernel_rfl) (by kernel_rfl) (by kernel_rfl) s31 ?_
  refine dx_skip 33 rfl rfl rfl rfl rfl rfl rfl (by kernel_rfl) (by kernel_rfl) (by kernel_rfl) s31 ?_
  refine dx_skip 34 rfl rfl rfl rfl rfl rfl rfl (by kernel_rfl) (by kernel_rfl) (by kernel_rfl) s31 ?_
  refine dx_skip 35 rfl rfl rfl rfl rfl rfl rfl (by kernel_rfl) (by kernel_rfl) (by kernel_rfl) s31 ?_
  refine dx_skip 36 rfl rfl rfl rfl rfl rfl rfl (by kernel_rfl) (by kernel_rfl) (by kernel_rfl) s31 ?_
  refine dx_skip 37 rfl rfl rfl rfl rfl rfl rfl (by kernel_rfl) (by kernel_rfl) (by kernel_rfl) s31 ?_
  refine dx_skip 38 rfl rfl rfl rfl rfl rfl rfl (by kernel_rfl) (by kernel_rfl) (by kernel_rfl) s31 ?_
  refine dt 39 rfl rfl rfl rfl s31 (fun _ hS => px_pick rfl rfl) ?_
  refine dx_done (by kernel_rfl) ?_
  refine q_n (k10 _ _ ?_)
  refine sx_sub (Sub.c 0 rfl (.c 1 rfl (.c 5 rfl (.c 6 rfl (.c 7 rfl (.c 68 rfl .nil)))))) ?_
  refine sx_condF rfl ?_
  refine sx_exit ?_
  refine q_e (q_e (q_bx (q_n (k7 _ _ ?_))))
  refine sx_seq fun K32 k32 => ?_
  refine sx_seq fun K33 k33 => ?_
  have hge := guess_end h2 hzl rfl hz hy hv1 rfl hg (by first | exact .inl (by omega) | exact .inr (.inl (by omega)) | exact .inr (.inr (by omega)))
  refine sx_region ?_
  refine mv rfl rfl (mv rfl rfl (mv rfl rfl ?_))
  have f34 := f29.ext d31
  have f35 := f30.ext d31
  refine sx_call rfl rfl Tryz.call109 (c_subTimes f34 f35 (by omega) (by omega) (by assumption) (by assumption) (by omega) (by omega)) (fun v36 w36 p36 => ?_)
  obtain ⟨os36, rfl, ova_36, hs36, c36⟩ := p36
  have zw36 := c36.size
  have hol := hs36.1.trans hzl
  have hlmx := hs36.2.1
  have hst := step_sub hzl hz hy rfl hV hq0 hg.up hge hol hs36.2.1 hs36.2.2
  refine wl_nil (q_n (k33 _ _ ?_))
  refine sx_condP rfl (fun h47 => ?_) (fun h47 => ?_)
  ·
   have hs2 := hst.2 h47
   have hs3 := hs2.1
   refine sx_seq fun K37 k37 => sx_region ?_
   refine mv rfl rfl (sp rfl (px_sub rfl rfl (by omega)) ?_)
   refine av rfl rfl (wl_nil (q_n (k37 _ _ ?_)))
   refine sx_region ?_
   refine mv rfl rfl (mv rfl rfl ?_)
   have f38 := f35.chg c36 (by omega)
   refine sx_call rfl rfl Tryz.call110 (c_addBack ova_36 f38 (by omega) (hol) (by assumption) (by assumption) (by omega) (by omega)) (fun v39 w39 p39 => ?_)
   obtain ⟨os39, rfl, ova_39, hs39, c39⟩ := p39
   have zw39 := c39.size
   have hfl := hs39.1.trans hol
   have hfin := hs2.2.2 _ hfl hs39.2.1 hs39.2.2
   refine wl_nil (q_n (k32 _ _ ?_))
   refine sx_sub (Sub.c 7 rfl .nil) ?_
   refine sx_seq fun K40 k40 => sx_region ?_
   refine mv rfl rfl (av rfl rfl (wl_nil (q_n (k40 _ _ ?_))))
   refine sx_retc ?_
   refine sx_ret1 Tryz.results78 rfl ?_
   have q41 := Chg.step (l := lva) (h := uva) (Chg.zero (l := lva) (h := uva) ((d4.t cwl8).t d31)) c36 (by omega)
   have q42 := Chg.step (l := lva) (h := uva) q41 c39 (by omega)
   exact ⟨_, by rw [hs2.2.1], ova_39, ⟨hfin.1, by omega, hfin.2⟩, q42⟩
  have hs1 := hst.1 (by omega)
  refine sx_skip ?_
  refine q_n (k32 _ _ ?_)
  refine sx_seq fun K43 k43 => sx_region ?_
  refine mv rfl rfl (av rfl rfl (wl_nil (q_n (k43 _ _ ?_))))
  refine sx_retc ?_
  refine sx_ret1 Tryz.results78 rfl ?_
  have q44 := Chg.step (l := lva) (h := uva) (Chg.zero (l := lva) (h := uva) ((d4.t cwl8).t d31)) c36 (by omega)
  exact ⟨_, by rw [hs1.1], ova_36, ⟨hs1.2.1, by omega, hs1.2.2⟩, q44⟩
 have f46 := (hva.ext d4).ext cwl8
 have f47 := f6.ext cwl8
 refine dx_region (fun w' => Chg 0 0 wl8 w') (by kernel_rfl) (Chg.zero (Chg.drew _)) ?_
 have d48 := Chg.drew wl8
 have s48 : Chg 0 0 wl8 (World.drew wl8) := Chg.zero (Chg.drew _)
 have y48 : (World.drew wl8).heap.size = wl8.heap.size := rfl
 generalize World.drew wl8 = w48 at *
 have zw48 := d48.size
 refine dt 0 rfl rfl rfl rfl s48 (fun _ hS => px_move rfl) ?_
 refine dt 1 rfl rfl rfl rfl s48 (fun _ hS => px_gt rfl rfl) ?_
 refine dt 2 rfl rfl rfl rfl s48 (fun _ hS => px_move rfl) ?_
 have h44 : ¬ ((0 : Int) < q) := by first | omega | exact ph44
 refine dx_tmpPF (t := 31) rfl h44 ?_
 refine dx_skip 3 rfl rfl rfl rfl rfl rfl rfl (by kernel_rfl) (by kernel_rfl) (by kernel_rfl) s48 ?_
 refine dx_skip 4 rfl rfl rfl rfl rfl rfl rfl (by kernel_rfl) (by kernel_rfl) (by kernel_rfl) s48 ?_
 refine dx_skip 5 rfl rfl rfl rfl rfl rfl rfl (by kernel_rfl) (by kernel_rfl) (by kernel_rfl) s48 ?_
 refine dx_skip 6 rfl rfl rfl rfl rfl rfl rfl (by kernel_rfl) (by kernel_rfl) (by kernel_rfl) s48 ?_
 refine dx_skip 7 rfl rfl rfl rfl rfl rfl rfl (by kernel_rfl) (by kernel_rfl) (by kernel_rfl) s48 ?_
 refine dx_skip 8 rfl rfl rfl rfl rfl rfl rfl (by kernel_rfl) (by kernel_rfl) (by kernel_rfl) s48 ?_
 refine dx_skip 9 rfl rfl rfl rfl rfl rfl rfl (by kernel_rfl) (by kernel_rfl) (by kernel_rfl) s48 ?_
 refine dx_skip 10 rfl rfl rfl rfl rfl rfl rfl (by kernel_rfl) (by kernel_rfl) (by kernel_rfl) s48 ?_
 refine dx_skip 11 rfl rfl rfl rfl rfl rfl rfl (by kernel_rfl) (by kernel_rfl) (by kernel_rfl) s48 ?_
 refine dx_skip 12 rfl rfl rfl rfl rfl rfl rfl (by kernel_rfl) (by kernel_rfl) (by kernel_rfl) s48 ?_
 refine dt 13 rfl rfl rfl rfl s48 (fun _ hS => px_pick rfl rfl) ?_
 refine dt 14 rfl rfl rfl rfl s48 (fun _ hS => px_move rfl) ?_
 refine dx_skip 15 rfl rfl rfl rfl rfl rfl rfl (by kernel_rfl) (by kernel_rfl) (by kernel_rfl) s48 ?_
 refine dx_skip 16 rfl rfl rfl rfl rfl rfl rfl (by kernel_rfl) (by kernel_rfl) (by kernel_rfl) s48 ?_
 refine dx_skip 17 rfl rfl rfl rfl rfl rfl rfl (by kernel_rfl) (by kernel_rfl) (by kernel_rfl) s48 ?_
 refine dx_skip 18 rfl rfl rfl rfl rfl rfl rfl (by kernel_rfl) (by kernel_rfl) (by kernel_rfl) s48 ?_
 refine dx_skip 19 rfl rfl rfl rfl rfl rfl rfl (by kernel_rfl) (by kernel_rfl) (by kernel_rfl) s48 ?_
 refine dx_skip 20 rfl rfl rfl rfl rfl rfl rfl (by kernel_rfl) (by kernel_rfl) (by kernel_rfl) s48 ?_
 refine dx_skip 21 rfl rfl rfl rfl rfl rfl rfl (by kernel_rfl) (by kernel_rfl) (by kernel_rfl) s48 ?_
 refine dx_skip 22 rfl rfl rfl rfl rfl rfl rfl (by kernel_rfl) (by kernel_rfl) (by kernel_rfl) s48 ?_
 refine dx_skip 23 rfl rfl rfl rfl rfl rfl rfl (by kernel_rfl) (by kernel_rfl) (by kernel_rfl) s48 ?_
 refine dx_skip 24 rfl rfl rfl rfl rfl rfl rfl (by kernel_rfl) (by kernel_rfl) (by kernel_rfl) s48 ?_
 refine dx_skip 25 rfl rfl rfl rfl rfl rfl rfl (by kernel_rfl) (by kernel_rfl) (by kernel_rfl) s48 ?_
 refine dx_skip 26 rfl rfl rfl rfl rfl rfl rfl (by kernel_rfl) (by kernel_rfl) (by kernel_rfl) s48 ?_
 refine dx_skip 27 rfl rfl rfl rfl rfl rfl rfl (by kernel_rfl) (by kernel_rfl) (by kernel_rfl) s48 ?_
 refine dx_skip 28 rfl rfl rfl rfl rfl rfl rfl (by kernel_rfl) (by kernel_rfl) (by kernel_rfl) s48 ?_
 refine dx_skip 29 rfl rfl rfl rfl rfl rfl rfl (by kernel_rfl) (by kernel_rfl) (by kernel_rfl) s48 ?_
 refine dx_skip 30 rfl rfl rfl rfl rfl rfl rfl (by kernel_rfl) (by kernel_rfl) (by kernel_rfl) s48 ?_
 refine dx_skip 31 rfl rfl rfl rfl rfl rfl rfl (by kernel_rfl) (by kernel_rfl) (by kernel_rfl) s48 ?_
 refine dx_skip 32 rfl rfl rfl rfl rfl rfl rfl (by kernel_rfl) (by kernel_rfl) (by kernel_rfl) s48 ?_
 refine dx_skip 33 rfl rfl rfl rfl rfl rfl rfl (by kernel_rfl) (by kernel_rfl) (by kernel_rfl) s48 ?_
 refine dx_skip 34 rfl rfl rfl rfl rfl rfl rfl (by kernel_rfl) (by kernel_rfl) (by kernel_rfl) s48 ?_
 refine dx_skip 35 rfl rfl rfl rfl rfl rfl rfl (by kernel_rfl) (by kernel_rfl) (by kernel_rfl) s48 ?_
 refine dx_skip 36 rfl rfl rfl rfl rfl rfl rfl (by kernel_rfl) (by kernel_rfl) (by kernel_rfl) s48 ?_
 refine dx_skip 37 rfl rfl rfl rfl rfl rfl rfl (by kernel_rfl) (by kernel_rfl) (by kernel_rfl) s48 ?_
 refine dx_skip 38 rfl rfl rfl rfl rfl rfl rfl (by kernel_rfl) (by kernel_rfl) (by kernel_rfl) s48 ?_
 refine dt 39 rfl rfl rfl rfl s48 (fun _ hS => px_pick rfl rfl) ?_
 refine dx_done (by kernel_rfl) ?_
 refine q_n (k10 _ _ ?_)
 refine sx_sub (Sub.c 0 rfl (.c 1 rfl (.c 5 rfl (.c 6 rfl (.c 7 rfl (.c 68 rfl .nil)))))) ?_
 refine sx_condF rfl ?_
 refine sx_exit ?_
 refine q_e (q_e (q_bx (q_n (k7 _ _ ?_))))
 refine sx_seq fun K49 k49 => ?_
 refine sx_seq fun K50 k50 => ?_
 have hge := guess_end h2 hzl rfl hz hy hv1 rfl hg (by first | exact .inl (by omega) | exact .inr (.inl (by omega)) | exact .inr (.inr (by omega)))
 refine sx_region ?_
 refine mv rfl rfl (mv rfl rfl (mv rfl rfl ?_))
 have f51 := f46.ext d48
 have f52 := f47.ext d48
 refine sx_call rfl rfl Tryz.call109 (c_subTimes f51 f52 (by omega) (by omega) (by assumption) (by assumption) (by omega) (by omega)) (fun v53 w53 p53 => ?_)
 obtain ⟨os53, rfl, ova_53, hs53, c53⟩ := p53
 have zw53 := c53.size
 have hol := hs53.1.trans hzl
 have hlmx := hs53.2.1
 have hst := step_sub hzl hz hy rfl hV hq0 hg.up hge hol hs53.2.1 hs53.2.2
 refine wl_nil (q_n (k50 _ _ ?_))
 refine sx_condP rfl (fun h47 => ?_) (fun h47 => ?_)
 ·
  have hs2 := hst.2 h47
  have hs3 := hs2.1
  refine sx_seq fun K54 k54 => sx_region ?_
  refine mv rfl rfl (sp rfl (px_sub rfl rfl (by omega)) ?_)
  refine av rfl rfl (wl_nil (q_n (k54 _ _ ?_)))
  refine sx_region ?_
  refine mv rfl rfl (mv rfl rfl ?_)
  have f55 := f52.chg c53 (by omega)
  refine sx_call rfl rfl Tryz.call110 (c_addBack ova_53 f55 (by omega) (hol) (by assumption) (by assumption) (by omega) (by omega)) (fun v56 w56 p56 => ?_)
  obtain ⟨os56, rfl, ova_56, hs56, c56⟩ := p56
  have zw56 := c56.size
  have hfl := hs56.1.trans hol
  have hfin := hs2.2.2 _ hfl hs56.2.1 hs56.2.2
  refine wl_nil (q_n (k49 _ _ ?_))
  refine sx_sub (Sub.c 7 rfl .nil) ?_
  refine sx_seq fun K57 k57 => sx_region ?_
  refine mv rfl rfl (av rfl rfl (wl_nil (q_n (k57 _ _ ?_))))
  refine sx_retc ?_
  refine sx_ret1 Tryz.results78 rfl ?_
  have q58 := Chg.step (l := lva) (h := uva) (Chg.zero (l := lva) (h := uva) ((d4.t cwl8).t d48)) c53 (by omega)
  have q59 := Chg.step (l := lva) (h := uva) q58 c56 (by omega)
  exact ⟨_, by rw [hs2.2.1], ova_56, ⟨hfin.1, by omega, hfin.2⟩, q59⟩
 have hs1 := hst.1 (by omega)
 refine sx_skip ?_
 refine q_n (k49 _ _ ?_)
 refine sx_seq fun K60 k60 => sx_region ?_
 refine mv rfl rfl (av rfl rfl (wl_nil (q_n (k60 _ _ ?_))))
 refine sx_retc ?_
 refine sx_ret1 Tryz.results78 rfl ?_
 have q61 := Chg.step (l := lva) (h := uva) (Chg.zero (l := lva) (h := uva) ((d4.t cwl8).t d48)) c53 (by omega)
 exact ⟨_, by rw [hs1.1], ova_53, ⟨hs1.2.1, by omega, hs1.2.2⟩, q61⟩

theorem c_natDiv {w : World} {va : Value} {lva uva : Nat} {m : Nat} {vb : Value} {lvb uvb : Nat} {n : Nat} (hva : Sl w lva uva va (dg m)) (hvb : Sl w lvb uvb vb (dg n)) (hbm : (dg m).length ≤ 400) (hbn : (dg n).length ≤ 400) (hn0 : 0 < n) :
  Ret Tryz.prog 40 [va, vb] w fun v w' => ∃ s t, v = .tuple #[s, t] ∧ OwnI w' w.heap.size w'.heap.size s intT (dg (m / n)) ∧ OwnI w' w.heap.size w'.heap.size t intT (dg (m % n)) ∧ Chg 0 0 w w' := by
 have hva0 := hva.fit
 have hvb0 := hvb.fit
 have htp := dg_top hn0
 have hbt := (Lm_dg n).getD ((dg n).length - 1)
 refine sx_enter Tryz.func40 rfl Tryz.ntmps40 (nbl rfl) ?_
 refine sx_seq fun K1 k1 => sx_region ?_
 refine av rfl rfl (av rfl rfl (wl_nil (q_n (k1 _ _ ?_))))
 refine sx_seq fun K2 k2 => ?_
 refine sx_seq fun K3 k3 => sx_region ?_
 refine mv rfl rfl (mv rfl rfl (sx_call rfl rfl Tryz.call74 (c_natCmp hva0 hvb0 (by omega)) (fun v4 w4 p4 => ?_)))
 obtain ⟨rfl, c4⟩ := p4
 have zw4 := c4.size
 refine sp rfl (px_lt rfl rfl) ?_
 refine wl_nil (q_n (k3 _ _ ?_))
 refine sx_condP rfl (fun h17 => ?_) (fun h17 => ?_)
 ·
  rw [cmpL_dg] at h17
  have hlt := cmpN_neg.1 h17
  refine sx_seq fun K5 k5 => sx_region ?_
  refine sx_lit0 rfl xelt23 (fun s6 ws6 ss6 fs6 cs6 => ?_)
  have zws6 := cs6.size
  refine mv rfl rfl ?_
  have f8 := (hva0.ext c4).ext cs6
  refine sx_call rfl rfl Tryz.call75 (c_natCopy f8 (by omega)) (fun v9 w9 p9 => ?_)
  obtain ⟨s9, rfl, os_9, c9⟩ := p9
  have zw9 := c9.size
  refine av rfl rfl (av rfl rfl (wl_nil (q_n (k5 _ _ ?_))))
  refine sx_retc ?_
  refine q_r (sx_ret2 Tryz.results40 rfl rfl ?_)
  rw [Nat.div_eq_of_lt hlt, Nat.mod_eq_of_lt hlt, dg_zero]
  have f10 := fs6.ext c9
  exact ⟨_, _, rfl, (Own.mono f10 (by omega) (by omega)), (Own.mono os_9 (by omega) (by omega)), ((c4.t cs6).t c9)⟩
 rw [cmpL_dg] at h17
 have hge := Nat.le_of_not_lt (mt cmpN_neg.2 h17)
 have hab := len_le hge
 have hb0 := len_pos.2 hn0
 refine sx_skip ?_
 refine q_n (k2 _ _ ?_)
 refine sx_seq fun K11 k11 => ?_
 refine sx_seq fun K12 k12 => sx_region ?_
 refine mv rfl rfl ?_
 have f13 := hvb0.ext c4
 refine sp rfl (px_len rfl Tryz.underlying23 f13) ?_
 refine sp rfl (px_eq rfl rfl) ?_
 refine wl_nil (q_n (k12 _ _ ?_))
 refine sx_condP rfl (fun h20 => ?_) (fun h20 => ?_)
 ·
  refine sx_seq fun K14 k14 => sx_region ?_
  refine mv rfl rfl (mv rfl rfl (sp rfl (px_index1 (j := 0) rfl rfl (by omega) Tryz.underlying23 Tryz.sizeOf3 f13 (by omega)) ?_))
  refine sp rfl (px_load rfl (f13.load1 (at_int (by omega)) Tryz.isAgg3)) ?_
  have f15 := hva0.ext c4
  refine sx_call rfl rfl Tryz.call76 (c_natSmall f15 (by omega) (by have h9 := one_limb (n := n) (by omega); omega)) (fun v16 w16 p16 => ?_)
  obtain ⟨s16, rfl, os_16, c16⟩ := p16
  have zw16 := c16.size
  refine mv rfl rfl (sp rfl (px_ex2 rfl rfl) ?_)
  refine sp rfl (px_ex2 rfl rfl) ?_
  refine av rfl rfl (av rfl rfl (wl_nil (q_n (k14 _ _ ?_))))
  refine sx_sub (Sub.c 0 rfl (.c 1 rfl (.c 4 rfl (.c 5 rfl (.c 6 rfl (.c 7 rfl .nil)))))) ?_
  refine sx_seq fun K17 k17 => sx_region ?_
  refine mv rfl rfl (mv rfl rfl (sx_call rfl rfl Tryz.call77 (c_iNatOf (by have h9 := one_limb (n := n) (by omega); have h8 := Nat.mod_lt m (show 0 < ((dg n).getD 0 0).toNat by omega); omega)) (fun v18 w18 p18 => ?_)))
  obtain ⟨s18, rfl, os_18, c18⟩ := p18
  have zw18 := c18.size
  refine av rfl rfl (av rfl rfl (wl_nil (q_n (k17 _ _ ?_))))
  refine sx_retc ?_
  refine q_r (sx_ret2 Tryz.results40 rfl rfl ?_)
  have e1 := (one_limb (n := n) (by omega)).1
  have f19 := os_16.ext c18
  have r1 := f19
  have r2 := os_18
  rw [Int.toNat_natCast] at r2
  rw [e1] at r1 r2
  exact ⟨_, _, rfl, r1.mono (by omega) (by omega), r2.mono (by omega) (by omega), ((c4.t c16).t c18)⟩
 refine sx_skip ?_
 refine q_n (k11 _ _ ?_)
 refine sx_seq fun K20 k20 => sx_region ?_
 refine mv rfl rfl (mv rfl rfl (sp rfl (px_len rfl Tryz.underlying23 f13) ?_))
 refine sp rfl (px_sub rfl rfl (by omega)) ?_
 refine sp rfl (px_index1 (j := ((dg n).length - 1)) rfl rfl (by omega) Tryz.underlying23 Tryz.sizeOf3 f13 (by omega)) ?_
 refine sp rfl (px_load rfl (f13.load1 (at_int (by omega)) Tryz.isAgg3)) ?_
 refine sp rfl (px_add rfl rfl (by omega)) ?_
 refine sp rfl (px_quo rfl rfl (by omega) (by omega) (by omega)) ?_
 refine av rfl rfl (wl_nil (q_n (k20 _ _ ?_)))
 refine sx_sub (Sub.c 0 rfl (.c 1 rfl (.c 4 rfl (.c 5 rfl (.c 8 rfl .nil))))) ?_
 refine sx_seq fun K21 k21 => ?_
 have hsb := scale_bd htp (by omega)
 generalize 1000000000 / (((dg n).getD ((dg n).length - 1) 0) + 1) = s at *
 have evs : vl [s] = s.toNat := by simp [vl]
 have hpos : 0 < n * s.toNat := Nat.mul_pos hn0 (by omega)
 refine sx_region ?_
 refine mv rfl rfl (mv rfl rfl ?_)
 refine sx_lit1 rfl xelt23 rfl rfl (fun s22 ws22 ss22 fs22 cs22 => ?_)
 have ns22 := Own.norm (f := (Value.int .i64)) (zs := [s]) fs22
 have zws22 := cs22.size
 have f24 := (hva0.ext c4).ext cs22
 refine sx_call rfl rfl Tryz.call49 (c_natMulS f24 ns22.sv (by omega) (by simp only [List.length_cons, List.length_nil]; omega) (one_dg (by omega) (by omega))) (fun v25 w25 p25 => ?_)
 obtain ⟨s25, rfl, os_25, c25⟩ := p25
 have zw25 := c25.size
 refine av rfl rfl (wl_nil (q_n (k21 _ _ ?_)))
 refine sx_seq fun K26 k26 => ?_
 have f27 := os_25
 rw [evs] at f27
 refine sx_region ?_
 refine mv rfl rfl (mv rfl rfl ?_)
 refine sx_lit1 rfl xelt23 rfl rfl (fun s28 ws28 ss28 fs28 cs28 => ?_)
 have ns28 := Own.norm (f := (Value.int .i64)) (zs := [s]) fs28
 have zws28 := cs28.size
 have f29 := f13.ext cs22
 have f31 := (f29.ext c25).ext cs28
 refine sx_call rfl rfl Tryz.call49 (c_natMulS f31 ns28.sv (by omega) (by simp only [List.length_cons, List.length_nil]; omega) (one_dg (by omega) (by omega))) (fun v32 w32 p32 => ?_)
 obtain ⟨s32, rfl, os_32, c32⟩ := p32
 have zw32 := c32.size
 refine av rfl rfl (wl_nil (q_n (k26 _ _ ?_)))
 refine sx_sub (Sub.c 0 rfl (.c 4 rfl (.c 5 rfl (.c 8 rfl (.c 9 rfl (.c 10 rfl .nil)))))) ?_
 refine sx_seq fun K33 k33 => ?_
 refine sx_block ?_
 have f34 := os_32
 rw [evs] at f34
 have hlv := scale_len hn0 hsb.1 hsb.2.2
 have hlu := len_mul m s.toNat
 have hl1 : (dg s.toNat).length ≤ 1 := dg_len_le (by simp only [Bs]; omega)
 have f36 := f27.ext cs28
 have f37 := f36.ext c32
 refine sx_loop (fun mm aa w' => ∃ (su : Value) (us : List Int) (gl : Nat) (gh : Nat), Agr 97 [(0, va), (8, .int .i64 s), (9, su), (10, v32)] aa ∧ Chg ws22.heap.size w32.heap.size w32 w' ∧ Own w' gl gh su intT us.length 1 (us.map (Value.int .i64)) ∧ Own w' ws28.heap.size w32.heap.size v32 intT ((dg (n * s.toNat)).length) 1 ((dg (n * s.toNat)).map (Value.int .i64)) ∧ (mm = (dg m).length + 1 - us.length) ∧ ((gl = ws22.heap.size ∧ gh = w25.heap.size) ∨ w32.heap.size ≤ gl) ∧ (gl ≤ w'.heap.size ∧ gh ≤ w'.heap.size) ∧ (Lm us) ∧ (vl us = m * s.toNat) ∧ (us.length ≤ (dg m).length + 1)) (_) (fun a ha => ⟨v25, dg (m * s.toNat), ws22.heap.size, w25.heap.size, ha.sub (Sub.c 0 rfl (.c 8 rfl (.c 9 rfl (.c 10 rfl .nil)))), Chg.refl _ _ _, f37, f34, rfl, .inl ⟨rfl, rfl⟩, by omega, Lm_dg _, vl_dg _, by omega⟩) ?_
 rintro mm aa wl35 ⟨su, us, gl, gh, hAwl35, cwl35, hs_su, hs_v32, hm, hgl, hgh, hlm, hv, hul⟩
 refine (show cw Tryz.prog 97 _ _ _ wl35 from ?_) aa hAwl35
 clear hAwl35
 have zwl35 := cwl35.size
 refine sx_seq fun K38 k38 => ?_
 refine sx_seq fun K39 k39 => sx_region ?_
 refine mv rfl rfl (sp rfl (px_len rfl Tryz.underlying23 hs_su.sv) ?_)
 refine mv rfl rfl ?_
 have f41 := (f24.ext c25).ext cs28
 have f43 := (f41.ext c32).chg cwl35 (by omega)
 refine sp rfl (px_len rfl Tryz.underlying23 f43) ?_
 refine sp rfl (px_le rfl rfl) ?_
 refine wl_nil (q_n (k39 _ _ ?_))
 refine sx_condP rfl (fun h27 => ?_) (fun h27 => ?_)
 ·
  refine sx_skip ?_
  refine q_n (k38 _ _ ?_)
  refine sx_block ?_
  refine sx_region ?_
  refine mv rfl rfl ?_
  refine sx_lit1 rfl xelt23 rfl rfl (fun s44 ws44 ss44 fs44 cs44 => ?_)
  have ns44 := Own.norm (f := (Value.int .i64)) (zs := [0]) fs44
  have zws44 := cs44.size
  have f46 := hs_su.ext cs44
  refine sx_append2 rfl xelt23 rfl rfl f46 ns44.sv (by simp) one_int (by omega) (by simp only [List.length_cons, List.length_nil]; omega) (by unfold maxLen; simp only [List.length_cons, List.length_nil]; omega) (fun a45 w45 alw45 ahw45 adw45 fw45 cw45 => ?_)
  have nw45 := Own.app (f := (Value.int .i64)) (a := us) (b := [0]) fw45
  have zw45 := cw45.size
  refine av rfl rfl (wl_nil ?_)
  have q47 := Chg.step (l := ws22.heap.size) (h := w32.heap.size) cwl35 cs44 (by omega)
  have q48 := Chg.step (l := ws22.heap.size) (h := w32.heap.size) q47 cw45 (by omega)
  have f49 := hs_v32.ext cs44
  have f50 := f49.chg cw45 (by omega)
  have happ : (us ++ ([0])).length = us.length + 1 := by simp
  exact q_bn (fun a ha => ⟨_, by omega, a45, (us ++ ([0])), alw45, ahw45, ha.sub (Sub.c 0 rfl (.c 8 rfl (.c 9 rfl (.c 10 rfl .nil)))), q48, (nw45.mono (by omega) (by omega)), (f50.mono (by omega) (by omega)), rfl, by omega, by omega, hlm.append (Lm.single (by decide) (by decide)), by rw [vl_concat]; simpa using hv, by simp only [List.length_append, List.length_cons, List.length_nil]; omega⟩)
 refine sx_exit ?_
 refine q_e (q_e (q_bx (q_n (k33 _ _ ?_))))
 refine sx_seq fun K51 k51 => ?_
 have hul2 : us.length = (dg m).length + 1 := by omega
 refine sx_region ?_
 refine mv rfl rfl (sp rfl (px_len rfl Tryz.underlying23 hs_v32.sv) ?_)
 refine av rfl rfl (wl_nil (q_n (k51 _ _ ?_)))
 refine sx_seq fun K52 k52 => sx_region ?_
 refine mv rfl rfl (sp rfl (px_len rfl Tryz.underlying23 hs_su.sv) ?_)
 refine mv rfl rfl (sp rfl (px_sub rfl rfl (by omega)) ?_)
 refine sx_make (c := (us.length - (dg (n * s.toNat)).length)) rfl xelt23 (look_int rfl (by omega)) (look_int rfl (by omega)) (by omega) (by unfold maxLen; omega) (fun s53 ws53 fs53 cs53 ls53 => ?_)
 have ns53 := fs53.made
 have zws53 := cs53.size
 refine av rfl rfl (wl_nil (q_n (k52 _ _ ?_)))
 refine sx_sub (Sub.c 8 rfl (.c 9 rfl (.c 10 rfl (.c 11 rfl (.c 12 rfl .nil))))) ?_
 refine sx_seq fun K54 k54 => ?_
 refine sx_seq fun K55 k55 => ?_
 have hrl : (List.replicate (us.length - (dg (n * s.toNat)).length) (0 : Int)).length = us.length - (dg (n * s.toNat)).length := List.length_replicate
 refine sx_region ?_
 refine mv rfl rfl (sp rfl (px_len rfl Tryz.underlying23 ns53.sv) ?_)
 refine sp rfl (px_sub rfl rfl (by omega)) ?_
 refine av rfl rfl (wl_nil (q_n (k55 _ _ ?_)))
 refine sx_block ?_
 have f57 := hs_su.ext cs53
 have f58 := hs_v32.ext cs53
 refine sx_loop (fun mm aa w' => ∃ (k : Nat) (U : List Int) (qs : List Int), Agr 97 [(8, .int .i64 s), (9, su), (10, v32), (11, .int .i64 (↑(dg (n * s.toNat)).length)), (12, s53), (13, .int .i64 (↑k - 1))] aa ∧ Chg ws22.heap.size ws53.heap.size ws53 w' ∧ Own w' gl gh su intT U.length 1 (U.map (Value.int .i64)) ∧ Own w' wl35.heap.size ws53.heap.size s53 intT qs.length 1 (qs.map (Value.int .i64)) ∧ Own w' ws28.heap.size w32.heap.size v32 intT ((dg (n * s.toNat)).length) 1 ((dg (n * s.toNat)).map (Value.int .i64)) ∧ (mm = k) ∧ (k ≤ ((dg m).length + 1 - (dg n).length)) ∧ (qs.length = ((dg m).length + 1 - (dg n).length)) ∧ (U.length = (dg m).length + 1) ∧ (Lm U) ∧ (Lm qs) ∧ (vl (U.drop k) < n * s.toNat) ∧ (m * s.toNat = vl U + Bs ^ k * (n * s.toNat * vl (qs.drop k)))) (_) (fun a ha => ⟨((dg m).length + 1 - (dg n).length), us, List.replicate (us.length - (dg (n * s.toNat)).length) 0, ha.sub (Sub.c 8 rfl (.c 9 rfl (.c 10 rfl (.c 11 (look_int (t := 11) rfl (by first | omega | (simp only [List.length_replicate]; omega) | simp)) (.c 12 rfl (.c 13 (look_int (t := 13) rfl (by first | omega | (simp only [List.length_replicate]; omega) | simp)) .nil)))))), Chg.refl _ _ _, f57, ns53, f58, rfl, by omega, by rw [List.length_replicate]; omega, by omega, by omega, Lm.replicate _, top_init hul2 rfl rfl (len_pos.2 hn0) (by omega) (by omega) hv, by rw [vl_drop_end (by rw [List.length_replicate]; omega)]; simpa using hv.symm⟩) ?_
 rintro mm aa wl56 ⟨k, U, qs, hAwl56, cwl56, hs_su, hs_s53, hs_v32, hm, hk, hql, hUl, hUm, hQm, htp, hV⟩
 refine (show cw Tryz.prog 97 _ _ _ wl56 from ?_) aa hAwl56
 clear hAwl56
 have zwl56 := cwl56.size
 refine sx_seq fun K59 k59 => ?_
 refine sx_seq fun K60 k60 => sx_region ?_
 refine mv rfl rfl (sp rfl (px_ge rfl rfl) ?_)
 refine wl_nil (q_n (k60 _ _ ?_))
 refine sx_condP rfl (fun h32 => ?_) (fun h32 => ?_)
 ·
  refine sx_skip ?_
  refine q_n (k59 _ _ ?_)
  refine sx_seq fun K61 k61 => ?_
  refine sx_block ?_
  have hw := win_of (j := k - 1) (n := (dg (n * s.toNat)).length) hUm (by omega) (lt_of_dg_len (Nat.le_refl _)) (by rw [Nat.sub_add_cancel (by omega)]; exact htp)
  refine sx_region ?_
  refine mv rfl rfl (mv rfl rfl (mv rfl rfl (mv rfl rfl (mv rfl rfl ?_))))
  refine mv rfl rfl (sp rfl (px_add rfl rfl (by omega)) ?_)
  refine sp rfl (px_add rfl rfl (by omega)) ?_
  obtain ⟨suf62, hw62, hb62⟩ := Own.win hs_su (a := (k - 1)) (b := (k - 1 + (dg (n * s.toNat)).length + 1)) (by omega) (by omega)
  refine sp rfl (px_sliceMid (l := (k - 1)) (h := (k - 1 + (dg (n * s.toNat)).length + 1)) rfl rfl rfl (by omega) (by omega) Tryz.underlying23 Tryz.sizeOf3 hs_su.sv (by omega) (by omega)) ?_
  refine mv rfl rfl (sx_call rfl rfl Tryz.call78 (c_divStep hw62 hs_v32.sv (by omega) (by rw [List.length_take, List.length_drop]; omega) (by omega) (Lm.take (Lm.drop hUm _) _) (Lm_dg _) (dg_getD_pos hpos rfl) (by rw [vl_dg, hw.1]; exact hw.2.1) (by rw [List.length_take, List.length_drop]; omega)) (fun v63 w63 p63 => ?_))
  obtain ⟨os63, rfl, ova_63, hs63, c63⟩ := p63
  have zw63 := c63.size
  have f64 := hb62 _ _ ova_63
  have hol := hs63.2.1
  rw [List.length_take, List.length_drop] at hol
  have hdl := hs63.1
  have hp := div_put (us := U) (qs := qs) (ys := os63) (n := (dg (n * s.toNat)).length) (V := n * s.toNat) (by omega) (by omega) (by omega) rfl hw.2.2 (by omega) (by rw [hs63.2.2, hw.1, vl_dg]) hV
  have hqd : vl ((U.drop (k - 1)).take (k - 1 + (dg (n * s.toNat)).length + 1 - (k - 1))) / vl (dg (n * s.toNat)) < 1000000000 := by rw [hw.1, vl_dg]; exact (Nat.div_lt_iff_lt_mul hpos).2 hw.2.1
  have hqn : (0 : Int) ≤ ((vl ((U.drop (k - 1)).take (k - 1 + (dg (n * s.toNat)).length + 1 - (k - 1))) / vl (dg (n * s.toNat)) : Nat) : Int) := Int.natCast_nonneg _
  have f65 := hs_s53.chg c63 (by omega)
  refine sp rfl (px_index1 (j := (k - 1)) rfl rfl (by omega) Tryz.underlying23 Tryz.sizeOf3 f65.sv (by omega)) ?_
  refine sx_storeO rfl rfl f65 (by first | omega | (simp only [List.length_map]; omega)) Tryz.sizeOf3 rfl (fun w66 sw66 fw66 cw66 => ?_)
  have zw66 := cw66.size
  have nw66 := fw66.set
  refine wl_nil ?_
  refine q_bn (q_n (k61 _ _ ?_))
  refine sx_sub (Sub.c 8 rfl (.c 9 rfl (.c 10 rfl (.c 11 rfl (.c 12 rfl (.c 13 rfl .nil)))))) ?_
  refine sx_region ?_
  refine mv rfl rfl (sp rfl (px_sub rfl rfl (by omega)) ?_)
  refine av rfl rfl (wl_nil ?_)
  have q67 := Chg.step (l := ws22.heap.size) (h := ws53.heap.size) cwl56 c63 (by omega)
  have q68 := Chg.step (l := ws22.heap.size) (h := ws53.heap.size) q67 cw66 (by omega)
  have f69 := f64.chg cw66 (by omega)
  have f71 := (hs_v32.chg c63 (by omega)).chg cw66 (by omega)
  exact fun a ha => ⟨_, by omega, (k - 1), (U.take (k - 1) ++ os63 ++ U.drop (k - 1 + (dg (n * s.toNat)).length + 1)), ((qs).set (k - 1) ((vl ((U.drop (k - 1)).take ((k - 1 + (dg (n * s.toNat)).length + 1) - (k - 1))) / vl (dg (n * s.toNat)) : Nat) : Int)), ha.sub (Sub.c 8 rfl (.c 9 rfl (.c 10 rfl (.c 11 rfl (.c 12 rfl (.c 13 (look_int (t := 13) rfl (by first | omega | (simp only [List.length_replicate]; omega) | simp)) .nil)))))), q68, (f69.mono (by omega) (by omega)), (nw66.mono (by omega) (by omega)), (f71.mono (by omega) (by omega)), rfl, by omega, by rw [List.length_set]; exact hql, by simp only [List.length_append, List.length_take, List.length_drop]; omega, ((hUm.take _).append hdl).append (Lm.drop hUm _), hQm.set _ (by omega) (by omega), by rw [hp.1]; exact Nat.mod_lt _ hpos, by rw [hw.1, vl_dg]; exact hp.2⟩
 refine sx_exit ?_
 refine q_e (q_e (q_bx (q_n (k54 _ _ ?_))))
 refine sx_seq fun K72 k72 => ?_
 have ek : k = 0 := by omega
 subst ek
 rw [List.drop_zero] at hV htp
 have hse := scaled_end (s := s.toNat) (by omega) hn0 hV htp
 have e1 : vl U / s.toNat = m % n := by rw [hse.2, Nat.mul_div_cancel _ (by omega)]
 refine sx_region ?_
 refine mv rfl rfl (sx_call rfl rfl Tryz.call69 (c_trim hs_su (by assumption) (by first | omega | (simp only [List.length_append, List.length_set, List.length_replicate, List.length_cons, List.length_nil] at *; omega))) (fun v73 w73 p73 => ?_))
 obtain ⟨s73, rfl, os_73, c73⟩ := p73
 have zw73 := c73.size
 refine mv rfl rfl (sx_call rfl rfl Tryz.call76 (c_natSmall os_73.sv (Nat.le_trans (dg_len_le (vl_lt hUm)) (by omega)) (by omega)) (fun v74 w74 p74 => ?_))
 obtain ⟨s74, rfl, os_74, c74⟩ := p74
 have zw74 := c74.size
 refine mv rfl rfl (sp rfl (px_ex2 rfl rfl) ?_)
 refine sp rfl (px_ex2 rfl rfl) ?_
 refine av rfl rfl (av rfl rfl (wl_nil (q_n (k72 _ _ ?_))))
 refine sx_sub (Sub.c 12 rfl (.c 14 rfl .nil)) ?_
 refine sx_seq fun K75 k75 => sx_region ?_
 refine mv rfl rfl ?_
 have f77 := (hs_s53.ext c73).ext c74
 refine sx_call rfl rfl Tryz.call69 (c_trim f77 (by assumption) (by first | omega | (simp only [List.length_append, List.length_set, List.length_replicate, List.length_cons, List.length_nil] at *; omega))) (fun v78 w78 p78 => ?_)
 obtain ⟨s78, rfl, os_78, c78⟩ := p78
 have zw78 := c78.size
 refine mv rfl rfl (av rfl rfl (av rfl rfl (wl_nil (q_n (k75 _ _ ?_)))))
 refine sx_retc ?_
 refine sx_ret2 Tryz.results40 rfl rfl ?_
 have r1 := os_78
 have f79 := os_74.ext c78
 have r2 := f79
 rw [hse.1] at r1
 rw [e1] at r2
 have q80 := Chg.step (l := 0) (h := 0) (Chg.zero (l := 0) (h := 0) ((((c4.t cs22).t c25).t cs28).t c32)) cwl35 (by omega)
 have q81 := Chg.step (l := 0) (h := 0) q80 cs53 (by omega)
 have q82 := Chg.step (l := 0) (h := 0) q81 cwl56 (by omega)
 have q83 := Chg.step (l := 0) (h := 0) q82 ((c73.t c74).t c78) (by omega)
 exact ⟨_, _, rfl, r1.mono (by omega) (by omega), r2.mono (by omega) (by omega), q83⟩

theorem c_natGcd {w : World} {va : Value} {lva uva : Nat} {m : Nat} {vb : Value} {lvb uvb : Nat} {n : Nat} (hva : Sl w lva uva va (dg m)) (hvb : Sl w lvb uvb vb (dg n)) (hbm : (dg m).length ≤ 400) (hbn : (dg n).length ≤ 400) :
  Ret Tryz.prog 80 [va, vb] w fun v w' => ∃ s, v = s ∧ OwnI w' w.heap.size w'.heap.size s intT (dg (Nat.gcd m n)) ∧ Chg 0 0 w w' := by
 have hva0 := hva.fit
 have hvb0 := hvb.fit
 refine sx_enter Tryz.func80 rfl Tryz.ntmps80 (nbl rfl) ?_
 refine sx_seq fun K1 k1 => sx_region ?_
 refine av rfl rfl (wl_nil (q_n (k1 _ _ ?_)))
 refine sx_seq fun K2 k2 => ?_
 refine sx_block ?_
 refine sx_loop (fun mm aa w' => ∃ (xa : Value) (xb : Value) (m2 : Nat) (n2 : Nat), Agr 20 [(0, xa), (1, xb)] aa ∧ Chg 0 0 w w' ∧ Sv w' 0 w'.heap.size xa ((dg m2).length) 1 ((dg m2).map (Value.int .i64)) ∧ Sv w' 0 w'.heap.size xb ((dg n2).length) 1 ((dg n2).map (Value.int .i64)) ∧ (mm = n2) ∧ (Nat.gcd m2 n2 = Nat.gcd m n) ∧ ((dg m2).length ≤ 400 ∧ (dg n2).length ≤ 400)) (_) (fun a ha => ⟨va, vb, m, n, ha.sub (Sub.c 0 rfl (.c 1 rfl .nil)), Chg.refl _ _ _, (hva0.mono (by omega) (by omega)), (hvb0.mono (by omega) (by omega)), rfl, rfl, by omega⟩) ?_
 rintro mm aa wl3 ⟨xa, xb, m2, n2, hAwl3, cwl3, hs_xa, hs_xb, hm, hg, hl2⟩
 refine (show cw Tryz.prog 20 _ _ _ wl3 from ?_) aa hAwl3
 clear hAwl3
 have zwl3 := cwl3.size
 refine sx_seq fun K4 k4 => ?_
 refine sx_seq fun K5 k5 => sx_region ?_
 refine mv rfl rfl (sp rfl (px_len rfl Tryz.underlying23 hs_xb) ?_)
 refine sp rfl (px_gt rfl rfl) ?_
 refine wl_nil (q_n (k5 _ _ ?_))
 refine sx_condP rfl (fun h91 => ?_) (fun h91 => ?_)
 ·
  have hn0 : 0 < n2 := len_pos.1 (by omega)
  refine sx_skip ?_
  refine q_n (k4 _ _ ?_)
  refine sx_block ?_
  refine sx_seq fun K6 k6 => sx_region ?_
  refine mv rfl rfl (mv rfl rfl (sx_call rfl rfl Tryz.call40 (c_natDiv hs_xa hs_xb (by omega) (by omega) (by omega)) (fun v7 w7 p7 => ?_)))
  obtain ⟨s7, t7, rfl, os_7, ot_7, c7⟩ := p7
  have zw7 := c7.size
  refine mv rfl rfl (sp rfl (px_ex2 rfl rfl) ?_)
  refine sp rfl (px_ex2 rfl rfl) ?_
  refine av rfl rfl (av rfl rfl (wl_nil (q_n (k6 _ _ ?_))))
  refine sx_region ?_
  refine mv rfl rfl (mv rfl rfl (av rfl rfl (av rfl rfl (wl_nil ?_))))
  have f8 := hs_xb.ext c7
  have hml := Nat.mod_lt m2 hn0
  have hll := len_mod (m := m2) hn0
  exact q_bn (fun a ha => ⟨_, by omega, xb, t7, n2, (m2 % n2), ha.sub (Sub.c 0 rfl (.c 1 rfl .nil)), (cwl3.t c7), (f8.mono (by omega) (by omega)), (ot_7.sv.mono (by omega) (by omega)), rfl, gcd_next.trans hg, by omega⟩)
 refine sx_exit ?_
 refine q_e (q_e (q_bx (q_n (k2 _ _ ?_))))
 refine sx_seq fun K9 k9 => sx_region ?_
 refine mv rfl rfl (sx_call rfl rfl Tryz.call75 (c_natCopy hs_xa (by omega)) (fun v10 w10 p10 => ?_))
 obtain ⟨s10, rfl, os_10, c10⟩ := p10
 have zw10 := c10.size
 refine av rfl rfl (wl_nil (q_n (k9 _ _ ?_)))
 refine sx_retc ?_
 refine sx_ret1 Tryz.results80 rfl ?_
 have e0 : n2 = 0 := len_zero.1 (by omega)
 subst e0
 rw [Nat.gcd_zero_right] at hg
 rw [← hg]
 exact ⟨_, rfl, (Own.mono os_10 (by omega) (by omega)), (cwl3.t c10)⟩

theorem c_reduce {w : World} {n : Bool} {va : Value} {lva uva : Nat} {m : Nat} {vb : Value} {lvb uvb : Nat} {d : Nat} (hva : Sl w lva uva va (dg m)) (hvb : Sl w lvb uvb vb (dg d)) (hbm : (dg m).length ≤ 400) (hbd : (dg d).length ≤ 400) (hd0 : 0 < d) :
  Ret Tryz.prog 43 [.agg #[.bool n, va], vb] w fun v w' => ∃ s t ls us lt ut, v = .tuple #[.agg #[.bool ((rR (sgI n m) d).1), s, t], .bool ((rR (sgI n m) d).2.2.2)] ∧ OwnI w' (ls) (us) s intT ((rR (sgI n m) d).2.1) ∧ OwnI w' (lt) (ut) t intT ((rR (sgI n m) d).2.2.1) ∧ (w.heap.size ≤ ls ∧ us ≤ w'.heap.size ∧ w.heap.size ≤ lt ∧ ut ≤ w'.heap.size ∧ (us ≤ lt ∨ ut ≤ ls)) ∧ ((rR (sgI n m) d).2.1.length ≤ 18 ∧ (rR (sgI n m) d).2.2.1.length ≤ 18) ∧ Chg 0 0 w w' := by
 have hva0 := hva.fit
 have hvb0 := hvb.fit
 have hgp := gcd_pos_r (m := m) hd0
 have lg := gcd_le_left (m := m) (n := d) (k := max (dg m).length (dg d).length) (by omega) (by omega)
 have lq1 := len_div m (Nat.gcd m d)
 have lq2 := len_div d (Nat.gcd m d)
 refine sx_enter Tryz.func43 rfl Tryz.ntmps43 (nbl rfl) ?_
 refine sx_seq fun K1 k1 => sx_region ?_
 refine sx_box [.bool n, va] rfl rfl rfl (fun b2 w3 eb2 sb2 fb2 cb2 => ?_)
 have zw3 := cb2.size
 refine sx_alloc [.bool false, (.slice none 0 0), (.slice none 0 0)] rfl Tryz.zeroValue37 rfl (fun b4 w5 eb4 sb4 fb4 cb4 => ?_)
 have zw5 := cb4.size
 refine av rfl rfl (wl_nil (q_n (k1 _ _ ?_)))
 refine sx_seq fun K6 k6 => sx_region ?_
 refine sp rfl (px_field rfl xfld25x1) ?_
 have f7 := fb2.ext cb4
 refine sp rfl (px_load rfl (f7.load1 rfl Tryz.isAgg23)) ?_
 refine mv rfl rfl ?_
 have f8 := hva0.ext cb2
 have f9 := f8.ext cb4
 have f10 := hvb0.ext cb2
 have f11 := f10.ext cb4
 refine sx_call rfl rfl Tryz.call80 (c_natGcd f9 f11 (by omega) (by omega)) (fun v12 w12 p12 => ?_)
 obtain ⟨s12, rfl, os_12, c12⟩ := p12
 have zw12 := c12.size
 refine av rfl rfl (wl_nil (q_n (k6 _ _ ?_)))
 refine sx_seq fun K13 k13 => sx_region ?_
 refine sp rfl (px_field rfl xfld25x1) ?_
 have f14 := f7.ext c12
 refine sp rfl (px_load rfl (f14.load1 rfl Tryz.isAgg23)) ?_
 refine mv rfl rfl ?_
 have f15 := f9.ext c12
 refine sx_call rfl rfl Tryz.call40 (c_natDiv f15 os_12.sv (by omega) (by omega) (hgp)) (fun v16 w16 p16 => ?_)
 obtain ⟨s16, t16, rfl, os_16, ot_16, c16⟩ := p16
 have zw16 := c16.size
 refine mv rfl rfl (sp rfl (px_ex2 rfl rfl) ?_)
 refine sp rfl (px_ex2 rfl rfl) ?_
 refine av rfl rfl (av rfl rfl (wl_nil (q_n (k13 _ _ ?_))))
 refine sx_sub (Sub.c 1 rfl (.c 2 rfl (.c 4 rfl (.c 5 rfl (.c 6 rfl (.c 7 rfl .nil)))))) ?_
 refine sx_seq fun K17 k17 => sx_region ?_
 refine mv rfl rfl (mv rfl rfl ?_)
 have f19 := (f11.ext c12).ext c16
 have f20 := os_12.ext c16
 refine sx_call rfl rfl Tryz.call40 (c_natDiv f19 f20.sv (by omega) (by omega) (hgp)) (fun v21 w21 p21 => ?_)
 obtain ⟨s21, t21, rfl, os_21, ot_21, c21⟩ := p21
 have zw21 := c21.size
 refine mv rfl rfl (sp rfl (px_ex2 rfl rfl) ?_)
 refine sp rfl (px_ex2 rfl rfl) ?_
 refine av rfl rfl (av rfl rfl (wl_nil (q_n (k17 _ _ ?_))))
 refine sx_seq fun K22 k22 => ?_
 refine sx_seq fun K23 k23 => sx_region ?_
 refine mv rfl rfl ?_
 have f24 := os_16.ext c21
 refine sp rfl (px_len rfl Tryz.underlying23 f24.sv) ?_
 refine sp rfl (px_gt rfl rfl) ?_
 refine mv rfl rfl ?_
 refine sx_tmpP (t := 31) rfl (fun h26 => ?_) (fun h26 => ?_)
 ·
  refine sx_guardF rfl rfl rfl rfl rfl rfl ?_
  refine sx_guardF rfl rfl rfl rfl rfl rfl ?_
  refine sx_guardF rfl rfl rfl rfl rfl rfl ?_
  refine sp rfl (px_pick rfl rfl) ?_
  refine wl_nil (q_n (k23 _ _ ?_))
  refine sx_sub (Sub.c 2 rfl (.c 4 rfl (.c 5 rfl (.c 7 rfl (.c 9 rfl (.c 35 rfl .nil)))))) ?_
  refine sx_condT rfl ?_
  refine sx_seq fun K25 k25 => sx_region ?_
  refine sp rfl (px_build rfl (xbld37x  _)) ?_
  have f29 := ((fb4.ext c12).ext c16).ext c21
  refine sx_store (vs := [.bool false, (.slice none 0 0), (.slice none 0 0)]) rfl rfl f29 rfl Tryz.sizeOf37 (nbl rfl) (o3 rfl rfl rfl) (fun w26 sw26 fw26 cw26 => ?_)
  have zw26 := cw26.size
  have gw26 : Blk w26 b4 [.bool false, (.slice none 0 0), (.slice none 0 0)] 37 := fw26
  refine av rfl rfl (wl_nil (q_n (k25 _ _ ?_)))
  refine sx_retc ?_
  refine q_r (sx_ret2 Tryz.results43 ⟨_, rfl, gw26.loadA (vs := [.bool false, (.slice none 0 0), (.slice none 0 0)]) (look_lit rfl) Tryz.isAgg37 Tryz.sizeOf37⟩ rfl ?_)
  rw [rR_no (fun h => by omega)]
  have q30 := Chg.step (l := 0) (h := 0) (Chg.zero (l := 0) (h := 0) ((((cb2.t cb4).t c12).t c16).t c21)) cw26 (by omega)
  exact ⟨_, _, w.heap.size, w.heap.size, w.heap.size, w.heap.size, rfl, Own.nil _ _ _ _ _, Own.nil _ _ _ _ _, by omega, ⟨by simp [noR], by simp [noR]⟩, q30⟩
 refine sx_guardT rfl rfl rfl ?_
 refine mv rfl rfl ?_
 refine sx_guardT rfl rfl rfl ?_
 refine sp rfl (px_len rfl Tryz.underlying23 os_21.sv) ?_
 refine sx_guardT rfl rfl rfl ?_
 refine sp rfl (px_gt rfl rfl) ?_
 refine sp rfl (px_pick rfl rfl) ?_
 refine wl_nil (q_n (k23 _ _ ?_))
 refine sx_sub (Sub.c 2 rfl (.c 4 rfl (.c 5 rfl (.c 7 rfl (.c 9 rfl (.c 35 rfl .nil)))))) ?_
 refine sx_condP rfl (fun h26x1 => ?_) (fun h26x1 => ?_)
 ·
  refine sx_seq fun K31 k31 => sx_region ?_
  refine sp rfl (px_build rfl (xbld37x  _)) ?_
  have f35 := ((fb4.ext c12).ext c16).ext c21
  refine sx_store (vs := [.bool false, (.slice none 0 0), (.slice none 0 0)]) rfl rfl f35 rfl Tryz.sizeOf37 (nbl rfl) (o3 rfl rfl rfl) (fun w32 sw32 fw32 cw32 => ?_)
  have zw32 := cw32.size
  have gw32 : Blk w32 b4 [.bool false, (.slice none 0 0), (.slice none 0 0)] 37 := fw32
  refine av rfl rfl (wl_nil (q_n (k31 _ _ ?_)))
  refine sx_retc ?_
  refine q_r (sx_ret2 Tryz.results43 ⟨_, rfl, gw32.loadA (vs := [.bool false, (.slice none 0 0), (.slice none 0 0)]) (look_lit rfl) Tryz.isAgg37 Tryz.sizeOf37⟩ rfl ?_)
  rw [rR_no (fun h => by omega)]
  have q36 := Chg.step (l := 0) (h := 0) (Chg.zero (l := 0) (h := 0) ((((cb2.t cb4).t c12).t c16).t c21)) cw32 (by omega)
  exact ⟨_, _, w.heap.size, w.heap.size, w.heap.size, w.heap.size, rfl, Own.nil _ _ _ _ _, Own.nil _ _ _ _ _, by omega, ⟨by simp [noR], by simp [noR]⟩, q36⟩
 refine sx_skip ?_
 refine q_n (k22 _ _ ?_)
 refine sx_seq fun K37 k37 => sx_region ?_
 refine sp rfl (px_field rfl xfld25x0) ?_
 have f39 := (f14.ext c16).ext c21
 refine sp rfl (px_load rfl (f39.load1 rfl Tryz.isAgg4)) ?_
 refine mv rfl rfl (sx_call rfl rfl Tryz.call33 (c_signed f24.sv (by omega)) (fun v40 w40 p40 => ?_))
 obtain ⟨rfl, c40⟩ := p40
 have zw40 := c40.size
 refine mv rfl rfl ?_
 have f41 := os_21.ext c40
 refine sp rfl (px_build rfl (xbld37x0x1 f41.one _)) ?_
 have f46 := (((fb4.ext c12).ext c16).ext c21).ext c40
 have f47 := f24.ext c40
 refine sx_store (vs := [.bool (nz n (dg (m / (Nat.gcd m d)))), s16, s21]) rfl rfl f46 rfl Tryz.sizeOf37 (nbl rfl) (one_cons rfl (one_cons f47.one (one_cons f41.one one_nil))) (fun w42 sw42 fw42 cw42 => ?_)
 have zw42 := cw42.size
 have gw42 : Blk w42 b4 [.bool (nz n (dg (m / (Nat.gcd m d)))), s16, s21] 37 := fw42
 refine av rfl rfl (wl_nil (q_n (k37 _ _ ?_)))
 refine sx_retc ?_
 refine sx_ret2 Tryz.results43 ⟨_, rfl, gw42.loadA (vs := [.bool (nz n (dg (m / (Nat.gcd m d)))), s16, s21]) (look_lit rfl) Tryz.isAgg37 Tryz.sizeOf37⟩ rfl ?_
 have hrl := rR_len (x := sgI n m) (d := d)
 rw [rR_ok hd0 (by omega) (by omega)] at hrl ⊢
 have q48 := Chg.step (l := 0) (h := 0) (Chg.zero (l := 0) (h := 0) (((((cb2.t cb4).t c12).t c16).t c21).t c40)) cw42 (by omega)
 have f49 := f47.chg cw42 (by omega)
 have f50 := f41.chg cw42 (by omega)
 exact ⟨_, _, _, _, _, _, rfl, f49, f50, by omega, hrl, q48⟩

theorem c_iRatMake {w : World} {n1 : Bool} {v1 : Value} {lv1 uv1 : Nat} {z1 : List Int} {n2 : Bool} {v2 : Value} {lv2 uv2 : Nat} {z2 : List Int} (hv1 : Sl w lv1 uv1 v1 (z1)) (hv2 : Sl w lv2 uv2 v2 (z2)) (h63 : z1.length ≤ 4611686018427387904 ∧ z2.length ≤ 4611686018427387904) :
  Ret Tryz.prog 94 [.agg #[.bool n1, v1], .agg #[.bool n2, v2]] w fun v w' => ∃ s t ls us lt ut, v = .tuple #[.agg #[.bool ((rMake n1 z1 n2 z2).1), s, t], .bool ((rMake n1 z1 n2 z2).2.2.2)] ∧ OwnI w' (ls) (us) s intT ((rMake n1 z1 n2 z2).2.1) ∧ OwnI w' (lt) (ut) t intT ((rMake n1 z1 n2 z2).2.2.1) ∧ (w.heap.size ≤ ls ∧ us ≤ w'.heap.size ∧ w.heap.size ≤ lt ∧ ut ≤ w'.heap.size ∧ (us ≤ lt ∨ ut ≤ ls)) ∧ ((rMake n1 z1 n2 z2).2.1.length ≤ 18 ∧ (rMake n1 z1 n2 z2).2.2.1.length ≤ 18) ∧ Chg 0 0 w w' := by
 have hv10 := hv1.fit
 have hv20 := hv2.fit
 refine sx_enter Tryz.func94 rfl Tryz.ntmps94 (nbl rfl) ?_
 refine sx_seq fun K1 k1 => sx_region ?_
 refine sx_box [.bool n1, v1] rfl rfl rfl (fun b2 w3 eb2 sb2 fb2 cb2 => ?_)
 have zw3 := cb2.size
 refine sx_box [.bool n2, v2] rfl rfl rfl (fun b4 w5 eb4 sb4 fb4 cb4 => ?_)
 have zw5 := cb4.size
 refine sx_alloc [.bool false, (.slice none 0 0), (.slice none 0 0)] rfl Tryz.zeroValue37 rfl (fun b6 w7 eb6 sb6 fb6 cb6 => ?_)
 have zw7 := cb6.size
 refine av rfl rfl (wl_nil (q_n (k1 _ _ ?_)))
 refine sx_seq fun K8 k8 => ?_
 refine sx_seq fun K9 k9 => sx_region ?_
 have f10 := fb2.ext cb4
 have f11 := f10.ext cb6
 refine sp rfl (px_load rfl (f11.loadA (vs := [.bool n1, v1]) (look_lit rfl) Tryz.isAgg25 Tryz.sizeOf25)) ?_
 have f12 := fb4.ext cb6
 refine sp rfl (px_load rfl (f12.loadA (vs := [.bool n2, v2]) (look_lit rfl) Tryz.isAgg25 Tryz.sizeOf25)) ?_
 have f13 := hv10.ext cb2
 have f14 := f13.ext cb4
 have f15 := f14.ext cb6
 have f16 := hv20.ext cb2
 have f17 := f16.ext cb4
 have f18 := f17.ext cb6
 refine sx_call rfl rfl Tryz.call118 (c_intsOk f15 f18 (by omega)) (fun v19 w19 p19 => ?_)
 obtain ⟨rfl, c19⟩ := p19
 have zw19 := c19.size
 refine sp rfl (px_notP rfl) ?_
 refine mv rfl rfl ?_
 refine sx_tmpP (t := 10) rfl (fun h37 => ?_) (fun h37 => ?_)
 ·
  refine sx_guardF rfl rfl rfl rfl rfl rfl ?_
  refine sx_guardF rfl rfl rfl rfl rfl rfl ?_
  refine sx_guardF rfl rfl rfl rfl rfl rfl ?_
  refine sx_guardF rfl rfl rfl rfl rfl rfl ?_
  refine sp rfl (px_pick rfl rfl) ?_
  refine wl_nil (q_n (k9 _ _ ?_))
  refine sx_sub (Sub.c 2 rfl (.c 3 rfl (.c 4 rfl (.c 5 rfl (.c 15 rfl .nil))))) ?_
  refine sx_condT rfl ?_
  refine sx_seq fun K20 k20 => sx_region ?_
  refine sp rfl (px_build rfl (xbld37x  _)) ?_
  have f22 := fb6.ext c19
  refine sx_store (vs := [.bool false, (.slice none 0 0), (.slice none 0 0)]) rfl rfl f22 rfl Tryz.sizeOf37 (nbl rfl) (o3 rfl rfl rfl) (fun w21 sw21 fw21 cw21 => ?_)
  have zw21 := cw21.size
  have gw21 : Blk w21 b6 [.bool false, (.slice none 0 0), (.slice none 0 0)] 37 := fw21
  refine av rfl rfl (wl_nil (q_n (k20 _ _ ?_)))
  refine sx_retc ?_
  refine q_r (sx_ret2 Tryz.results94 ⟨_, rfl, gw21.loadA (vs := [.bool false, (.slice none 0 0), (.slice none 0 0)]) (look_lit rfl) Tryz.isAgg37 Tryz.sizeOf37⟩ rfl ?_)
  first | rw [rMake_no (by assumption)] | rw [rMake_ok hI.1 hI.2, rR_zero (len_zero.1 (by omega))]
  have q23 := Chg.step (l := 0) (h := 0) (Chg.zero (l := 0) (h := 0) (((cb2.t cb4).t cb6).t c19)) cw21 (by omega)
  exact ⟨_, _, w.heap.size, w.heap.size, w.heap.size, w.heap.size, rfl, Own.nil _ _ _ _ _, Own.nil _ _ _ _ _, by omega, ⟨by simp [noR], by simp [noR]⟩, q23⟩
 have hI := Decidable.not_not.1 h37
 obtain ⟨x1, rfl, rfl, hx1⟩ := hI.1.int
 obtain ⟨x2, rfl, rfl, hx2⟩ := hI.2.int
 refine sx_guardT rfl rfl rfl ?_
 refine sp rfl (px_field rfl xfld25x1) ?_
 refine sx_guardT rfl rfl rfl ?_
 have f24 := f12.ext c19
 refine sp rfl (px_load rfl (f24.load1 rfl Tryz.isAgg23)) ?_
 refine sx_guardT rfl rfl rfl ?_
 have f25 := f18.ext c19
 refine sp rfl (px_len rfl Tryz.underlying23 f25) ?_
 refine sx_guardT rfl rfl rfl ?_
 refine sp rfl (px_eq rfl rfl) ?_
 refine sp rfl (px_pick rfl rfl) ?_
 refine wl_nil (q_n (k9 _ _ ?_))
 refine sx_sub (Sub.c 2 rfl (.c 3 rfl (.c 4 rfl (.c 5 rfl (.c 15 rfl .nil))))) ?_
 refine sx_condP rfl (fun h37x1 => ?_) (fun h37x1 => ?_)
 ·
  refine sx_seq fun K26 k26 => sx_region ?_
  refine sp rfl (px_build rfl (xbld37x  _)) ?_
  have f28 := fb6.ext c19
  refine sx_store (vs := [.bool false, (.slice none 0 0), (.slice none 0 0)]) rfl rfl f28 rfl Tryz.sizeOf37 (nbl rfl) (o3 rfl rfl rfl) (fun w27 sw27 fw27 cw27 => ?_)
  have zw27 := cw27.size
  have gw27 : Blk w27 b6 [.bool false, (.slice none 0 0), (.slice none 0 0)] 37 := fw27
  refine av rfl rfl (wl_nil (q_n (k26 _ _ ?_)))
  refine sx_retc ?_
  refine q_r (sx_ret2 Tryz.results94 ⟨_, rfl, gw27.loadA (vs := [.bool false, (.slice none 0 0), (.slice none 0 0)]) (look_lit rfl) Tryz.isAgg37 Tryz.sizeOf37⟩ rfl ?_)
  first | rw [rMake_no (by assumption)] | rw [rMake_ok hI.1 hI.2, rR_zero (len_zero.1 (by omega))]
  have q29 := Chg.step (l := 0) (h := 0) (Chg.zero (l := 0) (h := 0) (((cb2.t cb4).t cb6).t c19)) cw27 (by omega)
  exact ⟨_, _, w.heap.size, w.heap.size, w.heap.size, w.heap.size, rfl, Own.nil _ _ _ _ _, Own.nil _ _ _ _ _, by omega, ⟨by simp [noR], by simp [noR]⟩, q29⟩
 refine sx_skip ?_
 refine q_n (k8 _ _ ?_)
 refine sx_seq fun K30 k30 => ?_
 have f31 := f11.ext c19
 refine dx_region (fun w' => Chg b6 (b6 + 1) w19 w') (by kernel_rfl) (Chg.zero (Chg.drew _)) ?_
 have d33 := Chg.drew w19
 have s33 : Chg b6 (b6 + 1) w19 (World.drew w19) := Chg.zero (Chg.drew _)
 have y33 : (World.drew w19).heap.size = w19.heap.size := rfl
 generalize World.drew w19 = w33 at *
 have zw33 := d33.size
 refine dt 0 rfl rfl rfl rfl s33 (fun _ hS => px_field rfl xfld25x0) ?_
 refine dt 1 rfl rfl rfl rfl s33 (fun _ hS => px_load rfl ((f31.chg hS (by omega)).load1 rfl Tryz.isAgg4)) ?_
 refine dt 2 rfl rfl rfl rfl s33 (fun _ hS => px_field rfl xfld25x0) ?_
 refine dt 3 rfl rfl rfl rfl s33 (fun _ hS => px_load rfl ((f24.chg hS (by omega)).load1 rfl Tryz.isAgg4)) ?_
 refine dt 4 rfl rfl rfl rfl s33 (fun _ hS => px_neB Tryz.underlying4 rfl rfl) ?_
 refine dt 5 rfl rfl rfl rfl s33 (fun _ hS => px_field rfl xfld25x1) ?_
 refine dt 6 rfl rfl rfl rfl s33 (fun _ hS => px_load rfl ((f31.chg hS (by omega)).load1 rfl Tryz.isAgg23)) ?_
 refine dt 8 rfl rfl rfl rfl s33 (fun _ hS => px_field rfl xfld25x1) ?_
 refine dt 9 rfl rfl rfl rfl s33 (fun _ hS => px_load rfl ((f24.chg hS (by omega)).load1 rfl Tryz.isAgg23)) ?_
 refine dx_eff 7 rfl (by kernel_rfl) ?_
 have f34 := (f15.ext c19).ext d33
 refine sx_call rfl rfl Tryz.call33 (c_signed f34 (by omega)) (fun v35 w35 p35 => ?_)
 obtain ⟨rfl, c35⟩ := p35
 have zw35 := c35.size
 have s36 : Chg b6 (b6 + 1) w19 w35 := (Chg.zero (l := b6) (h := (b6 + 1)) (d33.t c35))
 refine wl_nil ?_
 refine dx_next s36 ?_
 refine dx_eff 10 rfl (by kernel_rfl) ?_
 have f37 := f34.ext c35
 have f39 := (f25.ext d33).ext c35
 refine sx_call rfl rfl Tryz.call43 (c_reduce f37 f39 (by omega) (by omega) (len_pos.1 (by omega))) (fun v40 w40 p40 => ?_)
 obtain ⟨s40, t40, ls40, us40, lt40, ut40, rfl, os_40, ot_40, hd40, hl40, c40⟩ := p40
 have zw40 := c40.size
 have s41 : Chg b6 (b6 + 1) w19 w40 := (Chg.zero (l := b6) (h := (b6 + 1)) ((d33.t c35).t c40))
 refine wl_nil ?_
 refine dx_next s41 ?_
 refine dt 11 rfl rfl rfl rfl s41 (fun _ hS => px_ex2 rfl rfl) ?_
 refine dt 12 rfl rfl rfl rfl s41 (fun _ hS => px_ex2 rfl rfl) ?_
 refine dx_eff 13 rfl (by kernel_rfl) ?_
 have f46 := (((fb6.ext c19).ext d33).ext c35).ext c40
 refine sx_store (vs := [.bool ((rR (sgI (nz ((ng x1) != (ng x2)) (dg x1.natAbs)) x1.natAbs) x2.natAbs).1), s40, t40]) rfl rfl f46 rfl Tryz.sizeOf37 (nbl rfl) (one_cons rfl (one_cons os_40.one (one_cons ot_40.one one_nil))) (fun w42 sw42 fw42 cw42 => ?_)
 have zw42 := cw42.size
 have gw42 : Blk w42 b6 [.bool ((rR (sgI (nz ((ng x1) != (ng x2)) (dg x1.natAbs)) x1.natAbs) x2.natAbs).1), s40, t40] 37 := fw42
 have q48 := Chg.step (l := b6) (h := (b6 + 1)) (Chg.zero (l := b6) (h := (b6 + 1)) ((d33.t c35).t c40)) cw42 (by omega)
 have s47 : Chg b6 (b6 + 1) w19 w42 := q48
 refine wl_nil ?_
 refine dx_next s47 ?_
 refine dt 14 rfl rfl rfl rfl s47 (fun _ hS => px_assign rfl) ?_
 refine dx_done (by kernel_rfl) ?_
 refine q_n (k30 _ _ ?_)
 refine sx_sub (Sub.c 4 rfl (.c 5 rfl .nil)) ?_
 refine sx_retc ?_
 refine sx_ret2 Tryz.results94 ⟨_, rfl, gw42.loadA (vs := [.bool ((rR (sgI (nz ((ng x1) != (ng x2)) (dg x1.natAbs)) x1.natAbs) x2.natAbs).1), s40, t40]) (look_lit rfl) Tryz.isAgg37 Tryz.sizeOf37⟩ rfl ?_
 have hrl := rMake_len (n1 := ng x1) (z1 := dg x1.natAbs) (n2 := ng x2) (z2 := dg x2.natAbs)
 have hre : rMake (ng x1) (dg x1.natAbs) (ng x2) (dg x2.natAbs) = rR (sgI (nz (ng x1 != ng x2) (dg x1.natAbs)) x1.natAbs) x2.natAbs := by rw [rMake_ok hI.1 hI.2, sgI_nz]
 rw [hre] at hrl ⊢
 have q49 := Chg.step (l := 0) (h := 0) (Chg.zero (l := 0) (h := 0) ((((((cb2.t cb4).t cb6).t c19).t d33).t c35).t c40)) cw42 (by omega)
 have f50 := os_40.chg cw42 (by omega)
 have f51 := ot_40.chg cw42 (by omega)
 exact ⟨_, _, _, _, _, _, rfl, f50, f51, by omega, hrl, q49⟩

theorem c_iRatMakeH {w : World} {va : Value} {lva uva : Nat} {x : Int} {vb : Value} {lvb uvb : Nat} {y : Int} (hva : Sl w lva uva va (dg x.natAbs)) (hvb : Sl w lvb uvb vb (dg y.natAbs)) (hx : x = 1 ∧ y = 2) :
  Ret Tryz.prog 94 [.agg #[.bool (ng x), va], .agg #[.bool (ng y), vb]] w fun v w' => ∃ s t ls us lt ut, v = .tuple #[.agg #[.bool (ng (1 : Int)), s, t], .bool (true)] ∧ OwnI w' (ls) (us) s intT (dg (1 : Int).natAbs) ∧ OwnI w' (lt) (ut) t intT (dg 2) ∧ (w.heap.size ≤ ls ∧ us ≤ w'.heap.size ∧ w.heap.size ≤ lt ∧ ut ≤ w'.heap.size ∧ (us ≤ lt ∨ ut ≤ ls)) ∧ Chg 0 0 w w' := by
 obtain ⟨rfl, rfl⟩ := hx; have hl : ∀ n, n < 3 → (dg n).length ≤ 1 := fun n h => dg_len_le (by simp only [Bs]; omega)
 have h := c_iRatMake (n1 := ng 1) (n2 := ng 2) hva hvb ⟨Nat.le_trans (hl _ (by decide)) (by decide), Nat.le_trans (hl _ (by decide)) (by decide)⟩; rw [rMake_half] at h
 exact Calls.mono h fun ev w' ⟨v, he, s, t, ls, us, lt, ut, e1, o1, o2, hd, _, hc⟩ => ⟨v, he, s, t, ls, us, lt, ut, e1, o1, o2, hd, hc⟩

theorem c_iRatInt {w : World} {n1 : Bool} {v1 : Value} {lv1 uv1 : Nat} {z1 : List Int} (hv1 : Sl w lv1 uv1 v1 (z1)) (h63 : z1.length ≤ 4611686018427387904) :
  Ret Tryz.prog 60 [.agg #[.bool n1, v1]] w fun v w' => ∃ s t ls us lt ut, v = .tuple #[.agg #[.bool ((rInt n1 z1).1), s, t], .bool ((rInt n1 z1).2.2.2)] ∧ OwnI w' (ls) (us) s intT ((rInt n1 z1).2.1) ∧ OwnI w' (lt) (ut) t intT ((rInt n1 z1).2.2.1) ∧ (w.heap.size ≤ ls ∧ us ≤ w'.heap.size ∧ w.heap.size ≤ lt ∧ ut ≤ w'.heap.size ∧ (us ≤ lt ∨ ut ≤ ls)) ∧ ((rInt n1 z1).2.1.length ≤ 18 ∧ (rInt n1 z1).2.2.1.length ≤ 18) ∧ Chg 0 0 w w' := by
 have hv10 := hv1.fit
 refine sx_enter Tryz.func60 rfl Tryz.ntmps60 (nbl rfl) ?_
 refine sx_seq fun K1 k1 => sx_region ?_
 refine sx_box [.bool n1, v1] rfl rfl rfl (fun b2 w3 eb2 sb2 fb2 cb2 => ?_)
 have zw3 := cb2.size
 refine sx_alloc [.bool false, (.slice none 0 0), (.slice none 0 0)] rfl Tryz.zeroValue37 rfl (fun b4 w5 eb4 sb4 fb4 cb4 => ?_)
 have zw5 := cb4.size
 refine av rfl rfl (wl_nil (q_n (k1 _ _ ?_)))
 refine sx_seq fun K6 k6 => ?_
 have f7 := fb2.ext cb4
 have f8 := hv10.ext cb2
 have f9 := f8.ext cb4
 refine dx_region (fun w' => Chg b4 (b4 + 1) w5 w') (by kernel_rfl) (Chg.zero (Chg.drew _)) ?_
 have d10 := Chg.drew w5
 have s10 : Chg b4 (b4 + 1) w5 (World.drew w5) := Chg.zero (Chg.drew _)
 have y10 : (World.drew w5).heap.size = w5.heap.size := rfl
 generalize World.drew w5 = w10 at *
 have zw10 := d10.size
 refine dt 0 rfl rfl rfl rfl s10 (fun _ hS => px_load rfl ((f7.chg hS (by omega)).loadA (vs := [.bool n1, v1]) (look_lit rfl) Tryz.isAgg25 Tryz.sizeOf25)) ?_
 refine dx_eff 1 rfl (by kernel_rfl) ?_
 refine sx_call rfl rfl Tryz.call21 (c_iIntOf (by omega)) (fun v11 w11 p11 => ?_)
 obtain ⟨s11, rfl, os_11, c11⟩ := p11
 have zw11 := c11.size
 have s12 : Chg b4 (b4 + 1) w5 w11 := (Chg.zero (l := b4) (h := (b4 + 1)) (d10.t c11))
 refine wl_nil ?_
 refine dx_next s12 ?_
 refine dx_eff 2 rfl (by kernel_rfl) ?_
 have f14 := (f9.ext d10).ext c11
 refine sx_call rfl rfl Tryz.call94 (c_iRatMake f14 os_11.sv (by have h9 := len_i64 (n := 1) (by omega); omega)) (fun v15 w15 p15 => ?_)
 obtain ⟨s15, t15, ls15, us15, lt15, ut15, rfl, os_15, ot_15, hd15, hl15, c15⟩ := p15
 have zw15 := c15.size
 have s16 : Chg b4 (b4 + 1) w5 w15 := (Chg.zero (l := b4) (h := (b4 + 1)) ((d10.t c11).t c15))
 refine wl_nil ?_
 refine dx_next s16 ?_
 refine dt 3 rfl rfl rfl rfl s16 (fun _ hS => px_ex2 rfl rfl) ?_
 refine dt 4 rfl rfl rfl rfl s16 (fun _ hS => px_ex2 rfl rfl) ?_
 refine dx_eff 5 rfl (by kernel_rfl) ?_
 have f20 := ((fb4.ext d10).ext c11).ext c15
 refine sx_store (vs := [.bool ((rMake n1 z1 (ng (1 : Int)) (dg ((1 : Int)).natAbs)).1), s15, t15]) rfl rfl f20 rfl Tryz.sizeOf37 (nbl rfl) (one_cons rfl (one_cons os_15.one (one_cons ot_15.one one_nil))) (fun w17 sw17 fw17 cw17 => ?_)
 have zw17 := cw17.size
 have gw17 : Blk w17 b4 [.bool ((rMake n1 z1 (ng (1 : Int)) (dg ((1 : Int)).natAbs)).1), s15, t15] 37 := fw17
 have q22 := Chg.step (l := b4) (h := (b4 + 1)) (Chg.zero (l := b4) (h := (b4 + 1)) ((d10.t c11).t c15)) cw17 (by omega)
 have s21 : Chg b4 (b4 + 1) w5 w17 := q22
 refine wl_nil ?_
 refine dx_next s21 ?_
 refine dt 6 rfl rfl rfl rfl s21 (fun _ hS => px_assign rfl) ?_
 refine dx_done (by kernel_rfl) ?_
 refine q_n (k6 _ _ ?_)
 refine sx_retc ?_
 refine sx_ret2 Tryz.results60 ⟨_, rfl, gw17.loadA (vs := [.bool ((rMake n1 z1 (ng (1 : Int)) (dg ((1 : Int)).natAbs)).1), s15, t15]) (look_lit rfl) Tryz.isAgg37 Tryz.sizeOf37⟩ rfl ?_
 have hrl := rInt_len (n := n1) (z := z1)
 unfold rInt at hrl ⊢
 have q23 := Chg.step (l := 0) (h := 0) (Chg.zero (l := 0) (h := 0) ((((cb2.t cb4).t d10).t c11).t c15)) cw17 (by omega)
 have f24 := os_15.chg cw17 (by omega)
 have f25 := ot_15.chg cw17 (by omega)
 exact ⟨_, _, _, _, _, _, rfl, f24, f25, by omega, hrl, q23⟩

theorem c_iRatIntK {w : World} {va : Value} {lva uva : Nat} {x : Int} (hva : Sl w lva uva va (dg x.natAbs)) (hx : (dg x.natAbs).length ≤ 18) :
  Ret Tryz.prog 60 [.agg #[.bool (ng x), va]] w fun v w' => ∃ s t ls us lt ut, v = .tuple #[.agg #[.bool (ng x), s, t], .bool (true)] ∧ OwnI w' (ls) (us) s intT (dg (x).natAbs) ∧ OwnI w' (lt) (ut) t intT (dg 1) ∧ (w.heap.size ≤ ls ∧ us ≤ w'.heap.size ∧ w.heap.size ≤ lt ∧ ut ≤ w'.heap.size ∧ (us ≤ lt ∨ ut ≤ ls)) ∧ (ROk (ng x) (dg (x).natAbs) (dg 1)) ∧ Chg 0 0 w w' := by
 have h := c_iRatInt (n1 := ng x) hva (by omega); rw [rInt_ok hx, ← dg_1] at h
 exact Calls.mono h fun ev w' ⟨v, he, s, t, ls, us, lt, ut, e1, o1, o2, hd, _, hc⟩ => ⟨v, he, s, t, ls, us, lt, ut, e1, o1, o2, hd, ROk_whole hx, hc⟩

theorem c_natTen {w : World} {k : Int} (hk : 0 ≤ k ∧ k ≤ 449) :
  Ret Tryz.prog 41 [.int .i64 k] w fun v w' => ∃ s, v = s ∧ OwnI w' w.heap.size w'.heap.size s intT (dg (10 ^ (k).toNat)) ∧ Chg 0 0 w w' := by
 refine sx_enter Tryz.func41 rfl Tryz.ntmps41 (nbl rfl) ?_
 refine sx_seq fun K1 k1 => sx_region ?_
 refine av rfl rfl (wl_nil (q_n (k1 _ _ ?_)))
 refine sx_seq fun K2 k2 => sx_region ?_
 refine mv rfl rfl (sp rfl (px_quo rfl rfl (by omega) (by omega) (by omega)) ?_)
 refine mv rfl rfl (sp rfl (px_quo rfl rfl (by omega) (by omega) (by omega)) ?_)
 refine sp rfl (px_add rfl rfl (by omega)) ?_
 refine sx_makeC (l := (k / 9).toNat) (c := (k / 9).toNat + 1) rfl xelt23 (look_int rfl (by omega)) (look_int rfl (by omega)) (by omega) (by omega) (by unfold maxLen; omega) (fun s3 ws3 fs3 cs3 ls3 => ?_)
 have ns3 := fs3.madeC (by omega)
 have zws3 := cs3.size
 refine av rfl rfl (wl_nil (q_n (k2 _ _ ?_)))
 refine sx_seq fun K4 k4 => sx_region ?_
 refine av rfl rfl (wl_nil (q_n (k4 _ _ ?_)))
 refine sx_seq fun K5 k5 => ?_
 refine sx_seq fun K6 k6 => sx_region ?_
 refine mv rfl rfl (sp rfl (px_rem rfl rfl (by omega) (by omega)) ?_)
 refine mv rfl rfl (wl_nil (q_n (k6 _ _ ?_)))
 refine sx_block ?_
 refine sx_loop (fun mm aa w' => ∃ (j : Nat) (c : Nat), Agr 22 [(3, s3), (4, .int .i64 ((c : Nat) : Int)), (12, .int .i64 (k % 9)), (13, .int .i64 ↑j)] aa ∧ Chg 0 0 ws3 w' ∧ Own w' w.heap.size ws3.heap.size s3 3 ((List.replicate ((k / 9).toNat) 0).length) 1 ((List.replicate ((k / 9).toNat) 0).map (Value.int .i64)) ∧ (mm = (k % 9).toNat - j) ∧ ((j : Int) ≤ k % 9) ∧ (c = 10 ^ j)) (_) (fun a ha => ⟨0, 1, ha.sub (Sub.c 3 rfl (.c 4 (look_int (t := 4) rfl (by first | omega | simp)) (.c 12 rfl (.c 13 (look_int (t := 13) rfl (by first | omega | simp)) .nil)))), Chg.refl _ _ _, (ns3.mono (by omega) (by omega)), rfl, by omega, rfl⟩) ?_
 rintro mm aa wl7 ⟨j, c, hAwl7, cwl7, hs_s3, hm, hj, hc⟩
 refine (show cw Tryz.prog 22 _ _ _ wl7 from ?_) aa hAwl7
 clear hAwl7
 have zwl7 := cwl7.size
 have hb9 := ten_le (j := j) (by omega)
 refine sx_seq fun K8 k8 => sx_region ?_
 refine sp rfl (px_lt rfl rfl) ?_
 refine wl_nil (q_n (k8 _ _ ?_))
 refine sx_seq fun K9 k9 => ?_
 refine sx_condP rfl (fun h110 => ?_) (fun h110 => ?_)
 ·
  refine sx_skip ?_
  refine q_n (k9 _ _ ?_)
  refine sx_seq fun K10 k10 => ?_
  refine sx_block ?_
  refine sx_region ?_
  refine mv rfl rfl (sp rfl (px_mul rfl rfl (by omega)) ?_)
  refine av rfl rfl (wl_nil ?_)
  refine q_bn (q_n (k10 _ _ ?_))
  refine sx_region ?_
  refine sp rfl (px_add rfl rfl (by omega)) ?_
  refine mv rfl rfl (wl_nil ?_)
  exact fun a ha => ⟨_, by omega, (j + 1), (c * 10), ha.sub (Sub.c 3 rfl (.c 4 (look_int (t := 4) rfl (by first | omega | simp)) (.c 12 rfl (.c 13 (look_int (t := 13) rfl (by first | omega | simp)) .nil)))), cwl7, (hs_s3.mono (by omega) (by omega)), rfl, by omega, by rw [hc, Nat.pow_succ]⟩
 refine sx_exit ?_
 refine q_e (q_e (q_bx (q_n (k5 _ _ ?_))))
 refine sx_seq fun K11 k11 => sx_region ?_
 refine mv rfl rfl (mv rfl rfl ?_)
 refine sx_lit1 rfl xelt23 rfl rfl (fun s12 ws12 ss12 fs12 cs12 => ?_)
 have ns12 := Own.norm (f := (Value.int .i64)) (zs := [((c : Nat) : Int)]) fs12
 have zws12 := cs12.size
 have f14 := hs_s3.ext cs12
 refine sx_append rfl xelt23 rfl rfl f14 ns12.sv one_int (by omega) (by simp only [List.length_replicate, List.length_cons, List.length_nil]; omega) (by unfold maxLen; simp only [List.length_replicate, List.length_cons, List.length_nil]; omega) (fun a13 w13 fw13 cw13 => ?_)
 have nw13 := Own.app (f := (Value.int .i64)) (a := List.replicate ((k / 9).toNat) 0) (b := [((c : Nat) : Int)]) fw13
 have zw13 := cw13.size
 refine av rfl rfl (wl_nil (q_n (k11 _ _ ?_)))
 refine sx_retc ?_
 refine sx_ret1 Tryz.results41 rfl ?_
 have hd := ten_dg hk.1 (j := j) (by omega) hc
 rw [← hd]
 have q15 := Chg.step (l := 0) (h := 0) (Chg.zero (l := 0) (h := 0) ((cs3.t cwl7).t cs12)) cw13 (by omega)
 exact ⟨_, rfl, (Own.mono nw13 (by omega) (by omega)), q15⟩

theorem c_iDecRat {w : World} {n1 : Bool} {v1 : Value} {lv1 uv1 : Nat} {z1 : List Int} {p1 : Int} (hv1 : Sl w lv1 uv1 v1 (z1)) (h63 : z1.length ≤ 4611686018427387904) :
  Ret Tryz.prog 11 [.agg #[.bool n1, v1, .int .i64 p1]] w fun v w' => ∃ s t ls us lt ut, v = .agg #[.bool ((dRat n1 z1 p1).1), s, t] ∧ OwnI w' (ls) (us) s intT ((dRat n1 z1 p1).2.1) ∧ OwnI w' (lt) (ut) t intT ((dRat n1 z1 p1).2.2.1) ∧ (w.heap.size ≤ ls ∧ us ≤ w'.heap.size ∧ w.heap.size ≤ lt ∧ ut ≤ w'.heap.size ∧ (us ≤ lt ∨ ut ≤ ls)) ∧ ((dRat n1 z1 p1).2.1.length ≤ 18 ∧ (dRat n1 z1 p1).2.2.1.length ≤ 18) ∧ Chg 0 0 w w' := by
 have hv10 := hv1.fit
 refine sx_enter Tryz.func11 rfl Tryz.ntmps11 (nbl rfl) ?_
 refine sx_seq fun K1 k1 => sx_region ?_
 refine sx_box [.bool n1, v1, .int .i64 p1] rfl rfl rfl (fun b2 w3 eb2 sb2 fb2 cb2 => ?_)
 have zw3 := cb2.size
 refine sx_alloc [.bool false, (.slice none 0 0), (.slice none 0 0)] rfl Tryz.zeroValue37 rfl (fun b4 w5 eb4 sb4 fb4 cb4 => ?_)
 have zw5 := cb4.size
 refine wl_nil (q_n (k1 _ _ ?_))
 refine sx_seq fun K6 k6 => ?_
 refine sx_seq fun K7 k7 => sx_region ?_
 have f8 := fb2.ext cb4
 refine sp rfl (px_load rfl (f8.loadA (vs := [.bool n1, v1, .int .i64 p1]) (look_lit rfl) Tryz.isAgg27 Tryz.sizeOf27)) ?_
 have f9 := hv10.ext cb2
 have f10 := f9.ext cb4
 refine sx_call rfl rfl Tryz.call34 (c_iDecOk f10 (by omega)) (fun v11 w11 p11 => ?_)
 obtain ⟨rfl, c11⟩ := p11
 have zw11 := c11.size
 refine sp rfl (px_notP rfl) ?_
 refine wl_nil (q_n (k7 _ _ ?_))
 refine sx_condP rfl (fun h30 => ?_) (fun h30 => ?_)
 ·
  refine sx_seq fun K12 k12 => sx_region ?_
  refine sp rfl (px_build rfl (xbld37x  _)) ?_
  have f14 := fb4.ext c11
  refine sx_store (vs := [.bool false, (.slice none 0 0), (.slice none 0 0)]) rfl rfl f14 rfl Tryz.sizeOf37 (nbl rfl) (o3 rfl rfl rfl) (fun w13 sw13 fw13 cw13 => ?_)
  have zw13 := cw13.size
  have gw13 : Blk w13 b4 [.bool false, (.slice none 0 0), (.slice none 0 0)] 37 := fw13
  refine wl_nil (q_n (k12 _ _ ?_))
  refine sx_retc ?_
  refine q_r (sx_ret1 Tryz.results11 ⟨_, rfl, gw13.loadA (vs := [.bool false, (.slice none 0 0), (.slice none 0 0)]) (look_lit rfl) Tryz.isAgg37 Tryz.sizeOf37⟩ ?_)
  rw [dRat_no h30]
  have q15 := Chg.step (l := 0) (h := 0) (Chg.zero (l := 0) (h := 0) ((cb2.t cb4).t c11)) cw13 (by omega)
  exact ⟨_, _, w.heap.size, w.heap.size, w.heap.size, w.heap.size, rfl, Own.nil _ _ _ _ _, Own.nil _ _ _ _ _, by omega, ⟨by simp [noR], by simp [noR]⟩, q15⟩
 have hD := Decidable.not_not.1 h30
 obtain ⟨x1, rfl, rfl, hx1⟩ := hD.int
 have ltn := ten_len' (k := p1) (by omega)
 refine sx_skip ?_
 refine q_n (k6 _ _ ?_)
 refine sx_seq fun K16 k16 => ?_
 refine sx_cut k16 (fun fr w' => ∃ (gb17x0 : Nat) (gs17x1 : Value) (gl17x1 : Nat) (gu17x1 : Nat) (gs17x2 : Value) (gl17x2 : Nat) (gu17x2 : Nat), fr = [(2, .pointer (some ⟨b4, 0, none⟩)), (3, .pointer (some ⟨gb17x0, 0, none⟩))] ∧ Chg 0 0 w11 w' ∧ (Blk w' gb17x0 [.bool ((rR (sgI (ng x1) x1.natAbs) (10 ^ (p1).toNat)).1), gs17x1, gs17x2] 37) ∧ (Own w' gl17x1 gu17x1 gs17x1 intT (((rR (sgI (ng x1) x1.natAbs) (10 ^ (p1).toNat)).2.1).length) 1 (((rR (sgI (ng x1) x1.natAbs) (10 ^ (p1).toNat)).2.1).map (Value.int .i64))) ∧ (Own w' gl17x2 gu17x2 gs17x2 intT (((rR (sgI (ng x1) x1.natAbs) (10 ^ (p1).toNat)).2.2.1).length) 1 (((rR (sgI (ng x1) x1.natAbs) (10 ^ (p1).toNat)).2.2.1).map (Value.int .i64))) ∧ (w11.heap.size ≤ gb17x0 ∧ gb17x0 + 1 ≤ w'.heap.size) ∧ (w11.heap.size ≤ gl17x1 ∧ gu17x1 ≤ w'.heap.size) ∧ (w11.heap.size ≤ gl17x2 ∧ gu17x2 ≤ w'.heap.size) ∧ (gu17x1 ≤ gb17x0 ∨ gb17x0 + 1 ≤ gl17x1) ∧ (gu17x2 ≤ gb17x0 ∨ gb17x0 + 1 ≤ gl17x2) ∧ (gu17x2 ≤ gl17x1 ∨ gu17x1 ≤ gl17x2)) (fun kc17 => ?_) ?_
 ·
  have f18 := f8.ext c11
  have f19 := fb4.ext c11
  have f20 := f10.ext c11
  refine dx_region (fun w' => Chg 0 0 w11 w') (by kernel_rfl) (Chg.zero (Chg.drew _)) ?_
  have d21 := Chg.drew w11
  have s21 : Chg 0 0 w11 (World.drew w11) := Chg.zero (Chg.drew _)
  have y21 : (World.drew w11).heap.size = w11.heap.size := rfl
  generalize World.drew w11 = w21 at *
  have zw21 := d21.size
  refine dt 0 rfl rfl rfl rfl s21 (fun _ hS => px_field rfl xfld27x0) ?_
  refine dt 1 rfl rfl rfl rfl s21 (fun _ hS => px_load rfl ((f18.chg hS (by omega)).loadA (vs := [.bool (ng x1), v1]) (look_lit rfl) Tryz.isAgg25 Tryz.sizeOf25)) ?_
  refine dt 2 rfl rfl rfl rfl s21 (fun _ hS => px_field rfl xfld27x1) ?_
  refine dt 3 rfl rfl rfl rfl s21 (fun _ hS => px_load rfl ((f18.chg hS (by omega)).load1 rfl Tryz.isAgg3)) ?_
  refine dx_eff2 4 9 rfl rfl (by kernel_rfl) ?_ ?_
  ·
   refine sx_call rfl rfl Tryz.call41 (c_natTen (by omega)) (fun v22 w22 p22 => ?_)
   obtain ⟨s22, rfl, os_22, c22⟩ := p22
   have zw22 := c22.size
   have s23 : Chg 0 0 w11 w22 := (d21.t c22)
   refine wl_nil ?_
   refine dx_next s23 ?_
   refine dx_eff2 5 9 rfl rfl (by kernel_rfl) ?_ ?_
   ·
    have f25 := (f20.ext d21).ext c22
    refine sx_call rfl rfl Tryz.call43 (c_reduce f25 os_22.sv (by omega) (by omega) (Nat.pow_pos (by decide))) (fun v26 w26 p26 => ?_)
    obtain ⟨s26, t26, ls26, us26, lt26, ut26, rfl, os_26, ot_26, hd26, hl26, c26⟩ := p26
    have zw26 := c26.size
    have s27 : Chg 0 0 w11 w26 := ((d21.t c22).t c26)
    refine wl_nil ?_
    refine dx_next s27 ?_
    refine dt 6 rfl rfl rfl rfl s27 (fun _ hS => px_move rfl) ?_
    refine dt 7 rfl rfl rfl rfl s27 (fun _ hS => px_ex2 rfl rfl) ?_
    refine dt 8 rfl rfl rfl rfl s27 (fun _ hS => px_ex2 rfl rfl) ?_
    refine dx_eff 9 rfl (by kernel_rfl) ?_
    refine sx_alloc [.bool false, (.slice none 0 0), (.slice none 0 0)] rfl Tryz.zeroValue37 rfl (fun b28 w29 eb28 sb28 fb28 cb28 => ?_)
    have zw29 := cb28.size
    have s30 : Chg 0 0 w11 w29 := (((d21.t c22).t c26).t cb28)
    refine wl_nil ?_
    refine dx_next s30 ?_
    refine dx_eff 10 rfl (by kernel_rfl) ?_
    have f32 := ot_26.ext cb28
    have f33 := os_26.ext cb28
    refine sx_store (vs := [.bool ((rR (sgI (ng x1) x1.natAbs) (10 ^ (p1).toNat)).1), s26, t26]) rfl rfl fb28 rfl Tryz.sizeOf37 (nbl rfl) (one_cons rfl (one_cons f33.one (one_cons f32.one one_nil))) (fun w31 sw31 fw31 cw31 => ?_)
    have zw31 := cw31.size
    have gw31 : Blk w31 b28 [.bool ((rR (sgI (ng x1) x1.natAbs) (10 ^ (p1).toNat)).1), s26, t26] 37 := fw31
    have q35 := Chg.step (l := 0) (h := 0) (Chg.zero (l := 0) (h := 0) (((d21.t c22).t c26).t cb28)) cw31 (by omega)
    have s34 : Chg 0 0 w11 w31 := q35
    refine wl_nil ?_
    refine dx_next s34 ?_
    refine dt 11 rfl rfl rfl rfl s34 (fun _ hS => px_assign rfl) ?_
    refine dx_done (by kernel_rfl) ?_
    have f36 := f33.chg cw31 (by omega)
    have f37 := f32.chg cw31 (by omega)
    have q38 := Chg.step (l := 0) (h := 0) (Chg.zero (l := 0) (h := 0) (((d21.t c22).t c26).t cb28)) cw31 (by omega)
    exact q_n (kw_sub (Sub.c 2 rfl (.c 3 rfl .nil)) (kc17 _ _ ⟨b28, s26, ls26, us26, t26, lt26, ut26, rfl, q38, gw31, f36, f37, by omega, by omega, by omega, by omega, by omega, by omega⟩))
   refine sx_alloc [.bool false, (.slice none 0 0), (.slice none 0 0)] rfl Tryz.zeroValue37 rfl (fun b39 w40 eb39 sb39 fb39 cb39 => ?_)
   have zw40 := cb39.size
   have s41 : Chg 0 0 w11 w40 := ((d21.t c22).t cb39)
   refine wl_nil ?_
   refine dx_next s41 ?_
   refine dx_eff 5 rfl (by kernel_rfl) ?_
   have f44 := ((f20.ext d21).ext c22).ext cb39
   have f45 := os_22.ext cb39
   refine sx_call rfl rfl Tryz.call43 (c_reduce f44 f45.sv (by omega) (by omega) (Nat.pow_pos (by decide))) (fun v46 w46 p46 => ?_)
   obtain ⟨s46, t46, ls46, us46, lt46, ut46, rfl, os_46, ot_46, hd46, hl46, c46⟩ := p46
   have zw46 := c46.size
   have s47 : Chg 0 0 w11 w46 := (((d21.t c22).t cb39).t c46)
   refine wl_nil ?_
   refine dx_next s47 ?_
   refine dt 6 rfl rfl rfl rfl s47 (fun _ hS => px_move rfl) ?_
   refine dt 7 rfl rfl rfl rfl s47 (fun _ hS => px_ex2 rfl rfl) ?_
   refine dt 8 rfl rfl rfl rfl s47 (fun _ hS => px_ex2 rfl rfl) ?_
   refine dx_eff 10 rfl (by kernel_rfl) ?_
   have f49 := fb39.ext c46
   refine sx_store (vs := [.bool ((rR (sgI (ng x1) x1.natAbs) (10 ^ (p1).toNat)).1), s46, t46]) rfl rfl f49 rfl Tryz.sizeOf37 (nbl rfl) (one_cons rfl (one_cons os_46.one (one_cons ot_46.one one_nil))) (fun w48 sw48 fw48 cw48 => ?_)
   have zw48 := cw48.size
   have gw48 : Blk w48 b39 [.bool ((rR (sgI (ng x1) x1.natAbs) (10 ^ (p1).toNat)).1), s46, t46] 37 := fw48
   have q51 := Chg.step (l := 0) (h := 0) (Chg.zero (l := 0) (h := 0) (((d21.t c22).t cb39).t c46)) cw48 (by omega)
   have s50 : Chg 0 0 w11 w48 := q51
   refine wl_nil ?_
   refine dx_next s50 ?_
   refine dt 11 rfl rfl rfl rfl s50 (fun _ hS => px_assign rfl) ?_
   refine dx_done (by kernel_rfl) ?_
   have f52 := os_46.chg cw48 (by omega)
   have f53 := ot_46.chg cw48 (by omega)
   have q54 := Chg.step (l := 0) (h := 0) (Chg.zero (l := 0) (h := 0) (((d21.t c22).t cb39).t c46)) cw48 (by omega)
   exact q_n (kw_sub (Sub.c 2 rfl (.c 3 rfl .nil)) (kc17 _ _ ⟨b39, s46, ls46, us46, t46, lt46, ut46, rfl, q54, gw48, f52, f53, by omega, by omega, by omega, by omega, by omega, by omega⟩))
  refine sx_alloc [.bool false, (.slice none 0 0), (.slice none 0 0)] rfl Tryz.zeroValue37 rfl (fun b55 w56 eb55 sb55 fb55 cb55 => ?_)
  have zw56 := cb55.size
  have s57 : Chg 0 0 w11 w56 := (d21.t cb55)
  refine wl_nil ?_
  refine dx_next s57 ?_
  refine dx_eff 4 rfl (by kernel_rfl) ?_
  refine sx_call rfl rfl Tryz.call41 (c_natTen (by omega)) (fun v58 w58 p58 => ?_)
  obtain ⟨s58, rfl, os_58, c58⟩ := p58
  have zw58 := c58.size
  have s59 : Chg 0 0 w11 w58 := ((d21.t cb55).t c58)
  refine wl_nil ?_
  refine dx_next s59 ?_
  refine dx_eff 5 rfl (by kernel_rfl) ?_
  have f61 := (f20.ext d21).ext cb55
  have f62 := f61.ext c58
  refine sx_call rfl rfl Tryz.call43 (c_reduce f62 os_58.sv (by omega) (by omega) (Nat.pow_pos (by decide))) (fun v63 w63 p63 => ?_)
  obtain ⟨s63, t63, ls63, us63, lt63, ut63, rfl, os_63, ot_63, hd63, hl63, c63⟩ := p63
  have zw63 := c63.size
  have s64 : Chg 0 0 w11 w63 := (((d21.t cb55).t c58).t c63)
  refine wl_nil ?_
  refine dx_next s64 ?_
  refine dt 6 rfl rfl rfl rfl s64 (fun _ hS => px_move rfl) ?_
  refine dt 7 rfl rfl rfl rfl s64 (fun _ hS => px_ex2 rfl rfl) ?_
  refine dt 8 rfl rfl rfl rfl s64 (fun _ hS => px_ex2 rfl rfl) ?_
  refine dx_eff 10 rfl (by kernel_rfl) ?_
  have f67 := (fb55.ext c58).ext c63
  refine sx_store (vs := [.bool ((rR (sgI (ng x1) x1.natAbs) (10 ^ (p1).toNat)).1), s63, t63]) rfl rfl f67 rfl Tryz.sizeOf37 (nbl rfl) (one_cons rfl (one_cons os_63.one (one_cons ot_63.one one_nil))) (fun w65 sw65 fw65 cw65 => ?_)
  have zw65 := cw65.size
  have gw65 : Blk w65 b55 [.bool ((rR (sgI (ng x1) x1.natAbs) (10 ^ (p1).toNat)).1), s63, t63] 37 := fw65
  have q69 := Chg.step (l := 0) (h := 0) (Chg.zero (l := 0) (h := 0) (((d21.t cb55).t c58).t c63)) cw65 (by omega)
  have s68 : Chg 0 0 w11 w65 := q69
  refine wl_nil ?_
  refine dx_next s68 ?_
  refine dt 11 rfl rfl rfl rfl s68 (fun _ hS => px_assign rfl) ?_
  refine dx_done (by kernel_rfl) ?_
  have f70 := os_63.chg cw65 (by omega)
  have f71 := ot_63.chg cw65 (by omega)
  have q72 := Chg.step (l := 0) (h := 0) (Chg.zero (l := 0) (h := 0) (((d21.t cb55).t c58).t c63)) cw65 (by omega)
  exact q_n (kw_sub (Sub.c 2 rfl (.c 3 rfl .nil)) (kc17 _ _ ⟨b55, s63, ls63, us63, t63, lt63, ut63, rfl, q72, gw65, f70, f71, by omega, by omega, by omega, by omega, by omega, by omega⟩))
 rintro fr w'17 ⟨gb17x0, gs17x1, gl17x1, gu17x1, gs17x2, gl17x2, gu17x2, rfl, cw'17, xgb17x0, xgs17x1, xgs17x2, ygb17x0, ygl17x1, ygl17x2, dgl17x1xgb17x0, dgl17x2xgb17x0, dgl17x2xgl17x1⟩
 have zw'17 := cw'17.size
 refine sx_seq fun K73 k73 => sx_region ?_
 refine sp rfl (px_load rfl (xgb17x0.loadA (vs := [.bool ((rR (sgI (ng x1) x1.natAbs) (10 ^ (p1).toNat)).1), gs17x1, gs17x2]) (look_lit rfl) Tryz.isAgg37 Tryz.sizeOf37)) ?_
 have f76 := (fb4.ext c11).ext cw'17
 refine sx_store (vs := [.bool ((rR (sgI (ng x1) x1.natAbs) (10 ^ (p1).toNat)).1), gs17x1, gs17x2]) rfl rfl f76 rfl Tryz.sizeOf37 (nbl rfl) (one_cons rfl (one_cons xgs17x1.one (one_cons xgs17x2.one one_nil))) (fun w74 sw74 fw74 cw74 => ?_)
 have zw74 := cw74.size
 have gw74 : Blk w74 b4 [.bool ((rR (sgI (ng x1) x1.natAbs) (10 ^ (p1).toNat)).1), gs17x1, gs17x2] 37 := fw74
 refine wl_nil (q_n (k73 _ _ ?_))
 refine sx_retc ?_
 refine sx_ret1 Tryz.results11 ⟨_, rfl, gw74.loadA (vs := [.bool ((rR (sgI (ng x1) x1.natAbs) (10 ^ (p1).toNat)).1), gs17x1, gs17x2]) (look_lit rfl) Tryz.isAgg37 Tryz.sizeOf37⟩ ?_
 have hrl := dRat_len (n := ng x1) (z := dg x1.natAbs) (p := p1)
 rw [dRat_ok hD] at hrl ⊢
 have q77 := Chg.step (l := 0) (h := 0) (Chg.zero (l := 0) (h := 0) (((cb2.t cb4).t c11).t cw'17)) cw74 (by omega)
 have f78 := xgs17x1.chg cw74 (by omega)
 have f79 := xgs17x2.chg cw74 (by omega)
 exact ⟨_, _, _, _, _, _, rfl, f78, f79, by omega, hrl, q77⟩

theorem c_iDecRatK {w : World} {n1 : Bool} {v1 : Value} {lv1 uv1 : Nat} {z1 : List Int} {p1 : Int} (hv1 : Sl w lv1 uv1 v1 (z1)) (hz1 : z1.length ≤ 4611686018427387904) (hP : Pos (dRat n1 z1 p1)) :
  Ret Tryz.prog 11 [.agg #[.bool n1, v1, .int .i64 p1]] w fun v w' => ∃ s t ls us lt ut x e, v = .agg #[.bool (ng x), s, t] ∧ OwnI w' (ls) (us) s intT (dg (x).natAbs) ∧ OwnI w' (lt) (ut) t intT (dg e) ∧ (w.heap.size ≤ ls ∧ us ≤ w'.heap.size ∧ w.heap.size ≤ lt ∧ ut ≤ w'.heap.size ∧ (us ≤ lt ∨ ut ≤ ls)) ∧ (ROk (ng x) (dg (x).natAbs) (dg e)) ∧ (dRat n1 z1 p1 = (ng x, dg (x).natAbs, dg e, true)) ∧ Chg 0 0 w w' := by
 obtain ⟨X, E, hE, hK, _, _, _⟩ := hP
 have h := c_iDecRat (n1 := n1) (p1 := p1) hv1 hz1; rw [hE] at h
 exact Calls.mono h fun ev w' ⟨v, he, s, t, ls, us, lt, ut, e1, o1, o2, hd, _, hc⟩ => ⟨v, he, s, t, ls, us, lt, ut, X, E, e1, o1, o2, hd, hK, hE, hc⟩

theorem c_iDecRatD {w : World} {va : Value} {lva uva : Nat} {x : Int} {p : Int} (hva : Sl w lva uva va (dg x.natAbs)) (hD : DOk (ng x) (dg x.natAbs) p) (hp18 : p ≤ 18) :
  Ret Tryz.prog 11 [.agg #[.bool (ng x), va, .int .i64 p]] w fun v w' => ∃ s t ls us lt ut, v = .agg #[.bool (ng (ratN x p)), s, t] ∧ OwnI w' (ls) (us) s intT (dg (ratN x p).natAbs) ∧ OwnI w' (lt) (ut) t intT (dg (ratE x p)) ∧ (w.heap.size ≤ ls ∧ us ≤ w'.heap.size ∧ w.heap.size ≤ lt ∧ ut ≤ w'.heap.size ∧ (us ≤ lt ∨ ut ≤ ls)) ∧ (ROk (ng (ratN x p)) (dg (ratN x p).natAbs) (dg (ratE x p))) ∧ ((dg (ratN x p).natAbs).length ≤ 6 ∧ (dg (ratE x p)).length ≤ 6) ∧ ((ratN x p) * tenI p = x * (((ratE x p) : Nat) : Int)) ∧ Chg 0 0 w w' := by
 obtain ⟨hE, hK, hl6, hv⟩ := dRat_form hD hp18
 have hl := (DOk_iff.1 hD).1
 have h := c_iDecRat (n1 := ng x) (p1 := p) hva (by omega); rw [hE] at h
 exact Calls.mono h fun ev w' ⟨v, he, s, t, ls, us, lt, ut, e1, o1, o2, hd, _, hc⟩ => ⟨v, he, s, t, ls, us, lt, ut, e1, o1, o2, hd, hK, hl6, hv, hc⟩

theorem c_iRatOk {w : World} {n1 : Bool} {v1 : Value} {lv1 uv1 : Nat} {z1 : List Int} {d1 : Value} {ld1 ud1 : Nat} {y1 : List Int} (hv1 : Sl w lv1 uv1 v1 (z1)) (hd1 : Sl w ld1 ud1 d1 (y1)) (h63 : z1.length ≤ 4611686018427387904 ∧ y1.length ≤ 4611686018427387904) :
  Ret Tryz.prog 83 [.agg #[.bool n1, v1, d1]] w fun v w' => v = .bool (decide (ROk n1 z1 y1)) ∧ Chg 0 0 w w' := by
 have hv10 := hv1.fit
 have hd10 := hd1.fit
 refine sx_enter Tryz.func83 rfl Tryz.ntmps83 (nbl rfl) ?_
 refine sx_seq fun K1 k1 => sx_region ?_
 refine sx_box [.bool n1, v1, d1] rfl rfl rfl (fun b2 w3 eb2 sb2 fb2 cb2 => ?_)
 have zw3 := cb2.size
 refine av rfl rfl (wl_nil (q_n (k1 _ _ ?_)))
 refine sx_seq fun K4 k4 => ?_
 refine sx_seq fun K5 k5 => sx_region ?_
 refine sp rfl (px_field rfl xfld37x0) ?_
 refine sp rfl (px_load rfl (fb2.loadA (vs := [.bool n1, v1]) (look_lit rfl) Tryz.isAgg25 Tryz.sizeOf25)) ?_
 have f6 := hv10.ext cb2
 refine sx_call rfl rfl Tryz.call70 (c_iIntOk f6 (by omega)) (fun v7 w7 p7 => ?_)
 obtain ⟨rfl, c7⟩ := p7
 have zw7 := c7.size
 refine sp rfl (px_notP rfl) ?_
 refine mv rfl rfl ?_
 refine sx_tmpP (t := 8) rfl (fun h14 => ?_) (fun h14 => ?_)
 ·
  refine sx_guardF rfl rfl rfl rfl rfl rfl ?_
  refine sx_guardF rfl rfl rfl rfl rfl rfl ?_
  refine sx_guardF rfl rfl rfl rfl rfl rfl ?_
  refine sx_guardF rfl rfl rfl rfl rfl rfl ?_
  refine sp rfl (px_pick rfl rfl) ?_
  refine mv rfl rfl ?_
  refine sx_guardF rfl rfl rfl rfl rfl rfl ?_
  refine sx_guardF rfl rfl rfl rfl rfl rfl ?_
  refine sx_guardF rfl rfl rfl rfl rfl rfl ?_
  refine sx_guardF rfl rfl rfl rfl rfl rfl ?_
  refine sp rfl (px_pick rfl rfl) ?_
  refine mv rfl rfl ?_
  refine sx_guardF rfl rfl rfl rfl rfl rfl ?_
  refine sx_guardF rfl rfl rfl rfl rfl rfl ?_
  refine sx_guardF rfl rfl rfl rfl rfl rfl ?_
  refine sx_guardF rfl rfl rfl rfl rfl rfl ?_
  refine sp rfl (px_pick rfl rfl) ?_
  refine mv rfl rfl ?_
  refine sx_guardF rfl rfl rfl rfl rfl rfl ?_
  refine sx_guardF rfl rfl rfl rfl rfl rfl ?_
  refine sx_guardF rfl rfl rfl rfl rfl rfl ?_
  refine sx_guardF rfl rfl rfl rfl rfl rfl ?_
  refine sx_guardF rfl rfl rfl rfl rfl rfl ?_
  refine sp rfl (px_pick rfl rfl) ?_
  refine wl_nil (q_n (k5 _ _ ?_))
  refine sx_sub (Sub.c 1 rfl (.c 2 rfl (.c 32 rfl .nil))) ?_
  refine sx_condT rfl ?_
  refine sx_seq fun K8 k8 => sx_region ?_
  refine av rfl rfl (wl_nil (q_n (k8 _ _ ?_)))
  refine sx_retc ?_
  refine q_r (sx_ret1 Tryz.results83 rfl ?_)
  exact ⟨(bFalse (by grind [ROk])), (cb2.t c7)⟩
 refine sx_guardT rfl rfl rfl ?_
 refine sp rfl (px_field rfl xfld37x1) ?_
 refine sx_guardT rfl rfl rfl ?_
 have f9 := fb2.ext c7
 refine sp rfl (px_load rfl (f9.load1 rfl Tryz.isAgg23)) ?_
 refine sx_guardT rfl rfl rfl ?_
 have f10 := hd10.ext cb2
 have f11 := f10.ext c7
 refine sx_call rfl rfl Tryz.call104 (c_iNatOk f11 (by omega)) (fun v12 w12 p12 => ?_)
 obtain ⟨rfl, c12⟩ := p12
 have zw12 := c12.size
 refine sx_guardT rfl rfl rfl ?_
 refine sp rfl (px_notP rfl) ?_
 refine sp rfl (px_pick rfl rfl) ?_
 refine mv rfl rfl ?_
 refine sx_tmpP (t := 14) rfl (fun h14x1 => ?_) (fun h14x1 => ?_)
 ·
  refine sx_guardF rfl rfl rfl rfl rfl rfl ?_
  refine sx_guardF rfl rfl rfl rfl rfl rfl ?_
  refine sx_guardF rfl rfl rfl rfl rfl rfl ?_
  refine sx_guardF rfl rfl rfl rfl rfl rfl ?_
  refine sp rfl (px_pick rfl rfl) ?_
  refine mv rfl rfl ?_
  refine sx_guardF rfl rfl rfl rfl rfl rfl ?_
  refine sx_guardF rfl rfl rfl rfl rfl rfl ?_
  refine sx_guardF rfl rfl rfl rfl rfl rfl ?_
  refine sx_guardF rfl rfl rfl rfl rfl rfl ?_
  refine sp rfl (px_pick rfl rfl) ?_
  refine mv rfl rfl ?_
  refine sx_guardF rfl rfl rfl rfl rfl rfl ?_
  refine sx_guardF rfl rfl rfl rfl rfl rfl ?_
  refine sx_guardF rfl rfl rfl rfl rfl rfl ?_
  refine sx_guardF rfl rfl rfl rfl rfl rfl ?_
  refine sx_guardF rfl rfl rfl rfl rfl rfl ?_
  refine sp rfl (px_pick rfl rfl) ?_
  refine wl_nil (q_n (k5 _ _ ?_))
  refine sx_sub (Sub.c 1 rfl (.c 2 rfl (.c 32 rfl .nil))) ?_
  refine sx_condT rfl ?_
  refine sx_seq fun K13 k13 => sx_region ?_
  refine av rfl rfl (wl_nil (q_n (k13 _ _ ?_)))
  refine sx_retc ?_
  refine q_r (sx_ret1 Tryz.results83 rfl ?_)
  exact ⟨(bFalse (by grind [ROk])), ((cb2.t c7).t c12)⟩
 refine sx_guardT rfl rfl rfl ?_
 refine sp rfl (px_field rfl xfld37x1) ?_
 refine sx_guardT rfl rfl rfl ?_
 have f14 := f9.ext c12
 refine sp rfl (px_load rfl (f14.load1 rfl Tryz.isAgg23)) ?_
 refine sx_guardT rfl rfl rfl ?_
 have f15 := f11.ext c12
 refine sp rfl (px_len rfl Tryz.underlying23 f15) ?_
 refine sx_guardT rfl rfl rfl ?_
 refine sp rfl (px_eq rfl rfl) ?_
 refine sp rfl (px_pick rfl rfl) ?_
 refine mv rfl rfl ?_
 refine sx_tmpP (t := 20) rfl (fun h14x2 => ?_) (fun h14x2 => ?_)
 ·
  refine sx_guardF rfl rfl rfl rfl rfl rfl ?_
  refine sx_guardF rfl rfl rfl rfl rfl rfl ?_
  refine sx_guardF rfl rfl rfl rfl rfl rfl ?_
  refine sx_guardF rfl rfl rfl rfl rfl rfl ?_
  refine sp rfl (px_pick rfl rfl) ?_
  refine mv rfl rfl ?_
  refine sx_guardF rfl rfl rfl rfl rfl rfl ?_
  refine sx_guardF rfl rfl rfl rfl rfl rfl ?_
  refine sx_guardF rfl rfl rfl rfl rfl rfl ?_
  refine sx_guardF rfl rfl rfl rfl rfl rfl ?_
  refine sx_guardF rfl rfl rfl rfl rfl rfl ?_
  refine sp rfl (px_pick rfl rfl) ?_
  refine wl_nil (q_n (k5 _ _ ?_))
  refine sx_sub (Sub.c 1 rfl (.c 2 rfl (.c 32 rfl .nil))) ?_
  refine sx_condT rfl ?_
  refine sx_seq fun K16 k16 => sx_region ?_
  refine av rfl rfl (wl_nil (q_n (k16 _ _ ?_)))
  refine sx_retc ?_
  refine q_r (sx_ret1 Tryz.results83 rfl ?_)
  exact ⟨(bFalse (by grind [ROk])), ((cb2.t c7).t c12)⟩
 refine sx_guardT rfl rfl rfl ?_
 refine sp rfl (px_field rfl xfld37x1) ?_
 refine sx_guardT rfl rfl rfl ?_
 refine sp rfl (px_load rfl (f14.load1 rfl Tryz.isAgg23)) ?_
 refine sx_guardT rfl rfl rfl ?_
 refine sp rfl (px_len rfl Tryz.underlying23 f15) ?_
 refine sx_guardT rfl rfl rfl ?_
 refine sp rfl (px_gt rfl rfl) ?_
 refine sp rfl (px_pick rfl rfl) ?_
 refine mv rfl rfl ?_
 refine sx_tmpP (t := 26) rfl (fun h14x3 => ?_) (fun h14x3 => ?_)
 ·
  refine sx_guardF rfl rfl rfl rfl rfl rfl ?_
  refine sx_guardF rfl rfl rfl rfl rfl rfl ?_
  refine sx_guardF rfl rfl rfl rfl rfl rfl ?_
  refine sx_guardF rfl rfl rfl rfl rfl rfl ?_
  refine sx_guardF rfl rfl rfl rfl rfl rfl ?_
  refine sp rfl (px_pick rfl rfl) ?_
  refine wl_nil (q_n (k5 _ _ ?_))
  refine sx_sub (Sub.c 1 rfl (.c 2 rfl (.c 32 rfl .nil))) ?_
  refine sx_condT rfl ?_
  refine sx_seq fun K17 k17 => sx_region ?_
  refine av rfl rfl (wl_nil (q_n (k17 _ _ ?_)))
  refine sx_retc ?_
  refine q_r (sx_ret1 Tryz.results83 rfl ?_)
  exact ⟨(bFalse (by grind [ROk])), ((cb2.t c7).t c12)⟩
 refine sx_guardT rfl rfl rfl ?_
 refine sp rfl (px_field rfl xfld37x0) ?_
 refine sx_guardT rfl rfl rfl ?_
 refine sp rfl (px_field rfl xfld25x1) ?_
 refine sx_guardT rfl rfl rfl ?_
 refine sp rfl (px_load rfl (f14.load1 rfl Tryz.isAgg23)) ?_
 refine sx_guardT rfl rfl rfl ?_
 have f19 := (f6.ext c7).ext c12
 refine sp rfl (px_len rfl Tryz.underlying23 f19) ?_
 refine sx_guardT rfl rfl rfl ?_
 refine sp rfl (px_gt rfl rfl) ?_
 refine sp rfl (px_pick rfl rfl) ?_
 refine wl_nil (q_n (k5 _ _ ?_))
 refine sx_sub (Sub.c 1 rfl (.c 2 rfl (.c 32 rfl .nil))) ?_
 refine sx_condP rfl (fun h14x4 => ?_) (fun h14x4 => ?_)
 ·
  refine sx_seq fun K20 k20 => sx_region ?_
  refine av rfl rfl (wl_nil (q_n (k20 _ _ ?_)))
  refine sx_retc ?_
  refine q_r (sx_ret1 Tryz.results83 rfl ?_)
  exact ⟨(bFalse (by grind [ROk])), ((cb2.t c7).t c12)⟩
 have hR1 := Decidable.not_not.1 h14
 have hR2 := Decidable.not_not.1 h14x1
 obtain ⟨x1, rfl, rfl, hx1⟩ := hR1.int
 obtain ⟨e1, rfl, he1⟩ := hR2.dg
 have he0 : 0 < e1 := len_pos.1 (by omega)
 have hk : ROk (ng x1) (dg x1.natAbs) (dg e1) ↔ dg (Nat.gcd x1.natAbs e1) = [1] := by rw [ROk_iff, dg_is_one]; exact ⟨fun h => h.2.2.2, fun h => ⟨he0, by omega, by omega, h⟩⟩
 refine sx_skip ?_
 refine q_n (k4 _ _ ?_)
 refine sx_seq fun K21 k21 => sx_region ?_
 refine sp rfl (px_field rfl xfld37x0) ?_
 refine sp rfl (px_field rfl xfld25x1) ?_
 refine sp rfl (px_load rfl (f14.load1 rfl Tryz.isAgg23)) ?_
 refine sp rfl (px_field rfl xfld37x1) ?_
 refine sp rfl (px_load rfl (f14.load1 rfl Tryz.isAgg23)) ?_
 refine sx_call rfl rfl Tryz.call80 (c_natGcd f19 f15 (by omega) (by omega)) (fun v22 w22 p22 => ?_)
 obtain ⟨s22, rfl, os_22, c22⟩ := p22
 have zw22 := c22.size
 refine av rfl rfl (wl_nil (q_n (k21 _ _ ?_)))
 refine sx_seq fun K23 k23 => sx_region ?_
 refine mv rfl rfl (sp rfl (px_len rfl Tryz.underlying23 os_22.sv) ?_)
 refine sp rfl (px_eq rfl rfl) ?_
 refine mv rfl rfl ?_
 refine sx_tmpP (t := 42) rfl (fun h18 => ?_) (fun h18 => ?_)
 ·
  refine sx_guardT rfl rfl rfl ?_
  refine mv rfl rfl ?_
  refine sx_guardT rfl rfl rfl ?_
  refine sp rfl (px_index1 (j := 0) rfl rfl (by omega) Tryz.underlying23 Tryz.sizeOf3 os_22.sv (by omega)) ?_
  refine sx_guardT rfl rfl rfl ?_
  refine sp rfl (px_load rfl (os_22.sv.load1 (at_int (by omega)) Tryz.isAgg3)) ?_
  refine sx_guardT rfl rfl rfl ?_
  refine sp rfl (px_eq rfl rfl) ?_
  refine sp rfl (px_pick rfl rfl) ?_
  refine av rfl rfl (wl_nil (q_n (k23 _ _ ?_)))
  refine sx_sub (Sub.c 2 rfl .nil) ?_
  refine sx_retc ?_
  refine sx_ret1 Tryz.results83 rfl ?_
  rw [one_iff] at hk
  exact ⟨(by first | exact bFalse (fun h => by have := hk.1 h; omega) | exact bIff ⟨fun h => hk.2 ⟨by omega, h⟩, fun h => (hk.1 h).2⟩), (((cb2.t c7).t c12).t c22)⟩
 refine sx_guardF rfl rfl rfl rfl rfl rfl ?_
 refine sx_guardF rfl rfl rfl rfl rfl rfl ?_
 refine sx_guardF rfl rfl rfl rfl rfl rfl ?_
 refine sx_guardF rfl rfl rfl rfl rfl rfl ?_
 refine sp rfl (px_pick rfl rfl) ?_
 refine av rfl rfl (wl_nil (q_n (k23 _ _ ?_)))
 refine sx_sub (Sub.c 2 rfl .nil) ?_
 refine sx_retc ?_
 refine sx_ret1 Tryz.results83 rfl ?_
 rw [one_iff] at hk
 exact ⟨(by first | exact bFalse (fun h => by have := hk.1 h; omega) | exact bIff ⟨fun h => hk.2 ⟨by omega, h⟩, fun h => (hk.1 h).2⟩), (((cb2.t c7).t c12).t c22)⟩

theorem c_ratsOk {w : World} {n1 : Bool} {v1 : Value} {lv1 uv1 : Nat} {z1 : List Int} {d1 : Value} {ld1 ud1 : Nat} {y1 : List Int} {n2 : Bool} {v2 : Value} {lv2 uv2 : Nat} {z2 : List Int} {d2 : Value} {ld2 ud2 : Nat} {y2 : List Int} (hv1 : Sl w lv1 uv1 v1 (z1)) (hd1 : Sl w ld1 ud1 d1 (y1)) (hv2 : Sl w lv2 uv2 v2 (z2)) (hd2 : Sl w ld2 ud2 d2 (y2)) (h63 : z1.length ≤ 4611686018427387904 ∧ y1.length ≤ 4611686018427387904 ∧ z2.length ≤ 4611686018427387904 ∧ y2.length ≤ 4611686018427387904) :
  Ret Tryz.prog 47 [.agg #[.bool n1, v1, d1], .agg #[.bool n2, v2, d2]] w fun v w' => v = .bool (decide (ROk n1 z1 y1 ∧ ROk n2 z2 y2)) ∧ Chg 0 0 w w' := by
 have hv10 := hv1.fit
 have hd10 := hd1.fit
 have hv20 := hv2.fit
 have hd20 := hd2.fit
 refine sx_enter Tryz.func47 rfl Tryz.ntmps47 (nbl rfl) ?_
 refine sx_seq fun K1 k1 => sx_region ?_
 refine sx_box [.bool n1, v1, d1] rfl rfl rfl (fun b2 w3 eb2 sb2 fb2 cb2 => ?_)
 have zw3 := cb2.size
 refine sx_box [.bool n2, v2, d2] rfl rfl rfl (fun b4 w5 eb4 sb4 fb4 cb4 => ?_)
 have zw5 := cb4.size
 refine av rfl rfl (wl_nil (q_n (k1 _ _ ?_)))
 refine sx_seq fun K6 k6 => sx_region ?_
 have f7 := fb2.ext cb4
 refine sp rfl (px_load rfl (f7.loadA (vs := [.bool n1, v1, d1]) (look_lit rfl) Tryz.isAgg37 Tryz.sizeOf37)) ?_
 have f8 := hv10.ext cb2
 have f9 := f8.ext cb4
 have f10 := hd10.ext cb2
 have f11 := f10.ext cb4
 refine sx_call rfl rfl Tryz.call83 (c_iRatOk f9 f11 (by omega)) (fun v12 w12 p12 => ?_)
 obtain ⟨rfl, c12⟩ := p12
 have zw12 := c12.size
 refine mv rfl rfl ?_
 refine sx_tmpP (t := 7) rfl (fun h33 => ?_) (fun h33 => ?_)
 ·
  refine sx_guardT rfl rfl rfl ?_
  have f13 := fb4.ext c12
  refine sp rfl (px_load rfl (f13.loadA (vs := [.bool n2, v2, d2]) (look_lit rfl) Tryz.isAgg37 Tryz.sizeOf37)) ?_
  refine sx_guardT rfl rfl rfl ?_
  have f14 := hv20.ext cb2
  have f15 := f14.ext cb4
  have f16 := f15.ext c12
  have f17 := hd20.ext cb2
  have f18 := f17.ext cb4
  have f19 := f18.ext c12
  refine sx_call rfl rfl Tryz.call83 (c_iRatOk f16 f19 (by omega)) (fun v20 w20 p20 => ?_)
  obtain ⟨rfl, c20⟩ := p20
  have zw20 := c20.size
  refine sp rfl (px_pick rfl rfl) ?_
  refine av rfl rfl (wl_nil (q_n (k6 _ _ ?_)))
  refine sx_retc ?_
  refine sx_ret1 Tryz.results47 rfl ?_
  exact ⟨(by first | exact bTrue (by grind) | exact bFalse (by grind) | exact bIff (by grind)), (((cb2.t cb4).t c12).t c20)⟩
 refine sx_guardF rfl rfl rfl rfl rfl rfl ?_
 refine sx_guardF rfl rfl rfl rfl rfl rfl ?_
 refine sp rfl (px_pick rfl rfl) ?_
 refine av rfl rfl (wl_nil (q_n (k6 _ _ ?_)))
 refine sx_retc ?_
 refine sx_ret1 Tryz.results47 rfl ?_
 exact ⟨(by first | exact bTrue (by grind) | exact bFalse (by grind) | exact bIff (by grind)), ((cb2.t cb4).t c12)⟩

end Go.Proofs.YtoeclobdbblohaaGreatDoor
