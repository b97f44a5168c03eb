/- Contracts of functions of the program: what each call returns, and that it changes nothing that was. Conditions: as each says. -/
import Derived.Test.YtlnemcbdbehehaaDoorTy
import Derived.Test.YtlnemcbdbehehaaDoorNatN
import Derived.Test.YtlnemcbdbehehaaDoorSxD
import Derived.Test.YtlnemcbdbehehaaDoorPair
import Derived.Test.YtlnemcbdbehehaaDoorSxW
import Derived.Test.YtlnemcbdbehehaaDoorNatS
import Derived.Test.YtlnemcbdbehehaaDoorSxG
import Derived.Test.YtlnemcbdbehehaaDoorNatT
import Derived.Test.YtlnemcbdbehehaaDoorNatO
import Derived.Test.YtlnemcbdbehehaaDoorNatV
import Derived.Test.YtlnemcbdbehehaaDoorSxP
import Derived.Test.YtlnemcbdbehehaaDoorL2
import Derived.Test.YtlnemcbdbehehaaDoorL3
import Derived.Test.YtlnemcbdbehehaaDoorL4
import Derived.Test.YtlnemcbdbehehaaDoorL5
set_option linter.unusedVariables false
set_option linter.unusedSimpArgs false
namespace Go.Proofs.YtlnemcbdbehehaaDoor
open Go Go.RowKit
set_option maxRecDepth 100000
set_option maxHeartbeats 1000000
theorem law_FnRates {w : World} {vb : Value} {lvb uvb : Nat} {bs : List Int} (hG0 : Glob w) (hvb : SlB w lvb uvb vb (bs)) (hb8 : ∀ j, j < bs.length → 0 ≤ bs.getD j 0 ∧ bs.getD j 0 ≤ 255) (hbs : bs.length ≤ 9223372036854775807) :
  Ret Tryd.prog 4 [vb] w fun v w' => v = .bool (true) ∧ Chg 0 0 w w' := by
 have hvb0 := hvb.fit
 have hG0l : 0 < w.heap.size := by obtain ⟨T, fz, h1⟩ := hG0; rcases Nat.lt_or_ge 0 w.heap.size with h2 | h2; exact h2; simp [Array.getElem?_eq_none h2] at h1
 refine sx_enter Tryd.func4 rfl Tryd.ntmps4 (nbl rfl) ?_
 refine sx_seq fun K1 k1 => sx_region ?_
 refine av rfl rfl (wl_nil (q_n (k1 _ _ ?_)))
 refine sx_seq fun K2 k2 => ?_
 refine sx_seq fun K3 k3 => sx_region ?_
 refine mv rfl rfl (sp rfl (px_len rfl Tryd.underlying51 hvb0) ?_)
 refine sp rfl (px_gt rfl rfl) ?_
 refine wl_nil (q_n (k3 _ _ ?_))
 refine sx_condP rfl (fun h456 => ?_) (fun h456 => ?_)
 ·
  refine sx_seq fun K4 k4 => sx_region ?_
  refine av rfl rfl (wl_nil (q_n (k4 _ _ ?_)))
  refine sx_retc ?_
  refine q_r (sx_ret1 Tryd.results4 rfl ?_)
  exact ⟨rfl, (Chg.refl 0 0 _)⟩
 refine sx_skip ?_
 refine q_n (k2 _ _ ?_)
 refine sx_seq fun K5 k5 => sx_region ?_
 refine mv rfl rfl (sx_call rfl rfl Tryd.call16 (c_MakeRates hvb0 (by assumption) (by omega)) (fun v6 w6 p6 => ?_))
 obtain ⟨s6, qv6, ts6, us6, a6, b6, rfl, os_6, hT6, hsm6, c6⟩ := p6
 have zw6 := c6.size
 have hTT := hT6
 have hsmm := hsm6
 have hl12 := hTT.2.1
 have hzs := sm_hz hsmm
 refine mv rfl rfl (sp rfl (px_ex3 rfl rfl) ?_)
 refine sp rfl (px_ex3 rfl rfl) ?_
 refine sp rfl (px_ex3 rfl rfl) ?_
 refine sx_alloc [.string (⟨#[]⟩), (.slice none 0 0)] rfl Tryd.zeroValue36 rfl (fun b7 w8 eb7 sb7 fb7 cb7 => ?_)
 have zw8 := cb7.size
 have f10 := os_6.ext cb7
 refine sx_store (vs := [.string qv6, s6]) rfl rfl fb7 rfl Tryd.sizeOf36 (nbl rfl) (one_cons rfl (one_cons f10.one one_nil)) (fun w9 sw9 fw9 cw9 => ?_)
 have zw9 := cw9.size
 have gw9 : Blk w9 b7 [.string qv6, s6] 36 := fw9
 refine av rfl rfl (av rfl rfl (wl_nil (q_n (k5 _ _ ?_))))
 refine sx_seq fun K11 k11 => sx_region ?_
 refine sp rfl (px_load rfl (gw9.loadA (vs := [.string qv6, s6]) (look_lit rfl) Tryd.isAgg36 Tryd.sizeOf36)) ?_
 refine mv rfl rfl (mv rfl rfl ?_)
 have f13 := (hG0.ext c6).ext cb7
 have f14 := f13.chg cw9 (by omega)
 have f15 := f10.chg cw9 (by omega)
 refine sx_call rfl rfl Tryd.call17 (c_iRateOfK f14 f15 (by omega) (by first | assumption | exact fun i hi => Nat.le_trans (hzz i hi) (by omega))) (fun v16 w16 p16 => ?_)
 obtain ⟨s16, t16, ls16, us16, lt16, ut16, x16, e16, rfl, os_16, ot_16, hd16, hX16, hv16, hl16, c16⟩ := p16
 have zw16 := c16.size
 have hXX := hX16
 have hvX := hv16
 have hlX := hl16
 refine mv rfl rfl (sp rfl (px_ex2 rfl rfl) ?_)
 refine sp rfl (px_ex2 rfl rfl) ?_
 refine sx_alloc [.bool false, (.slice none 0 0), (.slice none 0 0)] rfl Tryd.zeroValue55 rfl (fun b17 w18 eb17 sb17 fb17 cb17 => ?_)
 have zw18 := cb17.size
 have f20 := ot_16.ext cb17
 have f21 := os_16.ext cb17
 refine sx_store (vs := [.bool (ng x16), s16, t16]) rfl rfl fb17 rfl Tryd.sizeOf55 (nbl rfl) (one_cons rfl (one_cons f21.one (one_cons f20.one one_nil))) (fun w19 sw19 fw19 cw19 => ?_)
 have zw19 := cw19.size
 have gw19 : Blk w19 b17 [.bool (ng x16), s16, t16] 55 := fw19
 refine av rfl rfl (wl_nil (q_n (k11 _ _ ?_)))
 refine sx_sub (Sub.c 2 rfl (.c 3 rfl (.c 4 rfl (.c 5 rfl (.c 6 rfl (.c 7 rfl .nil)))))) ?_
 refine sx_seq fun K22 k22 => sx_region ?_
 have f24 := (gw9.ext c16).ext cb17
 have f25 := f24.chg cw19 (by omega)
 refine sp rfl (px_load rfl (f25.loadA (vs := [.string qv6, s6]) (look_lit rfl) Tryd.isAgg36 Tryd.sizeOf36)) ?_
 refine mv rfl rfl (mv rfl rfl ?_)
 have f27 := (f14.ext c16).ext cb17
 have f28 := f27.chg cw19 (by omega)
 have f30 := (f15.ext c16).ext cb17
 have f31 := f30.chg cw19 (by omega)
 refine sx_call rfl rfl Tryd.call18 (c_iRateHow f28 f31 (by omega) (by first | assumption | exact fun i hi => Nat.le_trans (hzz i hi) (by omega))) (fun v32 w32 p32 => ?_)
 obtain ⟨rfl, c32⟩ := p32
 have zw32 := c32.size
 refine av rfl rfl (wl_nil (q_n (k22 _ _ ?_)))
 refine sx_seq fun K33 k33 => sx_region ?_
 have f34 := f25.ext c32
 refine sp rfl (px_load rfl (f34.loadA (vs := [.string qv6, s6]) (look_lit rfl) Tryd.isAgg36 Tryd.sizeOf36)) ?_
 refine mv rfl rfl (mv rfl rfl ?_)
 have f35 := f28.ext c32
 have f36 := f31.ext c32
 refine sx_call rfl rfl Tryd.call19 (c_iRatePath f35 f36 (by omega) (by first | assumption | exact fun i hi => Nat.le_trans (hzz i hi) (by omega))) (fun v37 w37 p37 => ?_)
 obtain ⟨s37, rfl, os_37, hl37, c37⟩ := p37
 have zw37 := c37.size
 refine av rfl rfl (wl_nil (q_n (k33 _ _ ?_)))
 refine sx_sub (Sub.c 2 rfl (.c 3 rfl (.c 4 rfl (.c 5 rfl (.c 6 rfl (.c 7 rfl (.c 8 rfl (.c 9 rfl .nil)))))))) ?_
 refine sx_seq fun K38 k38 => ?_
 refine sx_seq fun K39 k39 => sx_region ?_
 refine mv rfl rfl (mv rfl rfl (sp rfl (px_ne rfl rfl) ?_))
 refine sp rfl (px_neB Tryd.underlying4 rfl rfl) ?_
 refine mv rfl rfl ?_
 have h463 : ((decide (how qv6 ts6 a6 b6 ≠ 0)) != (decide ((how qv6 ts6 a6 b6 : Int) ≠ 0))) = false := bne_dec Iff.rfl
 refine sx_tmpBF (t := 46) rfl h463 ?_
 refine sx_guardT rfl rfl rfl ?_
 refine mv rfl rfl ?_
 refine sx_guardT rfl rfl rfl ?_
 refine mv rfl rfl ?_
 refine sx_guardT rfl rfl rfl ?_
 refine sp rfl (px_len rfl Tryd.underlying59 os_37.sv) ?_
 refine sx_guardT rfl rfl rfl ?_
 refine sp rfl (px_gt rfl rfl) ?_
 refine sx_guardT rfl rfl rfl ?_
 refine sp rfl (px_neB Tryd.underlying4 rfl rfl) ?_
 refine sp rfl (px_pick rfl rfl) ?_
 refine mv rfl rfl ?_
 have h463x1 : ((decide (how qv6 ts6 a6 b6 ≠ 0)) != (decide ((0 : Int) < ↑((path qv6 ts6 a6 b6).length)))) = false := bne_dec path_pos
 refine sx_tmpBF (t := 53) rfl h463x1 ?_
 refine sx_guardT rfl rfl rfl ?_
 refine mv rfl rfl ?_
 refine sx_guardT rfl rfl rfl ?_
 refine mv rfl rfl ?_
 refine sx_tmpP (t := 55) rfl (fun h463x2 => ?_) (fun h463x2 => ?_)
 ·
  have hpl := path_pos.1 h463x2
  refine sx_guardT rfl rfl rfl ?_
  refine mv rfl rfl ?_
  refine sx_guardT rfl rfl rfl ?_
  refine sp rfl (px_index1 (j := 0) rfl rfl (by omega) Tryd.underlying59 Tryd.sizeOf9 os_37.sv (by omega)) ?_
  refine sx_guardT rfl rfl rfl ?_
  refine sp rfl (px_load rfl (os_37.sv.load1 (at_str (by omega)) Tryd.isAgg9)) ?_
  refine sx_guardT rfl rfl rfl ?_
  refine mv rfl rfl ?_
  refine sx_guardT rfl rfl rfl ?_
  refine sp rfl (px_neS rfl rfl) ?_
  refine sx_guardT rfl rfl rfl ?_
  refine mv rfl rfl ?_
  have h463x3 : ¬ ((path qv6 ts6 a6 b6).getD 0 ByteArray.empty ≠ a6) := Decidable.not_not.2 (path_head h463x2)
  refine sx_tmpPF (t := 61) rfl h463x3 ?_
  refine sx_guardT rfl rfl rfl ?_
  refine mv rfl rfl ?_
  refine sx_guardT rfl rfl rfl ?_
  refine mv rfl rfl ?_
  refine sx_guardT rfl rfl rfl ?_
  refine sp rfl (px_len rfl Tryd.underlying59 os_37.sv) ?_
  refine sx_guardT rfl rfl rfl ?_
  refine sp rfl (px_sub rfl rfl (by omega)) ?_
  refine sx_guardT rfl rfl rfl ?_
  refine sp rfl (px_index1 (j := ((path qv6 ts6 a6 b6).length - 1)) rfl rfl (by omega) Tryd.underlying59 Tryd.sizeOf9 os_37.sv (by omega)) ?_
  refine sx_guardT rfl rfl rfl ?_
  refine sp rfl (px_load rfl (os_37.sv.load1 (at_str (by omega)) Tryd.isAgg9)) ?_
  refine sx_guardT rfl rfl rfl ?_
  refine mv rfl rfl ?_
  refine sx_guardT rfl rfl rfl ?_
  refine sp rfl (px_neS rfl rfl) ?_
  refine sx_guardT rfl rfl rfl ?_
  refine sp rfl (px_pick rfl rfl) ?_
  refine sx_guardT rfl rfl rfl ?_
  refine sp rfl (px_pick rfl rfl) ?_
  refine sp rfl (px_pick rfl rfl) ?_
  refine wl_nil (q_n (k39 _ _ ?_))
  refine sx_sub (Sub.c 2 rfl (.c 3 rfl (.c 4 rfl (.c 5 rfl (.c 6 rfl (.c 7 rfl (.c 8 rfl (.c 9 rfl (.c 72 rfl .nil))))))))) ?_
  have h463x4 : ¬ ((path qv6 ts6 a6 b6).getD ((path qv6 ts6 a6 b6).length - 1) ByteArray.empty ≠ b6) := Decidable.not_not.2 (path_last h463x2)
  refine sx_condPF rfl h463x4 ?_
  refine sx_skip ?_
  refine q_n (k38 _ _ ?_)
  refine sx_seq fun K40 k40 => ?_
  refine sx_seq fun K41 k41 => sx_region ?_
  refine sp rfl (px_field rfl xfld36x1) ?_
  have f42 := f34.ext c37
  refine sp rfl (px_load rfl (f42.load1 rfl Tryd.isAgg34)) ?_
  have f43 := f36.ext c37
  refine sp rfl (px_len rfl Tryd.underlying34 f43.sv) ?_
  refine mv rfl rfl (wl_nil (q_n (k41 _ _ ?_)))
  refine sx_block ?_
  have f46 := (gw19.ext c32).ext c37
  refine sx_loop (fun mm aa w' => ∃ (k : Nat), Agr 177 [(3, .pointer (some ⟨b7, 0, none⟩)), (4, .string a6), (5, .string b6), (6, .pointer (some ⟨b17, 0, none⟩)), (7, .bool (decide (how qv6 ts6 a6 b6 ≠ 0))), (8, .int .i64 (how qv6 ts6 a6 b6)), (9, v37), (74, s6), (75, .int .i64 (↑((ts6).length))), (76, .int .i64 ↑k)] aa ∧ Chg 0 0 w37 w' ∧ Blk w' b7 [.string qv6, s6] 36 ∧ Blk w' b17 [.bool (ng x16), s16, t16] 55 ∧ (mm = ts6.length - k) ∧ (k ≤ ts6.length)) (_) (fun a ha => ⟨0, ha.sub (Sub.c 3 rfl (.c 4 rfl (.c 5 rfl (.c 6 rfl (.c 7 rfl (.c 8 rfl (.c 9 rfl (.c 74 rfl (.c 75 rfl (.c 76 (look_int (t := 76) rfl (by first | omega | simp)) .nil)))))))))), Chg.refl _ _ _, f42, f46, rfl, by omega⟩) ?_
  rintro mm aa wl44 ⟨k, hAwl44, cwl44, hb_b7, hb_b17, hm, hk⟩
  refine (show cw Tryd.prog 177 _ _ _ wl44 from ?_) aa hAwl44
  clear hAwl44
  have zwl44 := cwl44.size
  refine sx_seq fun K47 k47 => sx_region ?_
  refine sp rfl (px_lt rfl rfl) ?_
  refine wl_nil (q_n (k47 _ _ ?_))
  refine sx_seq fun K48 k48 => ?_
  refine sx_condP rfl (fun h466 => ?_) (fun h466 => ?_)
  ·
   refine sx_skip ?_
   refine q_n (k48 _ _ ?_)
   refine sx_seq fun K49 k49 => ?_
   refine sx_block ?_
   refine sx_seq fun K50 k50 => sx_region ?_
   have f51 := f43.ext cwl44
   refine sp rfl (px_indexK (j := k) rfl rfl (by omega) Tryd.underlying34 Tryd.sizeOf44 f51.sv (by omega)) ?_
   refine sp rfl (px_load rfl (f51.sv.loadA (rt_look f51.len (by omega)) Tryd.isAgg44 Tryd.sizeOf44)) ?_
   refine sx_alloc [.string (⟨#[]⟩), .string (⟨#[]⟩), .bool false, (.slice none 0 0), .int .i64 0] rfl Tryd.zeroValue44 rfl (fun b52 w53 eb52 sb52 fb52 cb52 => ?_)
   have zw53 := cb52.size
   have f55 := (f51.nest k (by omega)).ext cb52
   refine sx_store (vs := [.string ((ts6.getD k rt0).1), .string ((ts6.getD k rt0).2.1), .bool ((ts6.getD k rt0).2.2.1), (us6.getD k vz), .int .i64 ((ts6.getD k rt0).2.2.2.2)]) rfl rfl fb52 rfl Tryd.sizeOf44 (nbl rfl) (one_cons rfl (one_cons rfl (one_cons rfl (one_cons f55.one (o1 rfl))))) (fun w54 sw54 fw54 cw54 => ?_)
   have zw54 := cw54.size
   have gw54 : Blk w54 b52 [.string ((ts6.getD k rt0).1), .string ((ts6.getD k rt0).2.1), .bool ((ts6.getD k rt0).2.2.1), (us6.getD k vz), .int .i64 ((ts6.getD k rt0).2.2.2.2)] 44 := fw54
   refine wl_nil (q_n (k50 _ _ ?_))
   refine sx_seq fun K56 k56 => ?_
   by_cases ph467 : (ts6.getD k rt0).1 = a6
   ·
    by_cases ph467x1 : (ts6.getD k rt0).2.1 = b6
    ·
     have hh := rate_hit hTT (k := k) (by omega)
     rw [ph467, ph467x1] at hh
     have f58 := (f35.ext c37).ext cwl44
     have f59 := f58.ext cb52
     have f60 := f59.chg cw54 (by omega)
     have f61 := hb_b7.ext cb52
     have f62 := f61.chg cw54 (by omega)
     have f63 := hb_b17.ext cb52
     have f64 := f63.chg cw54 (by omega)
     have f66 := (hvb0.ext c6).ext cb7
     have f67 := f66.chg cw9 (by omega)
     have f69 := (f67.ext c16).ext cb17
     have f70 := f69.chg cw19 (by omega)
     have f73 := ((f70.ext c32).ext c37).ext cwl44
     have f74 := f73.ext cb52
     have f75 := f74.chg cw54 (by omega)
     have f76 := f51.ext cb52
     have f77 := f76.chg cw54 (by omega)
     have f78 := f21.chg cw19 (by omega)
     have f81 := ((f78.ext c32).ext c37).ext cwl44
     have f82 := f81.ext cb52
     have f83 := f82.chg cw54 (by omega)
     have f84 := f20.chg cw19 (by omega)
     have f87 := ((f84.ext c32).ext c37).ext cwl44
     have f88 := f87.ext cb52
     have f89 := f88.chg cw54 (by omega)
     have f90 := os_37.ext cwl44
     have f91 := f90.ext cb52
     have f92 := f91.chg cw54 (by omega)
     have f93 := f55.chg cw54 (by omega)
     refine dx_region (fun w' => Chg 0 0 w54 w') (by kernel_rfl) (Chg.zero (Chg.drew _)) ?_
     have d94 := Chg.drew w54
     have s94 : Chg 0 0 w54 (World.drew w54) := Chg.zero (Chg.drew _)
     have y94 : (World.drew w54).heap.size = w54.heap.size := rfl
     generalize World.drew w54 = w94 at *
     have zw94 := d94.size
     refine dt 0 rfl rfl rfl rfl s94 (fun _ hS => px_field rfl xfld44x0) ?_
     refine dt 1 rfl rfl rfl rfl s94 (fun _ hS => px_load rfl ((gw54.chg hS (by omega)).load1 rfl Tryd.isAgg9)) ?_
     refine dt 2 rfl rfl rfl rfl s94 (fun _ hS => px_move rfl) ?_
     refine dt 3 rfl rfl rfl rfl s94 (fun _ hS => px_eqS rfl rfl) ?_
     refine dt 4 rfl rfl rfl rfl s94 (fun _ hS => px_move rfl) ?_
     have h467 : (ts6.getD k rt0).1 = a6 := by first | omega | exact ph467
     refine dx_tmpPT (t := 84) rfl h467 ?_
     refine dx_takeG 5 rfl rfl rfl rfl rfl rfl (by kernel_rfl) (by kernel_rfl) (by kernel_rfl) s94 (fun _ hS => px_field rfl xfld44x1) ?_
     refine dx_takeG 6 rfl rfl rfl rfl rfl rfl (by kernel_rfl) (by kernel_rfl) (by kernel_rfl) s94 (fun _ hS => px_load rfl ((gw54.chg hS (by omega)).load1 rfl Tryd.isAgg9)) ?_
     refine dx_takeG 7 rfl rfl rfl rfl rfl rfl (by kernel_rfl) (by kernel_rfl) (by kernel_rfl) s94 (fun _ hS => px_move rfl) ?_
     refine dx_takeG 8 rfl rfl rfl rfl rfl rfl (by kernel_rfl) (by kernel_rfl) (by kernel_rfl) s94 (fun _ hS => px_eqS rfl rfl) ?_
     refine dt 9 rfl rfl rfl rfl s94 (fun _ hS => px_pick rfl rfl) ?_
     refine dt 10 rfl rfl rfl rfl s94 (fun _ hS => px_move rfl) ?_
     have h467x1 : (ts6.getD k rt0).2.1 = b6 := by first | omega | exact ph467x1
     refine dx_tmpPT (t := 90) rfl h467x1 ?_
     refine dx_takeG 11 rfl rfl rfl rfl rfl rfl (by kernel_rfl) (by kernel_rfl) (by kernel_rfl) s94 (fun _ hS => px_move rfl) ?_
     refine dx_takeG 12 rfl rfl rfl rfl rfl rfl (by kernel_rfl) (by kernel_rfl) (by kernel_rfl) s94 (fun _ hS => px_ne rfl rfl) ?_
     refine dx_takeG 13 rfl rfl rfl rfl rfl rfl (by kernel_rfl) (by kernel_rfl) (by kernel_rfl) s94 (fun _ hS => px_move rfl) ?_
     have h467x2 : ¬ ((how qv6 ts6 a6 b6 : Int) ≠ 2) := fun h => h hh.1
     refine dx_tmpPF (t := 93) rfl h467x2 ?_
     refine dx_takeG 14 rfl rfl rfl rfl rfl rfl (by kernel_rfl) (by kernel_rfl) (by kernel_rfl) s94 (fun _ hS => px_load rfl ((f64.chg hS (by omega)).loadA (vs := [.bool (ng x16), s16, t16]) (look_lit rfl) Tryd.isAgg55 Tryd.sizeOf55)) ?_
     refine dx_takeG 15 rfl rfl rfl rfl rfl rfl (by kernel_rfl) (by kernel_rfl) (by kernel_rfl) s94 (fun _ hS => px_field rfl xfld44x2) ?_
     refine dx_takeG 16 rfl rfl rfl rfl rfl rfl (by kernel_rfl) (by kernel_rfl) (by kernel_rfl) s94 (fun _ hS => px_load rfl ((gw54.chg hS (by omega)).loadA (vs := [.bool ((ts6.getD k rt0).2.2.1), (us6.getD k vz), .int .i64 ((ts6.getD k rt0).2.2.2.2)]) (look_lit rfl) Tryd.isAgg42 Tryd.sizeOf42)) ?_
     refine dx_eff 17 rfl (by kernel_rfl) ?_
     refine sx_guardT rfl rfl rfl ?_
     have f95 := f93.ext d94
     refine sx_call rfl rfl Tryd.call21 (c_iDecRatK f95 (hzs k (by omega)) (Pos_rate (hTT.2.2.1 k (by omega)))) (fun v96 w96 p96 => ?_)
     obtain ⟨s96, t96, ls96, us96, lt96, ut96, x96, e96, rfl, os_96, ot_96, hd96, hK96, hv96, c96⟩ := p96
     have zw96 := c96.size
     have s97 : Chg 0 0 w54 w96 := (d94.t c96)
     refine wl_nil ?_
     refine dx_next s97 ?_
     refine dx_eff 18 rfl (by kernel_rfl) ?_
     refine sx_guardT rfl rfl rfl ?_
     have f99 := (f83.ext d94).ext c96
     have f101 := (f89.ext d94).ext c96
     refine sx_call rfl rfl Tryd.call20 (c_iRatCmpK f99.sv f101.sv os_96.sv ot_96.sv (by first | assumption | exact (hXX (by omega)).1) (by assumption)) (fun v102 w102 p102 => ?_)
     obtain ⟨rfl, c102⟩ := p102
     have zw102 := c102.size
     have s103 : Chg 0 0 w54 w102 := ((d94.t c96).t c102)
     refine wl_nil ?_
     refine dx_next s103 ?_
     refine dx_takeG 19 rfl rfl rfl rfl rfl rfl (by kernel_rfl) (by kernel_rfl) (by kernel_rfl) s103 (fun _ hS => px_ne rfl rfl) ?_
     refine dx_takeG 20 rfl rfl rfl rfl rfl rfl (by kernel_rfl) (by kernel_rfl) (by kernel_rfl) s103 (fun _ hS => px_pick rfl rfl) ?_
     refine dt 21 rfl rfl rfl rfl s103 (fun _ hS => px_pick rfl rfl) ?_
     refine dx_done (by kernel_rfl) ?_
     refine q_n (k56 _ _ ?_)
     refine sx_sub (Sub.c 3 rfl (.c 4 rfl (.c 5 rfl (.c 6 rfl (.c 7 rfl (.c 8 rfl (.c 9 rfl (.c 74 rfl (.c 75 rfl (.c 76 rfl (.c 101 rfl .nil))))))))))) ?_
     have h467x3 : ¬ ((cmpI ((x16) * ((e96 : Nat) : Int)) ((x96) * ((e16 : Nat) : Int)) : Int) ≠ 0) := Decidable.not_not.2 (cmp_same hvX (hh.2.trans (by assumption)))
     refine sx_condPF rfl h467x3 ?_
     refine sx_skip ?_
     refine q_bn (q_n (k49 _ _ ?_))
     refine sx_region ?_
     refine sp rfl (px_add rfl rfl (by omega)) ?_
     refine mv rfl rfl (wl_nil ?_)
     have q104 := Chg.step (l := 0) (h := 0) (Chg.zero (l := 0) (h := 0) (cwl44.t cb52)) cw54 (by omega)
     have q105 := Chg.step (l := 0) (h := 0) q104 ((d94.t c96).t c102) (by omega)
     have f108 := ((f62.ext d94).ext c96).ext c102
     have f111 := ((f64.ext d94).ext c96).ext c102
     exact fun a ha => ⟨_, by omega, (k + 1), ha.sub (Sub.c 3 rfl (.c 4 rfl (.c 5 rfl (.c 6 rfl (.c 7 rfl (.c 8 rfl (.c 9 rfl (.c 74 rfl (.c 75 rfl (.c 76 (look_int (t := 76) rfl (by first | omega | simp)) .nil)))))))))), q105, f108, f111, rfl, by omega⟩
    have f113 := (f35.ext c37).ext cwl44
    have f114 := f113.ext cb52
    have f115 := f114.chg cw54 (by omega)
    have f116 := hb_b7.ext cb52
    have f117 := f116.chg cw54 (by omega)
    have f118 := hb_b17.ext cb52
    have f119 := f118.chg cw54 (by omega)
    have f121 := (hvb0.ext c6).ext cb7
    have f122 := f121.chg cw9 (by omega)
    have f124 := (f122.ext c16).ext cb17
    have f125 := f124.chg cw19 (by omega)
    have f128 := ((f125.ext c32).ext c37).ext cwl44
    have f129 := f128.ext cb52
    have f130 := f129.chg cw54 (by omega)
    have f131 := f51.ext cb52
    have f132 := f131.chg cw54 (by omega)
    have f133 := f21.chg cw19 (by omega)
    have f136 := ((f133.ext c32).ext c37).ext cwl44
    have f137 := f136.ext cb52
    have f138 := f137.chg cw54 (by omega)
    have f139 := f20.chg cw19 (by omega)
    have f142 := ((f139.ext c32).ext c37).ext cwl44
    have f143 := f142.ext cb52
    have f144 := f143.chg cw54 (by omega)
    have f145 := os_37.ext cwl44
    have f146 := f145.ext cb52
    have f147 := f146.chg cw54 (by omega)
    have f148 := f55.chg cw54 (by omega)
    refine dx_region (fun w' => Chg 0 0 w54 w') (by kernel_rfl) (Chg.zero (Chg.drew _)) ?_
    have d149 := Chg.drew w54
    have s149 : Chg 0 0 w54 (World.drew w54) := Chg.zero (Chg.drew _)
    have y149 : (World.drew w54).heap.size = w54.heap.size := rfl
    generalize World.drew w54 = w149 at *
    have zw149 := d149.size
    refine dt 0 rfl rfl rfl rfl s149 (fun _ hS => px_field rfl xfld44x0) ?_
    refine dt 1 rfl rfl rfl rfl s149 (fun _ hS => px_load rfl ((gw54.chg hS (by omega)).load1 rfl Tryd.isAgg9)) ?_
    refine dt 2 rfl rfl rfl rfl s149 (fun _ hS => px_move rfl) ?_
    refine dt 3 rfl rfl rfl rfl s149 (fun _ hS => px_eqS rfl rfl) ?_
    refine dt 4 rfl rfl rfl rfl s149 (fun _ hS => px_move rfl) ?_
    have h467 : (ts6.getD k rt0).1 = a6 := by first | omega | exact ph467
    refine dx_tmpPT (t := 84) rfl h467 ?_
    refine dx_takeG 5 rfl rfl rfl rfl rfl rfl (by kernel_rfl) (by kernel_rfl) (by kernel_rfl) s149 (fun _ hS => px_field rfl xfld44x1) ?_
    refine dx_takeG 6 rfl rfl rfl rfl rfl rfl (by kernel_rfl) (by kernel_rfl) (by kernel_rfl) s149 (fun _ hS => px_load rfl ((gw54.chg hS (by omega)).load1 rfl Tryd.isAgg9)) ?_
    refine dx_takeG 7 rfl rfl rfl rfl rfl rfl (by kernel_rfl) (by kernel_rfl) (by kernel_rfl) s149 (fun _ hS => px_move rfl) ?_
    refine dx_takeG 8 rfl rfl rfl rfl rfl rfl (by kernel_rfl) (by kernel_rfl) (by kernel_rfl) s149 (fun _ hS => px_eqS rfl rfl) ?_
    refine dt 9 rfl rfl rfl rfl s149 (fun _ hS => px_pick rfl rfl) ?_
    refine dt 10 rfl rfl rfl rfl s149 (fun _ hS => px_move rfl) ?_
    have h467x1 : ¬ ((ts6.getD k rt0).2.1 = b6) := by first | omega | exact ph467x1
    refine dx_tmpPF (t := 90) rfl h467x1 ?_
    refine dx_skip 11 rfl rfl rfl rfl rfl rfl rfl (by kernel_rfl) (by kernel_rfl) (by kernel_rfl) s149 ?_
    refine dx_skip 12 rfl rfl rfl rfl rfl rfl rfl (by kernel_rfl) (by kernel_rfl) (by kernel_rfl) s149 ?_
    refine dx_skip 13 rfl rfl rfl rfl rfl rfl rfl (by kernel_rfl) (by kernel_rfl) (by kernel_rfl) s149 ?_
    refine dx_skipU 14 rfl rfl rfl rfl rfl rfl (by kernel_rfl) (by kernel_rfl) (by kernel_rfl) s149 ?_
    refine dx_skipU 15 rfl rfl rfl rfl rfl rfl (by kernel_rfl) (by kernel_rfl) (by kernel_rfl) s149 ?_
    refine dx_skipU 16 rfl rfl rfl rfl rfl rfl (by kernel_rfl) (by kernel_rfl) (by kernel_rfl) s149 ?_
    refine dx_skipU 17 rfl rfl rfl rfl rfl rfl (by kernel_rfl) (by kernel_rfl) (by kernel_rfl) s149 ?_
    refine dx_skipU 18 rfl rfl rfl rfl rfl rfl (by kernel_rfl) (by kernel_rfl) (by kernel_rfl) s149 ?_
    refine dx_skipU 19 rfl rfl rfl rfl rfl rfl (by kernel_rfl) (by kernel_rfl) (by kernel_rfl) s149 ?_
    refine dx_skip 20 rfl rfl rfl rfl rfl rfl rfl (by kernel_rfl) (by kernel_rfl) (by kernel_rfl) s149 ?_
    refine dt 21 rfl rfl rfl rfl s149 (fun _ hS => px_pick rfl rfl) ?_
    refine dx_done (by kernel_rfl) ?_
    refine q_n (k56 _ _ ?_)
    refine sx_sub (Sub.c 3 rfl (.c 4 rfl (.c 5 rfl (.c 6 rfl (.c 7 rfl (.c 8 rfl (.c 9 rfl (.c 74 rfl (.c 75 rfl (.c 76 rfl (.c 101 rfl .nil))))))))))) ?_
    refine sx_condF rfl ?_
    refine sx_skip ?_
    refine q_bn (q_n (k49 _ _ ?_))
    refine sx_region ?_
    refine sp rfl (px_add rfl rfl (by omega)) ?_
    refine mv rfl rfl (wl_nil ?_)
    have q150 := Chg.step (l := 0) (h := 0) (Chg.zero (l := 0) (h := 0) (cwl44.t cb52)) cw54 (by omega)
    have q151 := Chg.step (l := 0) (h := 0) q150 d149 (by omega)
    have f152 := f117.ext d149
    have f153 := f119.ext d149
    exact fun a ha => ⟨_, by omega, (k + 1), ha.sub (Sub.c 3 rfl (.c 4 rfl (.c 5 rfl (.c 6 rfl (.c 7 rfl (.c 8 rfl (.c 9 rfl (.c 74 rfl (.c 75 rfl (.c 76 (look_int (t := 76) rfl (by first | omega | simp)) .nil)))))))))), q151, f152, f153, rfl, by omega⟩
   have f155 := (f35.ext c37).ext cwl44
   have f156 := f155.ext cb52
   have f157 := f156.chg cw54 (by omega)
   have f158 := hb_b7.ext cb52
   have f159 := f158.chg cw54 (by omega)
   have f160 := hb_b17.ext cb52
   have f161 := f160.chg cw54 (by omega)
   have f163 := (hvb0.ext c6).ext cb7
   have f164 := f163.chg cw9 (by omega)
   have f166 := (f164.ext c16).ext cb17
   have f167 := f166.chg cw19 (by omega)
   have f170 := ((f167.ext c32).ext c37).ext cwl44
   have f171 := f170.ext cb52
   have f172 := f171.chg cw54 (by omega)
   have f173 := f51.ext cb52
   have f174 := f173.chg cw54 (by omega)
   have f175 := f21.chg cw19 (by omega)
   have f178 := ((f175.ext c32).ext c37).ext cwl44
   have f179 := f178.ext cb52
   have f180 := f179.chg cw54 (by omega)
   have f181 := f20.chg cw19 (by omega)
   have f184 := ((f181.ext c32).ext c37).ext cwl44
   have f185 := f184.ext cb52
   have f186 := f185.chg cw54 (by omega)
   have f187 := os_37.ext cwl44
   have f188 := f187.ext cb52
   have f189 := f188.chg cw54 (by omega)
   have f190 := f55.chg cw54 (by omega)
   refine dx_region (fun w' => Chg 0 0 w54 w') (by kernel_rfl) (Chg.zero (Chg.drew _)) ?_
   have d191 := Chg.drew w54
   have s191 : Chg 0 0 w54 (World.drew w54) := Chg.zero (Chg.drew _)
   have y191 : (World.drew w54).heap.size = w54.heap.size := rfl
   generalize World.drew w54 = w191 at *
   have zw191 := d191.size
   refine dt 0 rfl rfl rfl rfl s191 (fun _ hS => px_field rfl xfld44x0) ?_
   refine dt 1 rfl rfl rfl rfl s191 (fun _ hS => px_load rfl ((gw54.chg hS (by omega)).load1 rfl Tryd.isAgg9)) ?_
   refine dt 2 rfl rfl rfl rfl s191 (fun _ hS => px_move rfl) ?_
   refine dt 3 rfl rfl rfl rfl s191 (fun _ hS => px_eqS rfl rfl) ?_
   refine dt 4 rfl rfl rfl rfl s191 (fun _ hS => px_move rfl) ?_
   have h467 : ¬ ((ts6.getD k rt0).1 = a6) := by first | omega | exact ph467
   refine dx_tmpPF (t := 84) rfl h467 ?_
   refine dx_skip 5 rfl rfl rfl rfl rfl rfl rfl (by kernel_rfl) (by kernel_rfl) (by kernel_rfl) s191 ?_
   refine dx_skip 6 rfl rfl rfl rfl rfl rfl rfl (by kernel_rfl) (by kernel_rfl) (by kernel_rfl) s191 ?_
   refine dx_skip 7 rfl rfl rfl rfl rfl rfl rfl (by kernel_rfl) (by kernel_rfl) (by kernel_rfl) s191 ?_
   refine dx_skip 8 rfl rfl rfl rfl rfl rfl rfl (by kernel_rfl) (by kernel_rfl) (by kernel_rfl) s191 ?_
   refine dt 9 rfl rfl rfl rfl s191 (fun _ hS => px_pick rfl rfl) ?_
   refine dt 10 rfl rfl rfl rfl s191 (fun _ hS => px_move rfl) ?_
   refine dx_skip 11 rfl rfl rfl rfl rfl rfl rfl (by kernel_rfl) (by kernel_rfl) (by kernel_rfl) s191 ?_
   refine dx_skip 12 rfl rfl rfl rfl rfl rfl rfl (by kernel_rfl) (by kernel_rfl) (by kernel_rfl) s191 ?_
   refine dx_skip 13 rfl rfl rfl rfl rfl rfl rfl (by kernel_rfl) (by kernel_rfl) (by kernel_rfl) s191 ?_
   refine dx_skipU 14 rfl rfl rfl rfl rfl rfl (by kernel_rfl) (by kernel_rfl) (by kernel_rfl) s191 ?_
   refine dx_skipU 15 rfl rfl rfl rfl rfl rfl (by kernel_rfl) (by kernel_rfl) (by kernel_rfl) s191 ?_
   refine dx_skipU 16 rfl rfl rfl rfl rfl rfl (by kernel_rfl) (by kernel_rfl) (by kernel_rfl) s191 ?_
   refine dx_skipU 17 rfl rfl rfl rfl rfl rfl (by kernel_rfl) (by kernel_rfl) (by kernel_rfl) s191 ?_
   refine dx_skipU 18 rfl rfl rfl rfl rfl rfl (by kernel_rfl) (by kernel_rfl) (by kernel_rfl) s191 ?_
   refine dx_skipU 19 rfl rfl rfl rfl rfl rfl (by kernel_rfl) (by kernel_rfl) (by kernel_rfl) s191 ?_
   refine dx_skip 20 rfl rfl rfl rfl rfl rfl rfl (by kernel_rfl) (by kernel_rfl) (by kernel_rfl) s191 ?_
   refine dt 21 rfl rfl rfl rfl s191 (fun _ hS => px_pick rfl rfl) ?_
   refine dx_done (by kernel_rfl) ?_
   refine q_n (k56 _ _ ?_)
   refine sx_sub (Sub.c 3 rfl (.c 4 rfl (.c 5 rfl (.c 6 rfl (.c 7 rfl (.c 8 rfl (.c 9 rfl (.c 74 rfl (.c 75 rfl (.c 76 rfl (.c 101 rfl .nil))))))))))) ?_
   refine sx_condF rfl ?_
   refine sx_skip ?_
   refine q_bn (q_n (k49 _ _ ?_))
   refine sx_region ?_
   refine sp rfl (px_add rfl rfl (by omega)) ?_
   refine mv rfl rfl (wl_nil ?_)
   have q192 := Chg.step (l := 0) (h := 0) (Chg.zero (l := 0) (h := 0) (cwl44.t cb52)) cw54 (by omega)
   have q193 := Chg.step (l := 0) (h := 0) q192 d191 (by omega)
   have f194 := f159.ext d191
   have f195 := f161.ext d191
   exact fun a ha => ⟨_, by omega, (k + 1), ha.sub (Sub.c 3 rfl (.c 4 rfl (.c 5 rfl (.c 6 rfl (.c 7 rfl (.c 8 rfl (.c 9 rfl (.c 74 rfl (.c 75 rfl (.c 76 (look_int (t := 76) rfl (by first | omega | simp)) .nil)))))))))), q193, f194, f195, rfl, by omega⟩
  refine sx_exit ?_
  refine q_e (q_e (q_bx (q_n (k40 _ _ ?_))))
  refine sx_seq fun K196 k196 => ?_
  refine sx_seq fun K197 k197 => sx_region ?_
  refine mv rfl rfl (sp rfl (px_eq rfl rfl) ?_)
  refine wl_nil (q_n (k197 _ _ ?_))
  refine sx_condP rfl (fun h471 => ?_) (fun h471 => ?_)
  ·
   refine sx_seq fun K198 k198 => sx_region ?_
   refine sp rfl (px_load rfl (hb_b7.loadA (vs := [.string qv6, s6]) (look_lit rfl) Tryd.isAgg36 Tryd.sizeOf36)) ?_
   refine mv rfl rfl (sp rfl (px_field rfl xfld36x0) ?_)
   refine sp rfl (px_load rfl (hb_b7.load1 rfl Tryd.isAgg9)) ?_
   have f200 := (f35.ext c37).ext cwl44
   have f201 := f43.ext cwl44
   refine sx_call rfl rfl Tryd.call17 (c_iRateOfK f200 f201 (by omega) (by first | assumption | exact fun i hi => Nat.le_trans (hzz i hi) (by omega))) (fun v202 w202 p202 => ?_)
   obtain ⟨s202, t202, ls202, us202, lt202, ut202, x202, e202, rfl, os_202, ot_202, hd202, hX202, hv202, hl202, c202⟩ := p202
   have zw202 := c202.size
   have hXa := hX202
   have hva := hv202
   have hla := hl202
   refine mv rfl rfl (sp rfl (px_ex2 rfl rfl) ?_)
   refine sp rfl (px_ex2 rfl rfl) ?_
   refine sx_alloc [.bool false, (.slice none 0 0), (.slice none 0 0)] rfl Tryd.zeroValue55 rfl (fun b203 w204 eb203 sb203 fb203 cb203 => ?_)
   have zw204 := cb203.size
   have f206 := ot_202.ext cb203
   have f207 := os_202.ext cb203
   refine sx_store (vs := [.bool (ng x202), s202, t202]) rfl rfl fb203 rfl Tryd.sizeOf55 (nbl rfl) (one_cons rfl (one_cons f207.one (one_cons f206.one one_nil))) (fun w205 sw205 fw205 cw205 => ?_)
   have zw205 := cw205.size
   have gw205 : Blk w205 b203 [.bool (ng x202), s202, t202] 55 := fw205
   refine av rfl rfl (wl_nil (q_n (k198 _ _ ?_)))
   refine sx_sub (Sub.c 3 rfl (.c 4 rfl (.c 5 rfl (.c 6 rfl (.c 7 rfl (.c 8 rfl (.c 9 rfl (.c 12 rfl (.c 13 rfl .nil))))))))) ?_
   refine sx_seq fun K208 k208 => sx_region ?_
   have f210 := (hb_b7.ext c202).ext cb203
   have f211 := f210.chg cw205 (by omega)
   refine sp rfl (px_load rfl (f211.loadA (vs := [.string qv6, s6]) (look_lit rfl) Tryd.isAgg36 Tryd.sizeOf36)) ?_
   refine sp rfl (px_field rfl xfld36x0) ?_
   refine sp rfl (px_load rfl (f211.load1 rfl Tryd.isAgg9)) ?_
   refine mv rfl rfl ?_
   have f213 := (f200.ext c202).ext cb203
   have f214 := f213.chg cw205 (by omega)
   have f216 := (f201.ext c202).ext cb203
   have f217 := f216.chg cw205 (by omega)
   refine sx_call rfl rfl Tryd.call17 (c_iRateOfK f214 f217 (by omega) (by first | assumption | exact fun i hi => Nat.le_trans (hzz i hi) (by omega))) (fun v218 w218 p218 => ?_)
   obtain ⟨s218, t218, ls218, us218, lt218, ut218, x218, e218, rfl, os_218, ot_218, hd218, hX218, hv218, hl218, c218⟩ := p218
   have zw218 := c218.size
   have hXb := hX218
   have hvb := hv218
   have hlb := hl218
   refine mv rfl rfl (sp rfl (px_ex2 rfl rfl) ?_)
   refine sp rfl (px_ex2 rfl rfl) ?_
   refine sx_alloc [.bool false, (.slice none 0 0), (.slice none 0 0)] rfl Tryd.zeroValue55 rfl (fun b219 w220 eb219 sb219 fb219 cb219 => ?_)
   have zw220 := cb219.size
   have f222 := ot_218.ext cb219
   have f223 := os_218.ext cb219
   refine sx_store (vs := [.bool (ng x218), s218, t218]) rfl rfl fb219 rfl Tryd.sizeOf55 (nbl rfl) (one_cons rfl (one_cons f223.one (one_cons f222.one one_nil))) (fun w221 sw221 fw221 cw221 => ?_)
   have zw221 := cw221.size
   have gw221 : Blk w221 b219 [.bool (ng x218), s218, t218] 55 := fw221
   refine av rfl rfl (wl_nil (q_n (k208 _ _ ?_)))
   refine sx_sub (Sub.c 3 rfl (.c 4 rfl (.c 5 rfl (.c 6 rfl (.c 7 rfl (.c 8 rfl (.c 9 rfl (.c 12 rfl (.c 13 rfl (.c 14 rfl (.c 15 rfl .nil))))))))))) ?_
   refine sx_seq fun K224 k224 => ?_
   have f226 := (f214.ext c218).ext cb219
   have f227 := f226.chg cw221 (by omega)
   have f229 := (f211.ext c218).ext cb219
   have f230 := f229.chg cw221 (by omega)
   have f232 := (hb_b17.ext c202).ext cb203
   have f233 := f232.chg cw205 (by omega)
   have f235 := (f233.ext c218).ext cb219
   have f236 := f235.chg cw221 (by omega)
   have f238 := (gw205.ext c218).ext cb219
   have f239 := f238.chg cw221 (by omega)
   have f241 := (hvb0.ext c6).ext cb7
   have f242 := f241.chg cw9 (by omega)
   have f244 := (f242.ext c16).ext cb17
   have f245 := f244.chg cw19 (by omega)
   have f248 := ((f245.ext c32).ext c37).ext cwl44
   have f250 := (f248.ext c202).ext cb203
   have f251 := f250.chg cw205 (by omega)
   have f253 := (f251.ext c218).ext cb219
   have f254 := f253.chg cw221 (by omega)
   have f256 := (f217.ext c218).ext cb219
   have f257 := f256.chg cw221 (by omega)
   have f258 := f21.chg cw19 (by omega)
   have f261 := ((f258.ext c32).ext c37).ext cwl44
   have f263 := (f261.ext c202).ext cb203
   have f264 := f263.chg cw205 (by omega)
   have f266 := (f264.ext c218).ext cb219
   have f267 := f266.chg cw221 (by omega)
   have f268 := f20.chg cw19 (by omega)
   have f271 := ((f268.ext c32).ext c37).ext cwl44
   have f273 := (f271.ext c202).ext cb203
   have f274 := f273.chg cw205 (by omega)
   have f276 := (f274.ext c218).ext cb219
   have f277 := f276.chg cw221 (by omega)
   have f278 := os_37.ext cwl44
   have f280 := (f278.ext c202).ext cb203
   have f281 := f280.chg cw205 (by omega)
   have f283 := (f281.ext c218).ext cb219
   have f284 := f283.chg cw221 (by omega)
   have f285 := f207.chg cw205 (by omega)
   have f287 := (f285.ext c218).ext cb219
   have f288 := f287.chg cw221 (by omega)
   have f289 := f206.chg cw205 (by omega)
   have f291 := (f289.ext c218).ext cb219
   have f292 := f291.chg cw221 (by omega)
   have f293 := f223.chg cw221 (by omega)
   have f294 := f222.chg cw221 (by omega)
   refine dx_region (fun w' => Chg 0 0 w221 w') (by kernel_rfl) (Chg.zero (Chg.drew _)) ?_
   have d295 := Chg.drew w221
   have s295 : Chg 0 0 w221 (World.drew w221) := Chg.zero (Chg.drew _)
   have y295 : (World.drew w221).heap.size = w221.heap.size := rfl
   generalize World.drew w221 = w295 at *
   have zw295 := d295.size
   refine dt 0 rfl rfl rfl rfl s295 (fun _ hS => px_move rfl) ?_
   refine dt 1 rfl rfl rfl rfl s295 (fun _ hS => px_move rfl) ?_
   have h474 : how qv6 ts6 a6 qv6 ≠ 0 := (how4_legs h471).1
   refine dx_tmpPT (t := 122) rfl h474 ?_
   refine dx_takeG 2 rfl rfl rfl rfl rfl rfl (by kernel_rfl) (by kernel_rfl) (by kernel_rfl) s295 (fun _ hS => px_move rfl) ?_
   refine dt 3 rfl rfl rfl rfl s295 (fun _ hS => px_pick rfl rfl) ?_
   refine dt 4 rfl rfl rfl rfl s295 (fun _ hS => px_move rfl) ?_
   have h474x1 : how qv6 ts6 qv6 b6 ≠ 0 := (how4_legs h471).2
   refine dx_tmpPT (t := 125) rfl h474x1 ?_
   refine dx_takeG 5 rfl rfl rfl rfl rfl rfl (by kernel_rfl) (by kernel_rfl) (by kernel_rfl) s295 (fun _ hS => px_move rfl) ?_
   refine dx_takeG 6 rfl rfl rfl rfl rfl rfl (by kernel_rfl) (by kernel_rfl) (by kernel_rfl) s295 (fun _ hS => px_len rfl Tryd.underlying59 ((f284.sv).chg hS (by omega))) ?_
   refine dx_takeG 7 rfl rfl rfl rfl rfl rfl (by kernel_rfl) (by kernel_rfl) (by kernel_rfl) s295 (fun _ hS => px_eq rfl rfl) ?_
   refine dt 8 rfl rfl rfl rfl s295 (fun _ hS => px_pick rfl rfl) ?_
   refine dt 9 rfl rfl rfl rfl s295 (fun _ hS => px_move rfl) ?_
   have h474x2 : (↑((path qv6 ts6 a6 b6).length) : Int) = 3 := by rw [path_4 h471]; rfl
   refine dx_tmpPT (t := 130) rfl h474x2 ?_
   refine dx_takeG 10 rfl rfl rfl rfl rfl rfl (by kernel_rfl) (by kernel_rfl) (by kernel_rfl) s295 (fun _ hS => px_load rfl ((f236.chg hS (by omega)).loadA (vs := [.bool (ng x16), s16, t16]) (look_lit rfl) Tryd.isAgg55 Tryd.sizeOf55)) ?_
   refine dx_takeG 11 rfl rfl rfl rfl rfl rfl (by kernel_rfl) (by kernel_rfl) (by kernel_rfl) s295 (fun _ hS => px_load rfl ((f239.chg hS (by omega)).loadA (vs := [.bool (ng x202), s202, t202]) (look_lit rfl) Tryd.isAgg55 Tryd.sizeOf55)) ?_
   refine dx_takeG 12 rfl rfl rfl rfl rfl rfl (by kernel_rfl) (by kernel_rfl) (by kernel_rfl) s295 (fun _ hS => px_load rfl ((gw221.chg hS (by omega)).loadA (vs := [.bool (ng x218), s218, t218]) (look_lit rfl) Tryd.isAgg55 Tryd.sizeOf55)) ?_
   refine dx_eff 13 rfl (by kernel_rfl) ?_
   refine sx_guardT rfl rfl rfl ?_
   have f296 := f288.ext d295
   have f297 := f292.ext d295
   have f298 := f293.ext d295
   have f299 := f294.ext d295
   refine sx_call rfl rfl Tryd.call23 (c_iRatMulK f296.sv f297.sv f298.sv f299.sv ((hXa (how4_legs h471).1).1) ((hXb (how4_legs h471).2).1) (by omega) (⟨(hXa (how4_legs h471).1).2, (hXb (how4_legs h471).2).2⟩)) (fun v300 w300 p300 => ?_)
   obtain ⟨s300, t300, ls300, us300, lt300, ut300, xx300, ee300, rfl, os_300, ot_300, hd300, hK300, hm300, hv300, c300⟩ := p300
   have zw300 := c300.size
   have s301 : Chg 0 0 w221 w300 := (d295.t c300)
   refine wl_nil ?_
   refine dx_next s301 ?_
   refine dx_takeG 14 rfl rfl rfl rfl rfl rfl (by kernel_rfl) (by kernel_rfl) (by kernel_rfl) s301 (fun _ hS => px_ex2 rfl rfl) ?_
   refine dx_takeG 15 rfl rfl rfl rfl rfl rfl (by kernel_rfl) (by kernel_rfl) (by kernel_rfl) s301 (fun _ hS => px_ex2 rfl rfl) ?_
   refine dx_eff 16 rfl (by kernel_rfl) ?_
   refine sx_guardT rfl rfl rfl ?_
   refine sx_call rfl rfl Tryd.call22 (c_must os_300.sv ot_300.sv) (fun v302 w302 p302 => ?_)
   obtain ⟨rfl, c302⟩ := p302
   have zw302 := c302.size
   have s303 : Chg 0 0 w221 w302 := ((d295.t c300).t c302)
   refine wl_nil ?_
   refine dx_next s303 ?_
   refine dx_eff 17 rfl (by kernel_rfl) ?_
   refine sx_guardT rfl rfl rfl ?_
   have f306 := ((f267.ext d295).ext c300).ext c302
   have f309 := ((f277.ext d295).ext c300).ext c302
   have f310 := os_300.ext c302
   have f311 := ot_300.ext c302
   refine sx_call rfl rfl Tryd.call20 (c_iRatCmpK f306.sv f309.sv f310.sv f311.sv (by first | assumption | exact (hXX (by omega)).1) (by assumption)) (fun v312 w312 p312 => ?_)
   obtain ⟨rfl, c312⟩ := p312
   have zw312 := c312.size
   have s313 : Chg 0 0 w221 w312 := (((d295.t c300).t c302).t c312)
   refine wl_nil ?_
   refine dx_next s313 ?_
   refine dx_takeG 18 rfl rfl rfl rfl rfl rfl (by kernel_rfl) (by kernel_rfl) (by kernel_rfl) s313 (fun _ hS => px_eq rfl rfl) ?_
   refine dt 19 rfl rfl rfl rfl s313 (fun _ hS => px_pick rfl rfl) ?_
   refine dt 20 rfl rfl rfl rfl s313 (fun _ hS => px_assign rfl) ?_
   refine dx_done (by kernel_rfl) ?_
   refine q_n (k224 _ _ ?_)
   refine sx_sub (Sub.c 2 rfl (.c 3 rfl (.c 4 rfl (.c 5 rfl (.c 6 rfl (.c 7 rfl (.c 8 rfl .nil))))))) ?_
   refine sx_retc ?_
   refine q_r (sx_ret1 Tryd.results4 rfl ?_)
   have q314 := Chg.step (l := 0) (h := 0) (Chg.zero (l := 0) (h := 0) (c6.t cb7)) cw9 (by omega)
   have q315 := Chg.step (l := 0) (h := 0) q314 (c16.t cb17) (by omega)
   have q316 := Chg.step (l := 0) (h := 0) q315 cw19 (by omega)
   have q317 := Chg.step (l := 0) (h := 0) q316 ((((c32.t c37).t cwl44).t c202).t cb203) (by omega)
   have q318 := Chg.step (l := 0) (h := 0) q317 cw205 (by omega)
   have q319 := Chg.step (l := 0) (h := 0) q318 (c218.t cb219) (by omega)
   have q320 := Chg.step (l := 0) (h := 0) q319 cw221 (by omega)
   have q321 := Chg.step (l := 0) (h := 0) q320 (((d295.t c300).t c302).t c312) (by omega)
   exact ⟨(bTrue (cmp_same hvX ((rOf4_mul h471 hva hvb).trans (by assumption)))).symm, q321⟩
  refine sx_skip ?_
  refine q_n (k196 _ _ ?_)
  refine sx_seq fun K322 k322 => sx_region ?_
  refine sp rfl (px_load rfl (hb_b7.loadA (vs := [.string qv6, s6]) (look_lit rfl) Tryd.isAgg36 Tryd.sizeOf36)) ?_
  refine mv rfl rfl (mv rfl rfl ?_)
  have f324 := (f35.ext c37).ext cwl44
  have f325 := f43.ext cwl44
  refine sx_call rfl rfl Tryd.call17 (c_iRateOfK f324 f325 (by omega) (by first | assumption | exact fun i hi => Nat.le_trans (hzz i hi) (by omega))) (fun v326 w326 p326 => ?_)
  obtain ⟨s326, t326, ls326, us326, lt326, ut326, x326, e326, rfl, os_326, ot_326, hd326, hX326, hv326, hl326, c326⟩ := p326
  have zw326 := c326.size
  have hXc := hX326
  have hvc := hv326
  have hlc := hl326
  refine mv rfl rfl (sp rfl (px_ex2 rfl rfl) ?_)
  refine sp rfl (px_ex2 rfl rfl) ?_
  refine sx_alloc [.bool false, (.slice none 0 0), (.slice none 0 0)] rfl Tryd.zeroValue55 rfl (fun b327 w328 eb327 sb327 fb327 cb327 => ?_)
  have zw328 := cb327.size
  have f330 := ot_326.ext cb327
  have f331 := os_326.ext cb327
  refine sx_store (vs := [.bool (ng x326), s326, t326]) rfl rfl fb327 rfl Tryd.sizeOf55 (nbl rfl) (one_cons rfl (one_cons f331.one (one_cons f330.one one_nil))) (fun w329 sw329 fw329 cw329 => ?_)
  have zw329 := cw329.size
  have gw329 : Blk w329 b327 [.bool (ng x326), s326, t326] 55 := fw329
  refine av rfl rfl (wl_nil (q_n (k322 _ _ ?_)))
  refine sx_sub (Sub.c 6 rfl (.c 7 rfl (.c 8 rfl (.c 16 rfl (.c 17 rfl .nil))))) ?_
  refine sx_seq fun K332 k332 => ?_
  refine sx_seq fun K333 k333 => sx_region ?_
  refine mv rfl rfl (sp rfl (px_eq rfl rfl) ?_)
  refine mv rfl rfl ?_
  refine sx_tmpP (t := 150) rfl (fun h477 => ?_) (fun h477 => ?_)
  ·
   refine sx_guardF rfl rfl rfl rfl rfl rfl ?_
   refine sx_guardF rfl rfl rfl rfl rfl rfl ?_
   refine sp rfl (px_pick rfl rfl) ?_
   refine wl_nil (q_n (k333 _ _ ?_))
   refine sx_condT rfl ?_
   refine sx_seq fun K334 k334 => sx_region ?_
   refine mv rfl rfl (mv rfl rfl ?_)
   have h478 : how qv6 ts6 b6 a6 ≠ 0 := (back_one (by first | exact .inl h477 | exact .inr h477x1) hvX hvc).1
   refine sx_tmpPT (t := 155) rfl h478 ?_
   refine sx_guardT rfl rfl rfl ?_
   have f336 := (hb_b17.ext c326).ext cb327
   have f337 := f336.chg cw329 (by omega)
   refine sp rfl (px_load rfl (f337.loadA (vs := [.bool (ng x16), s16, t16]) (look_lit rfl) Tryd.isAgg55 Tryd.sizeOf55)) ?_
   refine sx_guardT rfl rfl rfl ?_
   refine sp rfl (px_load rfl (gw329.loadA (vs := [.bool (ng x326), s326, t326]) (look_lit rfl) Tryd.isAgg55 Tryd.sizeOf55)) ?_
   refine sx_guardT rfl rfl rfl ?_
   have f338 := f21.chg cw19 (by omega)
   have f341 := ((f338.ext c32).ext c37).ext cwl44
   have f343 := (f341.ext c326).ext cb327
   have f344 := f343.chg cw329 (by omega)
   have f345 := f20.chg cw19 (by omega)
   have f348 := ((f345.ext c32).ext c37).ext cwl44
   have f350 := (f348.ext c326).ext cb327
   have f351 := f350.chg cw329 (by omega)
   have f352 := f331.chg cw329 (by omega)
   have f353 := f330.chg cw329 (by omega)
   refine sx_call rfl rfl Tryd.call23 (c_iRatMulK f344.sv f351.sv f352.sv f353.sv ((hXX (by omega)).1) ((hXc (back_one (by first | exact .inl h477 | exact .inr h477x1) hvX hvc).1).1) (by omega) (⟨(hXX (by omega)).2, (hXc (back_one (by first | exact .inl h477 | exact .inr h477x1) hvX hvc).1).2⟩)) (fun v354 w354 p354 => ?_)
   obtain ⟨s354, t354, ls354, us354, lt354, ut354, xx354, ee354, rfl, os_354, ot_354, hd354, hK354, hm354, hv354, c354⟩ := p354
   have zw354 := c354.size
   refine sx_guardT rfl rfl rfl ?_
   refine sp rfl (px_ex2 rfl rfl) ?_
   refine sx_guardT rfl rfl rfl ?_
   refine sp rfl (px_ex2 rfl rfl) ?_
   refine sx_guardT rfl rfl rfl ?_
   refine sx_call rfl rfl Tryd.call22 (c_must os_354.sv ot_354.sv) (fun v355 w355 p355 => ?_)
   obtain ⟨rfl, c355⟩ := p355
   have zw355 := c355.size
   refine sx_guardT rfl rfl rfl ?_
   refine sx_call rfl rfl Tryd.call25 (c_iIntOf (by omega)) (fun v356 w356 p356 => ?_)
   obtain ⟨s356, rfl, os_356, c356⟩ := p356
   have zw356 := c356.size
   refine sx_guardT rfl rfl rfl ?_
   refine sx_call rfl rfl Tryd.call24 (c_iRatIntK os_356.sv (by have h9 := len_i64 (n := 1) (by omega); omega)) (fun v357 w357 p357 => ?_)
   obtain ⟨s357, t357, ls357, us357, lt357, ut357, rfl, os_357, ot_357, hd357, hK357, c357⟩ := p357
   have zw357 := c357.size
   refine sx_guardT rfl rfl rfl ?_
   refine sp rfl (px_ex2 rfl rfl) ?_
   refine sx_guardT rfl rfl rfl ?_
   refine sp rfl (px_ex2 rfl rfl) ?_
   refine sx_guardT rfl rfl rfl ?_
   refine sx_call rfl rfl Tryd.call22 (c_must os_357.sv ot_357.sv) (fun v358 w358 p358 => ?_)
   obtain ⟨rfl, c358⟩ := p358
   have zw358 := c358.size
   refine sx_guardT rfl rfl rfl ?_
   have f362 := (((os_354.ext c355).ext c356).ext c357).ext c358
   have f366 := (((ot_354.ext c355).ext c356).ext c357).ext c358
   have f367 := os_357.ext c358
   have f368 := ot_357.ext c358
   refine sx_call rfl rfl Tryd.call20 (c_iRatCmpK f362.sv f366.sv f367.sv f368.sv (by first | assumption | exact (hXX (by omega)).1) (by assumption)) (fun v369 w369 p369 => ?_)
   obtain ⟨rfl, c369⟩ := p369
   have zw369 := c369.size
   refine sx_guardT rfl rfl rfl ?_
   refine sp rfl (px_eq rfl rfl) ?_
   refine sp rfl (px_pick rfl rfl) ?_
   refine av rfl rfl (wl_nil (q_n (k334 _ _ ?_)))
   refine sx_sub (Sub.c 2 rfl (.c 6 rfl (.c 7 rfl .nil))) ?_
   refine sx_retc ?_
   refine q_r (sx_ret1 Tryd.results4 rfl ?_)
   have q370 := Chg.step (l := 0) (h := 0) (Chg.zero (l := 0) (h := 0) (c6.t cb7)) cw9 (by omega)
   have q371 := Chg.step (l := 0) (h := 0) q370 (c16.t cb17) (by omega)
   have q372 := Chg.step (l := 0) (h := 0) q371 cw19 (by omega)
   have q373 := Chg.step (l := 0) (h := 0) q372 ((((c32.t c37).t cwl44).t c326).t cb327) (by omega)
   have q374 := Chg.step (l := 0) (h := 0) q373 cw329 (by omega)
   have q375 := Chg.step (l := 0) (h := 0) q374 (((((c354.t c355).t c356).t c357).t c358).t c369) (by omega)
   exact ⟨(bTrue (one_cmp (Nat.mul_pos (ROk_iff.1 (hXX (by omega)).1).1 (ROk_iff.1 (hXc (back_one (by first | exact .inl h477 | exact .inr h477x1) hvX hvc).1).1).1) (back_one (by first | exact .inl h477 | exact .inr h477x1) hvX hvc).2 (by assumption))).symm, q375⟩
  refine sx_guardT rfl rfl rfl ?_
  refine mv rfl rfl ?_
  refine sx_guardT rfl rfl rfl ?_
  refine sp rfl (px_eq rfl rfl) ?_
  refine sp rfl (px_pick rfl rfl) ?_
  refine wl_nil (q_n (k333 _ _ ?_))
  refine sx_condP rfl (fun h477x1 => ?_) (fun h477x1 => ?_)
  ·
   refine sx_seq fun K376 k376 => sx_region ?_
   refine mv rfl rfl (mv rfl rfl ?_)
   have h478 : how qv6 ts6 b6 a6 ≠ 0 := (back_one (by first | exact .inl h477 | exact .inr h477x1) hvX hvc).1
   refine sx_tmpPT (t := 155) rfl h478 ?_
   refine sx_guardT rfl rfl rfl ?_
   have f378 := (hb_b17.ext c326).ext cb327
   have f379 := f378.chg cw329 (by omega)
   refine sp rfl (px_load rfl (f379.loadA (vs := [.bool (ng x16), s16, t16]) (look_lit rfl) Tryd.isAgg55 Tryd.sizeOf55)) ?_
   refine sx_guardT rfl rfl rfl ?_
   refine sp rfl (px_load rfl (gw329.loadA (vs := [.bool (ng x326), s326, t326]) (look_lit rfl) Tryd.isAgg55 Tryd.sizeOf55)) ?_
   refine sx_guardT rfl rfl rfl ?_
   have f380 := f21.chg cw19 (by omega)
   have f383 := ((f380.ext c32).ext c37).ext cwl44
   have f385 := (f383.ext c326).ext cb327
   have f386 := f385.chg cw329 (by omega)
   have f387 := f20.chg cw19 (by omega)
   have f390 := ((f387.ext c32).ext c37).ext cwl44
   have f392 := (f390.ext c326).ext cb327
   have f393 := f392.chg cw329 (by omega)
   have f394 := f331.chg cw329 (by omega)
   have f395 := f330.chg cw329 (by omega)
   refine sx_call rfl rfl Tryd.call23 (c_iRatMulK f386.sv f393.sv f394.sv f395.sv ((hXX (by omega)).1) ((hXc (back_one (by first | exact .inl h477 | exact .inr h477x1) hvX hvc).1).1) (by omega) (⟨(hXX (by omega)).2, (hXc (back_one (by first | exact .inl h477 | exact .inr h477x1) hvX hvc).1).2⟩)) (fun v396 w396 p396 => ?_)
   obtain ⟨s396, t396, ls396, us396, lt396, ut396, xx396, ee396, rfl, os_396, ot_396, hd396, hK396, hm396, hv396, c396⟩ := p396
   have zw396 := c396.size
   refine sx_guardT rfl rfl rfl ?_
   refine sp rfl (px_ex2 rfl rfl) ?_
   refine sx_guardT rfl rfl rfl ?_
   refine sp rfl (px_ex2 rfl rfl) ?_
   refine sx_guardT rfl rfl rfl ?_
   refine sx_call rfl rfl Tryd.call22 (c_must os_396.sv ot_396.sv) (fun v397 w397 p397 => ?_)
   obtain ⟨rfl, c397⟩ := p397
   have zw397 := c397.size
   refine sx_guardT rfl rfl rfl ?_
   refine sx_call rfl rfl Tryd.call25 (c_iIntOf (by omega)) (fun v398 w398 p398 => ?_)
   obtain ⟨s398, rfl, os_398, c398⟩ := p398
   have zw398 := c398.size
   refine sx_guardT rfl rfl rfl ?_
   refine sx_call rfl rfl Tryd.call24 (c_iRatIntK os_398.sv (by have h9 := len_i64 (n := 1) (by omega); omega)) (fun v399 w399 p399 => ?_)
   obtain ⟨s399, t399, ls399, us399, lt399, ut399, rfl, os_399, ot_399, hd399, hK399, c399⟩ := p399
   have zw399 := c399.size
   refine sx_guardT rfl rfl rfl ?_
   refine sp rfl (px_ex2 rfl rfl) ?_
   refine sx_guardT rfl rfl rfl ?_
   refine sp rfl (px_ex2 rfl rfl) ?_
   refine sx_guardT rfl rfl rfl ?_
   refine sx_call rfl rfl Tryd.call22 (c_must os_399.sv ot_399.sv) (fun v400 w400 p400 => ?_)
   obtain ⟨rfl, c400⟩ := p400
   have zw400 := c400.size
   refine sx_guardT rfl rfl rfl ?_
   have f404 := (((os_396.ext c397).ext c398).ext c399).ext c400
   have f408 := (((ot_396.ext c397).ext c398).ext c399).ext c400
   have f409 := os_399.ext c400
   have f410 := ot_399.ext c400
   refine sx_call rfl rfl Tryd.call20 (c_iRatCmpK f404.sv f408.sv f409.sv f410.sv (by first | assumption | exact (hXX (by omega)).1) (by assumption)) (fun v411 w411 p411 => ?_)
   obtain ⟨rfl, c411⟩ := p411
   have zw411 := c411.size
   refine sx_guardT rfl rfl rfl ?_
   refine sp rfl (px_eq rfl rfl) ?_
   refine sp rfl (px_pick rfl rfl) ?_
   refine av rfl rfl (wl_nil (q_n (k376 _ _ ?_)))
   refine sx_sub (Sub.c 2 rfl (.c 6 rfl (.c 7 rfl .nil))) ?_
   refine sx_retc ?_
   refine q_r (sx_ret1 Tryd.results4 rfl ?_)
   have q412 := Chg.step (l := 0) (h := 0) (Chg.zero (l := 0) (h := 0) (c6.t cb7)) cw9 (by omega)
   have q413 := Chg.step (l := 0) (h := 0) q412 (c16.t cb17) (by omega)
   have q414 := Chg.step (l := 0) (h := 0) q413 cw19 (by omega)
   have q415 := Chg.step (l := 0) (h := 0) q414 ((((c32.t c37).t cwl44).t c326).t cb327) (by omega)
   have q416 := Chg.step (l := 0) (h := 0) q415 cw329 (by omega)
   have q417 := Chg.step (l := 0) (h := 0) q416 (((((c396.t c397).t c398).t c399).t c400).t c411) (by omega)
   exact ⟨(bTrue (one_cmp (Nat.mul_pos (ROk_iff.1 (hXX (by omega)).1).1 (ROk_iff.1 (hXc (back_one (by first | exact .inl h477 | exact .inr h477x1) hvX hvc).1).1).1) (back_one (by first | exact .inl h477 | exact .inr h477x1) hvX hvc).2 (by assumption))).symm, q417⟩
  refine sx_skip ?_
  refine q_n (k332 _ _ ?_)
  refine sx_seq fun K418 k418 => sx_region ?_
  refine mv rfl rfl (sp rfl (px_notP rfl) ?_)
  refine mv rfl rfl ?_
  refine sx_tmpP (t := 172) rfl (fun h480 => ?_) (fun h480 => ?_)
  ·
   refine sx_guardF rfl rfl rfl rfl rfl rfl ?_
   refine sx_guardF rfl rfl rfl rfl rfl rfl ?_
   refine sx_guardF rfl rfl rfl rfl rfl rfl ?_
   refine sp rfl (px_pick rfl rfl) ?_
   refine av rfl rfl (wl_nil (q_n (k418 _ _ ?_)))
   refine sx_sub (Sub.c 2 rfl .nil) ?_
   refine sx_retc ?_
   refine sx_ret1 Tryd.results4 rfl ?_
   have q419 := Chg.step (l := 0) (h := 0) (Chg.zero (l := 0) (h := 0) (c6.t cb7)) cw9 (by omega)
   have q420 := Chg.step (l := 0) (h := 0) q419 (c16.t cb17) (by omega)
   have q421 := Chg.step (l := 0) (h := 0) q420 cw19 (by omega)
   have q422 := Chg.step (l := 0) (h := 0) q421 ((((c32.t c37).t cwl44).t c326).t cb327) (by omega)
   have q423 := Chg.step (l := 0) (h := 0) q422 cw329 (by omega)
   exact ⟨rfl, q423⟩
  refine sx_guardT rfl rfl rfl ?_
  have f425 := (hb_b17.ext c326).ext cb327
  have f426 := f425.chg cw329 (by omega)
  refine sp rfl (px_load rfl (f426.loadA (vs := [.bool (ng x16), s16, t16]) (look_lit rfl) Tryd.isAgg55 Tryd.sizeOf55)) ?_
  refine sx_guardT rfl rfl rfl ?_
  have f427 := f21.chg cw19 (by omega)
  have f430 := ((f427.ext c32).ext c37).ext cwl44
  have f432 := (f430.ext c326).ext cb327
  have f433 := f432.chg cw329 (by omega)
  have f434 := f20.chg cw19 (by omega)
  have f437 := ((f434.ext c32).ext c37).ext cwl44
  have f439 := (f437.ext c326).ext cb327
  have f440 := f439.chg cw329 (by omega)
  refine sx_call rfl rfl Tryd.call26 (c_iRatSignK f433.sv f440.sv ((hXX (Decidable.not_not.1 h480)).1)) (fun v441 w441 p441 => ?_)
  obtain ⟨rfl, c441⟩ := p441
  have zw441 := c441.size
  refine sx_guardT rfl rfl rfl ?_
  refine sp rfl (px_gt rfl rfl) ?_
  refine sp rfl (px_pick rfl rfl) ?_
  refine av rfl rfl (wl_nil (q_n (k418 _ _ ?_)))
  refine sx_sub (Sub.c 2 rfl .nil) ?_
  refine sx_retc ?_
  refine sx_ret1 Tryd.results4 rfl ?_
  have q442 := Chg.step (l := 0) (h := 0) (Chg.zero (l := 0) (h := 0) (c6.t cb7)) cw9 (by omega)
  have q443 := Chg.step (l := 0) (h := 0) q442 (c16.t cb17) (by omega)
  have q444 := Chg.step (l := 0) (h := 0) q443 cw19 (by omega)
  have q445 := Chg.step (l := 0) (h := 0) q444 ((((c32.t c37).t cwl44).t c326).t cb327) (by omega)
  have q446 := Chg.step (l := 0) (h := 0) q445 cw329 (by omega)
  have q447 := Chg.step (l := 0) (h := 0) q446 c441 (by omega)
  exact ⟨(bTrue (by rw [Int.sign_eq_one_of_pos (hXX (Decidable.not_not.1 h480)).2]; decide)).symm, q447⟩
 refine sx_guardF rfl rfl rfl rfl rfl rfl ?_
 refine sx_guardF rfl rfl rfl rfl rfl rfl ?_
 refine sx_guardF rfl rfl rfl rfl rfl rfl ?_
 refine sx_guardF rfl rfl rfl rfl rfl rfl ?_
 refine sx_guardF rfl rfl rfl rfl rfl rfl ?_
 refine sx_guardF rfl rfl rfl rfl rfl rfl ?_
 refine sx_guardFU rfl rfl rfl rfl rfl ?_
 refine sx_guardFU rfl rfl rfl rfl rfl ?_
 refine sx_guardFU rfl rfl rfl rfl rfl ?_
 refine sx_guardFU rfl rfl rfl rfl rfl ?_
 refine sx_guardFU rfl rfl rfl rfl rfl ?_
 refine sx_guardFU rfl rfl rfl rfl rfl ?_
 refine sx_guardFU rfl rfl rfl rfl rfl ?_
 refine sx_guardFU rfl rfl rfl rfl rfl ?_
 refine sx_guardF rfl rfl rfl rfl rfl rfl ?_
 refine sx_guardT rfl rfl rfl ?_
 refine sp rfl (px_pick rfl rfl) ?_
 refine sp rfl (px_pick rfl rfl) ?_
 refine wl_nil (q_n (k39 _ _ ?_))
 refine sx_sub (Sub.c 2 rfl (.c 3 rfl (.c 4 rfl (.c 5 rfl (.c 6 rfl (.c 7 rfl (.c 8 rfl (.c 9 rfl (.c 72 rfl .nil))))))))) ?_
 refine sx_condF rfl ?_
 refine sx_skip ?_
 refine q_n (k38 _ _ ?_)
 refine sx_seq fun K448 k448 => ?_
 refine sx_seq fun K449 k449 => sx_region ?_
 refine sp rfl (px_field rfl xfld36x1) ?_
 have f450 := f34.ext c37
 refine sp rfl (px_load rfl (f450.load1 rfl Tryd.isAgg34)) ?_
 have f451 := f36.ext c37
 refine sp rfl (px_len rfl Tryd.underlying34 f451.sv) ?_
 refine mv rfl rfl (wl_nil (q_n (k449 _ _ ?_)))
 refine sx_block ?_
 have f454 := (gw19.ext c32).ext c37
 refine sx_loop (fun mm aa w' => ∃ (k : Nat), Agr 177 [(3, .pointer (some ⟨b7, 0, none⟩)), (4, .string a6), (5, .string b6), (6, .pointer (some ⟨b17, 0, none⟩)), (7, .bool (decide (how qv6 ts6 a6 b6 ≠ 0))), (8, .int .i64 (how qv6 ts6 a6 b6)), (9, v37), (74, s6), (75, .int .i64 (↑((ts6).length))), (76, .int .i64 ↑k)] aa ∧ Chg 0 0 w37 w' ∧ Blk w' b7 [.string qv6, s6] 36 ∧ Blk w' b17 [.bool (ng x16), s16, t16] 55 ∧ (mm = ts6.length - k) ∧ (k ≤ ts6.length)) (_) (fun a ha => ⟨0, ha.sub (Sub.c 3 rfl (.c 4 rfl (.c 5 rfl (.c 6 rfl (.c 7 rfl (.c 8 rfl (.c 9 rfl (.c 74 rfl (.c 75 rfl (.c 76 (look_int (t := 76) rfl (by first | omega | simp)) .nil)))))))))), Chg.refl _ _ _, f450, f454, rfl, by omega⟩) ?_
 rintro mm aa wl452 ⟨k, hAwl452, cwl452, hb_b7, hb_b17, hm, hk⟩
 refine (show cw Tryd.prog 177 _ _ _ wl452 from ?_) aa hAwl452
 clear hAwl452
 have zwl452 := cwl452.size
 refine sx_seq fun K455 k455 => sx_region ?_
 refine sp rfl (px_lt rfl rfl) ?_
 refine wl_nil (q_n (k455 _ _ ?_))
 refine sx_seq fun K456 k456 => ?_
 refine sx_condP rfl (fun h466 => ?_) (fun h466 => ?_)
 ·
  refine sx_skip ?_
  refine q_n (k456 _ _ ?_)
  refine sx_seq fun K457 k457 => ?_
  refine sx_block ?_
  refine sx_seq fun K458 k458 => sx_region ?_
  have f459 := f451.ext cwl452
  refine sp rfl (px_indexK (j := k) rfl rfl (by omega) Tryd.underlying34 Tryd.sizeOf44 f459.sv (by omega)) ?_
  refine sp rfl (px_load rfl (f459.sv.loadA (rt_look f459.len (by omega)) Tryd.isAgg44 Tryd.sizeOf44)) ?_
  refine sx_alloc [.string (⟨#[]⟩), .string (⟨#[]⟩), .bool false, (.slice none 0 0), .int .i64 0] rfl Tryd.zeroValue44 rfl (fun b460 w461 eb460 sb460 fb460 cb460 => ?_)
  have zw461 := cb460.size
  have f463 := (f459.nest k (by omega)).ext cb460
  refine sx_store (vs := [.string ((ts6.getD k rt0).1), .string ((ts6.getD k rt0).2.1), .bool ((ts6.getD k rt0).2.2.1), (us6.getD k vz), .int .i64 ((ts6.getD k rt0).2.2.2.2)]) rfl rfl fb460 rfl Tryd.sizeOf44 (nbl rfl) (one_cons rfl (one_cons rfl (one_cons rfl (one_cons f463.one (o1 rfl))))) (fun w462 sw462 fw462 cw462 => ?_)
  have zw462 := cw462.size
  have gw462 : Blk w462 b460 [.string ((ts6.getD k rt0).1), .string ((ts6.getD k rt0).2.1), .bool ((ts6.getD k rt0).2.2.1), (us6.getD k vz), .int .i64 ((ts6.getD k rt0).2.2.2.2)] 44 := fw462
  refine wl_nil (q_n (k458 _ _ ?_))
  refine sx_seq fun K464 k464 => ?_
  by_cases ph467 : (ts6.getD k rt0).1 = a6
  ·
   by_cases ph467x1 : (ts6.getD k rt0).2.1 = b6
   ·
    have hh := rate_hit hTT (k := k) (by omega)
    rw [ph467, ph467x1] at hh
    have f466 := (f35.ext c37).ext cwl452
    have f467 := f466.ext cb460
    have f468 := f467.chg cw462 (by omega)
    have f469 := hb_b7.ext cb460
    have f470 := f469.chg cw462 (by omega)
    have f471 := hb_b17.ext cb460
    have f472 := f471.chg cw462 (by omega)
    have f474 := (hvb0.ext c6).ext cb7
    have f475 := f474.chg cw9 (by omega)
    have f477 := (f475.ext c16).ext cb17
    have f478 := f477.chg cw19 (by omega)
    have f481 := ((f478.ext c32).ext c37).ext cwl452
    have f482 := f481.ext cb460
    have f483 := f482.chg cw462 (by omega)
    have f484 := f459.ext cb460
    have f485 := f484.chg cw462 (by omega)
    have f486 := f21.chg cw19 (by omega)
    have f489 := ((f486.ext c32).ext c37).ext cwl452
    have f490 := f489.ext cb460
    have f491 := f490.chg cw462 (by omega)
    have f492 := f20.chg cw19 (by omega)
    have f495 := ((f492.ext c32).ext c37).ext cwl452
    have f496 := f495.ext cb460
    have f497 := f496.chg cw462 (by omega)
    have f498 := os_37.ext cwl452
    have f499 := f498.ext cb460
    have f500 := f499.chg cw462 (by omega)
    have f501 := f463.chg cw462 (by omega)
    refine dx_region (fun w' => Chg 0 0 w462 w') (by kernel_rfl) (Chg.zero (Chg.drew _)) ?_
    have d502 := Chg.drew w462
    have s502 : Chg 0 0 w462 (World.drew w462) := Chg.zero (Chg.drew _)
    have y502 : (World.drew w462).heap.size = w462.heap.size := rfl
    generalize World.drew w462 = w502 at *
    have zw502 := d502.size
    refine dt 0 rfl rfl rfl rfl s502 (fun _ hS => px_field rfl xfld44x0) ?_
    refine dt 1 rfl rfl rfl rfl s502 (fun _ hS => px_load rfl ((gw462.chg hS (by omega)).load1 rfl Tryd.isAgg9)) ?_
    refine dt 2 rfl rfl rfl rfl s502 (fun _ hS => px_move rfl) ?_
    refine dt 3 rfl rfl rfl rfl s502 (fun _ hS => px_eqS rfl rfl) ?_
    refine dt 4 rfl rfl rfl rfl s502 (fun _ hS => px_move rfl) ?_
    have h467 : (ts6.getD k rt0).1 = a6 := by first | omega | exact ph467
    refine dx_tmpPT (t := 84) rfl h467 ?_
    refine dx_takeG 5 rfl rfl rfl rfl rfl rfl (by kernel_rfl) (by kernel_rfl) (by kernel_rfl) s502 (fun _ hS => px_field rfl xfld44x1) ?_
    refine dx_takeG 6 rfl rfl rfl rfl rfl rfl (by kernel_rfl) (by kernel_rfl) (by kernel_rfl) s502 (fun _ hS => px_load rfl ((gw462.chg hS (by omega)).load1 rfl Tryd.isAgg9)) ?_
    refine dx_takeG 7 rfl rfl rfl rfl rfl rfl (by kernel_rfl) (by kernel_rfl) (by kernel_rfl) s502 (fun _ hS => px_move rfl) ?_
    refine dx_takeG 8 rfl rfl rfl rfl rfl rfl (by kernel_rfl) (by kernel_rfl) (by kernel_rfl) s502 (fun _ hS => px_eqS rfl rfl) ?_
    refine dt 9 rfl rfl rfl rfl s502 (fun _ hS => px_pick rfl rfl) ?_
    refine dt 10 rfl rfl rfl rfl s502 (fun _ hS => px_move rfl) ?_
    have h467x1 : (ts6.getD k rt0).2.1 = b6 := by first | omega | exact ph467x1
    refine dx_tmpPT (t := 90) rfl h467x1 ?_
    refine dx_takeG 11 rfl rfl rfl rfl rfl rfl (by kernel_rfl) (by kernel_rfl) (by kernel_rfl) s502 (fun _ hS => px_move rfl) ?_
    refine dx_takeG 12 rfl rfl rfl rfl rfl rfl (by kernel_rfl) (by kernel_rfl) (by kernel_rfl) s502 (fun _ hS => px_ne rfl rfl) ?_
    refine dx_takeG 13 rfl rfl rfl rfl rfl rfl (by kernel_rfl) (by kernel_rfl) (by kernel_rfl) s502 (fun _ hS => px_move rfl) ?_
    have h467x2 : ¬ ((how qv6 ts6 a6 b6 : Int) ≠ 2) := fun h => h hh.1
    refine dx_tmpPF (t := 93) rfl h467x2 ?_
    refine dx_takeG 14 rfl rfl rfl rfl rfl rfl (by kernel_rfl) (by kernel_rfl) (by kernel_rfl) s502 (fun _ hS => px_load rfl ((f472.chg hS (by omega)).loadA (vs := [.bool (ng x16), s16, t16]) (look_lit rfl) Tryd.isAgg55 Tryd.sizeOf55)) ?_
    refine dx_takeG 15 rfl rfl rfl rfl rfl rfl (by kernel_rfl) (by kernel_rfl) (by kernel_rfl) s502 (fun _ hS => px_field rfl xfld44x2) ?_
    refine dx_takeG 16 rfl rfl rfl rfl rfl rfl (by kernel_rfl) (by kernel_rfl) (by kernel_rfl) s502 (fun _ hS => px_load rfl ((gw462.chg hS (by omega)).loadA (vs := [.bool ((ts6.getD k rt0).2.2.1), (us6.getD k vz), .int .i64 ((ts6.getD k rt0).2.2.2.2)]) (look_lit rfl) Tryd.isAgg42 Tryd.sizeOf42)) ?_
    refine dx_eff 17 rfl (by kernel_rfl) ?_
    refine sx_guardT rfl rfl rfl ?_
    have f503 := f501.ext d502
    refine sx_call rfl rfl Tryd.call21 (c_iDecRatK f503 (hzs k (by omega)) (Pos_rate (hTT.2.2.1 k (by omega)))) (fun v504 w504 p504 => ?_)
    obtain ⟨s504, t504, ls504, us504, lt504, ut504, x504, e504, rfl, os_504, ot_504, hd504, hK504, hv504, c504⟩ := p504
    have zw504 := c504.size
    have s505 : Chg 0 0 w462 w504 := (d502.t c504)
    refine wl_nil ?_
    refine dx_next s505 ?_
    refine dx_eff 18 rfl (by kernel_rfl) ?_
    refine sx_guardT rfl rfl rfl ?_
    have f507 := (f491.ext d502).ext c504
    have f509 := (f497.ext d502).ext c504
    refine sx_call rfl rfl Tryd.call20 (c_iRatCmpK f507.sv f509.sv os_504.sv ot_504.sv (by first | assumption | exact (hXX (by omega)).1) (by assumption)) (fun v510 w510 p510 => ?_)
    obtain ⟨rfl, c510⟩ := p510
    have zw510 := c510.size
    have s511 : Chg 0 0 w462 w510 := ((d502.t c504).t c510)
    refine wl_nil ?_
    refine dx_next s511 ?_
    refine dx_takeG 19 rfl rfl rfl rfl rfl rfl (by kernel_rfl) (by kernel_rfl) (by kernel_rfl) s511 (fun _ hS => px_ne rfl rfl) ?_
    refine dx_takeG 20 rfl rfl rfl rfl rfl rfl (by kernel_rfl) (by kernel_rfl) (by kernel_rfl) s511 (fun _ hS => px_pick rfl rfl) ?_
    refine dt 21 rfl rfl rfl rfl s511 (fun _ hS => px_pick rfl rfl) ?_
    refine dx_done (by kernel_rfl) ?_
    refine q_n (k464 _ _ ?_)
    refine sx_sub (Sub.c 3 rfl (.c 4 rfl (.c 5 rfl (.c 6 rfl (.c 7 rfl (.c 8 rfl (.c 9 rfl (.c 74 rfl (.c 75 rfl (.c 76 rfl (.c 101 rfl .nil))))))))))) ?_
    have h467x3 : ¬ ((cmpI ((x16) * ((e504 : Nat) : Int)) ((x504) * ((e16 : Nat) : Int)) : Int) ≠ 0) := Decidable.not_not.2 (cmp_same hvX (hh.2.trans (by assumption)))
    refine sx_condPF rfl h467x3 ?_
    refine sx_skip ?_
    refine q_bn (q_n (k457 _ _ ?_))
    refine sx_region ?_
    refine sp rfl (px_add rfl rfl (by omega)) ?_
    refine mv rfl rfl (wl_nil ?_)
    have q512 := Chg.step (l := 0) (h := 0) (Chg.zero (l := 0) (h := 0) (cwl452.t cb460)) cw462 (by omega)
    have q513 := Chg.step (l := 0) (h := 0) q512 ((d502.t c504).t c510) (by omega)
    have f516 := ((f470.ext d502).ext c504).ext c510
    have f519 := ((f472.ext d502).ext c504).ext c510
    exact fun a ha => ⟨_, by omega, (k + 1), ha.sub (Sub.c 3 rfl (.c 4 rfl (.c 5 rfl (.c 6 rfl (.c 7 rfl (.c 8 rfl (.c 9 rfl (.c 74 rfl (.c 75 rfl (.c 76 (look_int (t := 76) rfl (by first | omega | simp)) .nil)))))))))), q513, f516, f519, rfl, by omega⟩
   have f521 := (f35.ext c37).ext cwl452
   have f522 := f521.ext cb460
   have f523 := f522.chg cw462 (by omega)
   have f524 := hb_b7.ext cb460
   have f525 := f524.chg cw462 (by omega)
   have f526 := hb_b17.ext cb460
   have f527 := f526.chg cw462 (by omega)
   have f529 := (hvb0.ext c6).ext cb7
   have f530 := f529.chg cw9 (by omega)
   have f532 := (f530.ext c16).ext cb17
   have f533 := f532.chg cw19 (by omega)
   have f536 := ((f533.ext c32).ext c37).ext cwl452
   have f537 := f536.ext cb460
   have f538 := f537.chg cw462 (by omega)
   have f539 := f459.ext cb460
   have f540 := f539.chg cw462 (by omega)
   have f541 := f21.chg cw19 (by omega)
   have f544 := ((f541.ext c32).ext c37).ext cwl452
   have f545 := f544.ext cb460
   have f546 := f545.chg cw462 (by omega)
   have f547 := f20.chg cw19 (by omega)
   have f550 := ((f547.ext c32).ext c37).ext cwl452
   have f551 := f550.ext cb460
   have f552 := f551.chg cw462 (by omega)
   have f553 := os_37.ext cwl452
   have f554 := f553.ext cb460
   have f555 := f554.chg cw462 (by omega)
   have f556 := f463.chg cw462 (by omega)
   refine dx_region (fun w' => Chg 0 0 w462 w') (by kernel_rfl) (Chg.zero (Chg.drew _)) ?_
   have d557 := Chg.drew w462
   have s557 : Chg 0 0 w462 (World.drew w462) := Chg.zero (Chg.drew _)
   have y557 : (World.drew w462).heap.size = w462.heap.size := rfl
   generalize World.drew w462 = w557 at *
   have zw557 := d557.size
   refine dt 0 rfl rfl rfl rfl s557 (fun _ hS => px_field rfl xfld44x0) ?_
   refine dt 1 rfl rfl rfl rfl s557 (fun _ hS => px_load rfl ((gw462.chg hS (by omega)).load1 rfl Tryd.isAgg9)) ?_
   refine dt 2 rfl rfl rfl rfl s557 (fun _ hS => px_move rfl) ?_
   refine dt 3 rfl rfl rfl rfl s557 (fun _ hS => px_eqS rfl rfl) ?_
   refine dt 4 rfl rfl rfl rfl s557 (fun _ hS => px_move rfl) ?_
   have h467 : (ts6.getD k rt0).1 = a6 := by first | omega | exact ph467
   refine dx_tmpPT (t := 84) rfl h467 ?_
   refine dx_takeG 5 rfl rfl rfl rfl rfl rfl (by kernel_rfl) (by kernel_rfl) (by kernel_rfl) s557 (fun _ hS => px_field rfl xfld44x1) ?_
   refine dx_takeG 6 rfl rfl rfl rfl rfl rfl (by kernel_rfl) (by kernel_rfl) (by kernel_rfl) s557 (fun _ hS => px_load rfl ((gw462.chg hS (by omega)).load1 rfl Tryd.isAgg9)) ?_
   refine dx_takeG 7 rfl rfl rfl rfl rfl rfl (by kernel_rfl) (by kernel_rfl) (by kernel_rfl) s557 (fun _ hS => px_move rfl) ?_
   refine dx_takeG 8 rfl rfl rfl rfl rfl rfl (by kernel_rfl) (by kernel_rfl) (by kernel_rfl) s557 (fun _ hS => px_eqS rfl rfl) ?_
   refine dt 9 rfl rfl rfl rfl s557 (fun _ hS => px_pick rfl rfl) ?_
   refine dt 10 rfl rfl rfl rfl s557 (fun _ hS => px_move rfl) ?_
   have h467x1 : ¬ ((ts6.getD k rt0).2.1 = b6) := by first | omega | exact ph467x1
   refine dx_tmpPF (t := 90) rfl h467x1 ?_
   refine dx_skip 11 rfl rfl rfl rfl rfl rfl rfl (by kernel_rfl) (by kernel_rfl) (by kernel_rfl) s557 ?_
   refine dx_skip 12 rfl rfl rfl rfl rfl rfl rfl (by kernel_rfl) (by kernel_rfl) (by kernel_rfl) s557 ?_
   refine dx_skip 13 rfl rfl rfl rfl rfl rfl rfl (by kernel_rfl) (by kernel_rfl) (by kernel_rfl) s557 ?_
   refine dx_skipU 14 rfl rfl rfl rfl rfl rfl (by kernel_rfl) (by kernel_rfl) (by kernel_rfl) s557 ?_
   refine dx_skipU 15 rfl rfl rfl rfl rfl rfl (by kernel_rfl) (by kernel_rfl) (by kernel_rfl) s557 ?_
   refine dx_skipU 16 rfl rfl rfl rfl rfl rfl (by kernel_rfl) (by kernel_rfl) (by kernel_rfl) s557 ?_
   refine dx_skipU 17 rfl rfl rfl rfl rfl rfl (by kernel_rfl) (by kernel_rfl) (by kernel_rfl) s557 ?_
   refine dx_skipU 18 rfl rfl rfl rfl rfl rfl (by kernel_rfl) (by kernel_rfl) (by kernel_rfl) s557 ?_
   refine dx_skipU 19 rfl rfl rfl rfl rfl rfl (by kernel_rfl) (by kernel_rfl) (by kernel_rfl) s557 ?_
   refine dx_skip 20 rfl rfl rfl rfl rfl rfl rfl (by kernel_rfl) (by kernel_rfl) (by kernel_rfl) s557 ?_
   refine dt 21 rfl rfl rfl rfl s557 (fun _ hS => px_pick rfl rfl) ?_
   refine dx_done (by kernel_rfl) ?_
   refine q_n (k464 _ _ ?_)
   refine sx_sub (Sub.c 3 rfl (.c 4 rfl (.c 5 rfl (.c 6 rfl (.c 7 rfl (.c 8 rfl (.c 9 rfl (.c 74 rfl (.c 75 rfl (.c 76 rfl (.c 101 rfl .nil))))))))))) ?_
   refine sx_condF rfl ?_
   refine sx_skip ?_
   refine q_bn (q_n (k457 _ _ ?_))
   refine sx_region ?_
   refine sp rfl (px_add rfl rfl (by omega)) ?_
   refine mv rfl rfl (wl_nil ?_)
   have q558 := Chg.step (l := 0) (h := 0) (Chg.zero (l := 0) (h := 0) (cwl452.t cb460)) cw462 (by omega)
   have q559 := Chg.step (l := 0) (h := 0) q558 d557 (by omega)
   have f560 := f525.ext d557
   have f561 := f527.ext d557
   exact fun a ha => ⟨_, by omega, (k + 1), ha.sub (Sub.c 3 rfl (.c 4 rfl (.c 5 rfl (.c 6 rfl (.c 7 rfl (.c 8 rfl (.c 9 rfl (.c 74 rfl (.c 75 rfl (.c 76 (look_int (t := 76) rfl (by first | omega | simp)) .nil)))))))))), q559, f560, f561, rfl, by omega⟩
  have f563 := (f35.ext c37).ext cwl452
  have f564 := f563.ext cb460
  have f565 := f564.chg cw462 (by omega)
  have f566 := hb_b7.ext cb460
  have f567 := f566.chg cw462 (by omega)
  have f568 := hb_b17.ext cb460
  have f569 := f568.chg cw462 (by omega)
  have f571 := (hvb0.ext c6).ext cb7
  have f572 := f571.chg cw9 (by omega)
  have f574 := (f572.ext c16).ext cb17
  have f575 := f574.chg cw19 (by omega)
  have f578 := ((f575.ext c32).ext c37).ext cwl452
  have f579 := f578.ext cb460
  have f580 := f579.chg cw462 (by omega)
  have f581 := f459.ext cb460
  have f582 := f581.chg cw462 (by omega)
  have f583 := f21.chg cw19 (by omega)
  have f586 := ((f583.ext c32).ext c37).ext cwl452
  have f587 := f586.ext cb460
  have f588 := f587.chg cw462 (by omega)
  have f589 := f20.chg cw19 (by omega)
  have f592 := ((f589.ext c32).ext c37).ext cwl452
  have f593 := f592.ext cb460
  have f594 := f593.chg cw462 (by omega)
  have f595 := os_37.ext cwl452
  have f596 := f595.ext cb460
  have f597 := f596.chg cw462 (by omega)
  have f598 := f463.chg cw462 (by omega)
  refine dx_region (fun w' => Chg 0 0 w462 w') (by kernel_rfl) (Chg.zero (Chg.drew _)) ?_
  have d599 := Chg.drew w462
  have s599 : Chg 0 0 w462 (World.drew w462) := Chg.zero (Chg.drew _)
  have y599 : (World.drew w462).heap.size = w462.heap.size := rfl
  generalize World.drew w462 = w599 at *
  have zw599 := d599.size
  refine dt 0 rfl rfl rfl rfl s599 (fun _ hS => px_field rfl xfld44x0) ?_
  refine dt 1 rfl rfl rfl rfl s599 (fun _ hS => px_load rfl ((gw462.chg hS (by omega)).load1 rfl Tryd.isAgg9)) ?_
  refine dt 2 rfl rfl rfl rfl s599 (fun _ hS => px_move rfl) ?_
  refine dt 3 rfl rfl rfl rfl s599 (fun _ hS => px_eqS rfl rfl) ?_
  refine dt 4 rfl rfl rfl rfl s599 (fun _ hS => px_move rfl) ?_
  have h467 : ¬ ((ts6.getD k rt0).1 = a6) := by first | omega | exact ph467
  refine dx_tmpPF (t := 84) rfl h467 ?_
  refine dx_skip 5 rfl rfl rfl rfl rfl rfl rfl (by kernel_rfl) (by kernel_rfl) (by kernel_rfl) s599 ?_
  refine dx_skip 6 rfl rfl rfl rfl rfl rfl rfl (by kernel_rfl) (by kernel_rfl) (by kernel_rfl) s599 ?_
  refine dx_skip 7 rfl rfl rfl rfl rfl rfl rfl (by kernel_rfl) (by kernel_rfl) (by kernel_rfl) s599 ?_
  refine dx_skip 8 rfl rfl rfl rfl rfl rfl rfl (by kernel_rfl) (by kernel_rfl) (by kernel_rfl) s599 ?_
  refine dt 9 rfl rfl rfl rfl s599 (fun _ hS => px_pick rfl rfl) ?_
  refine dt 10 rfl rfl rfl rfl s599 (fun _ hS => px_move rfl) ?_
  refine dx_skip 11 rfl rfl rfl rfl rfl rfl rfl (by kernel_rfl) (by kernel_rfl) (by kernel_rfl) s599 ?_
  refine dx_skip 12 rfl rfl rfl rfl rfl rfl rfl (by kernel_rfl) (by kernel_rfl) (by kernel_rfl) s599 ?_
  refine dx_skip 13 rfl rfl rfl rfl rfl rfl rfl (by kernel_rfl) (by kernel_rfl) (by kernel_rfl) s599 ?_
  refine dx_skipU 14 rfl rfl rfl rfl rfl rfl (by kernel_rfl) (by kernel_rfl) (by kernel_rfl) s599 ?_
  refine dx_skipU 15 rfl rfl rfl rfl rfl rfl (by kernel_rfl) (by kernel_rfl) (by kernel_rfl) s599 ?_
  refine dx_skipU 16 rfl rfl rfl rfl rfl rfl (by kernel_rfl) (by kernel_rfl) (by kernel_rfl) s599 ?_
  refine dx_skipU 17 rfl rfl rfl rfl rfl rfl (by kernel_rfl) (by kernel_rfl) (by kernel_rfl) s599 ?_
  refine dx_skipU 18 rfl rfl rfl rfl rfl rfl (by kernel_rfl) (by kernel_rfl) (by kernel_rfl) s599 ?_
  refine dx_skipU 19 rfl rfl rfl rfl rfl rfl (by kernel_rfl) (by kernel_rfl) (by kernel_rfl) s599 ?_
  refine dx_skip 20 rfl rfl rfl rfl rfl rfl rfl (by kernel_rfl) (by kernel_rfl) (by kernel_rfl) s599 ?_
  refine dt 21 rfl rfl rfl rfl s599 (fun _ hS => px_pick rfl rfl) ?_
  refine dx_done (by kernel_rfl) ?_
  refine q_n (k464 _ _ ?_)
  refine sx_sub (Sub.c 3 rfl (.c 4 rfl (.c 5 rfl (.c 6 rfl (.c 7 rfl (.c 8 rfl (.c 9 rfl (.c 74 rfl (.c 75 rfl (.c 76 rfl (.c 101 rfl .nil))))))))))) ?_
  refine sx_condF rfl ?_
  refine sx_skip ?_
  refine q_bn (q_n (k457 _ _ ?_))
  refine sx_region ?_
  refine sp rfl (px_add rfl rfl (by omega)) ?_
  refine mv rfl rfl (wl_nil ?_)
  have q600 := Chg.step (l := 0) (h := 0) (Chg.zero (l := 0) (h := 0) (cwl452.t cb460)) cw462 (by omega)
  have q601 := Chg.step (l := 0) (h := 0) q600 d599 (by omega)
  have f602 := f567.ext d599
  have f603 := f569.ext d599
  exact fun a ha => ⟨_, by omega, (k + 1), ha.sub (Sub.c 3 rfl (.c 4 rfl (.c 5 rfl (.c 6 rfl (.c 7 rfl (.c 8 rfl (.c 9 rfl (.c 74 rfl (.c 75 rfl (.c 76 (look_int (t := 76) rfl (by first | omega | simp)) .nil)))))))))), q601, f602, f603, rfl, by omega⟩
 refine sx_exit ?_
 refine q_e (q_e (q_bx (q_n (k448 _ _ ?_))))
 refine sx_seq fun K604 k604 => ?_
 refine sx_seq fun K605 k605 => sx_region ?_
 refine mv rfl rfl (sp rfl (px_eq rfl rfl) ?_)
 refine wl_nil (q_n (k605 _ _ ?_))
 refine sx_condP rfl (fun h471 => ?_) (fun h471 => ?_)
 ·
  refine sx_seq fun K606 k606 => sx_region ?_
  refine sp rfl (px_load rfl (hb_b7.loadA (vs := [.string qv6, s6]) (look_lit rfl) Tryd.isAgg36 Tryd.sizeOf36)) ?_
  refine mv rfl rfl (sp rfl (px_field rfl xfld36x0) ?_)
  refine sp rfl (px_load rfl (hb_b7.load1 rfl Tryd.isAgg9)) ?_
  have f608 := (f35.ext c37).ext cwl452
  have f609 := f451.ext cwl452
  refine sx_call rfl rfl Tryd.call17 (c_iRateOfK f608 f609 (by omega) (by first | assumption | exact fun i hi => Nat.le_trans (hzz i hi) (by omega))) (fun v610 w610 p610 => ?_)
  obtain ⟨s610, t610, ls610, us610, lt610, ut610, x610, e610, rfl, os_610, ot_610, hd610, hX610, hv610, hl610, c610⟩ := p610
  have zw610 := c610.size
  have hXa := hX610
  have hva := hv610
  have hla := hl610
  refine mv rfl rfl (sp rfl (px_ex2 rfl rfl) ?_)
  refine sp rfl (px_ex2 rfl rfl) ?_
  refine sx_alloc [.bool false, (.slice none 0 0), (.slice none 0 0)] rfl Tryd.zeroValue55 rfl (fun b611 w612 eb611 sb611 fb611 cb611 => ?_)
  have zw612 := cb611.size
  have f614 := ot_610.ext cb611
  have f615 := os_610.ext cb611
  refine sx_store (vs := [.bool (ng x610), s610, t610]) rfl rfl fb611 rfl Tryd.sizeOf55 (nbl rfl) (one_cons rfl (one_cons f615.one (one_cons f614.one one_nil))) (fun w613 sw613 fw613 cw613 => ?_)
  have zw613 := cw613.size
  have gw613 : Blk w613 b611 [.bool (ng x610), s610, t610] 55 := fw613
  refine av rfl rfl (wl_nil (q_n (k606 _ _ ?_)))
  refine sx_sub (Sub.c 3 rfl (.c 4 rfl (.c 5 rfl (.c 6 rfl (.c 7 rfl (.c 8 rfl (.c 9 rfl (.c 12 rfl (.c 13 rfl .nil))))))))) ?_
  refine sx_seq fun K616 k616 => sx_region ?_
  have f618 := (hb_b7.ext c610).ext cb611
  have f619 := f618.chg cw613 (by omega)
  refine sp rfl (px_load rfl (f619.loadA (vs := [.string qv6, s6]) (look_lit rfl) Tryd.isAgg36 Tryd.sizeOf36)) ?_
  refine sp rfl (px_field rfl xfld36x0) ?_
  refine sp rfl (px_load rfl (f619.load1 rfl Tryd.isAgg9)) ?_
  refine mv rfl rfl ?_
  have f621 := (f608.ext c610).ext cb611
  have f622 := f621.chg cw613 (by omega)
  have f624 := (f609.ext c610).ext cb611
  have f625 := f624.chg cw613 (by omega)
  refine sx_call rfl rfl Tryd.call17 (c_iRateOfK f622 f625 (by omega) (by first | assumption | exact fun i hi => Nat.le_trans (hzz i hi) (by omega))) (fun v626 w626 p626 => ?_)
  obtain ⟨s626, t626, ls626, us626, lt626, ut626, x626, e626, rfl, os_626, ot_626, hd626, hX626, hv626, hl626, c626⟩ := p626
  have zw626 := c626.size
  have hXb := hX626
  have hvb := hv626
  have hlb := hl626
  refine mv rfl rfl (sp rfl (px_ex2 rfl rfl) ?_)
  refine sp rfl (px_ex2 rfl rfl) ?_
  refine sx_alloc [.bool false, (.slice none 0 0), (.slice none 0 0)] rfl Tryd.zeroValue55 rfl (fun b627 w628 eb627 sb627 fb627 cb627 => ?_)
  have zw628 := cb627.size
  have f630 := ot_626.ext cb627
  have f631 := os_626.ext cb627
  refine sx_store (vs := [.bool (ng x626), s626, t626]) rfl rfl fb627 rfl Tryd.sizeOf55 (nbl rfl) (one_cons rfl (one_cons f631.one (one_cons f630.one one_nil))) (fun w629 sw629 fw629 cw629 => ?_)
  have zw629 := cw629.size
  have gw629 : Blk w629 b627 [.bool (ng x626), s626, t626] 55 := fw629
  refine av rfl rfl (wl_nil (q_n (k616 _ _ ?_)))
  refine sx_sub (Sub.c 3 rfl (.c 4 rfl (.c 5 rfl (.c 6 rfl (.c 7 rfl (.c 8 rfl (.c 9 rfl (.c 12 rfl (.c 13 rfl (.c 14 rfl (.c 15 rfl .nil))))))))))) ?_
  refine sx_seq fun K632 k632 => ?_
  have f634 := (f622.ext c626).ext cb627
  have f635 := f634.chg cw629 (by omega)
  have f637 := (f619.ext c626).ext cb627
  have f638 := f637.chg cw629 (by omega)
  have f640 := (hb_b17.ext c610).ext cb611
  have f641 := f640.chg cw613 (by omega)
  have f643 := (f641.ext c626).ext cb627
  have f644 := f643.chg cw629 (by omega)
  have f646 := (gw613.ext c626).ext cb627
  have f647 := f646.chg cw629 (by omega)
  have f649 := (hvb0.ext c6).ext cb7
  have f650 := f649.chg cw9 (by omega)
  have f652 := (f650.ext c16).ext cb17
  have f653 := f652.chg cw19 (by omega)
  have f656 := ((f653.ext c32).ext c37).ext cwl452
  have f658 := (f656.ext c610).ext cb611
  have f659 := f658.chg cw613 (by omega)
  have f661 := (f659.ext c626).ext cb627
  have f662 := f661.chg cw629 (by omega)
  have f664 := (f625.ext c626).ext cb627
  have f665 := f664.chg cw629 (by omega)
  have f666 := f21.chg cw19 (by omega)
  have f669 := ((f666.ext c32).ext c37).ext cwl452
  have f671 := (f669.ext c610).ext cb611
  have f672 := f671.chg cw613 (by omega)
  have f674 := (f672.ext c626).ext cb627
  have f675 := f674.chg cw629 (by omega)
  have f676 := f20.chg cw19 (by omega)
  have f679 := ((f676.ext c32).ext c37).ext cwl452
  have f681 := (f679.ext c610).ext cb611
  have f682 := f681.chg cw613 (by omega)
  have f684 := (f682.ext c626).ext cb627
  have f685 := f684.chg cw629 (by omega)
  have f686 := os_37.ext cwl452
  have f688 := (f686.ext c610).ext cb611
  have f689 := f688.chg cw613 (by omega)
  have f691 := (f689.ext c626).ext cb627
  have f692 := f691.chg cw629 (by omega)
  have f693 := f615.chg cw613 (by omega)
  have f695 := (f693.ext c626).ext cb627
  have f696 := f695.chg cw629 (by omega)
  have f697 := f614.chg cw613 (by omega)
  have f699 := (f697.ext c626).ext cb627
  have f700 := f699.chg cw629 (by omega)
  have f701 := f631.chg cw629 (by omega)
  have f702 := f630.chg cw629 (by omega)
  refine dx_region (fun w' => Chg 0 0 w629 w') (by kernel_rfl) (Chg.zero (Chg.drew _)) ?_
  have d703 := Chg.drew w629
  have s703 : Chg 0 0 w629 (World.drew w629) := Chg.zero (Chg.drew _)
  have y703 : (World.drew w629).heap.size = w629.heap.size := rfl
  generalize World.drew w629 = w703 at *
  have zw703 := d703.size
  refine dt 0 rfl rfl rfl rfl s703 (fun _ hS => px_move rfl) ?_
  refine dt 1 rfl rfl rfl rfl s703 (fun _ hS => px_move rfl) ?_
  have h474 : how qv6 ts6 a6 qv6 ≠ 0 := (how4_legs h471).1
  refine dx_tmpPT (t := 122) rfl h474 ?_
  refine dx_takeG 2 rfl rfl rfl rfl rfl rfl (by kernel_rfl) (by kernel_rfl) (by kernel_rfl) s703 (fun _ hS => px_move rfl) ?_
  refine dt 3 rfl rfl rfl rfl s703 (fun _ hS => px_pick rfl rfl) ?_
  refine dt 4 rfl rfl rfl rfl s703 (fun _ hS => px_move rfl) ?_
  have h474x1 : how qv6 ts6 qv6 b6 ≠ 0 := (how4_legs h471).2
  refine dx_tmpPT (t := 125) rfl h474x1 ?_
  refine dx_takeG 5 rfl rfl rfl rfl rfl rfl (by kernel_rfl) (by kernel_rfl) (by kernel_rfl) s703 (fun _ hS => px_move rfl) ?_
  refine dx_takeG 6 rfl rfl rfl rfl rfl rfl (by kernel_rfl) (by kernel_rfl) (by kernel_rfl) s703 (fun _ hS => px_len rfl Tryd.underlying59 ((f692.sv).chg hS (by omega))) ?_
  refine dx_takeG 7 rfl rfl rfl rfl rfl rfl (by kernel_rfl) (by kernel_rfl) (by kernel_rfl) s703 (fun _ hS => px_eq rfl rfl) ?_
  refine dt 8 rfl rfl rfl rfl s703 (fun _ hS => px_pick rfl rfl) ?_
  refine dt 9 rfl rfl rfl rfl s703 (fun _ hS => px_move rfl) ?_
  have h474x2 : (↑((path qv6 ts6 a6 b6).length) : Int) = 3 := by rw [path_4 h471]; rfl
  refine dx_tmpPT (t := 130) rfl h474x2 ?_
  refine dx_takeG 10 rfl rfl rfl rfl rfl rfl (by kernel_rfl) (by kernel_rfl) (by kernel_rfl) s703 (fun _ hS => px_load rfl ((f644.chg hS (by omega)).loadA (vs := [.bool (ng x16), s16, t16]) (look_lit rfl) Tryd.isAgg55 Tryd.sizeOf55)) ?_
  refine dx_takeG 11 rfl rfl rfl rfl rfl rfl (by kernel_rfl) (by kernel_rfl) (by kernel_rfl) s703 (fun _ hS => px_load rfl ((f647.chg hS (by omega)).loadA (vs := [.bool (ng x610), s610, t610]) (look_lit rfl) Tryd.isAgg55 Tryd.sizeOf55)) ?_
  refine dx_takeG 12 rfl rfl rfl rfl rfl rfl (by kernel_rfl) (by kernel_rfl) (by kernel_rfl) s703 (fun _ hS => px_load rfl ((gw629.chg hS (by omega)).loadA (vs := [.bool (ng x626), s626, t626]) (look_lit rfl) Tryd.isAgg55 Tryd.sizeOf55)) ?_
  refine dx_eff 13 rfl (by kernel_rfl) ?_
  refine sx_guardT rfl rfl rfl ?_
  have f704 := f696.ext d703
  have f705 := f700.ext d703
  have f706 := f701.ext d703
  have f707 := f702.ext d703
  refine sx_call rfl rfl Tryd.call23 (c_iRatMulK f704.sv f705.sv f706.sv f707.sv ((hXa (how4_legs h471).1).1) ((hXb (how4_legs h471).2).1) (by omega) (⟨(hXa (how4_legs h471).1).2, (hXb (how4_legs h471).2).2⟩)) (fun v708 w708 p708 => ?_)
  obtain ⟨s708, t708, ls708, us708, lt708, ut708, xx708, ee708, rfl, os_708, ot_708, hd708, hK708, hm708, hv708, c708⟩ := p708
  have zw708 := c708.size
  have s709 : Chg 0 0 w629 w708 := (d703.t c708)
  refine wl_nil ?_
  refine dx_next s709 ?_
  refine dx_takeG 14 rfl rfl rfl rfl rfl rfl (by kernel_rfl) (by kernel_rfl) (by kernel_rfl) s709 (fun _ hS => px_ex2 rfl rfl) ?_
  refine dx_takeG 15 rfl rfl rfl rfl rfl rfl (by kernel_rfl) (by kernel_rfl) (by kernel_rfl) s709 (fun _ hS => px_ex2 rfl rfl) ?_
  refine dx_eff 16 rfl (by kernel_rfl) ?_
  refine sx_guardT rfl rfl rfl ?_
  refine sx_call rfl rfl Tryd.call22 (c_must os_708.sv ot_708.sv) (fun v710 w710 p710 => ?_)
  obtain ⟨rfl, c710⟩ := p710
  have zw710 := c710.size
  have s711 : Chg 0 0 w629 w710 := ((d703.t c708).t c710)
  refine wl_nil ?_
  refine dx_next s711 ?_
  refine dx_eff 17 rfl (by kernel_rfl) ?_
  refine sx_guardT rfl rfl rfl ?_
  have f714 := ((f675.ext d703).ext c708).ext c710
  have f717 := ((f685.ext d703).ext c708).ext c710
  have f718 := os_708.ext c710
  have f719 := ot_708.ext c710
  refine sx_call rfl rfl Tryd.call20 (c_iRatCmpK f714.sv f717.sv f718.sv f719.sv (by first | assumption | exact (hXX (by omega)).1) (by assumption)) (fun v720 w720 p720 => ?_)
  obtain ⟨rfl, c720⟩ := p720
  have zw720 := c720.size
  have s721 : Chg 0 0 w629 w720 := (((d703.t c708).t c710).t c720)
  refine wl_nil ?_
  refine dx_next s721 ?_
  refine dx_takeG 18 rfl rfl rfl rfl rfl rfl (by kernel_rfl) (by kernel_rfl) (by kernel_rfl) s721 (fun _ hS => px_eq rfl rfl) ?_
  refine dt 19 rfl rfl rfl rfl s721 (fun _ hS => px_pick rfl rfl) ?_
  refine dt 20 rfl rfl rfl rfl s721 (fun _ hS => px_assign rfl) ?_
  refine dx_done (by kernel_rfl) ?_
  refine q_n (k632 _ _ ?_)
  refine sx_sub (Sub.c 2 rfl (.c 3 rfl (.c 4 rfl (.c 5 rfl (.c 6 rfl (.c 7 rfl (.c 8 rfl .nil))))))) ?_
  refine sx_retc ?_
  refine q_r (sx_ret1 Tryd.results4 rfl ?_)
  have q722 := Chg.step (l := 0) (h := 0) (Chg.zero (l := 0) (h := 0) (c6.t cb7)) cw9 (by omega)
  have q723 := Chg.step (l := 0) (h := 0) q722 (c16.t cb17) (by omega)
  have q724 := Chg.step (l := 0) (h := 0) q723 cw19 (by omega)
  have q725 := Chg.step (l := 0) (h := 0) q724 ((((c32.t c37).t cwl452).t c610).t cb611) (by omega)
  have q726 := Chg.step (l := 0) (h := 0) q725 cw613 (by omega)
  have q727 := Chg.step (l := 0) (h := 0) q726 (c626.t cb627) (by omega)
  have q728 := Chg.step (l := 0) (h := 0) q727 cw629 (by omega)
  have q729 := Chg.step (l := 0) (h := 0) q728 (((d703.t c708).t c710).t c720) (by omega)
  exact ⟨(bTrue (cmp_same hvX ((rOf4_mul h471 hva hvb).trans (by assumption)))).symm, q729⟩
 refine sx_skip ?_
 refine q_n (k604 _ _ ?_)
 refine sx_seq fun K730 k730 => sx_region ?_
 refine sp rfl (px_load rfl (hb_b7.loadA (vs := [.string qv6, s6]) (look_lit rfl) Tryd.isAgg36 Tryd.sizeOf36)) ?_
 refine mv rfl rfl (mv rfl rfl ?_)
 have f732 := (f35.ext c37).ext cwl452
 have f733 := f451.ext cwl452
 refine sx_call rfl rfl Tryd.call17 (c_iRateOfK f732 f733 (by omega) (by first | assumption | exact fun i hi => Nat.le_trans (hzz i hi) (by omega))) (fun v734 w734 p734 => ?_)
 obtain ⟨s734, t734, ls734, us734, lt734, ut734, x734, e734, rfl, os_734, ot_734, hd734, hX734, hv734, hl734, c734⟩ := p734
 have zw734 := c734.size
 have hXc := hX734
 have hvc := hv734
 have hlc := hl734
 refine mv rfl rfl (sp rfl (px_ex2 rfl rfl) ?_)
 refine sp rfl (px_ex2 rfl rfl) ?_
 refine sx_alloc [.bool false, (.slice none 0 0), (.slice none 0 0)] rfl Tryd.zeroValue55 rfl (fun b735 w736 eb735 sb735 fb735 cb735 => ?_)
 have zw736 := cb735.size
 have f738 := ot_734.ext cb735
 have f739 := os_734.ext cb735
 refine sx_store (vs := [.bool (ng x734), s734, t734]) rfl rfl fb735 rfl Tryd.sizeOf55 (nbl rfl) (one_cons rfl (one_cons f739.one (one_cons f738.one one_nil))) (fun w737 sw737 fw737 cw737 => ?_)
 have zw737 := cw737.size
 have gw737 : Blk w737 b735 [.bool (ng x734), s734, t734] 55 := fw737
 refine av rfl rfl (wl_nil (q_n (k730 _ _ ?_)))
 refine sx_sub (Sub.c 6 rfl (.c 7 rfl (.c 8 rfl (.c 16 rfl (.c 17 rfl .nil))))) ?_
 refine sx_seq fun K740 k740 => ?_
 refine sx_seq fun K741 k741 => sx_region ?_
 refine mv rfl rfl (sp rfl (px_eq rfl rfl) ?_)
 refine mv rfl rfl ?_
 refine sx_tmpP (t := 150) rfl (fun h477 => ?_) (fun h477 => ?_)
 ·
  refine sx_guardF rfl rfl rfl rfl rfl rfl ?_
  refine sx_guardF rfl rfl rfl rfl rfl rfl ?_
  refine sp rfl (px_pick rfl rfl) ?_
  refine wl_nil (q_n (k741 _ _ ?_))
  refine sx_condT rfl ?_
  refine sx_seq fun K742 k742 => sx_region ?_
  refine mv rfl rfl (mv rfl rfl ?_)
  have h478 : how qv6 ts6 b6 a6 ≠ 0 := (back_one (by first | exact .inl h477 | exact .inr h477x1) hvX hvc).1
  refine sx_tmpPT (t := 155) rfl h478 ?_
  refine sx_guardT rfl rfl rfl ?_
  have f744 := (hb_b17.ext c734).ext cb735
  have f745 := f744.chg cw737 (by omega)
  refine sp rfl (px_load rfl (f745.loadA (vs := [.bool (ng x16), s16, t16]) (look_lit rfl) Tryd.isAgg55 Tryd.sizeOf55)) ?_
  refine sx_guardT rfl rfl rfl ?_
  refine sp rfl (px_load rfl (gw737.loadA (vs := [.bool (ng x734), s734, t734]) (look_lit rfl) Tryd.isAgg55 Tryd.sizeOf55)) ?_
  refine sx_guardT rfl rfl rfl ?_
  have f746 := f21.chg cw19 (by omega)
  have f749 := ((f746.ext c32).ext c37).ext cwl452
  have f751 := (f749.ext c734).ext cb735
  have f752 := f751.chg cw737 (by omega)
  have f753 := f20.chg cw19 (by omega)
  have f756 := ((f753.ext c32).ext c37).ext cwl452
  have f758 := (f756.ext c734).ext cb735
  have f759 := f758.chg cw737 (by omega)
  have f760 := f739.chg cw737 (by omega)
  have f761 := f738.chg cw737 (by omega)
  refine sx_call rfl rfl Tryd.call23 (c_iRatMulK f752.sv f759.sv f760.sv f761.sv ((hXX (by omega)).1) ((hXc (back_one (by first | exact .inl h477 | exact .inr h477x1) hvX hvc).1).1) (by omega) (⟨(hXX (by omega)).2, (hXc (back_one (by first | exact .inl h477 | exact .inr h477x1) hvX hvc).1).2⟩)) (fun v762 w762 p762 => ?_)
  obtain ⟨s762, t762, ls762, us762, lt762, ut762, xx762, ee762, rfl, os_762, ot_762, hd762, hK762, hm762, hv762, c762⟩ := p762
  have zw762 := c762.size
  refine sx_guardT rfl rfl rfl ?_
  refine sp rfl (px_ex2 rfl rfl) ?_
  refine sx_guardT rfl rfl rfl ?_
  refine sp rfl (px_ex2 rfl rfl) ?_
  refine sx_guardT rfl rfl rfl ?_
  refine sx_call rfl rfl Tryd.call22 (c_must os_762.sv ot_762.sv) (fun v763 w763 p763 => ?_)
  obtain ⟨rfl, c763⟩ := p763
  have zw763 := c763.size
  refine sx_guardT rfl rfl rfl ?_
  refine sx_call rfl rfl Tryd.call25 (c_iIntOf (by omega)) (fun v764 w764 p764 => ?_)
  obtain ⟨s764, rfl, os_764, c764⟩ := p764
  have zw764 := c764.size
  refine sx_guardT rfl rfl rfl ?_
  refine sx_call rfl rfl Tryd.call24 (c_iRatIntK os_764.sv (by have h9 := len_i64 (n := 1) (by omega); omega)) (fun v765 w765 p765 => ?_)
  obtain ⟨s765, t765, ls765, us765, lt765, ut765, rfl, os_765, ot_765, hd765, hK765, c765⟩ := p765
  have zw765 := c765.size
  refine sx_guardT rfl rfl rfl ?_
  refine sp rfl (px_ex2 rfl rfl) ?_
  refine sx_guardT rfl rfl rfl ?_
  refine sp rfl (px_ex2 rfl rfl) ?_
  refine sx_guardT rfl rfl rfl ?_
  refine sx_call rfl rfl Tryd.call22 (c_must os_765.sv ot_765.sv) (fun v766 w766 p766 => ?_)
  obtain ⟨rfl, c766⟩ := p766
  have zw766 := c766.size
  refine sx_guardT rfl rfl rfl ?_
  have f770 := (((os_762.ext c763).ext c764).ext c765).ext c766
  have f774 := (((ot_762.ext c763).ext c764).ext c765).ext c766
  have f775 := os_765.ext c766
  have f776 := ot_765.ext c766
  refine sx_call rfl rfl Tryd.call20 (c_iRatCmpK f770.sv f774.sv f775.sv f776.sv (by first | assumption | exact (hXX (by omega)).1) (by assumption)) (fun v777 w777 p777 => ?_)
  obtain ⟨rfl, c777⟩ := p777
  have zw777 := c777.size
  refine sx_guardT rfl rfl rfl ?_
  refine sp rfl (px_eq rfl rfl) ?_
  refine sp rfl (px_pick rfl rfl) ?_
  refine av rfl rfl (wl_nil (q_n (k742 _ _ ?_)))
  refine sx_sub (Sub.c 2 rfl (.c 6 rfl (.c 7 rfl .nil))) ?_
  refine sx_retc ?_
  refine q_r (sx_ret1 Tryd.results4 rfl ?_)
  have q778 := Chg.step (l := 0) (h := 0) (Chg.zero (l := 0) (h := 0) (c6.t cb7)) cw9 (by omega)
  have q779 := Chg.step (l := 0) (h := 0) q778 (c16.t cb17) (by omega)
  have q780 := Chg.step (l := 0) (h := 0) q779 cw19 (by omega)
  have q781 := Chg.step (l := 0) (h := 0) q780 ((((c32.t c37).t cwl452).t c734).t cb735) (by omega)
  have q782 := Chg.step (l := 0) (h := 0) q781 cw737 (by omega)
  have q783 := Chg.step (l := 0) (h := 0) q782 (((((c762.t c763).t c764).t c765).t c766).t c777) (by omega)
  exact ⟨(bTrue (one_cmp (Nat.mul_pos (ROk_iff.1 (hXX (by omega)).1).1 (ROk_iff.1 (hXc (back_one (by first | exact .inl h477 | exact .inr h477x1) hvX hvc).1).1).1) (back_one (by first | exact .inl h477 | exact .inr h477x1) hvX hvc).2 (by assumption))).symm, q783⟩
 refine sx_guardT rfl rfl rfl ?_
 refine mv rfl rfl ?_
 refine sx_guardT rfl rfl rfl ?_
 refine sp rfl (px_eq rfl rfl) ?_
 refine sp rfl (px_pick rfl rfl) ?_
 refine wl_nil (q_n (k741 _ _ ?_))
 refine sx_condP rfl (fun h477x1 => ?_) (fun h477x1 => ?_)
 ·
  refine sx_seq fun K784 k784 => sx_region ?_
  refine mv rfl rfl (mv rfl rfl ?_)
  have h478 : how qv6 ts6 b6 a6 ≠ 0 := (back_one (by first | exact .inl h477 | exact .inr h477x1) hvX hvc).1
  refine sx_tmpPT (t := 155) rfl h478 ?_
  refine sx_guardT rfl rfl rfl ?_
  have f786 := (hb_b17.ext c734).ext cb735
  have f787 := f786.chg cw737 (by omega)
  refine sp rfl (px_load rfl (f787.loadA (vs := [.bool (ng x16), s16, t16]) (look_lit rfl) Tryd.isAgg55 Tryd.sizeOf55)) ?_
  refine sx_guardT rfl rfl rfl ?_
  refine sp rfl (px_load rfl (gw737.loadA (vs := [.bool (ng x734), s734, t734]) (look_lit rfl) Tryd.isAgg55 Tryd.sizeOf55)) ?_
  refine sx_guardT rfl rfl rfl ?_
  have f788 := f21.chg cw19 (by omega)
  have f791 := ((f788.ext c32).ext c37).ext cwl452
  have f793 := (f791.ext c734).ext cb735
  have f794 := f793.chg cw737 (by omega)
  have f795 := f20.chg cw19 (by omega)
  have f798 := ((f795.ext c32).ext c37).ext cwl452
  have f800 := (f798.ext c734).ext cb735
  have f801 := f800.chg cw737 (by omega)
  have f802 := f739.chg cw737 (by omega)
  have f803 := f738.chg cw737 (by omega)
  refine sx_call rfl rfl Tryd.call23 (c_iRatMulK f794.sv f801.sv f802.sv f803.sv ((hXX (by omega)).1) ((hXc (back_one (by first | exact .inl h477 | exact .inr h477x1) hvX hvc).1).1) (by omega) (⟨(hXX (by omega)).2, (hXc (back_one (by first | exact .inl h477 | exact .inr h477x1) hvX hvc).1).2⟩)) (fun v804 w804 p804 => ?_)
  obtain ⟨s804, t804, ls804, us804, lt804, ut804, xx804, ee804, rfl, os_804, ot_804, hd804, hK804, hm804, hv804, c804⟩ := p804
  have zw804 := c804.size
  refine sx_guardT rfl rfl rfl ?_
  refine sp rfl (px_ex2 rfl rfl) ?_
  refine sx_guardT rfl rfl rfl ?_
  refine sp rfl (px_ex2 rfl rfl) ?_
  refine sx_guardT rfl rfl rfl ?_
  refine sx_call rfl rfl Tryd.call22 (c_must os_804.sv ot_804.sv) (fun v805 w805 p805 => ?_)
  obtain ⟨rfl, c805⟩ := p805
  have zw805 := c805.size
  refine sx_guardT rfl rfl rfl ?_
  refine sx_call rfl rfl Tryd.call25 (c_iIntOf (by omega)) (fun v806 w806 p806 => ?_)
  obtain ⟨s806, rfl, os_806, c806⟩ := p806
  have zw806 := c806.size
  refine sx_guardT rfl rfl rfl ?_
  refine sx_call rfl rfl Tryd.call24 (c_iRatIntK os_806.sv (by have h9 := len_i64 (n := 1) (by omega); omega)) (fun v807 w807 p807 => ?_)
  obtain ⟨s807, t807, ls807, us807, lt807, ut807, rfl, os_807, ot_807, hd807, hK807, c807⟩ := p807
  have zw807 := c807.size
  refine sx_guardT rfl rfl rfl ?_
  refine sp rfl (px_ex2 rfl rfl) ?_
  refine sx_guardT rfl rfl rfl ?_
  refine sp rfl (px_ex2 rfl rfl) ?_
  refine sx_guardT rfl rfl rfl ?_
  refine sx_call rfl rfl Tryd.call22 (c_must os_807.sv ot_807.sv) (fun v808 w808 p808 => ?_)
  obtain ⟨rfl, c808⟩ := p808
  have zw808 := c808.size
  refine sx_guardT rfl rfl rfl ?_
  have f812 := (((os_804.ext c805).ext c806).ext c807).ext c808
  have f816 := (((ot_804.ext c805).ext c806).ext c807).ext c808
  have f817 := os_807.ext c808
  have f818 := ot_807.ext c808
  refine sx_call rfl rfl Tryd.call20 (c_iRatCmpK f812.sv f816.sv f817.sv f818.sv (by first | assumption | exact (hXX (by omega)).1) (by assumption)) (fun v819 w819 p819 => ?_)
  obtain ⟨rfl, c819⟩ := p819
  have zw819 := c819.size
  refine sx_guardT rfl rfl rfl ?_
  refine sp rfl (px_eq rfl rfl) ?_
  refine sp rfl (px_pick rfl rfl) ?_
  refine av rfl rfl (wl_nil (q_n (k784 _ _ ?_)))
  refine sx_sub (Sub.c 2 rfl (.c 6 rfl (.c 7 rfl .nil))) ?_
  refine sx_retc ?_
  refine q_r (sx_ret1 Tryd.results4 rfl ?_)
  have q820 := Chg.step (l := 0) (h := 0) (Chg.zero (l := 0) (h := 0) (c6.t cb7)) cw9 (by omega)
  have q821 := Chg.step (l := 0) (h := 0) q820 (c16.t cb17) (by omega)
  have q822 := Chg.step (l := 0) (h := 0) q821 cw19 (by omega)
  have q823 := Chg.step (l := 0) (h := 0) q822 ((((c32.t c37).t cwl452).t c734).t cb735) (by omega)
  have q824 := Chg.step (l := 0) (h := 0) q823 cw737 (by omega)
  have q825 := Chg.step (l := 0) (h := 0) q824 (((((c804.t c805).t c806).t c807).t c808).t c819) (by omega)
  exact ⟨(bTrue (one_cmp (Nat.mul_pos (ROk_iff.1 (hXX (by omega)).1).1 (ROk_iff.1 (hXc (back_one (by first | exact .inl h477 | exact .inr h477x1) hvX hvc).1).1).1) (back_one (by first | exact .inl h477 | exact .inr h477x1) hvX hvc).2 (by assumption))).symm, q825⟩
 refine sx_skip ?_
 refine q_n (k740 _ _ ?_)
 refine sx_seq fun K826 k826 => sx_region ?_
 refine mv rfl rfl (sp rfl (px_notP rfl) ?_)
 refine mv rfl rfl ?_
 refine sx_tmpP (t := 172) rfl (fun h480 => ?_) (fun h480 => ?_)
 ·
  refine sx_guardF rfl rfl rfl rfl rfl rfl ?_
  refine sx_guardF rfl rfl rfl rfl rfl rfl ?_
  refine sx_guardF rfl rfl rfl rfl rfl rfl ?_
  refine sp rfl (px_pick rfl rfl) ?_
  refine av rfl rfl (wl_nil (q_n (k826 _ _ ?_)))
  refine sx_sub (Sub.c 2 rfl .nil) ?_
  refine sx_retc ?_
  refine sx_ret1 Tryd.results4 rfl ?_
  have q827 := Chg.step (l := 0) (h := 0) (Chg.zero (l := 0) (h := 0) (c6.t cb7)) cw9 (by omega)
  have q828 := Chg.step (l := 0) (h := 0) q827 (c16.t cb17) (by omega)
  have q829 := Chg.step (l := 0) (h := 0) q828 cw19 (by omega)
  have q830 := Chg.step (l := 0) (h := 0) q829 ((((c32.t c37).t cwl452).t c734).t cb735) (by omega)
  have q831 := Chg.step (l := 0) (h := 0) q830 cw737 (by omega)
  exact ⟨rfl, q831⟩
 refine sx_guardT rfl rfl rfl ?_
 have f833 := (hb_b17.ext c734).ext cb735
 have f834 := f833.chg cw737 (by omega)
 refine sp rfl (px_load rfl (f834.loadA (vs := [.bool (ng x16), s16, t16]) (look_lit rfl) Tryd.isAgg55 Tryd.sizeOf55)) ?_
 refine sx_guardT rfl rfl rfl ?_
 have f835 := f21.chg cw19 (by omega)
 have f838 := ((f835.ext c32).ext c37).ext cwl452
 have f840 := (f838.ext c734).ext cb735
 have f841 := f840.chg cw737 (by omega)
 have f842 := f20.chg cw19 (by omega)
 have f845 := ((f842.ext c32).ext c37).ext cwl452
 have f847 := (f845.ext c734).ext cb735
 have f848 := f847.chg cw737 (by omega)
 refine sx_call rfl rfl Tryd.call26 (c_iRatSignK f841.sv f848.sv ((hXX (Decidable.not_not.1 h480)).1)) (fun v849 w849 p849 => ?_)
 obtain ⟨rfl, c849⟩ := p849
 have zw849 := c849.size
 refine sx_guardT rfl rfl rfl ?_
 refine sp rfl (px_gt rfl rfl) ?_
 refine sp rfl (px_pick rfl rfl) ?_
 refine av rfl rfl (wl_nil (q_n (k826 _ _ ?_)))
 refine sx_sub (Sub.c 2 rfl .nil) ?_
 refine sx_retc ?_
 refine sx_ret1 Tryd.results4 rfl ?_
 have q850 := Chg.step (l := 0) (h := 0) (Chg.zero (l := 0) (h := 0) (c6.t cb7)) cw9 (by omega)
 have q851 := Chg.step (l := 0) (h := 0) q850 (c16.t cb17) (by omega)
 have q852 := Chg.step (l := 0) (h := 0) q851 cw19 (by omega)
 have q853 := Chg.step (l := 0) (h := 0) q852 ((((c32.t c37).t cwl452).t c734).t cb735) (by omega)
 have q854 := Chg.step (l := 0) (h := 0) q853 cw737 (by omega)
 have q855 := Chg.step (l := 0) (h := 0) q854 c849 (by omega)
 exact ⟨(bTrue (by rw [Int.sign_eq_one_of_pos (hXX (Decidable.not_not.1 h480)).2]; decide)).symm, q855⟩

end Go.Proofs.YtlnemcbdbehehaaDoor
