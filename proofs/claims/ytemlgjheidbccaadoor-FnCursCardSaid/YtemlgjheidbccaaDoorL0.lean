/- Contracts of functions of the program: what each call returns, and that it changes nothing that was. Conditions: as each says. -/
import Derived.Test.YtemlgjheidbccaaDoorTy
import Derived.Test.YtemlgjheidbccaaDoorNatI
import Derived.Test.YtemlgjheidbccaaDoorNatO
import Derived.Test.YtemlgjheidbccaaDoorSxD
import Derived.Test.YtemlgjheidbccaaDoorNatS
import Derived.Test.YtemlgjheidbccaaDoorNatU
import Derived.Test.YtemlgjheidbccaaDoorLay
import Derived.Test.YtemlgjheidbccaaDoorSxW
import Derived.Test.YtemlgjheidbccaaDoorSxP
set_option linter.unusedVariables false
set_option linter.unusedSimpArgs false
namespace Go.Proofs.YtemlgjheidbccaaDoor
open Go Go.RowKit
set_option maxRecDepth 100000
theorem c_l08Table {w : World} :
  Ret Tryd.prog 21 [] w fun v w' => ∃ sl, v = sl ∧ Own w' w.heap.size w'.heap.size sl 46 20 4 (crCells tabS) ∧ Chg 0 0 w w' := by
 refine sx_enter Tryd.func21 rfl Tryd.ntmps21 (nbl rfl) ?_
 refine sx_seq fun K1 k1 => sx_region ?_
 refine av rfl rfl (wl_nil (q_n (k1 _ _ ?_)))
 refine sx_seq fun K2 k2 => sx_region ?_
 refine sp rfl (px_build rfl (xbld46x0x1x2x3 rfl rfl rfl rfl _)) ?_
 refine sp rfl (px_build rfl (xbld46x0x1x2x3 rfl rfl rfl rfl _)) ?_
 refine sp rfl (px_build rfl (xbld46x0x1x2x3 rfl rfl rfl rfl _)) ?_
 refine sp rfl (px_build rfl (xbld46x0x1x2x3 rfl rfl rfl rfl _)) ?_
 refine sp rfl (px_build rfl (xbld46x0x1x2x3 rfl rfl rfl rfl _)) ?_
 refine sp rfl (px_build rfl (xbld46x0x1x2x3 rfl rfl rfl rfl _)) ?_
 refine sp rfl (px_build rfl (xbld46x0x1x2x3 rfl rfl rfl rfl _)) ?_
 refine sp rfl (px_build rfl (xbld46x0x1x2x3 rfl rfl rfl rfl _)) ?_
 refine sp rfl (px_build rfl (xbld46x0x1x2x3 rfl rfl rfl rfl _)) ?_
 refine sp rfl (px_build rfl (xbld46x0x1x2x3 rfl rfl rfl rfl _)) ?_
 refine sp rfl (px_build rfl (xbld46x0x1x2x3 rfl rfl rfl rfl _)) ?_
 refine sp rfl (px_build rfl (xbld46x0x1x2x3 rfl rfl rfl rfl _)) ?_
 refine sp rfl (px_build rfl (xbld46x0x1x2x3 rfl rfl rfl rfl _)) ?_
 refine sp rfl (px_build rfl (xbld46x0x1x2x3 rfl rfl rfl rfl _)) ?_
 refine sp rfl (px_build rfl (xbld46x0x1x2x3 rfl rfl rfl rfl _)) ?_
 refine sp rfl (px_build rfl (xbld46x0x1x2x3 rfl rfl rfl rfl _)) ?_
 refine sp rfl (px_build rfl (xbld46x0x1x2x3 rfl rfl rfl rfl _)) ?_
 refine sp rfl (px_build rfl (xbld46x0x1x2x3 rfl rfl rfl rfl _)) ?_
 refine sp rfl (px_build rfl (xbld46x0x1x2x3 rfl rfl rfl rfl _)) ?_
 refine sp rfl (px_build rfl (xbld46x0x1x2x3 rfl rfl rfl rfl _)) ?_
 refine sx_litG (k := 4) (e := 46) (vs := crCells tabS) rfl rfl ⟨by decide, by decide⟩ (fun w => by kernel_rfl) (fun s3 ws3 ss3 fs3 cs3 => ?_)
 have zws3 := cs3.size
 refine av rfl rfl (wl_nil (q_n (k2 _ _ ?_)))
 refine sx_sub (Sub.c 0 rfl .nil) ?_
 refine sx_retc ?_
 refine sx_ret1 Tryd.results21 rfl ?_
 exact ⟨_, rfl, fs3, cs3⟩

theorem c_sCurs {w : World} :
  Ret Tryd.prog 5 [] w fun v w' => ∃ s, v = s ∧ OwnS w' w.heap.size w'.heap.size s strT (tabS.map Cr.code) ∧ Chg 0 0 w w' := by
 refine sx_enter Tryd.func5 rfl Tryd.ntmps5 (nbl rfl) ?_
 refine sx_seq fun K1 k1 => sx_region ?_
 refine av rfl rfl (wl_nil (q_n (k1 _ _ ?_)))
 refine sx_seq fun K2 k2 => sx_region ?_
 refine sx_lit0 rfl xelt22 (fun s3 ws3 ss3 fs3 cs3 => ?_)
 have zws3 := cs3.size
 refine av rfl rfl (wl_nil (q_n (k2 _ _ ?_)))
 refine sx_seq fun K4 k4 => ?_
 refine sx_seq fun K5 k5 => sx_region ?_
 refine sx_call rfl rfl Tryd.call21 (c_l08Table) (fun v6 w6 p6 => ?_)
 obtain ⟨sl6, rfl, osl_6, c6⟩ := p6
 have zw6 := c6.size
 refine sp rfl (px_len rfl Tryd.underlying43 osl_6.sv) ?_
 refine mv rfl rfl (wl_nil (q_n (k5 _ _ ?_)))
 refine sx_block ?_
 have f8 := fs3.ext c6
 refine sx_loop (fun mm aa w' => ∃ (k : Nat) (s : Value) (os : List ByteArray) (gl : Nat) (gh : Nat), Agr 18 [(1, s), (5, v6), (6, .int .i64 20), (7, .int .i64 ↑k)] aa ∧ Chg 0 0 w w' ∧ Own w' gl gh s strT os.length 1 (os.map Value.string) ∧ Own w' ws3.heap.size w6.heap.size v6 46 20 4 (crCells tabS) ∧ (mm = 20 - k) ∧ (k ≤ 20) ∧ (os = (tabS.map Cr.code).take k) ∧ (os.length = k) ∧ (w.heap.size ≤ gl ∧ gl ≤ w'.heap.size ∧ gh ≤ w'.heap.size ∧ (gh ≤ ws3.heap.size ∨ w6.heap.size ≤ gl) ∧ w6.heap.size ≤ w'.heap.size)) (20) (fun a ha => ⟨0, s3, [], w.heap.size, ws3.heap.size, ha.sub (Sub.c 1 rfl (.c 5 rfl (.c 6 rfl (.c 7 (look_int (t := 7) rfl (by first | omega | simp)) .nil)))), (cs3.t c6), f8, osl_6, rfl, by omega, by simp, rfl, by omega⟩) ?_
 rintro mm aa wl7 ⟨k, s, os, gl, gh, hAwl7, cwl7, hs_s, hs_v6, hm, hk, hos, hol, hgg⟩
 refine (show cw Tryd.prog 18 _ _ _ wl7 from ?_) aa hAwl7
 clear hAwl7
 have zwl7 := cwl7.size
 refine sx_seq fun K9 k9 => sx_region ?_
 refine sp rfl (px_lt rfl rfl) ?_
 refine wl_nil (q_n (k9 _ _ ?_))
 refine sx_seq fun K10 k10 => ?_
 refine sx_condP rfl (fun h57 => ?_) (fun h57 => ?_)
 ·
  refine sx_skip ?_
  refine q_n (k10 _ _ ?_)
  refine sx_seq fun K11 k11 => ?_
  refine sx_block ?_
  refine sx_seq fun K12 k12 => sx_region ?_
  refine sp rfl (px_indexK (j := k) rfl rfl (by omega) Tryd.underlying43 Tryd.sizeOf46 hs_v6.sv (by omega)) ?_
  refine sp rfl (px_load rfl (hs_v6.sv.loadA (cr_look (l := tabS) (k := k) (by rw [show tabS.length = 20 from rfl]; omega)) Tryd.isAgg46 Tryd.sizeOf46)) ?_
  refine sx_alloc [.string (⟨#[]⟩), .string (⟨#[]⟩), .int .i64 0, .int .i64 0] rfl Tryd.zeroValue46 rfl (fun b13 w14 eb13 sb13 fb13 cb13 => ?_)
  have zw14 := cb13.size
  refine sx_store (vs := [.string ((tabS.getD k cr0).code), .string ((tabS.getD k cr0).number), .int .i64 ((tabS.getD k cr0).places), .int .i64 ((tabS.getD k cr0).cash)]) rfl rfl fb13 rfl Tryd.sizeOf46 (nbl rfl) (one_cons rfl (o3 rfl rfl rfl)) (fun w15 sw15 fw15 cw15 => ?_)
  have zw15 := cw15.size
  have gw15 : Blk w15 b13 [.string ((tabS.getD k cr0).code), .string ((tabS.getD k cr0).number), .int .i64 ((tabS.getD k cr0).places), .int .i64 ((tabS.getD k cr0).cash)] 46 := fw15
  refine wl_nil (q_n (k12 _ _ ?_))
  refine sx_region ?_
  refine mv rfl rfl (sp rfl (px_field rfl xfld46x0) ?_)
  refine sp rfl (px_load rfl (gw15.load1 rfl Tryd.isAgg9)) ?_
  refine sx_lit1 rfl xelt22 rfl rfl (fun s16 ws16 ss16 fs16 cs16 => ?_)
  have ns16 := Own.norm (f := Value.string) (zs := [(tabS.getD k cr0).code]) fs16
  have zws16 := cs16.size
  have f18 := hs_s.ext cb13
  have f19 := f18.chg cw15 (by omega)
  have f20 := f19.ext cs16
  refine sx_append2 rfl xelt22 rfl rfl f20 ns16.sv (by simp) one_str (by omega) (by simp only [List.length_cons, List.length_nil]; omega) (by unfold maxLen; simp only [List.length_cons, List.length_nil]; omega) (fun a17 w17 alw17 ahw17 adw17 fw17 cw17 => ?_)
  have nw17 := Own.app (f := Value.string) (a := os) (b := [(tabS.getD k cr0).code]) fw17
  have zw17 := cw17.size
  refine av rfl rfl (wl_nil ?_)
  refine q_bn (q_n (k11 _ _ ?_))
  refine sx_region ?_
  refine sp rfl (px_add rfl rfl (by omega)) ?_
  refine mv rfl rfl (wl_nil ?_)
  have q21 := Chg.step (l := 0) (h := 0) (Chg.zero (l := 0) (h := 0) (cwl7.t cb13)) cw15 (by omega)
  have q22 := Chg.step (l := 0) (h := 0) q21 cs16 (by omega)
  have q23 := Chg.step (l := 0) (h := 0) q22 cw17 (by omega)
  have f24 := hs_v6.ext cb13
  have f25 := f24.chg cw15 (by omega)
  have f26 := f25.ext cs16
  have f27 := f26.chg cw17 (by omega)
  exact fun a ha => ⟨_, by omega, (k + 1), a17, (os ++ ([(tabS.getD k cr0).code])), alw17, ahw17, ha.sub (Sub.c 1 rfl (.c 5 rfl (.c 6 rfl (.c 7 (look_int (t := 7) rfl (by first | omega | simp)) .nil)))), q23, nw17, f27, rfl, by omega, by rw [hos]; exact codes_next (by rw [show tabS.length = 20 from rfl]; omega), by simp only [List.length_append, List.length_singleton]; omega, by omega⟩
 refine sx_exit ?_
 refine q_e (q_e (q_bx (q_n (k4 _ _ ?_))))
 refine sx_seq fun K28 k28 => sx_region ?_
 refine mv rfl rfl (av rfl rfl (wl_nil (q_n (k28 _ _ ?_))))
 refine sx_retc ?_
 refine sx_ret1 Tryd.results5 rfl ?_
 have ek : k = 20 := by omega
 subst ek
 have hs := hs_s
 rw [hos, show (tabS.map Cr.code).take 20 = tabS.map Cr.code from rfl] at hs
 exact ⟨_, rfl, hs.mono (by omega) (by omega), cwl7⟩

theorem c_sortStrings {w : World} {va : Value} {lva uva : Nat} {zs : List ByteArray} (hva : OwnS w lva uva va strT (zs)) (h0 : 0 < zs.length ∧ zs.length ≤ 1000000) :
  Ret Tryd.prog 22 [va] w fun v w' => v = .tuple #[] ∧ OwnS w' (lva) (uva) va strT (sortS zs) ∧ Chg lva uva w w' := by
 obtain ⟨b, cap, hv, hb, hH, hp⟩ := own_sort hva h0.1
 subst hv
 have h := Any.sort_Strings lays192 b 0 cap (zs.map fun s => s.data.toList) w hH hb (by simp; omega)
 exact Calls.mono h fun e w' ⟨he, m, os, hw⟩ => ⟨_, he, rfl, by rw [hw]; exact (hp m os).1, by rw [hw]; exact (hp m os).2⟩

theorem c_iCurs {w : World} (hG0 : Glob w) :
  Ret Tryd.prog 6 [] w fun v w' => ∃ s, v = s ∧ OwnS w' w.heap.size w'.heap.size s strT (tabS.map Cr.code) ∧ Chg 0 0 w w' := by
 refine sx_enter Tryd.func6 rfl Tryd.ntmps6 (nbl rfl) ?_
 refine sx_seq fun K1 k1 => sx_region ?_
 refine av rfl rfl (wl_nil (q_n (k1 _ _ ?_)))
 refine sx_seq fun K2 k2 => sx_region ?_
 refine sx_lit0 rfl xelt22 (fun s3 ws3 ss3 fs3 cs3 => ?_)
 have zws3 := cs3.size
 refine av rfl rfl (wl_nil (q_n (k2 _ _ ?_)))
 refine sx_seq fun K4 k4 => ?_
 refine sx_seq fun K5 k5 => sx_region ?_
 have f6 := hG0.ext cs3
 refine sp rfl (px_load rfl (Glob.load f6 Tryd.isAgg49 Tryd.sizeOf49)) ?_
 refine mv rfl rfl (wl_nil (q_n (k5 _ _ ?_)))
 refine sx_block ?_
 refine sx_loop (fun mm aa w' => ∃ (k : Nat) (s : Value) (os : List ByteArray), Agr 18 [(1, s), (5, .agg (crCells tabI).toArray), (6, .int .i64 ↑k)] aa ∧ Chg 0 0 w w' ∧ Own w' w.heap.size w'.heap.size s strT os.length 1 (os.map Value.string) ∧ (mm = 20 - k) ∧ (k ≤ 20) ∧ (os = (tabI.map Cr.code).take k) ∧ (os.length = k)) (20) (fun a ha => ⟨0, s3, [], ha.sub (Sub.c 1 rfl (.c 5 rfl (.c 6 (look_int (t := 6) rfl (by first | omega | simp)) .nil))), cs3, (fs3.mono (by omega) (by omega)), rfl, by omega, by simp, rfl⟩) ?_
 rintro mm aa wl7 ⟨k, s, os, hAwl7, cwl7, hs_s, hm, hk, hos, hol⟩
 refine (show cw Tryd.prog 18 _ _ _ wl7 from ?_) aa hAwl7
 clear hAwl7
 have zwl7 := cwl7.size
 refine sx_seq fun K8 k8 => sx_region ?_
 refine sp rfl (px_lt rfl rfl) ?_
 refine wl_nil (q_n (k8 _ _ ?_))
 refine sx_seq fun K9 k9 => ?_
 refine sx_condP rfl (fun h84 => ?_) (fun h84 => ?_)
 ·
  refine sx_skip ?_
  refine q_n (k9 _ _ ?_)
  refine sx_seq fun K10 k10 => ?_
  refine sx_block ?_
  refine sx_seq fun K11 k11 => sx_region ?_
  refine sp rfl (px_indexCr (l := tabI) (j := k) rfl rfl (by omega) Tryd.underlying49 rfl Tryd.sizeOf48 Tryd.isAgg48 (by rw [show tabI.length = 20 from rfl]; omega)) ?_
  refine sx_alloc [.string (⟨#[]⟩), .string (⟨#[]⟩), .int .i64 0, .int .i64 0] rfl Tryd.zeroValue48 rfl (fun b12 w13 eb12 sb12 fb12 cb12 => ?_)
  have zw13 := cb12.size
  refine sx_store (vs := [.string ((tabI.getD k cr0).code), .string ((tabI.getD k cr0).number), .int .i64 ((tabI.getD k cr0).places), .int .i64 ((tabI.getD k cr0).cash)]) rfl rfl fb12 rfl Tryd.sizeOf48 (nbl rfl) (one_cons rfl (o3 rfl rfl rfl)) (fun w14 sw14 fw14 cw14 => ?_)
  have zw14 := cw14.size
  have gw14 : Blk w14 b12 [.string ((tabI.getD k cr0).code), .string ((tabI.getD k cr0).number), .int .i64 ((tabI.getD k cr0).places), .int .i64 ((tabI.getD k cr0).cash)] 48 := fw14
  refine wl_nil (q_n (k11 _ _ ?_))
  refine sx_region ?_
  refine mv rfl rfl (sp rfl (px_field rfl xfld48x0) ?_)
  refine sp rfl (px_load rfl (gw14.load1 rfl Tryd.isAgg9)) ?_
  refine sx_lit1 rfl xelt22 rfl rfl (fun s15 ws15 ss15 fs15 cs15 => ?_)
  have ns15 := Own.norm (f := Value.string) (zs := [(tabI.getD k cr0).code]) fs15
  have zws15 := cs15.size
  have f17 := hs_s.ext cb12
  have f18 := f17.chg cw14 (by omega)
  have f19 := f18.ext cs15
  refine sx_append rfl xelt22 rfl rfl f19 ns15.sv one_str (by omega) (by simp only [List.length_cons, List.length_nil]; omega) (by unfold maxLen; simp only [List.length_cons, List.length_nil]; omega) (fun a16 w16 fw16 cw16 => ?_)
  have nw16 := Own.app (f := Value.string) (a := os) (b := [(tabI.getD k cr0).code]) fw16
  have zw16 := cw16.size
  refine av rfl rfl (wl_nil ?_)
  refine q_bn (q_n (k10 _ _ ?_))
  refine sx_region ?_
  refine sp rfl (px_add rfl rfl (by omega)) ?_
  refine mv rfl rfl (wl_nil ?_)
  have q20 := Chg.step (l := 0) (h := 0) (Chg.zero (l := 0) (h := 0) (cwl7.t cb12)) cw14 (by omega)
  have q21 := Chg.step (l := 0) (h := 0) q20 cs15 (by omega)
  have q22 := Chg.step (l := 0) (h := 0) q21 cw16 (by omega)
  exact fun a ha => ⟨_, by omega, (k + 1), a16, (os ++ ([(tabI.getD k cr0).code])), ha.sub (Sub.c 1 rfl (.c 5 rfl (.c 6 (look_int (t := 6) rfl (by first | omega | simp)) .nil))), q22, (nw16.mono (by omega) (by omega)), rfl, by omega, by rw [hos]; exact codes_next (by rw [show tabI.length = 20 from rfl]; omega), by simp only [List.length_append, List.length_singleton]; omega⟩
 refine sx_exit ?_
 refine q_e (q_e (q_bx (q_n (k4 _ _ ?_))))
 refine sx_seq fun K23 k23 => sx_region ?_
 refine mv rfl rfl (sx_call rfl rfl Tryd.call22 (c_sortStrings hs_s (by omega)) (fun v24 w24 p24 => ?_))
 obtain ⟨rfl, ova_24, c24⟩ := p24
 have zw24 := c24.size
 refine wl_nil (q_n (k23 _ _ ?_))
 refine sx_seq fun K25 k25 => sx_region ?_
 refine mv rfl rfl (av rfl rfl (wl_nil (q_n (k25 _ _ ?_))))
 refine sx_retc ?_
 refine sx_ret1 Tryd.results6 rfl ?_
 have ek : k = 20 := by omega
 subst ek
 have hs := ova_24
 rw [hos, curs_sorted] at hs
 have q26 := Chg.step (l := 0) (h := 0) (Chg.zero (l := 0) (h := 0) cwl7) c24 (by omega)
 exact ⟨_, rfl, hs.mono (by omega) (by omega), q26⟩

theorem c_eqStringS {w : World} {va : Value} {lva uva : Nat} {zs : List ByteArray} {vb : Value} {lvb uvb : Nat} {ys : List ByteArray} (hva : SlS w lva uva va (zs)) (hvb : SlS w lvb uvb vb (ys)) (h63 : zs.length ≤ 1048576 ∧ ys.length ≤ 1048576) :
  Ret Tryd.prog 7 [va, vb] w fun v w' => v = .bool (decide (zs = ys)) ∧ Chg 0 0 w w' := by
 have hva0 := hva.fit
 have hvb0 := hvb.fit
 have hneq : zs.length ≠ ys.length → zs ≠ ys := fun h e => h (by rw [e])
 refine sx_enter Tryd.func7 rfl Tryd.ntmps7 (nbl rfl) ?_
 refine sx_seq fun K1 k1 => sx_region ?_
 refine av rfl rfl (wl_nil (q_n (k1 _ _ ?_)))
 refine sx_seq fun K2 k2 => ?_
 refine sx_seq fun K3 k3 => sx_region ?_
 refine mv rfl rfl (sp rfl (px_len rfl Tryd.underlying22 hva0) ?_)
 refine mv rfl rfl (sp rfl (px_len rfl Tryd.underlying22 hvb0) ?_)
 refine sp rfl (px_ne rfl rfl) ?_
 refine wl_nil (q_n (k3 _ _ ?_))
 refine sx_condP rfl (fun h150 => ?_) (fun h150 => ?_)
 ·
  refine sx_seq fun K4 k4 => sx_region ?_
  refine av rfl rfl (wl_nil (q_n (k4 _ _ ?_)))
  refine sx_retc ?_
  refine q_r (sx_ret1 Tryd.results7 rfl ?_)
  exact ⟨bFalse (hneq (by omega)), (Chg.refl 0 0 _)⟩
 refine sx_skip ?_
 refine q_n (k2 _ _ ?_)
 refine sx_seq fun K5 k5 => ?_
 refine sx_seq fun K6 k6 => sx_region ?_
 refine av rfl rfl (wl_nil (q_n (k6 _ _ ?_)))
 refine sx_block ?_
 refine sx_loop (fun mm aa w' => ∃ (k : Nat), Agr 26 [(0, va), (1, vb), (5, .int .i64 ↑k)] aa ∧ Chg 0 0 w w' ∧ (mm = zs.length - k) ∧ (k ≤ zs.length) ∧ (zs.take k = ys.take k)) (_) (fun a ha => ⟨0, ha.sub (Sub.c 0 rfl (.c 1 rfl (.c 5 (look_int (t := 5) rfl (by first | omega | simp)) .nil))), Chg.refl _ _ _, rfl, by omega, by simp⟩) ?_
 rintro mm aa wl7 ⟨k, hAwl7, cwl7, hm, hk, he⟩
 refine (show cw Tryd.prog 26 _ _ _ wl7 from ?_) aa hAwl7
 clear hAwl7
 have zwl7 := cwl7.size
 refine sx_seq fun K8 k8 => ?_
 refine sx_seq fun K9 k9 => sx_region ?_
 refine mv rfl rfl (mv rfl rfl ?_)
 have f10 := hva0.ext cwl7
 refine sp rfl (px_len rfl Tryd.underlying22 f10) ?_
 refine sp rfl (px_lt rfl rfl) ?_
 refine wl_nil (q_n (k9 _ _ ?_))
 refine sx_condP rfl (fun h153 => ?_) (fun h153 => ?_)
 ·
  refine sx_skip ?_
  refine q_n (k8 _ _ ?_)
  refine sx_seq fun K11 k11 => ?_
  refine sx_block ?_
  refine sx_seq fun K12 k12 => ?_
  have f13 := hvb0.ext cwl7
  refine dx_region (fun w' => Chg 0 0 wl7 w') (by kernel_rfl) (Chg.zero (Chg.drew _)) ?_
  have d14 := Chg.drew wl7
  have s14 : Chg 0 0 wl7 (World.drew wl7) := Chg.zero (Chg.drew _)
  have y14 : (World.drew wl7).heap.size = wl7.heap.size := rfl
  generalize World.drew wl7 = w14 at *
  have zw14 := d14.size
  refine dt 0 rfl rfl rfl rfl s14 (fun _ hS => px_move rfl) ?_
  refine dt 1 rfl rfl rfl rfl s14 (fun _ hS => px_move rfl) ?_
  refine dt 2 rfl rfl rfl rfl s14 (fun _ hS => px_index1 (j := k) rfl rfl (by omega) Tryd.underlying22 Tryd.sizeOf9 ((f10).chg hS (by omega)) (by omega)) ?_
  refine dt 3 rfl rfl rfl rfl s14 (fun _ hS => px_load rfl (((f10).chg hS (by omega)).load1 (at_str (by omega)) Tryd.isAgg9)) ?_
  refine dt 4 rfl rfl rfl rfl s14 (fun _ hS => px_move rfl) ?_
  refine dt 5 rfl rfl rfl rfl s14 (fun _ hS => px_move rfl) ?_
  refine dt 6 rfl rfl rfl rfl s14 (fun _ hS => px_index1 (j := k) rfl rfl (by omega) Tryd.underlying22 Tryd.sizeOf9 ((f13).chg hS (by omega)) (by omega)) ?_
  refine dt 7 rfl rfl rfl rfl s14 (fun _ hS => px_load rfl (((f13).chg hS (by omega)).load1 (at_str (by omega)) Tryd.isAgg9)) ?_
  refine dt 8 rfl rfl rfl rfl s14 (fun _ hS => px_neS rfl rfl) ?_
  refine dx_done (by kernel_rfl) ?_
  refine q_n (k12 _ _ ?_)
  refine sx_sub (Sub.c 0 rfl (.c 1 rfl (.c 5 rfl (.c 25 rfl .nil)))) ?_
  refine sx_condP rfl (fun h154 => ?_) (fun h154 => ?_)
  ·
   refine sx_seq fun K15 k15 => sx_region ?_
   refine av rfl rfl (wl_nil (q_n (k15 _ _ ?_)))
   refine sx_retc ?_
   refine q_br (q_r (q_r (q_br (q_r (sx_ret1 Tryd.results7 rfl ?_)))))
   exact ⟨bFalse (s_ne h154), (cwl7.t d14)⟩
  refine sx_skip ?_
  refine q_bn (q_n (k11 _ _ ?_))
  refine sx_region ?_
  refine mv rfl rfl (sp rfl (px_add rfl rfl (by omega)) ?_)
  refine av rfl rfl (wl_nil ?_)
  exact fun a ha => ⟨_, by omega, (k + 1), ha.sub (Sub.c 0 rfl (.c 1 rfl (.c 5 (look_int (t := 5) rfl (by first | omega | simp)) .nil))), (cwl7.t d14), rfl, by omega, s_take_succ_eq he (by omega) (by omega) (Decidable.not_not.1 h154)⟩
 refine sx_exit ?_
 refine q_e (q_e (q_bx (q_n (k5 _ _ ?_))))
 refine sx_seq fun K16 k16 => sx_region ?_
 refine av rfl rfl (wl_nil (q_n (k16 _ _ ?_)))
 refine sx_retc ?_
 refine sx_ret1 Tryd.results7 rfl ?_
 have e1 : k = zs.length := by omega
 rw [e1, List.take_length, List.take_of_length_le (by omega)] at he
 exact ⟨bTrue he, cwl7⟩

theorem c_markText {w : World} {n : Int} (hn : n ≤ 4611686018427387904) :
  Ret Tryd.prog 23 [.int .i64 n] w fun v w' => v = .string (mText n) ∧ Chg 0 0 w w' := by
 refine sx_enter Tryd.func23 rfl Tryd.ntmps23 (nbl rfl) ?_
 refine sx_seq fun K1 k1 => sx_region ?_
 refine av rfl rfl (wl_nil (q_n (k1 _ _ ?_)))
 refine sx_seq fun K2 k2 => ?_
 refine sx_seq fun K3 k3 => sx_region ?_
 refine mv rfl rfl (sp rfl (px_le rfl rfl) ?_)
 refine wl_nil (q_n (k3 _ _ ?_))
 refine sx_condP rfl (fun h138 => ?_) (fun h138 => ?_)
 ·
  refine sx_seq fun K4 k4 => sx_region ?_
  refine av rfl rfl (wl_nil (q_n (k4 _ _ ?_)))
  refine sx_retc ?_
  refine q_r (sx_ret1 Tryd.results23 rfl ?_)
  exact ⟨(by unfold mText; rw [if_pos (by omega)]), (Chg.refl 0 0 _)⟩
 refine sx_skip ?_
 refine q_n (k2 _ _ ?_)
 refine sx_seq fun K5 k5 => sx_region ?_
 refine av rfl rfl (wl_nil (q_n (k5 _ _ ?_)))
 refine sx_seq fun K6 k6 => ?_
 refine sx_block ?_
 refine sx_loop (fun mm aa w' => ∃ (m : Int) (s : ByteArray), Agr 20 [(0, .int .i64 m), (3, .string s)] aa ∧ Chg 0 0 w w' ∧ (mm = m.toNat) ∧ (0 ≤ m ∧ m ≤ 4611686018427387904) ∧ (↑s.size + m ≤ 4611686018427387904) ∧ (mdig m.toNat m s = mdig n.toNat n ⟨#[]⟩)) (_) (fun a ha => ⟨n, ⟨#[]⟩, ha.sub (Sub.c 0 (look_int (t := 0) rfl (by first | omega | simp)) (.c 3 rfl .nil)), Chg.refl _ _ _, rfl, by omega, by have : (⟨#[]⟩ : ByteArray).size = 0 := rfl; omega, rfl⟩) ?_
 rintro mm aa wl7 ⟨m, s, hAwl7, cwl7, hm, hm0, hsz, hmd⟩
 refine (show cw Tryd.prog 20 _ _ _ wl7 from ?_) aa hAwl7
 clear hAwl7
 have zwl7 := cwl7.size
 refine sx_seq fun K8 k8 => ?_
 refine sx_seq fun K9 k9 => sx_region ?_
 refine mv rfl rfl (sp rfl (px_gt rfl rfl) ?_)
 refine wl_nil (q_n (k9 _ _ ?_))
 refine sx_condP rfl (fun h142 => ?_) (fun h142 => ?_)
 ·
  refine sx_skip ?_
  refine q_n (k8 _ _ ?_)
  refine sx_block ?_
  refine sx_seq fun K10 k10 => sx_region ?_
  refine mv rfl rfl (sp rfl (px_rem rfl rfl (by omega) (by omega)) ?_)
  refine sp rfl (px_add rfl rfl (by omega)) ?_
  refine sp rfl (px_convU8 Tryd.underlying3 Tryd.underlying5 rfl (by omega)) ?_
  refine sx_lit1 rfl xelt27 rfl rfl (fun s11 ws11 ss11 fs11 cs11 => ?_)
  have zws11 := cs11.size
  refine sp rfl (px_convS1 Tryd.underlying27 Tryd.underlying9 Tryd.underlying5 rfl fs11.sv) ?_
  refine mv rfl rfl (sp rfl (px_cat rfl rfl (by first | omega | (simp only [byteS_size]; omega) | (have : (⟨#[109]⟩ : ByteArray).size = 1 := rfl; omega))) ?_)
  refine av rfl rfl (wl_nil (q_n (k10 _ _ ?_)))
  refine sx_region ?_
  refine mv rfl rfl (sp rfl (px_quo rfl rfl (by omega) (by omega) (by omega)) ?_)
  refine av rfl rfl (wl_nil ?_)
  exact q_bn (fun a ha => ⟨_, by omega, (m / 10), ((byteS (48 + (m % 10))) ++ s), ha.sub (Sub.c 0 (look_int (t := 0) rfl (by first | omega | simp)) (.c 3 rfl .nil)), (cwl7.t cs11), rfl, by omega, by rw [ByteArray.size_append, byteS_size]; omega, (mdig_next (by omega)).symm.trans hmd⟩)
 refine sx_exit ?_
 refine q_e (q_e (q_bx (q_n (k6 _ _ ?_))))
 refine sx_seq fun K12 k12 => sx_region ?_
 refine mv rfl rfl (sp rfl (px_cat rfl rfl (by first | omega | (simp only [byteS_size]; omega) | (have : (⟨#[109]⟩ : ByteArray).size = 1 := rfl; omega))) ?_)
 refine av rfl rfl (wl_nil (q_n (k12 _ _ ?_)))
 refine sx_retc ?_
 refine sx_ret1 Tryd.results23 rfl ?_
 rw [mdig_end (m := m) (by omega) (by omega)] at hmd
 have hmt : mText n = ⟨#[109]⟩ ++ s := by unfold mText; rw [if_neg (by omega), ← hmd]
 exact ⟨by rw [hmt], cwl7⟩

theorem c_markStringS {w : World} {va : Value} {lva uva : Nat} {zs : List ByteArray} {n : Int} (hva : OwnS w lva uva va strT (zs)) (h63 : zs.length ≤ 1048576) (hn : 0 ≤ n ∧ n ≤ 4000000000000000000) :
  Ret Tryd.prog 8 [va, .int .i64 n] w fun v w' => v = .int .i64 (n + ↑(zs).length) ∧ OwnS w' (lva) (uva) va strT (mkS n (zs).length) ∧ Chg lva uva w w' := by
 refine sx_enter Tryd.func8 rfl Tryd.ntmps8 (nbl rfl) ?_
 refine sx_seq fun K1 k1 => sx_region ?_
 refine av rfl rfl (wl_nil (q_n (k1 _ _ ?_)))
 refine sx_seq fun K2 k2 => ?_
 refine sx_seq fun K3 k3 => sx_region ?_
 refine av rfl rfl (wl_nil (q_n (k3 _ _ ?_)))
 refine sx_block ?_
 refine sx_loop (fun mm aa w' => ∃ (k : Nat) (os : List ByteArray), Agr 20 [(0, va), (1, .int .i64 (n + ↑k)), (5, .int .i64 ↑k)] aa ∧ Chg lva uva w w' ∧ Own w' lva uva va strT os.length 1 (os.map Value.string) ∧ (mm = zs.length - k) ∧ (k ≤ zs.length) ∧ (os.length = zs.length) ∧ (os.take k = mkS n k)) (_) (fun a ha => ⟨0, zs, ha.sub (Sub.c 0 rfl (.c 1 (look_int (t := 1) rfl (by first | omega | simp)) (.c 5 (look_int (t := 5) rfl (by first | omega | simp)) .nil))), Chg.refl _ _ _, hva, rfl, by omega, rfl, rfl⟩) ?_
 rintro mm aa wl4 ⟨k, os, hAwl4, cwl4, hs_va, hm, hk, ho, he⟩
 refine (show cw Tryd.prog 20 _ _ _ wl4 from ?_) aa hAwl4
 clear hAwl4
 have zwl4 := cwl4.size
 refine sx_seq fun K5 k5 => ?_
 refine sx_seq fun K6 k6 => sx_region ?_
 refine mv rfl rfl (mv rfl rfl (sp rfl (px_len rfl Tryd.underlying22 hs_va.sv) ?_))
 refine sp rfl (px_lt rfl rfl) ?_
 refine wl_nil (q_n (k6 _ _ ?_))
 refine sx_condP rfl (fun h162 => ?_) (fun h162 => ?_)
 ·
  refine sx_skip ?_
  refine q_n (k5 _ _ ?_)
  refine sx_seq fun K7 k7 => ?_
  refine sx_block ?_
  refine sx_seq fun K8 k8 => sx_region ?_
  refine mv rfl rfl (mv rfl rfl (mv rfl rfl (sx_call rfl rfl Tryd.call23 (c_markText (by omega)) (fun v9 w9 p9 => ?_))))
  obtain ⟨rfl, c9⟩ := p9
  have zw9 := c9.size
  have f10 := hs_va.ext c9
  refine sp rfl (px_index1 (j := k) rfl rfl (by omega) Tryd.underlying22 Tryd.sizeOf9 f10.sv (by omega)) ?_
  refine sx_storeO rfl rfl f10 (by first | omega | (simp only [List.length_map]; omega)) Tryd.sizeOf9 rfl (fun w11 sw11 fw11 cw11 => ?_)
  have zw11 := cw11.size
  have nw11 := fw11.set
  refine wl_nil (q_n (k8 _ _ ?_))
  refine sx_region ?_
  refine mv rfl rfl (sp rfl (px_add rfl rfl (by omega)) ?_)
  refine av rfl rfl (wl_nil ?_)
  refine q_bn (q_n (k7 _ _ ?_))
  refine sx_region ?_
  refine mv rfl rfl (sp rfl (px_add rfl rfl (by omega)) ?_)
  refine av rfl rfl (wl_nil ?_)
  have q12 := Chg.step (l := lva) (h := uva) cwl4 c9 (by omega)
  have q13 := Chg.step (l := lva) (h := uva) q12 cw11 (by omega)
  exact fun a ha => ⟨_, by omega, (k + 1), (os.set k (mText (n + ↑k))), ha.sub (Sub.c 0 rfl (.c 1 (look_int (t := 1) rfl (by first | omega | simp)) (.c 5 (look_int (t := 5) rfl (by first | omega | simp)) .nil))), q13, (nw11.mono (by omega) (by omega)), rfl, by omega, by simp [ho], mkS_set he (by omega)⟩
 refine sx_exit ?_
 refine q_e (q_e (q_bx (q_n (k2 _ _ ?_))))
 refine sx_seq fun K14 k14 => sx_region ?_
 refine mv rfl rfl (av rfl rfl (wl_nil (q_n (k14 _ _ ?_))))
 refine sx_retc ?_
 refine sx_ret1 Tryd.results8 rfl ?_
 have ek : k = zs.length := by omega
 subst ek
 rw [← ho, List.take_length, ho] at he
 subst he
 exact ⟨rfl, hs_va, cwl4⟩

theorem c_heldStringS {w : World} {va : Value} {lva uva : Nat} {zs : List ByteArray} {n : Int} (hva : SlS w lva uva va (zs)) (h63 : zs.length ≤ 1048576) (hn : 0 ≤ n ∧ n ≤ 4000000000000000000) (hz : zs = mkS n zs.length) :
  Ret Tryd.prog 9 [va, .int .i64 n] w fun v w' => v = .int .i64 (n + ↑(zs).length) ∧ Chg 0 0 w w' := by
 have hva0 := hva.fit
 refine sx_enter Tryd.func9 rfl Tryd.ntmps9 (nbl rfl) ?_
 refine sx_seq fun K1 k1 => sx_region ?_
 refine av rfl rfl (wl_nil (q_n (k1 _ _ ?_)))
 refine sx_seq fun K2 k2 => ?_
 refine sx_seq fun K3 k3 => sx_region ?_
 refine av rfl rfl (wl_nil (q_n (k3 _ _ ?_)))
 refine sx_block ?_
 refine sx_loop (fun mm aa w' => ∃ (k : Nat), Agr 22 [(0, va), (1, .int .i64 (n + ↑k)), (5, .int .i64 ↑k)] aa ∧ Chg 0 0 w w' ∧ (mm = zs.length - k) ∧ (k ≤ zs.length)) (_) (fun a ha => ⟨0, ha.sub (Sub.c 0 rfl (.c 1 (look_int (t := 1) rfl (by first | omega | simp)) (.c 5 (look_int (t := 5) rfl (by first | omega | simp)) .nil))), Chg.refl _ _ _, rfl, by omega⟩) ?_
 rintro mm aa wl4 ⟨k, hAwl4, cwl4, hm, hk⟩
 refine (show cw Tryd.prog 22 _ _ _ wl4 from ?_) aa hAwl4
 clear hAwl4
 have zwl4 := cwl4.size
 refine sx_seq fun K5 k5 => ?_
 refine sx_seq fun K6 k6 => sx_region ?_
 refine mv rfl rfl (mv rfl rfl ?_)
 have f7 := hva0.ext cwl4
 refine sp rfl (px_len rfl Tryd.underlying22 f7) ?_
 refine sp rfl (px_lt rfl rfl) ?_
 refine wl_nil (q_n (k6 _ _ ?_))
 refine sx_condP rfl (fun h170 => ?_) (fun h170 => ?_)
 ·
  refine sx_skip ?_
  refine q_n (k5 _ _ ?_)
  refine sx_seq fun K8 k8 => ?_
  refine sx_block ?_
  refine sx_seq fun K9 k9 => ?_
  refine sx_seq fun K10 k10 => ?_
  refine dx_region (fun w' => Chg 0 0 wl4 w') (by kernel_rfl) (Chg.zero (Chg.drew _)) ?_
  have d11 := Chg.drew wl4
  have s11 : Chg 0 0 wl4 (World.drew wl4) := Chg.zero (Chg.drew _)
  have y11 : (World.drew wl4).heap.size = wl4.heap.size := rfl
  generalize World.drew wl4 = w11 at *
  have zw11 := d11.size
  refine dt 0 rfl rfl rfl rfl s11 (fun _ hS => px_move rfl) ?_
  refine dt 1 rfl rfl rfl rfl s11 (fun _ hS => px_move rfl) ?_
  refine dt 2 rfl rfl rfl rfl s11 (fun _ hS => px_index1 (j := k) rfl rfl (by omega) Tryd.underlying22 Tryd.sizeOf9 ((f7).chg hS (by omega)) (by omega)) ?_
  refine dt 3 rfl rfl rfl rfl s11 (fun _ hS => px_load rfl (((f7).chg hS (by omega)).load1 (at_str (by omega)) Tryd.isAgg9)) ?_
  refine dt 4 rfl rfl rfl rfl s11 (fun _ hS => px_move rfl) ?_
  refine dx_eff 5 rfl (by kernel_rfl) ?_
  refine sx_call rfl rfl Tryd.call23 (c_markText (by omega)) (fun v12 w12 p12 => ?_)
  obtain ⟨rfl, c12⟩ := p12
  have zw12 := c12.size
  have s13 : Chg 0 0 wl4 w12 := (d11.t c12)
  refine wl_nil ?_
  refine dx_next s13 ?_
  refine dt 6 rfl rfl rfl rfl s13 (fun _ hS => px_neS rfl rfl) ?_
  refine dx_done (by kernel_rfl) ?_
  refine q_n (k10 _ _ ?_)
  have h171 : ¬ ((zs).getD k ByteArray.empty ≠ mText (n + ↑k)) := fun h => h (by rw [hz]; exact mkS_getD (by omega))
  refine sx_condPF rfl h171 ?_
  refine sx_skip ?_
  refine q_n (k9 _ _ ?_)
  refine sx_region ?_
  refine mv rfl rfl (sp rfl (px_add rfl rfl (by omega)) ?_)
  refine av rfl rfl (wl_nil ?_)
  refine q_bn (q_n (k8 _ _ ?_))
  refine sx_sub (Sub.c 0 rfl (.c 1 rfl (.c 5 rfl .nil))) ?_
  refine sx_region ?_
  refine mv rfl rfl (sp rfl (px_add rfl rfl (by omega)) ?_)
  refine av rfl rfl (wl_nil ?_)
  exact fun a ha => ⟨_, by omega, (k + 1), ha.sub (Sub.c 0 rfl (.c 1 (look_int (t := 1) rfl (by first | omega | simp)) (.c 5 (look_int (t := 5) rfl (by first | omega | simp)) .nil))), ((cwl4.t d11).t c12), rfl, by omega⟩
 refine sx_exit ?_
 refine q_e (q_e (q_bx (q_n (k2 _ _ ?_))))
 refine sx_seq fun K14 k14 => sx_region ?_
 refine mv rfl rfl (av rfl rfl (wl_nil (q_n (k14 _ _ ?_))))
 refine sx_retc ?_
 refine sx_ret1 Tryd.results9 rfl ?_
 have ek : k = zs.length := by omega
 subst ek
 exact ⟨rfl, cwl4⟩

end Go.Proofs.YtemlgjheidbccaaDoor
