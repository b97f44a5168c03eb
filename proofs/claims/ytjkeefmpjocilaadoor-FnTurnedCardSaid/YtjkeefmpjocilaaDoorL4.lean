/- Contracts of functions of the program: what each call returns, and that it changes nothing that was. Conditions: as each says. -/
import Derived.Test.YtjkeefmpjocilaaDoorTy
import Derived.Test.YtjkeefmpjocilaaDoorNatI
import Derived.Test.YtjkeefmpjocilaaDoorNatQ
import Derived.Test.YtjkeefmpjocilaaDoorSxW
import Derived.Test.YtjkeefmpjocilaaDoorSxQ
import Derived.Test.YtjkeefmpjocilaaDoorSxR
import Derived.Test.YtjkeefmpjocilaaDoorNatJ
import Derived.Test.YtjkeefmpjocilaaDoorSxP
import Derived.Test.YtjkeefmpjocilaaDoorL0
import Derived.Test.YtjkeefmpjocilaaDoorL3
import Derived.Test.YtjkeefmpjocilaaDoorNatSl
import Derived.Test.YtjkeefmpjocilaaDoorNatSk
set_option linter.unusedVariables false
set_option linter.unusedSimpArgs false
namespace Go.Proofs.YtjkeefmpjocilaaDoor
open Go Go.RowKit
set_option maxRecDepth 100000
theorem c_l08Table {w : World} :
  Ret Tryd.prog 42 [] w fun v w' => ∃ sl, v = sl ∧ Own w' w.heap.size w'.heap.size sl 84 20 4 (crCells tabS) ∧ Chg 0 0 w w' := by
 refine sx_enter Tryd.func42 rfl Tryd.ntmps42 (nbl rfl) ?_
 refine sx_seq fun K1 k1 => sx_region ?_
 refine av rfl rfl (wl_nil (q_n (k1 _ _ ?_)))
 refine sx_seq fun K2 k2 => sx_region ?_
 refine sp rfl (px_build rfl (xbld84x0x1x2x3 rfl rfl rfl rfl _)) ?_
 refine sp rfl (px_build rfl (xbld84x0x1x2x3 rfl rfl rfl rfl _)) ?_
 refine sp rfl (px_build rfl (xbld84x0x1x2x3 rfl rfl rfl rfl _)) ?_
 refine sp rfl (px_build rfl (xbld84x0x1x2x3 rfl rfl rfl rfl _)) ?_
 refine sp rfl (px_build rfl (xbld84x0x1x2x3 rfl rfl rfl rfl _)) ?_
 refine sp rfl (px_build rfl (xbld84x0x1x2x3 rfl rfl rfl rfl _)) ?_
 refine sp rfl (px_build rfl (xbld84x0x1x2x3 rfl rfl rfl rfl _)) ?_
 refine sp rfl (px_build rfl (xbld84x0x1x2x3 rfl rfl rfl rfl _)) ?_
 refine sp rfl (px_build rfl (xbld84x0x1x2x3 rfl rfl rfl rfl _)) ?_
 refine sp rfl (px_build rfl (xbld84x0x1x2x3 rfl rfl rfl rfl _)) ?_
 refine sp rfl (px_build rfl (xbld84x0x1x2x3 rfl rfl rfl rfl _)) ?_
 refine sp rfl (px_build rfl (xbld84x0x1x2x3 rfl rfl rfl rfl _)) ?_
 refine sp rfl (px_build rfl (xbld84x0x1x2x3 rfl rfl rfl rfl _)) ?_
 refine sp rfl (px_build rfl (xbld84x0x1x2x3 rfl rfl rfl rfl _)) ?_
 refine sp rfl (px_build rfl (xbld84x0x1x2x3 rfl rfl rfl rfl _)) ?_
 refine sp rfl (px_build rfl (xbld84x0x1x2x3 rfl rfl rfl rfl _)) ?_
 refine sp rfl (px_build rfl (xbld84x0x1x2x3 rfl rfl rfl rfl _)) ?_
 refine sp rfl (px_build rfl (xbld84x0x1x2x3 rfl rfl rfl rfl _)) ?_
 refine sp rfl (px_build rfl (xbld84x0x1x2x3 rfl rfl rfl rfl _)) ?_
 refine sp rfl (px_build rfl (xbld84x0x1x2x3 rfl rfl rfl rfl _)) ?_
 refine sx_litG (k := 4) (e := 84) (vs := crCells tabS) rfl rfl ⟨by decide, by decide⟩ (fun w => by kernel_rfl) (fun s3 ws3 ss3 fs3 cs3 => ?_)
 have zws3 := cs3.size
 refine av rfl rfl (wl_nil (q_n (k2 _ _ ?_)))
 refine sx_sub (Sub.c 0 rfl .nil) ?_
 refine sx_retc ?_
 refine sx_ret1 Tryd.results42 rfl ?_
 exact ⟨_, rfl, fs3, cs3⟩

theorem c_sCurs {w : World} :
  Ret Tryd.prog 14 [] w fun v w' => ∃ s, v = s ∧ OwnS w' w.heap.size w'.heap.size s strT (tabS.map Cr.code) ∧ Chg 0 0 w w' := by
 refine sx_enter Tryd.func14 rfl Tryd.ntmps14 (nbl rfl) ?_
 refine sx_seq fun K1 k1 => sx_region ?_
 refine av rfl rfl (wl_nil (q_n (k1 _ _ ?_)))
 refine sx_seq fun K2 k2 => sx_region ?_
 refine sx_lit0 rfl xelt46 (fun s3 ws3 ss3 fs3 cs3 => ?_)
 have zws3 := cs3.size
 refine av rfl rfl (wl_nil (q_n (k2 _ _ ?_)))
 refine sx_seq fun K4 k4 => ?_
 refine sx_seq fun K5 k5 => sx_region ?_
 refine sx_call rfl rfl Tryd.call42 (c_l08Table) (fun v6 w6 p6 => ?_)
 obtain ⟨sl6, rfl, osl_6, c6⟩ := p6
 have zw6 := c6.size
 refine sp rfl (px_len rfl Tryd.underlying81 osl_6.sv) ?_
 refine mv rfl rfl (wl_nil (q_n (k5 _ _ ?_)))
 refine sx_block ?_
 have f8 := fs3.ext c6
 refine sx_loop (fun mm aa w' => ∃ (k : Nat) (s : Value) (os : List ByteArray) (gl : Nat) (gh : Nat), Agr 18 [(1, s), (5, v6), (6, .int .i64 20), (7, .int .i64 ↑k)] aa ∧ Chg 0 0 w w' ∧ Own w' gl gh s strT os.length 1 (os.map Value.string) ∧ Own w' ws3.heap.size w6.heap.size v6 84 20 4 (crCells tabS) ∧ (mm = 20 - k) ∧ (k ≤ 20) ∧ (os = (tabS.map Cr.code).take k) ∧ (os.length = k) ∧ (w.heap.size ≤ gl ∧ gl ≤ w'.heap.size ∧ gh ≤ w'.heap.size ∧ (gh ≤ ws3.heap.size ∨ w6.heap.size ≤ gl) ∧ w6.heap.size ≤ w'.heap.size)) (20) (fun a ha => ⟨0, s3, [], w.heap.size, ws3.heap.size, ha.sub (Sub.c 1 rfl (.c 5 rfl (.c 6 rfl (.c 7 (look_int (t := 7) rfl (by first | omega | simp)) .nil)))), (cs3.t c6), f8, osl_6, rfl, by omega, by simp, rfl, by omega⟩) ?_
 rintro mm aa wl7 ⟨k, s, os, gl, gh, hAwl7, cwl7, hs_s, hs_v6, hm, hk, hos, hol, hgg⟩
 refine (show cw Tryd.prog 18 _ _ _ wl7 from ?_) aa hAwl7
 clear hAwl7
 have zwl7 := cwl7.size
 refine sx_seq fun K9 k9 => sx_region ?_
 refine sp rfl (px_lt rfl rfl) ?_
 refine wl_nil (q_n (k9 _ _ ?_))
 refine sx_seq fun K10 k10 => ?_
 refine sx_condP rfl (fun h57 => ?_) (fun h57 => ?_)
 ·
  refine sx_skip ?_
  refine q_n (k10 _ _ ?_)
  refine sx_seq fun K11 k11 => ?_
  refine sx_block ?_
  refine sx_seq fun K12 k12 => sx_region ?_
  refine sp rfl (px_indexK (j := k) rfl rfl (by omega) Tryd.underlying81 Tryd.sizeOf84 hs_v6.sv (by omega)) ?_
  refine sp rfl (px_load rfl (hs_v6.sv.loadA (cr_look (l := tabS) (k := k) (by rw [show tabS.length = 20 from rfl]; omega)) Tryd.isAgg84 Tryd.sizeOf84)) ?_
  refine sx_alloc [.string (⟨#[]⟩), .string (⟨#[]⟩), .int .i64 0, .int .i64 0] rfl Tryd.zeroValue84 rfl (fun b13 w14 eb13 sb13 fb13 cb13 => ?_)
  have zw14 := cb13.size
  refine sx_store (vs := [.string ((tabS.getD k cr0).code), .string ((tabS.getD k cr0).number), .int .i64 ((tabS.getD k cr0).places), .int .i64 ((tabS.getD k cr0).cash)]) rfl rfl fb13 rfl Tryd.sizeOf84 (nbl rfl) (one_cons rfl (o3 rfl rfl rfl)) (fun w15 sw15 fw15 cw15 => ?_)
  have zw15 := cw15.size
  have gw15 : Blk w15 b13 [.string ((tabS.getD k cr0).code), .string ((tabS.getD k cr0).number), .int .i64 ((tabS.getD k cr0).places), .int .i64 ((tabS.getD k cr0).cash)] 84 := fw15
  refine wl_nil (q_n (k12 _ _ ?_))
  refine sx_region ?_
  refine mv rfl rfl (sp rfl (px_field rfl xfld84x0) ?_)
  refine sp rfl (px_load rfl (gw15.load1 rfl Tryd.isAgg9)) ?_
  refine sx_lit1 rfl xelt46 rfl rfl (fun s16 ws16 ss16 fs16 cs16 => ?_)
  have ns16 := Own.norm (f := Value.string) (zs := [(tabS.getD k cr0).code]) fs16
  have zws16 := cs16.size
  have f18 := hs_s.ext cb13
  have f19 := f18.chg cw15 (by omega)
  have f20 := f19.ext cs16
  refine sx_append2 rfl xelt46 rfl rfl f20 ns16.sv (by simp) one_str (by omega) (by simp only [List.length_cons, List.length_nil]; omega) (by unfold maxLen; simp only [List.length_cons, List.length_nil]; omega) (fun a17 w17 alw17 ahw17 adw17 fw17 cw17 => ?_)
  have nw17 := Own.app (f := Value.string) (a := os) (b := [(tabS.getD k cr0).code]) fw17
  have zw17 := cw17.size
  refine av rfl rfl (wl_nil ?_)
  refine q_bn (q_n (k11 _ _ ?_))
  refine sx_region ?_
  refine sp rfl (px_add rfl rfl (by omega)) ?_
  refine mv rfl rfl (wl_nil ?_)
  have q21 := Chg.step (l := 0) (h := 0) (Chg.zero (l := 0) (h := 0) (cwl7.t cb13)) cw15 (by omega)
  have q22 := Chg.step (l := 0) (h := 0) q21 cs16 (by omega)
  have q23 := Chg.step (l := 0) (h := 0) q22 cw17 (by omega)
  have f24 := hs_v6.ext cb13
  have f25 := f24.chg cw15 (by omega)
  have f26 := f25.ext cs16
  have f27 := f26.chg cw17 (by omega)
  exact fun a ha => ⟨_, by omega, (k + 1), a17, (os ++ ([(tabS.getD k cr0).code])), alw17, ahw17, ha.sub (Sub.c 1 rfl (.c 5 rfl (.c 6 rfl (.c 7 (look_int (t := 7) rfl (by first | omega | simp)) .nil)))), q23, nw17, f27, rfl, by omega, by rw [hos]; exact codes_next (by rw [show tabS.length = 20 from rfl]; omega), by simp only [List.length_append, List.length_singleton]; omega, by omega⟩
 refine sx_exit ?_
 refine q_e (q_e (q_bx (q_n (k4 _ _ ?_))))
 refine sx_seq fun K28 k28 => sx_region ?_
 refine mv rfl rfl (av rfl rfl (wl_nil (q_n (k28 _ _ ?_))))
 refine sx_retc ?_
 refine sx_ret1 Tryd.results14 rfl ?_
 have ek : k = 20 := by omega
 subst ek
 have hs := hs_s
 rw [hos, show (tabS.map Cr.code).take 20 = tabS.map Cr.code from rfl] at hs
 exact ⟨_, rfl, hs.mono (by omega) (by omega), cwl7⟩

theorem c_l01Str {w : World} {c : Nat} {vb : Value} {lvb uvb : Nat} {bs : List Int} {i : Int} {h : Int} {vl : Value} {lvl uvl : Nat} {zs : List ByteArray} (hc : Blk w c [vb, .int .i64 i, .int .i64 h] 79) (hvb : SlB w lvb uvb vb (bs)) (hvl : SlS w lvl uvl vl (zs)) (hb8 : ∀ j, j < bs.length → 0 ≤ bs.getD j 0 ∧ bs.getD j 0 ≤ 255) (hbl : bs.length ≤ 1048576) (hi : 0 ≤ i ∧ i ≤ bs.length) (hdis : uvb ≤ c) (hz : 1 ≤ zs.length ∧ zs.length ≤ 1000) (hd2 : uvl ≤ c ∨ c < lvl) :
  Ret Tryd.prog 13 [.pointer (some ⟨c, 0, none⟩), vl] w fun v w' => ∃ s i2 h2, v = .string (s) ∧ Blk w' c [vb, .int .i64 (i2), .int .i64 (h2)] 79 ∧ (s ∈ zs) ∧ (0 ≤ i2 ∧ i2 ≤ (bs).length) ∧ Chg c (c + 1) w w' := by
 have clt := hc.lt
 refine sx_enter Tryd.func13 rfl Tryd.ntmps13 (nbl rfl) ?_
 refine sx_seq fun K1 k1 => sx_region ?_
 refine av rfl rfl (wl_nil (q_n (k1 _ _ ?_)))
 refine sx_seq fun K2 k2 => sx_region ?_
 refine mv rfl rfl (mv rfl rfl (mv rfl rfl (sp rfl (px_len rfl Tryd.underlying46 hvl) ?_)))
 refine sx_call rfl rfl Tryd.call41 (c_l01Below hc hvb (by assumption) (by omega) (by omega) (by omega) (by omega)) (fun v3 w3 p3 => ?_)
 obtain ⟨x3, i23, h23, rfl, xc_3, hx3, hi23, c3⟩ := p3
 have zw3 := c3.size
 have f4 := hvl.chg c3 (by omega)
 refine sp rfl (px_index1 (j := x3.toNat) rfl rfl (by omega) Tryd.underlying46 Tryd.sizeOf9 f4 (by omega)) ?_
 refine sp rfl (px_load rfl (f4.load1 (at_str (by omega)) Tryd.isAgg9)) ?_
 refine av rfl rfl (wl_nil (q_n (k2 _ _ ?_)))
 refine sx_retc ?_
 refine sx_ret1 Tryd.results13 rfl ?_
 exact ⟨_, _, _, rfl, xc_3, mem_getDS (by omega), by omega, c3⟩

theorem c_l01Once {w : World} {c : Nat} {vb : Value} {lvb uvb : Nat} {bs : List Int} {i : Int} {h : Int} {n : Int} (hc : Blk w c [vb, .int .i64 i, .int .i64 h] 79) (hvb : SlB w lvb uvb vb (bs)) (hb8 : ∀ j, j < bs.length → 0 ≤ bs.getD j 0 ∧ bs.getD j 0 ≤ 255) (hbl : bs.length ≤ 1048576) (hi : 0 ≤ i ∧ i ≤ bs.length) (hdis : uvb ≤ c) (hn : 1 ≤ n ∧ n ≤ 1000000000) :
  Ret Tryd.prog 43 [.pointer (some ⟨c, 0, none⟩), .int .i64 n] w fun v w' => ∃ x i2 h2, v = .bool (decide ((x : Int) = 0)) ∧ Blk w' c [vb, .int .i64 (i2), .int .i64 (h2)] 79 ∧ (0 ≤ x ∧ x < n) ∧ (0 ≤ i2 ∧ i2 ≤ (bs).length) ∧ Chg c (c + 1) w w' := by
 have clt := hc.lt
 refine sx_enter Tryd.func43 rfl Tryd.ntmps43 (nbl rfl) ?_
 refine sx_seq fun K1 k1 => sx_region ?_
 refine av rfl rfl (wl_nil (q_n (k1 _ _ ?_)))
 refine sx_seq fun K2 k2 => sx_region ?_
 refine mv rfl rfl (mv rfl rfl (sx_call rfl rfl Tryd.call41 (c_l01Below hc hvb (by assumption) (by omega) (by omega) (by omega) (by omega)) (fun v3 w3 p3 => ?_)))
 obtain ⟨x3, i23, h23, rfl, xc_3, hx3, hi23, c3⟩ := p3
 have zw3 := c3.size
 refine sp rfl (px_eq rfl rfl) ?_
 refine av rfl rfl (wl_nil (q_n (k2 _ _ ?_)))
 refine sx_retc ?_
 refine sx_ret1 Tryd.results43 rfl ?_
 exact ⟨_, _, _, rfl, xc_3, by omega, by omega, c3⟩

theorem c_l02Trim {w : World} {va : Value} {lva uva : Nat} {zs : List Int} (hva : OwnI w lva uva va intT (zs)) (hz : Lm zs) (h63 : zs.length ≤ 1000000) :
  Ret Tryd.prog 63 [va] w fun v w' => ∃ s, v = s ∧ OwnI w' (lva) (uva) s intT (dg (vl zs)) ∧ Chg 0 0 w w' := by
 refine sx_enter Tryd.func63 rfl Tryd.ntmps63 (nbl rfl) ?_
 refine sx_seq fun K1 k1 => sx_region ?_
 refine av rfl rfl (wl_nil (q_n (k1 _ _ ?_)))
 refine sx_seq fun K2 k2 => sx_region ?_
 refine mv rfl rfl (sp rfl (px_len rfl Tryd.underlying23 hva.sv) ?_)
 refine av rfl rfl (wl_nil (q_n (k2 _ _ ?_)))
 refine sx_seq fun K3 k3 => ?_
 refine sx_block ?_
 refine sx_loop (fun mm aa w' => ∃ (k : Nat), Agr 21 [(0, va), (3, .int .i64 ↑k)] aa ∧ Chg 0 0 w w' ∧ (mm = k) ∧ (k ≤ zs.length) ∧ (vl (zs.take k) = vl zs)) (_) (fun a ha => ⟨zs.length, ha.sub (Sub.c 0 rfl (.c 3 (look_int (t := 3) rfl (by first | omega | simp)) .nil)), Chg.refl _ _ _, rfl, by omega, vl_take_all zs⟩) ?_
 rintro mm aa wl4 ⟨k, hAwl4, cwl4, hm, hk, hv⟩
 refine (show cw Tryd.prog 21 _ _ _ wl4 from ?_) aa hAwl4
 clear hAwl4
 have zwl4 := cwl4.size
 refine sx_seq fun K5 k5 => ?_
 refine sx_seq fun K6 k6 => sx_region ?_
 refine mv rfl rfl (sp rfl (px_gt rfl rfl) ?_)
 refine mv rfl rfl ?_
 refine sx_tmpP (t := 8) rfl (fun h17 => ?_) (fun h17 => ?_)
 ·
  refine sx_guardT rfl rfl rfl ?_
  refine mv rfl rfl ?_
  refine sx_guardT rfl rfl rfl ?_
  refine mv rfl rfl ?_
  refine sx_guardT rfl rfl rfl ?_
  refine sp rfl (px_sub rfl rfl (by omega)) ?_
  refine sx_guardT rfl rfl rfl ?_
  have f7 := hva.ext cwl4
  refine sp rfl (px_index1 (j := (k - 1)) rfl rfl (by omega) Tryd.underlying23 Tryd.sizeOf3 f7.sv (by omega)) ?_
  refine sx_guardT rfl rfl rfl ?_
  refine sp rfl (px_load rfl (f7.sv.load1 (at_int (by omega)) Tryd.isAgg3)) ?_
  refine sx_guardT rfl rfl rfl ?_
  refine sp rfl (px_eq rfl rfl) ?_
  refine sp rfl (px_pick rfl rfl) ?_
  refine wl_nil (q_n (k6 _ _ ?_))
  refine sx_condP rfl (fun h17x1 => ?_) (fun h17x1 => ?_)
  ·
   refine sx_skip ?_
   refine q_n (k5 _ _ ?_)
   refine sx_block ?_
   refine sx_region ?_
   refine mv rfl rfl (sp rfl (px_sub rfl rfl (by omega)) ?_)
   refine av rfl rfl (wl_nil ?_)
   exact q_bn (fun a ha => ⟨_, by omega, (k - 1), ha.sub (Sub.c 0 rfl (.c 3 (look_int (t := 3) rfl (by first | omega | simp)) .nil)), cwl4, rfl, by omega, trim_step (by omega) hk (by rw [getD_take (by omega)]; exact h17x1) hv⟩)
  refine sx_exit ?_
  refine q_e (q_e (q_bx (q_n (k3 _ _ ?_))))
  refine sx_seq fun K8 k8 => sx_region ?_
  refine mv rfl rfl (mv rfl rfl (sp rfl (px_sliceTo (h := k) rfl rfl (by omega) Tryd.underlying23 Tryd.sizeOf3 f7.sv (by omega)) ?_))
  refine av rfl rfl (wl_nil (q_n (k8 _ _ ?_)))
  refine sx_sub (Sub.c 2 rfl .nil) ?_
  refine sx_retc ?_
  refine sx_ret1 Tryd.results63 rfl ?_
  have hd := trim_done hz hk hv (by first | exact .inl (by omega) | exact .inr (by rw [getD_take (by omega)]; assumption))
  rw [← hd]
  exact ⟨_, rfl, (Own.takeI f7 (h := k) (by omega)), cwl4⟩
 refine sx_guardF rfl rfl rfl rfl rfl rfl ?_
 refine sx_guardF rfl rfl rfl rfl rfl rfl ?_
 refine sx_guardF rfl rfl rfl rfl rfl rfl ?_
 refine sx_guardF rfl rfl rfl rfl rfl rfl ?_
 refine sx_guardF rfl rfl rfl rfl rfl rfl ?_
 refine sx_guardF rfl rfl rfl rfl rfl rfl ?_
 refine sp rfl (px_pick rfl rfl) ?_
 refine wl_nil (q_n (k6 _ _ ?_))
 refine sx_condF rfl ?_
 refine sx_exit ?_
 refine q_e (q_e (q_bx (q_n (k3 _ _ ?_))))
 refine sx_seq fun K9 k9 => sx_region ?_
 refine mv rfl rfl (mv rfl rfl ?_)
 have f10 := hva.ext cwl4
 refine sp rfl (px_sliceTo (h := k) rfl rfl (by omega) Tryd.underlying23 Tryd.sizeOf3 f10.sv (by omega)) ?_
 refine av rfl rfl (wl_nil (q_n (k9 _ _ ?_)))
 refine sx_sub (Sub.c 2 rfl .nil) ?_
 refine sx_retc ?_
 refine sx_ret1 Tryd.results63 rfl ?_
 have hd := trim_done hz hk hv (by first | exact .inl (by omega) | exact .inr (by rw [getD_take (by omega)]; assumption))
 rw [← hd]
 exact ⟨_, rfl, (Own.takeI f10 (h := k) (by omega)), cwl4⟩

theorem c_l02TrimS {w : World} {va : Value} {lva uva : Nat} {zs : List Int} (hva : Sl w lva uva va (zs)) (hz : Lm zs) (h63 : zs.length ≤ 1000000) :
  Ret Tryd.prog 63 [va] w fun v w' => ∃ s, v = s ∧ Sl w' (lva) (uva) s (dg (vl zs)) ∧ Chg 0 0 w w' := by
 refine sx_enter Tryd.func63 rfl Tryd.ntmps63 (nbl rfl) ?_
 refine sx_seq fun K1 k1 => sx_region ?_
 refine av rfl rfl (wl_nil (q_n (k1 _ _ ?_)))
 refine sx_seq fun K2 k2 => sx_region ?_
 refine mv rfl rfl (sp rfl (px_len rfl Tryd.underlying23 hva) ?_)
 refine av rfl rfl (wl_nil (q_n (k2 _ _ ?_)))
 refine sx_seq fun K3 k3 => ?_
 refine sx_block ?_
 refine sx_loop (fun mm aa w' => ∃ (k : Nat), Agr 21 [(0, va), (3, .int .i64 ↑k)] aa ∧ Chg 0 0 w w' ∧ (mm = k) ∧ (k ≤ zs.length) ∧ (vl (zs.take k) = vl zs)) (_) (fun a ha => ⟨zs.length, ha.sub (Sub.c 0 rfl (.c 3 (look_int (t := 3) rfl (by first | omega | simp)) .nil)), Chg.refl _ _ _, rfl, by omega, vl_take_all zs⟩) ?_
 rintro mm aa wl4 ⟨k, hAwl4, cwl4, hm, hk, hv⟩
 refine (show cw Tryd.prog 21 _ _ _ wl4 from ?_) aa hAwl4
 clear hAwl4
 have zwl4 := cwl4.size
 refine sx_seq fun K5 k5 => ?_
 refine sx_seq fun K6 k6 => sx_region ?_
 refine mv rfl rfl (sp rfl (px_gt rfl rfl) ?_)
 refine mv rfl rfl ?_
 refine sx_tmpP (t := 8) rfl (fun h17 => ?_) (fun h17 => ?_)
 ·
  refine sx_guardT rfl rfl rfl ?_
  refine mv rfl rfl ?_
  refine sx_guardT rfl rfl rfl ?_
  refine mv rfl rfl ?_
  refine sx_guardT rfl rfl rfl ?_
  refine sp rfl (px_sub rfl rfl (by omega)) ?_
  refine sx_guardT rfl rfl rfl ?_
  have f7 := hva.ext cwl4
  refine sp rfl (px_index1 (j := (k - 1)) rfl rfl (by omega) Tryd.underlying23 Tryd.sizeOf3 f7 (by omega)) ?_
  refine sx_guardT rfl rfl rfl ?_
  refine sp rfl (px_load rfl (f7.load1 (at_int (by omega)) Tryd.isAgg3)) ?_
  refine sx_guardT rfl rfl rfl ?_
  refine sp rfl (px_eq rfl rfl) ?_
  refine sp rfl (px_pick rfl rfl) ?_
  refine wl_nil (q_n (k6 _ _ ?_))
  refine sx_condP rfl (fun h17x1 => ?_) (fun h17x1 => ?_)
  ·
   refine sx_skip ?_
   refine q_n (k5 _ _ ?_)
   refine sx_block ?_
   refine sx_region ?_
   refine mv rfl rfl (sp rfl (px_sub rfl rfl (by omega)) ?_)
   refine av rfl rfl (wl_nil ?_)
   exact q_bn (fun a ha => ⟨_, by omega, (k - 1), ha.sub (Sub.c 0 rfl (.c 3 (look_int (t := 3) rfl (by first | omega | simp)) .nil)), cwl4, rfl, by omega, trim_step (by omega) hk (by rw [getD_take (by omega)]; exact h17x1) hv⟩)
  refine sx_exit ?_
  refine q_e (q_e (q_bx (q_n (k3 _ _ ?_))))
  refine sx_seq fun K8 k8 => sx_region ?_
  refine mv rfl rfl (mv rfl rfl (sp rfl (px_sliceTo (h := k) rfl rfl (by omega) Tryd.underlying23 Tryd.sizeOf3 f7 (by omega)) ?_))
  refine av rfl rfl (wl_nil (q_n (k8 _ _ ?_)))
  refine sx_sub (Sub.c 2 rfl .nil) ?_
  refine sx_retc ?_
  refine sx_ret1 Tryd.results63 rfl ?_
  have hd := trim_done hz hk hv (by first | exact .inl (by omega) | exact .inr (by rw [getD_take (by omega)]; assumption))
  rw [← hd]
  exact ⟨_, rfl, (Sv.takeI f7 (h := k) (by omega)), cwl4⟩
 refine sx_guardF rfl rfl rfl rfl rfl rfl ?_
 refine sx_guardF rfl rfl rfl rfl rfl rfl ?_
 refine sx_guardF rfl rfl rfl rfl rfl rfl ?_
 refine sx_guardF rfl rfl rfl rfl rfl rfl ?_
 refine sx_guardF rfl rfl rfl rfl rfl rfl ?_
 refine sx_guardF rfl rfl rfl rfl rfl rfl ?_
 refine sp rfl (px_pick rfl rfl) ?_
 refine wl_nil (q_n (k6 _ _ ?_))
 refine sx_condF rfl ?_
 refine sx_exit ?_
 refine q_e (q_e (q_bx (q_n (k3 _ _ ?_))))
 refine sx_seq fun K9 k9 => sx_region ?_
 refine mv rfl rfl (mv rfl rfl ?_)
 have f10 := hva.ext cwl4
 refine sp rfl (px_sliceTo (h := k) rfl rfl (by omega) Tryd.underlying23 Tryd.sizeOf3 f10 (by omega)) ?_
 refine av rfl rfl (wl_nil (q_n (k9 _ _ ?_)))
 refine sx_sub (Sub.c 2 rfl .nil) ?_
 refine sx_retc ?_
 refine sx_ret1 Tryd.results63 rfl ?_
 have hd := trim_done hz hk hv (by first | exact .inl (by omega) | exact .inr (by rw [getD_take (by omega)]; assumption))
 rw [← hd]
 exact ⟨_, rfl, (Sv.takeI f10 (h := k) (by omega)), cwl4⟩

theorem c_l02TrimD {w : World} {va : Value} {lva uva : Nat} {m : Nat} (hva : Sl w lva uva va (dg m)) (h63 : (dg m).length ≤ 1000000) :
  Ret Tryd.prog 63 [va] w fun v w' => ∃ s, v = s ∧ Sl w' (lva) (uva) s (dg m) ∧ Chg 0 0 w w' := by
 simpa only [vl_dg] using c_l02TrimS hva (Lm_dg m) h63

theorem c_l02Cap {w : World} {va : Value} {lva uva : Nat} {m : Nat} (hva : Sl w lva uva va (dg m)) (h63 : (dg m).length ≤ 1000000) :
  Ret Tryd.prog 62 [va] w fun v w' => ∃ s, v = s ∧ Sl w' (lva) (uva) s (dg (capN m)) ∧ Chg 0 0 w w' := by
 refine sx_enter Tryd.func62 rfl Tryd.ntmps62 (nbl rfl) ?_
 refine sx_seq fun K1 k1 => sx_region ?_
 refine av rfl rfl (wl_nil (q_n (k1 _ _ ?_)))
 refine sx_seq fun K2 k2 => sx_region ?_
 refine mv rfl rfl (sx_call rfl rfl Tryd.call63 (c_l02TrimD hva (by omega)) (fun v3 w3 p3 => ?_))
 obtain ⟨s3, rfl, os_3, c3⟩ := p3
 have zw3 := c3.size
 refine av rfl rfl (wl_nil (q_n (k2 _ _ ?_)))
 refine sx_seq fun K4 k4 => ?_
 refine sx_seq fun K5 k5 => sx_region ?_
 refine mv rfl rfl (sp rfl (px_len rfl Tryd.underlying23 os_3) ?_)
 refine sp rfl (px_gt rfl rfl) ?_
 refine wl_nil (q_n (k5 _ _ ?_))
 refine sx_condP rfl (fun h25 => ?_) (fun h25 => ?_)
 ·
  refine sx_seq fun K6 k6 => sx_region ?_
  refine av rfl rfl (wl_nil (q_n (k6 _ _ ?_)))
  refine sx_retc ?_
  refine q_r (sx_ret1 Tryd.results62 rfl ?_)
  rw [capN_no (by omega), dg_zero]
  exact ⟨_, rfl, Sv.nil _ _ _ _, c3⟩
 refine sx_skip ?_
 refine q_n (k4 _ _ ?_)
 refine sx_seq fun K7 k7 => sx_region ?_
 refine mv rfl rfl (av rfl rfl (wl_nil (q_n (k7 _ _ ?_))))
 refine sx_retc ?_
 refine sx_ret1 Tryd.results62 rfl ?_
 rw [capN_ok (by omega)]
 exact ⟨_, rfl, (Sv.mono os_3 (by omega) (by omega)), c3⟩

theorem c_l04Make {w : World} {n : Bool} {va : Value} {lva uva : Nat} {m : Nat} (hva : Sl w lva uva va (dg m)) (h63 : (dg m).length ≤ 1000000) :
  Ret Tryd.prog 45 [.bool n, va] w fun v w' => ∃ s, v = .agg #[.bool (ng (capI n m)), s] ∧ OwnI w' w.heap.size w'.heap.size s intT (dg (capI n m).natAbs) ∧ Chg 0 0 w w' := by
 have hva0 := hva.fit
 have hcap : (dg (capN m)).length ≤ 50 := by unfold capN; split; assumption; rw [dg_zero]; simp
 refine sx_enter Tryd.func45 rfl Tryd.ntmps45 (nbl rfl) ?_
 refine sx_seq fun K1 k1 => sx_region ?_
 refine sx_alloc [.bool false, (.slice none 0 0)] rfl Tryd.zeroValue25 rfl (fun b2 w3 eb2 sb2 fb2 cb2 => ?_)
 have zw3 := cb2.size
 refine wl_nil (q_n (k1 _ _ ?_))
 refine sx_seq fun K4 k4 => sx_region ?_
 refine mv rfl rfl ?_
 have f5 := hva0.ext cb2
 refine sx_call rfl rfl Tryd.call62 (c_l02Cap f5 (by omega)) (fun v6 w6 p6 => ?_)
 obtain ⟨s6, rfl, os_6, c6⟩ := p6
 have zw6 := c6.size
 refine av rfl rfl (wl_nil (q_n (k4 _ _ ?_)))
 refine sx_seq fun K7 k7 => sx_region ?_
 refine mv rfl rfl (mv rfl rfl ?_)
 refine sx_tmpB (t := 9) rfl (fun h10 => ?_) (fun h10 => ?_)
 ·
  refine sx_guardT rfl rfl rfl ?_
  refine mv rfl rfl ?_
  refine sx_guardT rfl rfl rfl ?_
  refine sp rfl (px_len rfl Tryd.underlying23 os_6) ?_
  refine sx_guardT rfl rfl rfl ?_
  refine sp rfl (px_gt rfl rfl) ?_
  refine sp rfl (px_pick rfl rfl) ?_
  refine sx_lit0 rfl xelt23 (fun s8 ws8 ss8 fs8 cs8 => ?_)
  have zws8 := cs8.size
  refine mv rfl rfl ?_
  have f10 := os_6.ext cs8
  refine sx_append rfl xelt23 rfl rfl fs8 f10 one_int (by omega) (by first | omega | (simp only [List.length_nil]; omega)) (by unfold maxLen; first | omega | (simp only [List.length_nil]; omega)) (fun a9 w9 fw9 cw9 => ?_)
  have nw9 := Own.norm (f := (Value.int .i64)) (zs := dg (capN m)) fw9
  have zw9 := cw9.size
  refine sp rfl (px_build rfl (xbld25x0x1 rfl nw9.one _)) ?_
  have f13 := (fb2.ext c6).ext cs8
  have f14 := f13.chg cw9 (by omega)
  refine sx_store (vs := [.bool (decide ((0 : Int) < ↑((dg (capN m)).length))), a9]) rfl rfl f14 rfl Tryd.sizeOf25 (nbl rfl) (one_cons rfl (one_cons nw9.one one_nil)) (fun w11 sw11 fw11 cw11 => ?_)
  have zw11 := cw11.size
  have gw11 : Blk w11 b2 [.bool (decide ((0 : Int) < ↑((dg (capN m)).length))), a9] 25 := fw11
  refine wl_nil (q_n (k7 _ _ ?_))
  refine sx_sub (Sub.c 4 rfl .nil) ?_
  refine sx_retc ?_
  refine sx_ret1 Tryd.results45 ⟨_, rfl, gw11.loadA (vs := [.bool (decide ((0 : Int) < ↑((dg (capN m)).length))), a9]) (look_lit rfl) Tryd.isAgg25 Tryd.sizeOf25⟩ ?_
  have hh := cap_sg n m
  rw [← hh.1, ← hh.2]
  have q15 := Chg.step (l := 0) (h := 0) (Chg.zero (l := 0) (h := 0) ((cb2.t c6).t cs8)) cw9 (by omega)
  have q16 := Chg.step (l := 0) (h := 0) q15 cw11 (by omega)
  have f17 := nw9.chg cw11 (by omega)
  exact ⟨_, by simp [nz, h10], (Own.mono f17 (by omega) (by omega)), q16⟩
 refine sx_guardF rfl rfl rfl rfl rfl rfl ?_
 refine sx_guardF rfl rfl rfl rfl rfl rfl ?_
 refine sx_guardF rfl rfl rfl rfl rfl rfl ?_
 refine sp rfl (px_pick rfl rfl) ?_
 refine sx_lit0 rfl xelt23 (fun s18 ws18 ss18 fs18 cs18 => ?_)
 have zws18 := cs18.size
 refine mv rfl rfl ?_
 have f20 := os_6.ext cs18
 refine sx_append rfl xelt23 rfl rfl fs18 f20 one_int (by omega) (by first | omega | (simp only [List.length_nil]; omega)) (by unfold maxLen; first | omega | (simp only [List.length_nil]; omega)) (fun a19 w19 fw19 cw19 => ?_)
 have nw19 := Own.norm (f := (Value.int .i64)) (zs := dg (capN m)) fw19
 have zw19 := cw19.size
 refine sp rfl (px_build rfl (xbld25x0x1 rfl nw19.one _)) ?_
 have f23 := (fb2.ext c6).ext cs18
 have f24 := f23.chg cw19 (by omega)
 refine sx_store (vs := [.bool false, a19]) rfl rfl f24 rfl Tryd.sizeOf25 (nbl rfl) (one_cons rfl (one_cons nw19.one one_nil)) (fun w21 sw21 fw21 cw21 => ?_)
 have zw21 := cw21.size
 have gw21 : Blk w21 b2 [.bool false, a19] 25 := fw21
 refine wl_nil (q_n (k7 _ _ ?_))
 refine sx_sub (Sub.c 4 rfl .nil) ?_
 refine sx_retc ?_
 refine sx_ret1 Tryd.results45 ⟨_, rfl, gw21.loadA (vs := [.bool false, a19]) (look_lit rfl) Tryd.isAgg25 Tryd.sizeOf25⟩ ?_
 have hh := cap_sg n m
 rw [← hh.1, ← hh.2]
 have q25 := Chg.step (l := 0) (h := 0) (Chg.zero (l := 0) (h := 0) ((cb2.t c6).t cs18)) cw19 (by omega)
 have q26 := Chg.step (l := 0) (h := 0) q25 cw21 (by omega)
 have f27 := nw19.chg cw21 (by omega)
 exact ⟨_, by simp [nz, h10], (Own.mono f27 (by omega) (by omega)), q26⟩

theorem c_l04MakeMin {w : World} {n : Bool} {va : Value} {lva uva : Nat} {zs : List Int} (hva : Sl w lva uva va (zs)) (hz : zs = dg (-9223372036854775808 : Int).natAbs) :
  Ret Tryd.prog 45 [.bool n, va] w fun v w' => ∃ s, v = .agg #[.bool (ng (capI n (-9223372036854775808 : Int).natAbs)), s] ∧ OwnI w' w.heap.size w'.heap.size s intT (dg (capI n (-9223372036854775808 : Int).natAbs).natAbs) ∧ Chg 0 0 w w' := by
 subst hz; exact c_l04Make hva (by rw [dg_min]; simp)

theorem c_sNatOf {w : World} {n : Int} (hn : 0 ≤ n ∧ n ≤ 9223372036854775807) :
  Ret Tryd.prog 61 [.int .i64 n] w fun v w' => ∃ s, v = s ∧ OwnI w' w.heap.size w'.heap.size s intT (dg (n).toNat) ∧ Chg 0 0 w w' := by
 have l0 := len_u64 (n := n) (by omega)
 refine sx_enter Tryd.func61 rfl Tryd.ntmps61 (nbl rfl) ?_
 refine sx_seq fun K1 k1 => sx_region ?_
 refine av rfl rfl (wl_nil (q_n (k1 _ _ ?_)))
 refine sx_seq fun K2 k2 => sx_region ?_
 refine sx_lit0 rfl xelt23 (fun s3 ws3 ss3 fs3 cs3 => ?_)
 have zws3 := cs3.size
 refine av rfl rfl (wl_nil (q_n (k2 _ _ ?_)))
 refine sx_seq fun K4 k4 => ?_
 refine sx_block ?_
 refine sx_loop (fun mm aa w' => ∃ (s : Value) (os : List Int) (m : Int), Agr 15 [(0, .int .i64 m), (3, s)] aa ∧ Chg w.heap.size ws3.heap.size ws3 w' ∧ Own w' w.heap.size w'.heap.size s intT os.length 1 (os.map (Value.int .i64)) ∧ (mm = m.toNat) ∧ (Lm os) ∧ (0 ≤ m ∧ m ≤ n) ∧ (vl os + Bs ^ os.length * m.toNat = n.toNat) ∧ (os.length + (dg m.toNat).length = (dg n.toNat).length) ∧ (os.length = 0 ∨ Bs ^ (os.length - 1) ≤ n.toNat)) (_) (fun a ha => ⟨s3, [], n, ha.sub (Sub.c 0 (look_int (t := 0) rfl (by first | omega | simp)) (.c 3 rfl .nil)), Chg.refl _ _ _, (fs3.mono (by omega) (by omega)), rfl, Lm.nil, by omega, by simp [vl], by simp, .inl rfl⟩) ?_
 rintro mm aa wl5 ⟨s, os, m, hAwl5, cwl5, hs_s, hm, hlm, hb, hv, hln, hl⟩
 refine (show cw Tryd.prog 15 _ _ _ wl5 from ?_) aa hAwl5
 clear hAwl5
 have zwl5 := cwl5.size
 refine sx_seq fun K6 k6 => ?_
 refine sx_seq fun K7 k7 => sx_region ?_
 refine mv rfl rfl (sp rfl (px_gt rfl rfl) ?_)
 refine wl_nil (q_n (k7 _ _ ?_))
 refine sx_condP rfl (fun h34 => ?_) (fun h34 => ?_)
 ·
  refine sx_skip ?_
  refine q_n (k6 _ _ ?_)
  refine sx_block ?_
  refine sx_seq fun K8 k8 => sx_region ?_
  refine mv rfl rfl (mv rfl rfl (sp rfl (px_rem rfl rfl (by omega) (by omega)) ?_))
  refine sx_lit1 rfl xelt23 rfl rfl (fun s9 ws9 ss9 fs9 cs9 => ?_)
  have ns9 := Own.norm (f := (Value.int .i64)) (zs := [m % 1000000000]) fs9
  have zws9 := cs9.size
  have f11 := hs_s.ext cs9
  refine sx_append rfl xelt23 rfl rfl f11 ns9.sv one_int (by omega) (by simp only [List.length_cons, List.length_nil]; omega) (by unfold maxLen; simp only [List.length_cons, List.length_nil]; omega) (fun a10 w10 fw10 cw10 => ?_)
  have nw10 := Own.app (f := (Value.int .i64)) (a := os) (b := [m % 1000000000]) fw10
  have zw10 := cw10.size
  refine av rfl rfl (wl_nil (q_n (k8 _ _ ?_)))
  refine sx_region ?_
  refine mv rfl rfl (sp rfl (px_quo rfl rfl (by omega) (by omega) (by omega)) ?_)
  refine av rfl rfl (wl_nil ?_)
  have q12 := Chg.step (l := w.heap.size) (h := ws3.heap.size) cwl5 cs9 (by omega)
  have q13 := Chg.step (l := w.heap.size) (h := ws3.heap.size) q12 cw10 (by omega)
  have hmd := mod_bd (s := m) (by omega)
  have hm0 : m / 1000000000 < m := by omega
  exact q_bn (fun a ha => ⟨_, by omega, a10, (os ++ ([m % 1000000000])), (m / 1000000000), ha.sub (Sub.c 0 (look_int (t := 0) rfl (by first | omega | simp)) (.c 3 rfl .nil)), q13, (nw10.mono (by omega) (by omega)), rfl, hlm.append (Lm.single hmd.1 hmd.2), by omega, of_stepI (by omega) hv, by have h9 := of_ln (m := m) (by omega); simp only [List.length_append, List.length_singleton]; omega, .inr (of_len (by omega) hv)⟩)
 refine sx_exit ?_
 refine q_e (q_e (q_bx (q_n (k4 _ _ ?_))))
 refine sx_seq fun K14 k14 => sx_region ?_
 refine mv rfl rfl (av rfl rfl (wl_nil (q_n (k14 _ _ ?_))))
 refine sx_retc ?_
 refine sx_ret1 Tryd.results61 rfl ?_
 have hm0 : m = 0 := by omega
 subst hm0
 have hd : os = dg n.toNat := dg_of hlm (by simpa using hv) hl
 subst hd
 have q15 := Chg.step (l := 0) (h := 0) (Chg.zero (l := 0) (h := 0) cs3) cwl5 (by omega)
 exact ⟨_, rfl, (Own.mono hs_s (by omega) (by omega)), q15⟩

theorem c_sIntOf {w : World} {n : Int} (hn : -9223372036854775808 ≤ n ∧ n ≤ 9223372036854775807) :
  Ret Tryd.prog 44 [.int .i64 n] w fun v w' => ∃ s, v = .agg #[.bool (ng n), s] ∧ OwnI w' w.heap.size w'.heap.size s intT (dg (n).natAbs) ∧ Chg 0 0 w w' := by
 refine sx_enter Tryd.func44 rfl Tryd.ntmps44 (nbl rfl) ?_
 refine sx_seq fun K1 k1 => sx_region ?_
 refine sx_alloc [.bool false, (.slice none 0 0)] rfl Tryd.zeroValue25 rfl (fun b2 w3 eb2 sb2 fb2 cb2 => ?_)
 have zw3 := cb2.size
 refine wl_nil (q_n (k1 _ _ ?_))
 refine sx_seq fun K4 k4 => ?_
 refine sx_seq fun K5 k5 => sx_region ?_
 refine mv rfl rfl (sp rfl (px_eq rfl rfl) ?_)
 refine wl_nil (q_n (k5 _ _ ?_))
 refine sx_condP rfl (fun h15 => ?_) (fun h15 => ?_)
 ·
  subst h15
  refine sx_seq fun K6 k6 => sx_region ?_
  refine sx_lit3 rfl xelt23 rfl rfl rfl rfl rfl rfl (fun s7 ws7 ss7 fs7 cs7 => ?_)
  have ns7 := Own.norm (f := (Value.int .i64)) (zs := [854775808, 223372036, 9]) fs7
  have zws7 := cs7.size
  refine sx_call rfl rfl Tryd.call45 (c_l04MakeMin ns7.sv (dg_min.symm)) (fun v8 w8 p8 => ?_)
  obtain ⟨s8, rfl, os_8, c8⟩ := p8
  have zw8 := c8.size
  have f10 := fb2.ext cs7
  have f11 := f10.ext c8
  refine sx_store (vs := [.bool (ng (capI true (-9223372036854775808 : Int).natAbs)), s8]) rfl rfl f11 rfl Tryd.sizeOf25 (nbl rfl) (one_cons rfl (one_cons os_8.one one_nil)) (fun w9 sw9 fw9 cw9 => ?_)
  have zw9 := cw9.size
  have gw9 : Blk w9 b2 [.bool (ng (capI true (-9223372036854775808 : Int).natAbs)), s8] 25 := fw9
  refine wl_nil (q_n (k6 _ _ ?_))
  refine sx_retc ?_
  refine q_r (sx_ret1 Tryd.results44 ⟨_, rfl, gw9.loadA (vs := [.bool (ng (capI true (-9223372036854775808 : Int).natAbs)), s8]) (look_lit rfl) Tryd.isAgg25 Tryd.sizeOf25⟩ ?_)
  have e : capI true (-9223372036854775808 : Int).natAbs = -9223372036854775808 := capI_min
  have f12 := os_8.chg cw9 (by omega)
  have hr := f12
  rw [e] at hr
  have q13 := Chg.step (l := 0) (h := 0) (Chg.zero (l := 0) (h := 0) ((cb2.t cs7).t c8)) cw9 (by omega)
  exact ⟨_, by rw [e], hr.mono (by omega) (by omega), q13⟩
 refine sx_skip ?_
 refine q_n (k4 _ _ ?_)
 refine sx_seq fun K14 k14 => ?_
 refine sx_seq fun K15 k15 => sx_region ?_
 refine mv rfl rfl (sp rfl (px_lt rfl rfl) ?_)
 refine wl_nil (q_n (k15 _ _ ?_))
 refine sx_condP rfl (fun h18 => ?_) (fun h18 => ?_)
 ·
  refine sx_seq fun K16 k16 => sx_region ?_
  refine mv rfl rfl (sp rfl (px_neg rfl (by omega)) ?_)
  refine sx_call rfl rfl Tryd.call61 (c_sNatOf (by omega)) (fun v17 w17 p17 => ?_)
  obtain ⟨s17, rfl, os_17, c17⟩ := p17
  have zw17 := c17.size
  refine sx_call rfl rfl Tryd.call45 (c_l04Make os_17.sv (by first | (have h9 := len_u64 (n := -n) (by omega); omega) | (have h9 := len_u64 (n := n) (by omega); omega))) (fun v18 w18 p18 => ?_)
  obtain ⟨s18, rfl, os_18, c18⟩ := p18
  have zw18 := c18.size
  have f21 := (fb2.ext c17).ext c18
  refine sx_store (vs := [.bool (ng (capI true (((-n)).toNat))), s18]) rfl rfl f21 rfl Tryd.sizeOf25 (nbl rfl) (one_cons rfl (one_cons os_18.one one_nil)) (fun w19 sw19 fw19 cw19 => ?_)
  have zw19 := cw19.size
  have gw19 : Blk w19 b2 [.bool (ng (capI true (((-n)).toNat))), s18] 25 := fw19
  refine wl_nil (q_n (k16 _ _ ?_))
  refine sx_retc ?_
  refine q_r (sx_ret1 Tryd.results44 ⟨_, rfl, gw19.loadA (vs := [.bool (ng (capI true (((-n)).toNat))), s18]) (look_lit rfl) Tryd.isAgg25 Tryd.sizeOf25⟩ ?_)
  have e : capI true (-n).toNat = n := capI_neg (by omega)
  have f22 := os_18.chg cw19 (by omega)
  have hr := f22
  rw [e] at hr
  have q23 := Chg.step (l := 0) (h := 0) (Chg.zero (l := 0) (h := 0) ((cb2.t c17).t c18)) cw19 (by omega)
  exact ⟨_, by rw [e], hr.mono (by omega) (by omega), q23⟩
 refine sx_skip ?_
 refine q_n (k14 _ _ ?_)
 refine sx_seq fun K24 k24 => sx_region ?_
 refine mv rfl rfl (sx_call rfl rfl Tryd.call61 (c_sNatOf (by omega)) (fun v25 w25 p25 => ?_))
 obtain ⟨s25, rfl, os_25, c25⟩ := p25
 have zw25 := c25.size
 refine sx_call rfl rfl Tryd.call45 (c_l04Make os_25.sv (by first | (have h9 := len_u64 (n := -n) (by omega); omega) | (have h9 := len_u64 (n := n) (by omega); omega))) (fun v26 w26 p26 => ?_)
 obtain ⟨s26, rfl, os_26, c26⟩ := p26
 have zw26 := c26.size
 have f29 := (fb2.ext c25).ext c26
 refine sx_store (vs := [.bool (ng (capI false ((n).toNat))), s26]) rfl rfl f29 rfl Tryd.sizeOf25 (nbl rfl) (one_cons rfl (one_cons os_26.one one_nil)) (fun w27 sw27 fw27 cw27 => ?_)
 have zw27 := cw27.size
 have gw27 : Blk w27 b2 [.bool (ng (capI false ((n).toNat))), s26] 25 := fw27
 refine wl_nil (q_n (k24 _ _ ?_))
 refine sx_retc ?_
 refine sx_ret1 Tryd.results44 ⟨_, rfl, gw27.loadA (vs := [.bool (ng (capI false ((n).toNat))), s26]) (look_lit rfl) Tryd.isAgg25 Tryd.sizeOf25⟩ ?_
 have e : capI false n.toNat = n := capI_pos (by omega)
 have f30 := os_26.chg cw27 (by omega)
 have hr := f30
 rw [e] at hr
 have q31 := Chg.step (l := 0) (h := 0) (Chg.zero (l := 0) (h := 0) ((cb2.t c25).t c26)) cw27 (by omega)
 exact ⟨_, by rw [e], hr.mono (by omega) (by omega), q31⟩

theorem c_l02Nat {w : World} {c : Nat} {vb : Value} {lvb uvb : Nat} {bs : List Int} {i : Int} {h : Int} {most : Int} (hc : Blk w c [vb, .int .i64 i, .int .i64 h] 79) (hvb : SlB w lvb uvb vb (bs)) (hb8 : ∀ j, j < bs.length → 0 ≤ bs.getD j 0 ∧ bs.getD j 0 ≤ 255) (hbl : bs.length ≤ 1048576) (hi : 0 ≤ i ∧ i ≤ bs.length) (hdis : uvb ≤ c) (hn : 0 ≤ most ∧ most ≤ 100) :
  Ret Tryd.prog 46 [.pointer (some ⟨c, 0, none⟩), .int .i64 most] w fun v w' => ∃ s m i2 h2, v = s ∧ OwnI w' w.heap.size w'.heap.size s intT (dg m) ∧ Blk w' c [vb, .int .i64 (i2), .int .i64 (h2)] 79 ∧ (((dg m).length : Int) ≤ most) ∧ (0 ≤ i2 ∧ i2 ≤ (bs).length) ∧ Chg c (c + 1) w w' := by
 have clt := hc.lt
 have clt := hc.lt
 refine sx_enter Tryd.func46 rfl Tryd.ntmps46 (nbl rfl) ?_
 refine sx_seq fun K1 k1 => sx_region ?_
 refine av rfl rfl (wl_nil (q_n (k1 _ _ ?_)))
 refine sx_seq fun K2 k2 => sx_region ?_
 refine sx_lit0 rfl xelt23 (fun s3 ws3 ss3 fs3 cs3 => ?_)
 have zws3 := cs3.size
 refine av rfl rfl (wl_nil (q_n (k2 _ _ ?_)))
 refine sx_seq fun K4 k4 => ?_
 refine sx_seq fun K5 k5 => sx_region ?_
 refine mv rfl rfl (mv rfl rfl (sp rfl (px_add rfl rfl (by omega)) ?_))
 have f6 := hc.ext cs3
 have f7 := hvb.ext cs3
 refine sx_call rfl rfl Tryd.call41 (c_l01Below f6 f7 (by assumption) (by omega) (by omega) (by omega) (by omega)) (fun v8 w8 p8 => ?_)
 obtain ⟨x8, i28, h28, rfl, xc_8, hx8, hi28, c8⟩ := p8
 have zw8 := c8.size
 refine av rfl rfl (wl_nil (q_n (k5 _ _ ?_)))
 refine sx_block ?_
 have f10 := fs3.chg c8 (by omega)
 have q11 := Chg.step (l := c) (h := (c + 1)) (Chg.zero (l := c) (h := (c + 1)) cs3) c8 (by omega)
 refine sx_loop (fun mm aa w' => ∃ (s : Value) (os : List Int) (n2 : Int) (i2 : Int) (h2 : Int), Agr 28 [(0, .pointer (some ⟨c, 0, none⟩)), (5, s), (6, .int .i64 n2)] aa ∧ Chg c (c + 1) w w' ∧ Blk w' c [vb, .int .i64 i2, .int .i64 h2] 79 ∧ Own w' w.heap.size w'.heap.size s intT os.length 1 (os.map (Value.int .i64)) ∧ (mm = n2.toNat) ∧ (Lm os) ∧ ((os.length : Int) + n2 ≤ most ∧ 0 ≤ n2) ∧ (0 ≤ i2 ∧ i2 ≤ bs.length)) (_) (fun a ha => ⟨s3, [], x8, i28, h28, ha.sub (Sub.c 0 rfl (.c 5 rfl (.c 6 (look_int (t := 6) rfl (by first | omega | simp)) .nil))), q11, xc_8, (f10.mono (by omega) (by omega)), rfl, Lm.nil, by simp only [List.length_nil]; omega, by omega⟩) ?_
 rintro mm aa wl9 ⟨s, os, n2, i2, h2, hAwl9, cwl9, hb_c, hs_s, hm, hlm, hln, hi2⟩
 refine (show cw Tryd.prog 28 _ _ _ wl9 from ?_) aa hAwl9
 clear hAwl9
 have zwl9 := cwl9.size
 have lt12 := hb_c.lt
 refine sx_seq fun K13 k13 => ?_
 refine sx_seq fun K14 k14 => sx_region ?_
 refine mv rfl rfl (sp rfl (px_gt rfl rfl) ?_)
 refine wl_nil (q_n (k14 _ _ ?_))
 refine sx_condP rfl (fun h203 => ?_) (fun h203 => ?_)
 ·
  refine sx_skip ?_
  refine q_n (k13 _ _ ?_)
  refine sx_seq fun K15 k15 => ?_
  refine sx_block ?_
  refine sx_region ?_
  refine mv rfl rfl (mv rfl rfl (mv rfl rfl ?_))
  have f16 := hvb.chg cwl9 (by omega)
  refine sx_call rfl rfl Tryd.call41 (c_l01Below hb_c f16 (by assumption) (by omega) (by omega) (by omega) (by omega)) (fun v17 w17 p17 => ?_)
  obtain ⟨x17, i217, h217, rfl, xc_17, hx17, hi217, c17⟩ := p17
  have zw17 := c17.size
  refine mv rfl rfl ?_
  have f18 := f16.chg c17 (by omega)
  refine sx_call rfl rfl Tryd.call41 (c_l01Below xc_17 f18 (by assumption) (by omega) (by omega) (by omega) (by omega)) (fun v19 w19 p19 => ?_)
  obtain ⟨x19, i219, h219, rfl, xc_19, hx19, hi219, c19⟩ := p19
  have zw19 := c19.size
  refine sx_lit7 rfl xelt23 rfl rfl rfl rfl rfl rfl rfl rfl rfl rfl rfl rfl rfl rfl (fun s20 ws20 ss20 fs20 cs20 => ?_)
  have ns20 := Own.norm (f := (Value.int .i64)) (zs := [0, 1, 2, 999999999, 500000000, x17, x19]) fs20
  have zws20 := cs20.size
  have f21 := xc_19.ext cs20
  have f23 := (f18.chg c19 (by omega)).ext cs20
  refine sx_call rfl rfl Tryd.call47 (c_l01Pick f21 f23 ns20.sv (by assumption) (by omega) (by omega) (by omega) (by first | omega | simp) (by omega)) (fun v24 w24 p24 => ?_)
  obtain ⟨x24, i224, h224, rfl, xc_24, hx24, hi224, c24⟩ := p24
  have zw24 := c24.size
  refine sx_lit1 rfl xelt23 rfl rfl (fun s25 ws25 ss25 fs25 cs25 => ?_)
  have ns25 := Own.norm (f := (Value.int .i64)) (zs := [x24]) fs25
  have zws25 := cs25.size
  have f29 := ((hs_s.chg c17 (by omega)).chg c19 (by omega)).ext cs20
  have f31 := (f29.chg c24 (by omega)).ext cs25
  refine sx_append rfl xelt23 rfl rfl f31 ns25.sv one_int (by omega) (by simp only [List.length_cons, List.length_nil]; omega) (by unfold maxLen; simp only [List.length_cons, List.length_nil]; omega) (fun a26 w26 fw26 cw26 => ?_)
  have nw26 := Own.app (f := (Value.int .i64)) (a := os) (b := [x24]) fw26
  have zw26 := cw26.size
  refine av rfl rfl (wl_nil ?_)
  refine q_bn (q_n (k15 _ _ ?_))
  refine sx_sub (Sub.c 0 rfl (.c 5 rfl (.c 6 rfl .nil))) ?_
  refine sx_region ?_
  refine mv rfl rfl (sp rfl (px_sub rfl rfl (by omega)) ?_)
  refine av rfl rfl (wl_nil ?_)
  have f32 := xc_24.ext cs25
  have f33 := f32.chg cw26 (by omega)
  have q34 := Chg.step (l := c) (h := (c + 1)) cwl9 c17 (by omega)
  have q35 := Chg.step (l := c) (h := (c + 1)) q34 c19 (by omega)
  have q36 := Chg.step (l := c) (h := (c + 1)) q35 cs20 (by omega)
  have q37 := Chg.step (l := c) (h := (c + 1)) q36 c24 (by omega)
  have q38 := Chg.step (l := c) (h := (c + 1)) q37 cs25 (by omega)
  have q39 := Chg.step (l := c) (h := (c + 1)) q38 cw26 (by omega)
  have bx24 : 0 ≤ x24 ∧ x24 < 1000000000 := by have h9 := hx24; simp only [List.mem_cons, List.not_mem_nil, or_false] at h9; omega
  exact fun a ha => ⟨_, by omega, a26, (os ++ ([x24])), (n2 - 1), i224, h224, ha.sub (Sub.c 0 rfl (.c 5 rfl (.c 6 (look_int (t := 6) rfl (by first | omega | simp)) .nil))), q39, f33, (nw26.mono (by omega) (by omega)), rfl, hlm.append (Lm.single (by omega) (by omega)), by simp only [List.length_append, List.length_singleton]; omega, by omega⟩
 refine sx_exit ?_
 refine q_e (q_e (q_bx (q_n (k4 _ _ ?_))))
 refine sx_seq fun K40 k40 => sx_region ?_
 refine mv rfl rfl (sx_call rfl rfl Tryd.call63 (c_l02Trim hs_s (by assumption) (by first | omega | (simp only [List.length_append, List.length_set, List.length_replicate, List.length_cons, List.length_nil] at *; omega))) (fun v41 w41 p41 => ?_))
 obtain ⟨s41, rfl, os_41, c41⟩ := p41
 have zw41 := c41.size
 refine av rfl rfl (wl_nil (q_n (k40 _ _ ?_)))
 refine sx_retc ?_
 refine sx_ret1 Tryd.results46 rfl ?_
 have hvt := vl_trim_len hlm
 have f42 := hb_c.ext c41
 have q43 := Chg.step (l := c) (h := (c + 1)) cwl9 c41 (by omega)
 exact ⟨_, _, _, _, rfl, (Own.mono os_41 (by omega) (by omega)), f42, by omega, by omega, q43⟩

theorem c_l04Draw {w : World} {c : Nat} {vb : Value} {lvb uvb : Nat} {bs : List Int} {i : Int} {h : Int} {most : Int} (hc : Blk w c [vb, .int .i64 i, .int .i64 h] 79) (hvb : SlB w lvb uvb vb (bs)) (hb8 : ∀ j, j < bs.length → 0 ≤ bs.getD j 0 ∧ bs.getD j 0 ≤ 255) (hbl : bs.length ≤ 1048576) (hi : 0 ≤ i ∧ i ≤ bs.length) (hdis : uvb ≤ c) (hn : 1 ≤ most ∧ most ≤ 40) :
  Ret Tryd.prog 15 [.pointer (some ⟨c, 0, none⟩), .int .i64 most] w fun v w' => ∃ s x i2 h2, v = .agg #[.bool (ng x), s] ∧ OwnI w' w.heap.size w'.heap.size s intT (dg (x).natAbs) ∧ Blk w' c [vb, .int .i64 (i2), .int .i64 (h2)] 79 ∧ (((dg (x).natAbs).length : Int) ≤ most) ∧ (0 ≤ i2 ∧ i2 ≤ (bs).length) ∧ Chg c (c + 1) w w' := by
 have clt := hc.lt
 have clt := hc.lt
 refine sx_enter Tryd.func15 rfl Tryd.ntmps15 (nbl rfl) ?_
 refine sx_seq fun K1 k1 => sx_region ?_
 refine sx_alloc [.bool false, (.slice none 0 0)] rfl Tryd.zeroValue25 rfl (fun b2 w3 eb2 sb2 fb2 cb2 => ?_)
 have zw3 := cb2.size
 refine wl_nil (q_n (k1 _ _ ?_))
 refine sx_seq fun K4 k4 => ?_
 refine sx_seq fun K5 k5 => sx_region ?_
 refine mv rfl rfl ?_
 have f6 := hc.ext cb2
 have f7 := hvb.ext cb2
 refine sx_call rfl rfl Tryd.call43 (c_l01Once f6 f7 (by assumption) (by omega) (by omega) (by omega) (by omega)) (fun v8 w8 p8 => ?_)
 obtain ⟨x8, i28, h28, rfl, xc_8, hx8, hi28, c8⟩ := p8
 have zw8 := c8.size
 refine wl_nil (q_n (k5 _ _ ?_))
 refine sx_condP rfl (fun h144 => ?_) (fun h144 => ?_)
 ·
  refine sx_seq fun K9 k9 => sx_region ?_
  refine mv rfl rfl ?_
  have f10 := f7.chg c8 (by omega)
  refine sx_call rfl rfl Tryd.call41 (c_l01Below xc_8 f10 (by assumption) (by omega) (by omega) (by omega) (by omega)) (fun v11 w11 p11 => ?_)
  obtain ⟨x11, i211, h211, rfl, xc_11, hx11, hi211, c11⟩ := p11
  have zw11 := c11.size
  refine sp rfl (px_sub rfl rfl (by omega)) ?_
  refine sx_call rfl rfl Tryd.call44 (c_sIntOf (by omega)) (fun v12 w12 p12 => ?_)
  obtain ⟨s12, rfl, os_12, c12⟩ := p12
  have zw12 := c12.size
  have f16 := ((fb2.chg c8 (by omega)).chg c11 (by omega)).ext c12
  refine sx_store (vs := [.bool (ng (x11 - 1000)), s12]) rfl rfl f16 rfl Tryd.sizeOf25 (nbl rfl) (one_cons rfl (one_cons os_12.one one_nil)) (fun w13 sw13 fw13 cw13 => ?_)
  have zw13 := cw13.size
  have gw13 : Blk w13 b2 [.bool (ng (x11 - 1000)), s12] 25 := fw13
  refine wl_nil (q_n (k9 _ _ ?_))
  refine sx_retc ?_
  refine q_r (sx_ret1 Tryd.results15 ⟨_, rfl, gw13.loadA (vs := [.bool (ng (x11 - 1000)), s12]) (look_lit rfl) Tryd.isAgg25 Tryd.sizeOf25⟩ ?_)
  have hl1 : (dg ((x11 - 1000)).natAbs).length ≤ 1 := dg_len_le (by simp only [Bs]; omega)
  have f18 := (xc_11.ext c12).chg cw13 (by omega)
  have q19 := Chg.step (l := c) (h := (c + 1)) (Chg.zero (l := c) (h := (c + 1)) cb2) c8 (by omega)
  have q20 := Chg.step (l := c) (h := (c + 1)) q19 c11 (by omega)
  have q21 := Chg.step (l := c) (h := (c + 1)) q20 c12 (by omega)
  have q22 := Chg.step (l := c) (h := (c + 1)) q21 cw13 (by omega)
  have f23 := os_12.chg cw13 (by omega)
  exact ⟨_, _, _, _, rfl, (Own.mono f23 (by omega) (by omega)), f18, by omega, by omega, q22⟩
 refine sx_skip ?_
 refine q_n (k4 _ _ ?_)
 refine sx_seq fun K24 k24 => sx_region ?_
 refine mv rfl rfl ?_
 have f25 := f7.chg c8 (by omega)
 refine sx_call rfl rfl Tryd.call43 (c_l01Once xc_8 f25 (by assumption) (by omega) (by omega) (by omega) (by omega)) (fun v26 w26 p26 => ?_)
 obtain ⟨x26, i226, h226, rfl, xc_26, hx26, hi226, c26⟩ := p26
 have zw26 := c26.size
 refine mv rfl rfl (mv rfl rfl ?_)
 have f27 := f25.chg c26 (by omega)
 refine sx_call rfl rfl Tryd.call46 (c_l02Nat xc_26 f27 (by assumption) (by omega) (by omega) (by omega) (by omega)) (fun v28 w28 p28 => ?_)
 obtain ⟨s28, m28, i228, h228, rfl, os_28, xc_28, hx28, hi228, c28⟩ := p28
 have zw28 := c28.size
 refine sx_call rfl rfl Tryd.call45 (c_l04Make os_28.sv (by omega)) (fun v29 w29 p29 => ?_)
 obtain ⟨s29, rfl, os_29, c29⟩ := p29
 have zw29 := c29.size
 have f34 := (((fb2.chg c8 (by omega)).chg c26 (by omega)).chg c28 (by omega)).ext c29
 refine sx_store (vs := [.bool (ng (capI (decide ((x26 : Int) = 0)) m28)), s29]) rfl rfl f34 rfl Tryd.sizeOf25 (nbl rfl) (one_cons rfl (one_cons os_29.one one_nil)) (fun w30 sw30 fw30 cw30 => ?_)
 have zw30 := cw30.size
 have gw30 : Blk w30 b2 [.bool (ng (capI (decide ((x26 : Int) = 0)) m28)), s29] 25 := fw30
 refine wl_nil (q_n (k24 _ _ ?_))
 refine sx_retc ?_
 refine sx_ret1 Tryd.results15 ⟨_, rfl, gw30.loadA (vs := [.bool (ng (capI (decide ((x26 : Int) = 0)) m28)), s29]) (look_lit rfl) Tryd.isAgg25 Tryd.sizeOf25⟩ ?_
 have hcs := capI_sgI (n := (decide ((x26 : Int) = 0))) (m := m28) (by omega)
 have hl1 : (dg (capI (decide ((x26 : Int) = 0)) m28).natAbs).length = (dg m28).length := by rw [hcs, sgI_abs]
 have f36 := (xc_28.ext c29).chg cw30 (by omega)
 have q37 := Chg.step (l := c) (h := (c + 1)) (Chg.zero (l := c) (h := (c + 1)) cb2) c8 (by omega)
 have q38 := Chg.step (l := c) (h := (c + 1)) q37 c26 (by omega)
 have q39 := Chg.step (l := c) (h := (c + 1)) q38 c28 (by omega)
 have q40 := Chg.step (l := c) (h := (c + 1)) q39 c29 (by omega)
 have q41 := Chg.step (l := c) (h := (c + 1)) q40 cw30 (by omega)
 have f42 := os_29.chg cw30 (by omega)
 exact ⟨_, _, _, _, rfl, (Own.mono f42 (by omega) (by omega)), f36, by omega, by omega, q41⟩

theorem c_MakeMoneys {w : World} {vb : Value} {lvb uvb : Nat} {bs : List Int} (hvb : SlB w lvb uvb vb (bs)) (hb8 : ∀ j, j < bs.length → 0 ≤ bs.getD j 0 ∧ bs.getD j 0 ≤ 255) (hbl : bs.length ≤ 1048576) :
  Ret Tryd.prog 4 [vb] w fun v w' => ∃ s x t y cc, v = .tuple #[.agg #[.string (cc), .bool (ng (x)), s], .agg #[.string (cc), .bool (ng (y)), t]] ∧ Sl w' (w.heap.size) (w'.heap.size) s (dg (x).natAbs) ∧ Sl w' (w.heap.size) (w'.heap.size) t (dg (y).natAbs) ∧ (Known cc) ∧ ((dg (x).natAbs).length ≤ 3 ∧ (dg (y).natAbs).length ≤ 3) ∧ Chg 0 0 w w' := by
 have hvb0 := hvb.fit
 refine sx_enter Tryd.func4 rfl Tryd.ntmps4 (nbl rfl) ?_
 refine sx_seq fun K1 k1 => sx_region ?_
 refine sx_alloc [.string (⟨#[]⟩), .bool false, (.slice none 0 0)] rfl Tryd.zeroValue27 rfl (fun b2 w3 eb2 sb2 fb2 cb2 => ?_)
 have zw3 := cb2.size
 refine sx_alloc [.string (⟨#[]⟩), .bool false, (.slice none 0 0)] rfl Tryd.zeroValue27 rfl (fun b4 w5 eb4 sb4 fb4 cb4 => ?_)
 have zw5 := cb4.size
 refine wl_nil (q_n (k1 _ _ ?_))
 refine sx_seq fun K6 k6 => sx_region ?_
 refine mv rfl rfl ?_
 have f7 := hvb0.ext cb2
 have f8 := f7.ext cb4
 refine sx_call rfl rfl Tryd.call12 (c_l01New f8 (by assumption) (by omega)) (fun v9 w9 p9 => ?_)
 obtain ⟨c9, h29, rfl, xc_9, hh9, hc9, cq9⟩ := p9
 have zw9 := cq9.size
 refine av rfl rfl (wl_nil (q_n (k6 _ _ ?_)))
 refine sx_seq fun K10 k10 => sx_region ?_
 refine mv rfl rfl (sx_call rfl rfl Tryd.call14 (c_sCurs) (fun v11 w11 p11 => ?_))
 obtain ⟨s11, rfl, os_11, c11⟩ := p11
 have zw11 := c11.size
 have hl20 : (tabS.map Cr.code).length = 20 := rfl
 have f12 := xc_9.ext c11
 have f13 := f8.ext cq9
 have f14 := f13.ext c11
 refine sx_call rfl rfl Tryd.call13 (c_l01Str f12 f14 os_11.sv (by assumption) (by omega) (by omega) (by omega) (by first | omega | decide | simp) (by omega)) (fun v15 w15 p15 => ?_)
 obtain ⟨s15, i215, h215, rfl, xc_15, hx15, hi215, c15⟩ := p15
 have zw15 := c15.size
 refine av rfl rfl (wl_nil (q_n (k10 _ _ ?_)))
 refine sx_seq fun K16 k16 => sx_region ?_
 refine mv rfl rfl (mv rfl rfl ?_)
 have f17 := f14.chg c15 (by omega)
 refine sx_call rfl rfl Tryd.call15 (c_l04Draw xc_15 f17 (by assumption) (by omega) (by omega) (by omega) (by omega)) (fun v18 w18 p18 => ?_)
 obtain ⟨s18, x18, i218, h218, rfl, os_18, xc_18, hx18, hi218, c18⟩ := p18
 have zw18 := c18.size
 refine sp rfl (px_build rfl (xbld27x0x1 rfl _)) ?_
 refine sx_alloc [.string (⟨#[]⟩), .bool false, (.slice none 0 0)] rfl Tryd.zeroValue27 rfl (fun b19 w20 eb19 sb19 fb19 cb19 => ?_)
 have zw20 := cb19.size
 have f22 := os_18.ext cb19
 refine sx_store (vs := [.string s15, .bool (ng x18), s18]) rfl rfl fb19 rfl Tryd.sizeOf27 (nbl rfl) (one_cons rfl (one_cons rfl (one_cons f22.one one_nil))) (fun w21 sw21 fw21 cw21 => ?_)
 have zw21 := cw21.size
 have gw21 : Blk w21 b19 [.string s15, .bool (ng x18), s18] 27 := fw21
 refine wl_nil (q_n (k16 _ _ ?_))
 refine sx_sub (Sub.c 2 rfl (.c 3 rfl (.c 4 rfl (.c 5 rfl (.c 6 rfl .nil))))) ?_
 refine sx_seq fun K23 k23 => ?_
 have f25 := (f17.chg c18 (by omega)).ext cb19
 have f26 := f25.chg cw21 (by omega)
 have f29 := ((os_11.chg c15 (by omega)).chg c18 (by omega)).ext cb19
 have f30 := f29.chg cw21 (by omega)
 have f31 := f22.chg cw21 (by omega)
 refine dx_region (fun w' => Chg b2 (c9 + 1) w21 w') (by kernel_rfl) (Chg.zero (Chg.drew _)) ?_
 have d32 := Chg.drew w21
 have s32 : Chg b2 (c9 + 1) w21 (World.drew w21) := Chg.zero (Chg.drew _)
 have y32 : (World.drew w21).heap.size = w21.heap.size := rfl
 generalize World.drew w21 = w32 at *
 have zw32 := d32.size
 refine dt 0 rfl rfl rfl rfl s32 (fun _ hS => px_load rfl ((gw21.chg hS (by omega)).loadA (vs := [.string s15, .bool (ng x18), s18]) (look_lit rfl) Tryd.isAgg27 Tryd.sizeOf27)) ?_
 refine dt 1 rfl rfl rfl rfl s32 (fun _ hS => px_move rfl) ?_
 refine dt 2 rfl rfl rfl rfl s32 (fun _ hS => px_move rfl) ?_
 refine dx_eff 3 rfl (by kernel_rfl) ?_
 have f33 := xc_18.ext cb19
 have f34 := f33.chg cw21 (by omega)
 have f35 := f34.ext d32
 have f36 := f26.ext d32
 refine sx_call rfl rfl Tryd.call15 (c_l04Draw f35 f36 (by assumption) (by omega) (by omega) (by omega) (by omega)) (fun v37 w37 p37 => ?_)
 obtain ⟨s37, x37, i237, h237, rfl, os_37, xc_37, hx37, hi237, c37⟩ := p37
 have zw37 := c37.size
 have q39 := Chg.step (l := b2) (h := (c9 + 1)) (Chg.zero (l := b2) (h := (c9 + 1)) d32) c37 (by omega)
 have s38 : Chg b2 (c9 + 1) w21 w37 := q39
 refine wl_nil ?_
 refine dx_next s38 ?_
 refine dt 4 rfl rfl rfl rfl s38 (fun _ hS => px_build rfl (xbld27x0x1 rfl _)) ?_
 refine dx_eff 5 rfl (by kernel_rfl) ?_
 have f41 := fb2.ext cb4
 have f42 := f41.ext cq9
 have f46 := (((f42.ext c11).chg c15 (by omega)).chg c18 (by omega)).ext cb19
 have f47 := f46.chg cw21 (by omega)
 have f49 := (f47.ext d32).chg c37 (by omega)
 have f51 := (f31.ext d32).chg c37 (by omega)
 refine sx_store (vs := [.string s15, .bool (ng x18), s18]) rfl rfl f49 rfl Tryd.sizeOf27 (nbl rfl) (one_cons rfl (one_cons rfl (one_cons f51.one one_nil))) (fun w40 sw40 fw40 cw40 => ?_)
 have zw40 := cw40.size
 have gw40 : Blk w40 b2 [.string s15, .bool (ng x18), s18] 27 := fw40
 have q53 := Chg.step (l := b2) (h := (c9 + 1)) (Chg.zero (l := b2) (h := (c9 + 1)) d32) c37 (by omega)
 have q54 := Chg.step (l := b2) (h := (c9 + 1)) q53 cw40 (by omega)
 have s52 : Chg b2 (c9 + 1) w21 w40 := q54
 refine wl_nil ?_
 refine dx_next s52 ?_
 refine dx_eff 6 rfl (by kernel_rfl) ?_
 have f56 := fb4.ext cq9
 have f60 := (((f56.ext c11).chg c15 (by omega)).chg c18 (by omega)).ext cb19
 have f61 := f60.chg cw21 (by omega)
 have f64 := ((f61.ext d32).chg c37 (by omega)).chg cw40 (by omega)
 have f65 := os_37.chg cw40 (by omega)
 refine sx_store (vs := [.string s15, .bool (ng x37), s37]) rfl rfl f64 rfl Tryd.sizeOf27 (nbl rfl) (one_cons rfl (one_cons rfl (one_cons f65.one one_nil))) (fun w55 sw55 fw55 cw55 => ?_)
 have zw55 := cw55.size
 have gw55 : Blk w55 b4 [.string s15, .bool (ng x37), s37] 27 := fw55
 have q67 := Chg.step (l := b2) (h := (c9 + 1)) (Chg.zero (l := b2) (h := (c9 + 1)) d32) c37 (by omega)
 have q68 := Chg.step (l := b2) (h := (c9 + 1)) q67 cw40 (by omega)
 have q69 := Chg.step (l := b2) (h := (c9 + 1)) q68 cw55 (by omega)
 have s66 : Chg b2 (c9 + 1) w21 w55 := q69
 refine wl_nil ?_
 refine dx_next s66 ?_
 refine dx_done (by kernel_rfl) ?_
 refine q_n (k23 _ _ ?_)
 refine sx_retc ?_
 have f70 := gw40.chg cw55 (by omega)
 refine sx_ret2 Tryd.results4 ⟨_, rfl, f70.loadA (vs := [.string s15, .bool (ng x18), s18]) (look_lit rfl) Tryd.isAgg27 Tryd.sizeOf27⟩ ⟨_, rfl, gw55.loadA (vs := [.string s15, .bool (ng x37), s37]) (look_lit rfl) Tryd.isAgg27 Tryd.sizeOf27⟩ ?_
 have q71 := Chg.step (l := 0) (h := 0) (Chg.zero (l := 0) (h := 0) (((cb2.t cb4).t cq9).t c11)) c15 (by omega)
 have q72 := Chg.step (l := 0) (h := 0) q71 c18 (by omega)
 have q73 := Chg.step (l := 0) (h := 0) q72 cb19 (by omega)
 have q74 := Chg.step (l := 0) (h := 0) q73 cw21 (by omega)
 have q75 := Chg.step (l := 0) (h := 0) q74 d32 (by omega)
 have q76 := Chg.step (l := 0) (h := 0) q75 c37 (by omega)
 have q77 := Chg.step (l := 0) (h := 0) q76 cw40 (by omega)
 have q78 := Chg.step (l := 0) (h := 0) q77 cw55 (by omega)
 have f79 := f51.chg cw40 (by omega)
 have f80 := f79.chg cw55 (by omega)
 have f81 := f65.chg cw55 (by omega)
 exact ⟨_, _, _, _, _, rfl, (Sv.mono f80.sv (by omega) (by omega)), (Sv.mono f81.sv (by omega) (by omega)), codes_known _ (by assumption), ⟨by omega, by omega⟩, q78⟩

theorem c_currencyOf {w : World} {s : ByteArray} (hG0 : Glob w) :
  Ret Tryd.prog 68 [.string s] w fun v w' => v = .tuple #[.agg #[.string ((curOf s).code), .string ((curOf s).number), .int .i64 ((curOf s).places), .int .i64 ((curOf s).cash)], .bool (decide (Known s))] ∧ Chg 0 0 w w' := by
 refine sx_enter Tryd.func68 rfl Tryd.ntmps68 (nbl rfl) ?_
 refine sx_seq fun K1 k1 => sx_region ?_
 refine sx_alloc [.string (⟨#[]⟩), .string (⟨#[]⟩), .int .i64 0, .int .i64 0] rfl Tryd.zeroValue105 rfl (fun b2 w3 eb2 sb2 fb2 cb2 => ?_)
 have zw3 := cb2.size
 refine av rfl rfl (wl_nil (q_n (k1 _ _ ?_)))
 refine sx_seq fun K4 k4 => ?_
 refine sx_seq fun K5 k5 => sx_region ?_
 have f6 := hG0.ext cb2
 refine sp rfl (px_load rfl (Glob.load f6 Tryd.isAgg111 Tryd.sizeOf111)) ?_
 refine mv rfl rfl (wl_nil (q_n (k5 _ _ ?_)))
 refine sx_block ?_
 refine sx_loop (fun mm aa w' => ∃ (k : Nat), Agr 17 [(0, .string s), (2, .pointer (some ⟨b2, 0, none⟩)), (6, .agg (crCells tabI).toArray), (7, .int .i64 ↑k)] aa ∧ Chg 0 0 w3 w' ∧ (mm = 20 - k) ∧ (k ≤ 20) ∧ (∀ i, i < k → ¬ (tabI.getD i cr0).code = s)) (20) (fun a ha => ⟨0, ha.sub (Sub.c 0 rfl (.c 2 rfl (.c 6 rfl (.c 7 (look_int (t := 7) rfl (by first | omega | simp)) .nil)))), Chg.refl _ _ _, rfl, by omega, fun i h => by omega⟩) ?_
 rintro mm aa wl7 ⟨k, hAwl7, cwl7, hm, hk, hn⟩
 refine (show cw Tryd.prog 17 _ _ _ wl7 from ?_) aa hAwl7
 clear hAwl7
 have zwl7 := cwl7.size
 refine sx_seq fun K8 k8 => sx_region ?_
 refine sp rfl (px_lt rfl rfl) ?_
 refine wl_nil (q_n (k8 _ _ ?_))
 refine sx_seq fun K9 k9 => ?_
 refine sx_condP rfl (fun h39 => ?_) (fun h39 => ?_)
 ·
  refine sx_skip ?_
  refine q_n (k9 _ _ ?_)
  refine sx_seq fun K10 k10 => ?_
  refine sx_block ?_
  refine sx_seq fun K11 k11 => sx_region ?_
  refine sp rfl (px_indexCr (l := tabI) (j := k) rfl rfl (by omega) Tryd.underlying111 rfl Tryd.sizeOf105 Tryd.isAgg105 (by rw [show tabI.length = 20 from rfl]; omega)) ?_
  refine sx_alloc [.string (⟨#[]⟩), .string (⟨#[]⟩), .int .i64 0, .int .i64 0] rfl Tryd.zeroValue105 rfl (fun b12 w13 eb12 sb12 fb12 cb12 => ?_)
  have zw13 := cb12.size
  refine sx_store (vs := [.string ((tabI.getD k cr0).code), .string ((tabI.getD k cr0).number), .int .i64 ((tabI.getD k cr0).places), .int .i64 ((tabI.getD k cr0).cash)]) rfl rfl fb12 rfl Tryd.sizeOf105 (nbl rfl) (one_cons rfl (o3 rfl rfl rfl)) (fun w14 sw14 fw14 cw14 => ?_)
  have zw14 := cw14.size
  have gw14 : Blk w14 b12 [.string ((tabI.getD k cr0).code), .string ((tabI.getD k cr0).number), .int .i64 ((tabI.getD k cr0).places), .int .i64 ((tabI.getD k cr0).cash)] 105 := fw14
  refine wl_nil (q_n (k11 _ _ ?_))
  refine sx_seq fun K15 k15 => sx_region ?_
  refine sp rfl (px_field rfl xfld105x0) ?_
  refine sp rfl (px_load rfl (gw14.load1 rfl Tryd.isAgg9)) ?_
  refine mv rfl rfl (sp rfl (px_eqS rfl rfl) ?_)
  refine wl_nil (q_n (k15 _ _ ?_))
  refine sx_condP rfl (fun h40 => ?_) (fun h40 => ?_)
  ·
   refine sx_seq fun K16 k16 => sx_region ?_
   refine sp rfl (px_load rfl (gw14.loadA (vs := [.string ((tabI.getD k cr0).code), .string ((tabI.getD k cr0).number), .int .i64 ((tabI.getD k cr0).places), .int .i64 ((tabI.getD k cr0).cash)]) (look_lit rfl) Tryd.isAgg105 Tryd.sizeOf105)) ?_
   have f18 := fb2.ext cwl7
   have f19 := f18.ext cb12
   have f20 := f19.chg cw14 (by omega)
   refine sx_store (vs := [.string ((tabI.getD k cr0).code), .string ((tabI.getD k cr0).number), .int .i64 ((tabI.getD k cr0).places), .int .i64 ((tabI.getD k cr0).cash)]) rfl rfl f20 rfl Tryd.sizeOf105 (nbl rfl) (one_cons rfl (o3 rfl rfl rfl)) (fun w17 sw17 fw17 cw17 => ?_)
   have zw17 := cw17.size
   have gw17 : Blk w17 b2 [.string ((tabI.getD k cr0).code), .string ((tabI.getD k cr0).number), .int .i64 ((tabI.getD k cr0).places), .int .i64 ((tabI.getD k cr0).cash)] 105 := fw17
   refine av rfl rfl (wl_nil (q_n (k16 _ _ ?_)))
   refine sx_retc ?_
   refine q_br (q_r (q_r (q_br (q_r (sx_ret2 Tryd.results68 ⟨_, rfl, gw17.loadA (vs := [.string ((tabI.getD k cr0).code), .string ((tabI.getD k cr0).number), .int .i64 ((tabI.getD k cr0).places), .int .i64 ((tabI.getD k cr0).cash)]) (look_lit rfl) Tryd.isAgg105 Tryd.sizeOf105⟩ rfl ?_)))))
   have e := curOf_some (by rw [show tabI.length = 20 from rfl]; omega) hn h40
   have e2 := known_some (by rw [show tabI.length = 20 from rfl]; omega) hn h40
   rw [e]
   have q21 := Chg.step (l := 0) (h := 0) (Chg.zero (l := 0) (h := 0) ((cb2.t cwl7).t cb12)) cw14 (by omega)
   have q22 := Chg.step (l := 0) (h := 0) q21 cw17 (by omega)
   exact ⟨by simp [e2], q22⟩
  refine sx_skip ?_
  refine q_bn (q_n (k10 _ _ ?_))
  refine sx_region ?_
  refine sp rfl (px_add rfl rfl (by omega)) ?_
  refine mv rfl rfl (wl_nil ?_)
  have q23 := Chg.step (l := 0) (h := 0) (Chg.zero (l := 0) (h := 0) (cwl7.t cb12)) cw14 (by omega)
  exact fun a ha => ⟨_, by omega, (k + 1), ha.sub (Sub.c 0 rfl (.c 2 rfl (.c 6 rfl (.c 7 (look_int (t := 7) rfl (by first | omega | simp)) .nil)))), q23, rfl, by omega, upto_succ hn h40⟩
 refine sx_exit ?_
 refine q_e (q_e (q_bx (q_n (k4 _ _ ?_))))
 refine sx_seq fun K24 k24 => sx_region ?_
 refine sp rfl (px_build rfl (xbld105x  _)) ?_
 have f26 := fb2.ext cwl7
 refine sx_store (vs := [.string (⟨#[]⟩), .string (⟨#[]⟩), .int .i64 0, .int .i64 0]) rfl rfl f26 rfl Tryd.sizeOf105 (nbl rfl) (one_cons rfl (o3 rfl rfl rfl)) (fun w25 sw25 fw25 cw25 => ?_)
 have zw25 := cw25.size
 have gw25 : Blk w25 b2 [.string (⟨#[]⟩), .string (⟨#[]⟩), .int .i64 0, .int .i64 0] 105 := fw25
 refine av rfl rfl (wl_nil (q_n (k24 _ _ ?_)))
 refine sx_retc ?_
 refine sx_ret2 Tryd.results68 ⟨_, rfl, gw25.loadA (vs := [.string (⟨#[]⟩), .string (⟨#[]⟩), .int .i64 0, .int .i64 0]) (look_lit rfl) Tryd.isAgg105 Tryd.sizeOf105⟩ rfl ?_
 have e := curOf_none (s := s) (fun i hi => hn i (by rw [show tabI.length = 20 from rfl] at hi; omega))
 have e2 := known_none (s := s) (fun i hi => hn i (by rw [show tabI.length = 20 from rfl] at hi; omega))
 rw [e]
 have q27 := Chg.step (l := 0) (h := 0) (Chg.zero (l := 0) (h := 0) (cb2.t cwl7)) cw25 (by omega)
 exact ⟨by simp [e2, cr0], q27⟩

theorem c_iCurKnown {w : World} {s : ByteArray} (hG0 : Glob w) :
  Ret Tryd.prog 57 [.string s] w fun v w' => v = .bool (decide (Known s)) ∧ Chg 0 0 w w' := by
 refine sx_enter Tryd.func57 rfl Tryd.ntmps57 (nbl rfl) ?_
 refine sx_seq fun K1 k1 => sx_region ?_
 refine av rfl rfl (wl_nil (q_n (k1 _ _ ?_)))
 refine sx_seq fun K2 k2 => sx_region ?_
 refine mv rfl rfl (sx_call rfl rfl Tryd.call68 (c_currencyOf hG0) (fun v3 w3 p3 => ?_))
 obtain ⟨rfl, c3⟩ := p3
 have zw3 := c3.size
 refine mv rfl rfl (sp rfl (px_ex2 rfl rfl) ?_)
 refine sp rfl (px_ex2 rfl rfl) ?_
 refine sx_alloc [.string (⟨#[]⟩), .string (⟨#[]⟩), .int .i64 0, .int .i64 0] rfl Tryd.zeroValue105 rfl (fun b4 w5 eb4 sb4 fb4 cb4 => ?_)
 have zw5 := cb4.size
 refine sx_store (vs := [.string ((curOf s).code), .string ((curOf s).number), .int .i64 ((curOf s).places), .int .i64 ((curOf s).cash)]) rfl rfl fb4 rfl Tryd.sizeOf105 (nbl rfl) (one_cons rfl (o3 rfl rfl rfl)) (fun w6 sw6 fw6 cw6 => ?_)
 have zw6 := cw6.size
 have gw6 : Blk w6 b4 [.string ((curOf s).code), .string ((curOf s).number), .int .i64 ((curOf s).places), .int .i64 ((curOf s).cash)] 105 := fw6
 refine av rfl rfl (wl_nil (q_n (k2 _ _ ?_)))
 refine sx_seq fun K7 k7 => sx_region ?_
 refine mv rfl rfl (av rfl rfl (wl_nil (q_n (k7 _ _ ?_))))
 refine sx_retc ?_
 refine sx_ret1 Tryd.results57 rfl ?_
 have q8 := Chg.step (l := 0) (h := 0) (Chg.zero (l := 0) (h := 0) (c3.t cb4)) cw6 (by omega)
 exact ⟨rfl, q8⟩

theorem c_iMoneyOk {w : World} {c1 : ByteArray} {n1 : Bool} {v1 : Value} {lv1 uv1 : Nat} {z1 : List Int} (hG0 : Glob w) (hv1 : Sl w lv1 uv1 v1 (z1)) (h63 : z1.length ≤ 4611686018427387904) :
  Ret Tryd.prog 35 [.agg #[.string c1, .bool n1, v1]] w fun v w' => v = .bool (decide (MOk c1 n1 z1)) ∧ Chg 0 0 w w' := by
 have hv10 := hv1.fit
 refine sx_enter Tryd.func35 rfl Tryd.ntmps35 (nbl rfl) ?_
 refine sx_seq fun K1 k1 => sx_region ?_
 refine sx_box [.string c1, .bool n1, v1] rfl rfl rfl (fun b2 w3 eb2 sb2 fb2 cb2 => ?_)
 have zw3 := cb2.size
 refine av rfl rfl (wl_nil (q_n (k1 _ _ ?_)))
 refine sx_seq fun K4 k4 => sx_region ?_
 refine sp rfl (px_field rfl xfld27x0) ?_
 refine sp rfl (px_load rfl (fb2.load1 rfl Tryd.isAgg9)) ?_
 have f5 := hG0.ext cb2
 refine sx_call rfl rfl Tryd.call57 (c_iCurKnown f5) (fun v6 w6 p6 => ?_)
 obtain ⟨rfl, c6⟩ := p6
 have zw6 := c6.size
 refine mv rfl rfl ?_
 refine sx_tmpP (t := 6) rfl (fun h14 => ?_) (fun h14 => ?_)
 ·
  refine sx_guardT rfl rfl rfl ?_
  refine sp rfl (px_field rfl xfld27x1) ?_
  refine sx_guardT rfl rfl rfl ?_
  have f7 := fb2.ext c6
  refine sp rfl (px_load rfl (f7.loadA (vs := [.bool n1, v1]) (look_lit rfl) Tryd.isAgg25 Tryd.sizeOf25)) ?_
  refine sx_guardT rfl rfl rfl ?_
  have f8 := hv10.ext cb2
  have f9 := f8.ext c6
  refine sx_call rfl rfl Tryd.call18 (c_iIntOk f9 (by omega)) (fun v10 w10 p10 => ?_)
  obtain ⟨rfl, c10⟩ := p10
  have zw10 := c10.size
  refine sp rfl (px_pick rfl rfl) ?_
  refine mv rfl rfl ?_
  refine sx_tmpP (t := 11) rfl (fun h14x1 => ?_) (fun h14x1 => ?_)
  ·
   refine sx_guardT rfl rfl rfl ?_
   refine sp rfl (px_field rfl xfld27x1) ?_
   refine sx_guardT rfl rfl rfl ?_
   refine sp rfl (px_field rfl xfld25x1) ?_
   refine sx_guardT rfl rfl rfl ?_
   have f11 := f7.ext c10
   refine sp rfl (px_load rfl (f11.load1 rfl Tryd.isAgg23)) ?_
   refine sx_guardT rfl rfl rfl ?_
   have f12 := f9.ext c10
   refine sp rfl (px_len rfl Tryd.underlying23 f12) ?_
   refine sx_guardT rfl rfl rfl ?_
   refine sp rfl (px_le rfl rfl) ?_
   refine sp rfl (px_pick rfl rfl) ?_
   refine av rfl rfl (wl_nil (q_n (k4 _ _ ?_)))
   refine sx_sub (Sub.c 2 rfl .nil) ?_
   refine sx_retc ?_
   refine sx_ret1 Tryd.results35 rfl ?_
   exact ⟨(by first | exact bTrue (by grind [MOk]) | exact bFalse (by grind [MOk]) | exact bIff (by grind [MOk])), ((cb2.t c6).t c10)⟩
  refine sx_guardF rfl rfl rfl rfl rfl rfl ?_
  refine sx_guardF rfl rfl rfl rfl rfl rfl ?_
  refine sx_guardF rfl rfl rfl rfl rfl rfl ?_
  refine sx_guardF rfl rfl rfl rfl rfl rfl ?_
  refine sx_guardF rfl rfl rfl rfl rfl rfl ?_
  refine sp rfl (px_pick rfl rfl) ?_
  refine av rfl rfl (wl_nil (q_n (k4 _ _ ?_)))
  refine sx_sub (Sub.c 2 rfl .nil) ?_
  refine sx_retc ?_
  refine sx_ret1 Tryd.results35 rfl ?_
  exact ⟨(by first | exact bTrue (by grind [MOk]) | exact bFalse (by grind [MOk]) | exact bIff (by grind [MOk])), ((cb2.t c6).t c10)⟩
 refine sx_guardF rfl rfl rfl rfl rfl rfl ?_
 refine sx_guardF rfl rfl rfl rfl rfl rfl ?_
 refine sx_guardF rfl rfl rfl rfl rfl rfl ?_
 refine sp rfl (px_pick rfl rfl) ?_
 refine mv rfl rfl ?_
 refine sx_guardF rfl rfl rfl rfl rfl rfl ?_
 refine sx_guardF rfl rfl rfl rfl rfl rfl ?_
 refine sx_guardF rfl rfl rfl rfl rfl rfl ?_
 refine sx_guardF rfl rfl rfl rfl rfl rfl ?_
 refine sx_guardF rfl rfl rfl rfl rfl rfl ?_
 refine sp rfl (px_pick rfl rfl) ?_
 refine av rfl rfl (wl_nil (q_n (k4 _ _ ?_)))
 refine sx_sub (Sub.c 2 rfl .nil) ?_
 refine sx_retc ?_
 refine sx_ret1 Tryd.results35 rfl ?_
 exact ⟨(by first | exact bTrue (by grind [MOk]) | exact bFalse (by grind [MOk]) | exact bIff (by grind [MOk])), (cb2.t c6)⟩

theorem c_iShareMoney {w : World} {c : ByteArray} {va : Value} {lva uva : Nat} {x : Int} {vw : Value} {lvw uvw : Nat} {ws : List Int} (hG0 : Glob w) (hva : Sl w lva uva va (dg x.natAbs)) (hvw : Sl w lvw uvw vw (ws)) (hM : MOk c (ng x) (dg x.natAbs)) (hW : WOk ws) (hx : (dg x.natAbs).length ≤ 3) (hwl : ws.length ≤ 19) :
  Ret Tryd.prog 8 [.agg #[.string c, .bool (ng x), va], vw] w fun v w' => ∃ s us, v = .tuple #[s, .bool (true)] ∧ MtS w' (0) (w'.heap.size) s (mshs c x ws) us ∧ Chg 0 0 w w' := by
 have hva0 := hva.fit
 have hvw0 := hvw.fit
 have hsl := shrs_len (x := x) (ws := ws)
 have hn2 := hW.2.1
 refine sx_enter Tryd.func8 rfl Tryd.ntmps8 (nbl rfl) ?_
 refine sx_seq fun K1 k1 => sx_region ?_
 refine sx_box [.string c, .bool (ng x), va] rfl rfl rfl (fun b2 w3 eb2 sb2 fb2 cb2 => ?_)
 have zw3 := cb2.size
 refine av rfl rfl (av rfl rfl (wl_nil (q_n (k1 _ _ ?_))))
 refine sx_seq fun K4 k4 => ?_
 refine sx_seq fun K5 k5 => sx_region ?_
 refine sp rfl (px_load rfl (fb2.loadA (vs := [.string c, .bool (ng x), va]) (look_lit rfl) Tryd.isAgg27 Tryd.sizeOf27)) ?_
 have f6 := hG0.ext cb2
 have f7 := hva0.ext cb2
 refine sx_call rfl rfl Tryd.call35 (c_iMoneyOk f6 f7 (by omega)) (fun v8 w8 p8 => ?_)
 obtain ⟨rfl, c8⟩ := p8
 have zw8 := c8.size
 refine sp rfl (px_notP rfl) ?_
 refine wl_nil (q_n (k5 _ _ ?_))
 have h107 : ¬ (¬ (MOk c (ng x) (dg x.natAbs))) := fun h => h hM
 refine sx_condPF rfl h107 ?_
 refine sx_skip ?_
 refine q_n (k4 _ _ ?_)
 refine sx_seq fun K9 k9 => sx_region ?_
 refine sp rfl (px_field rfl xfld27x1) ?_
 have f10 := fb2.ext c8
 refine sp rfl (px_load rfl (f10.loadA (vs := [.bool (ng x), va]) (look_lit rfl) Tryd.isAgg25 Tryd.sizeOf25)) ?_
 refine mv rfl rfl ?_
 have f11 := f7.ext c8
 have f12 := hvw0.ext cb2
 have f13 := f12.ext c8
 refine sx_call rfl rfl Tryd.call6 (c_iShares f11 f13 (by assumption) (by omega) (.inl hwl)) (fun v14 w14 p14 => ?_)
 obtain ⟨s14, us14, rfl, os_14, hix14, c14⟩ := p14
 have zw14 := c14.size
 refine mv rfl rfl (sp rfl (px_ex2 rfl rfl) ?_)
 refine sp rfl (px_ex2 rfl rfl) ?_
 refine av rfl rfl (av rfl rfl (wl_nil (q_n (k9 _ _ ?_))))
 refine sx_sub (Sub.c 2 rfl (.c 4 rfl (.c 5 rfl (.c 6 rfl (.c 7 rfl .nil))))) ?_
 refine sx_seq fun K15 k15 => ?_
 refine sx_seq fun K16 k16 => sx_region ?_
 refine mv rfl rfl (sp rfl (px_not rfl) ?_)
 refine wl_nil (q_n (k16 _ _ ?_))
 refine sx_condF rfl ?_
 refine sx_skip ?_
 refine q_n (k15 _ _ ?_)
 refine sx_seq fun K17 k17 => sx_region ?_
 refine sx_lit0 rfl xelt35 (fun s18 ws18 ss18 fs18 cs18 => ?_)
 have zws18 := cs18.size
 refine av rfl rfl (wl_nil (q_n (k17 _ _ ?_)))
 refine sx_seq fun K19 k19 => ?_
 refine sx_seq fun K20 k20 => sx_region ?_
 refine mv rfl rfl ?_
 have f21 := os_14.ext cs18
 refine sp rfl (px_len rfl Tryd.underlying31 f21.sv) ?_
 refine mv rfl rfl (wl_nil (q_n (k20 _ _ ?_)))
 refine sx_block ?_
 have hul : us14.length = ws.length := by have h9 := (f21).len; rw [shrs_len] at h9; exact h9
 have f24 := (f10.ext c14).ext cs18
 refine sx_loop (fun mm aa w' => ∃ (k : Nat) (os : Value), Agr 39 [(2, .pointer (some ⟨b2, 0, none⟩)), (8, os), (24, s14), (25, .int .i64 (↑((shrs x ws).length))), (26, .int .i64 ↑k)] aa ∧ Chg w14.heap.size ws18.heap.size ws18 w' ∧ Blk w' b2 [.string c, .bool (ng x), va] 27 ∧ Own w' w14.heap.size w'.heap.size os 27 k 3 (mtCells ((mshs c x ws).take k) (us14.take k)) ∧ (mm = ws.length - k) ∧ (k ≤ ws.length)) (_) (fun a ha => ⟨0, s18, ha.sub (Sub.c 2 rfl (.c 8 rfl (.c 24 rfl (.c 25 rfl (.c 26 (look_int (t := 26) rfl (by first | omega | simp)) .nil))))), Chg.refl _ _ _, f24, (fs18.mono (by omega) (by omega)), rfl, by omega⟩) ?_
 rintro mm aa wl22 ⟨k, os, hAwl22, cwl22, hb_b2, hs_os, hm, hk⟩
 refine (show cw Tryd.prog 39 _ _ _ wl22 from ?_) aa hAwl22
 clear hAwl22
 have zwl22 := cwl22.size
 refine sx_seq fun K25 k25 => sx_region ?_
 refine sp rfl (px_lt rfl rfl) ?_
 refine wl_nil (q_n (k25 _ _ ?_))
 refine sx_seq fun K26 k26 => ?_
 refine sx_condP rfl (fun h115 => ?_) (fun h115 => ?_)
 ·
  refine sx_skip ?_
  refine q_n (k26 _ _ ?_)
  refine sx_seq fun K27 k27 => ?_
  refine sx_block ?_
  refine sx_seq fun K28 k28 => sx_region ?_
  have f29 := f21.chg cwl22 (by omega)
  refine sp rfl (px_indexK (j := k) rfl rfl (by omega) Tryd.underlying31 Tryd.sizeOf25 f29.sv (by omega)) ?_
  refine sp rfl (px_load rfl (f29.sv.loadA (sg_look (by omega)) Tryd.isAgg25 Tryd.sizeOf25)) ?_
  refine sx_alloc [.bool false, (.slice none 0 0)] rfl Tryd.zeroValue25 rfl (fun b30 w31 eb30 sb30 fb30 cb30 => ?_)
  have zw31 := cb30.size
  have f33 := (f29.nest k (by omega)).ext cb30
  refine sx_store (vs := [.bool (ng ((shrs x ws).getD k 0)), (us14.getD k vz)]) rfl rfl fb30 rfl Tryd.sizeOf25 (nbl rfl) (one_cons rfl (one_cons f33.one one_nil)) (fun w32 sw32 fw32 cw32 => ?_)
  have zw32 := cw32.size
  have gw32 : Blk w32 b30 [.bool (ng ((shrs x ws).getD k 0)), (us14.getD k vz)] 25 := fw32
  refine wl_nil (q_n (k28 _ _ ?_))
  have f34 := f33.chg cw32 (by omega)
  have honm := f34.one
  refine sx_region ?_
  refine mv rfl rfl (sp rfl (px_field rfl xfld27x0) ?_)
  have f35 := hb_b2.ext cb30
  have f36 := f35.chg cw32 (by omega)
  refine sp rfl (px_load rfl (f36.load1 rfl Tryd.isAgg9)) ?_
  refine sp rfl (px_load rfl (gw32.loadA (vs := [.bool (ng ((shrs x ws).getD k 0)), (us14.getD k vz)]) (look_lit rfl) Tryd.isAgg25 Tryd.sizeOf25)) ?_
  refine sp rfl (px_build rfl (xbld27x0x1 rfl _)) ?_
  refine sx_lit1A3 rfl xelt35 rfl (fun s37 ws37 ss37 fs37 cs37 => ?_)
  have zws37 := cs37.size
  have f39 := hs_os.ext cb30
  have f40 := f39.chg cw32 (by omega)
  have f41 := f40.ext cs37
  refine sx_append rfl xelt35 rfl rfl f41 fs37.sv (by intro u hu; simp only [List.mem_cons, List.not_mem_nil, or_false] at hu; rcases hu with rfl | rfl | rfl; rfl; rfl; exact honm) (by omega) (by omega) (by unfold maxLen; omega) (fun a38 w38 fw38 cw38 => ?_)
  have zw38 := cw38.size
  refine av rfl rfl (wl_nil ?_)
  refine q_bn (q_n (k27 _ _ ?_))
  refine sx_sub (Sub.c 2 rfl (.c 8 rfl (.c 24 rfl (.c 25 rfl (.c 26 rfl .nil))))) ?_
  refine sx_region ?_
  refine sp rfl (px_add rfl rfl (by omega)) ?_
  refine mv rfl rfl (wl_nil ?_)
  have q42 := Chg.step (l := w14.heap.size) (h := ws18.heap.size) cwl22 cb30 (by omega)
  have q43 := Chg.step (l := w14.heap.size) (h := ws18.heap.size) q42 cw32 (by omega)
  have q44 := Chg.step (l := w14.heap.size) (h := ws18.heap.size) q43 cs37 (by omega)
  have q45 := Chg.step (l := w14.heap.size) (h := ws18.heap.size) q44 cw38 (by omega)
  have f46 := f36.ext cs37
  have f47 := f46.chg cw38 (by omega)
  exact fun a ha => ⟨_, by omega, (k + 1), a38, ha.sub (Sub.c 2 rfl (.c 8 rfl (.c 24 rfl (.c 25 rfl (.c 26 (look_int (t := 26) rfl (by first | omega | simp)) .nil))))), q45, f47, (by rw [msh_more (by omega) hul]; exact (fw38.mono (by omega) (by omega))), rfl, by omega⟩
 refine sx_exit ?_
 refine q_e (q_e (q_bx (q_n (k19 _ _ ?_))))
 refine sx_seq fun K48 k48 => sx_region ?_
 refine mv rfl rfl (av rfl rfl (av rfl rfl (wl_nil (q_n (k48 _ _ ?_)))))
 refine sx_retc ?_
 refine sx_ret2 Tryd.results8 rfl rfl ?_
 have f49 := f21.chg cwl22 (by omega)
 have q50 := Chg.step (l := 0) (h := 0) (Chg.zero (l := 0) (h := 0) (((cb2.t c8).t c14).t cs18)) cwl22 (by omega)
 exact ⟨_, us14, rfl, msh_of hs_os (by omega) hul (fun i hi => by have h9 := (f49).nest i (by rw [shrs_len]; exact hi); rw [shrs_get hi] at h9; exact (h9.mono (Nat.zero_le _) (Nat.le_refl _)).fit), q50⟩

theorem c_moneyOf {w : World} {c : ByteArray} {va : Value} {lva uva : Nat} {x : Int} (hG0 : Glob w) (hva : OwnI w lva uva va intT (dg x.natAbs)) (hbx : (dg x.natAbs).length ≤ 1000) (hu : uva ≤ w.heap.size) :
  Ret Tryd.prog 37 [.string c, .agg #[.bool (ng x), va]] w fun v w' => ∃ s, v = .tuple #[.agg #[.string ((mR c x).1), .bool ((mR c x).2.1), s], .bool ((mR c x).2.2.2)] ∧ OwnI w' (lva) (uva) s intT ((mR c x).2.2.1) ∧ Chg 0 0 w w' := by
 refine sx_enter Tryd.func37 rfl Tryd.ntmps37 (nbl rfl) ?_
 refine sx_seq fun K1 k1 => sx_region ?_
 refine sx_box [.bool (ng x), va] rfl rfl rfl (fun b2 w3 eb2 sb2 fb2 cb2 => ?_)
 have zw3 := cb2.size
 refine sx_alloc [.string (⟨#[]⟩), .bool false, (.slice none 0 0)] rfl Tryd.zeroValue27 rfl (fun b4 w5 eb4 sb4 fb4 cb4 => ?_)
 have zw5 := cb4.size
 refine av rfl rfl (wl_nil (q_n (k1 _ _ ?_)))
 refine sx_seq fun K6 k6 => ?_
 refine sx_seq fun K7 k7 => sx_region ?_
 refine mv rfl rfl ?_
 have f8 := fb2.ext cb4
 refine sp rfl (px_load rfl (f8.loadA (vs := [.bool (ng x), va]) (look_lit rfl) Tryd.isAgg25 Tryd.sizeOf25)) ?_
 refine sp rfl (px_build rfl (xbld27x0x1 rfl _)) ?_
 refine sx_alloc [.string (⟨#[]⟩), .bool false, (.slice none 0 0)] rfl Tryd.zeroValue27 rfl (fun b9 w10 eb9 sb9 fb9 cb9 => ?_)
 have zw10 := cb9.size
 have f12 := hva.ext cb2
 have f13 := f12.ext cb4
 have f14 := f13.ext cb9
 refine sx_store (vs := [.string c, .bool (ng x), va]) rfl rfl fb9 rfl Tryd.sizeOf27 (nbl rfl) (one_cons rfl (one_cons rfl (one_cons f14.one one_nil))) (fun w11 sw11 fw11 cw11 => ?_)
 have zw11 := cw11.size
 have gw11 : Blk w11 b9 [.string c, .bool (ng x), va] 27 := fw11
 refine wl_nil (q_n (k7 _ _ ?_))
 refine sx_seq fun K15 k15 => sx_region ?_
 refine sp rfl (px_load rfl (gw11.loadA (vs := [.string c, .bool (ng x), va]) (look_lit rfl) Tryd.isAgg27 Tryd.sizeOf27)) ?_
 have f16 := hG0.ext cb2
 have f17 := f16.ext cb4
 have f18 := f17.ext cb9
 have f19 := f18.chg cw11 (by omega)
 have f20 := f14.chg cw11 (by omega)
 refine sx_call rfl rfl Tryd.call35 (c_iMoneyOk f19 f20.sv (by omega)) (fun v21 w21 p21 => ?_)
 obtain ⟨rfl, c21⟩ := p21
 have zw21 := c21.size
 refine wl_nil (q_n (k15 _ _ ?_))
 refine sx_condP rfl (fun h19 => ?_) (fun h19 => ?_)
 ·
  refine sx_seq fun K22 k22 => sx_region ?_
  have f23 := gw11.ext c21
  refine sp rfl (px_load rfl (f23.loadA (vs := [.string c, .bool (ng x), va]) (look_lit rfl) Tryd.isAgg27 Tryd.sizeOf27)) ?_
  have f25 := fb4.ext cb9
  have f26 := f25.chg cw11 (by omega)
  have f27 := f26.ext c21
  have f28 := f20.ext c21
  refine sx_store (vs := [.string c, .bool (ng x), va]) rfl rfl f27 rfl Tryd.sizeOf27 (nbl rfl) (one_cons rfl (one_cons rfl (one_cons f28.one one_nil))) (fun w24 sw24 fw24 cw24 => ?_)
  have zw24 := cw24.size
  have gw24 : Blk w24 b4 [.string c, .bool (ng x), va] 27 := fw24
  refine av rfl rfl (wl_nil (q_n (k22 _ _ ?_)))
  refine sx_retc ?_
  refine q_r (sx_ret2 Tryd.results37 ⟨_, rfl, gw24.loadA (vs := [.string c, .bool (ng x), va]) (look_lit rfl) Tryd.isAgg27 Tryd.sizeOf27⟩ rfl ?_)
  rw [mR_ok (by first | exact h19 | exact Decidable.not_not.1 h19)]
  have q29 := Chg.step (l := 0) (h := 0) (Chg.zero (l := 0) (h := 0) ((cb2.t cb4).t cb9)) cw11 (by omega)
  have q30 := Chg.step (l := 0) (h := 0) q29 c21 (by omega)
  have q31 := Chg.step (l := 0) (h := 0) q30 cw24 (by omega)
  have f32 := f28.chg cw24 (by omega)
  exact ⟨_, rfl, (Own.mono f32 (by omega) (by omega)), q31⟩
 refine sx_skip ?_
 refine q_n (k6 _ _ ?_)
 refine sx_seq fun K33 k33 => sx_region ?_
 refine sp rfl (px_build rfl (xbld27x  _)) ?_
 have f35 := fb4.ext cb9
 have f36 := f35.chg cw11 (by omega)
 have f37 := f36.ext c21
 refine sx_store (vs := [.string (⟨#[]⟩), .bool false, (.slice none 0 0)]) rfl rfl f37 rfl Tryd.sizeOf27 (nbl rfl) (o3 rfl rfl rfl) (fun w34 sw34 fw34 cw34 => ?_)
 have zw34 := cw34.size
 have gw34 : Blk w34 b4 [.string (⟨#[]⟩), .bool false, (.slice none 0 0)] 27 := fw34
 refine av rfl rfl (wl_nil (q_n (k33 _ _ ?_)))
 refine sx_retc ?_
 refine sx_ret2 Tryd.results37 ⟨_, rfl, gw34.loadA (vs := [.string (⟨#[]⟩), .bool false, (.slice none 0 0)]) (look_lit rfl) Tryd.isAgg27 Tryd.sizeOf27⟩ rfl ?_
 rw [mR_no (by first | exact h19 | assumption)]
 have q38 := Chg.step (l := 0) (h := 0) (Chg.zero (l := 0) (h := 0) ((cb2.t cb4).t cb9)) cw11 (by omega)
 have q39 := Chg.step (l := 0) (h := 0) q38 c21 (by omega)
 have q40 := Chg.step (l := 0) (h := 0) q39 cw34 (by omega)
 exact ⟨_, rfl, Own.nil _ _ _ _ _, q40⟩

theorem c_iMoneySum {w : World} {c : ByteArray} {vl : Value} {lvl uvl : Nat} {ts : List Mt} {vvl : List Value} (hG0 : Glob w) (hvl : MtS w lvl uvl vl ts vvl) (h63 : ts.length ≤ 4611686018427387904) (hz : ∀ i, i < ts.length → (ts.getD i mt0).2.2.length ≤ 4611686018427387904) :
  Ret Tryd.prog 9 [.string c, vl] w fun v w' => ∃ s, v = .tuple #[.agg #[.string ((msum c ts).1), .bool ((msum c ts).2.1), s], .bool ((msum c ts).2.2.2)] ∧ OwnI w' w.heap.size w'.heap.size s intT ((msum c ts).2.2.1) ∧ ((msum c ts).2.2.1.length ≤ 4) ∧ Chg 0 0 w w' := by
 have hvl0 := hvl.fit
 refine sx_enter Tryd.func9 rfl Tryd.ntmps9 (nbl rfl) ?_
 refine sx_seq fun K1 k1 => sx_region ?_
 refine sx_alloc [.string (⟨#[]⟩), .bool false, (.slice none 0 0)] rfl Tryd.zeroValue27 rfl (fun b2 w3 eb2 sb2 fb2 cb2 => ?_)
 have zw3 := cb2.size
 refine av rfl rfl (wl_nil (q_n (k1 _ _ ?_)))
 refine sx_seq fun K4 k4 => sx_region ?_
 refine sp rfl (px_build rfl (xbld25x  _)) ?_
 refine sx_alloc [.bool false, (.slice none 0 0)] rfl Tryd.zeroValue25 rfl (fun b5 w6 eb5 sb5 fb5 cb5 => ?_)
 have zw6 := cb5.size
 refine sx_store (vs := [.bool false, (.slice none 0 0)]) rfl rfl fb5 rfl Tryd.sizeOf25 (nbl rfl) (o2 rfl rfl) (fun w7 sw7 fw7 cw7 => ?_)
 have zw7 := cw7.size
 have gw7 : Blk w7 b5 [.bool false, (.slice none 0 0)] 25 := fw7
 refine wl_nil (q_n (k4 _ _ ?_))
 refine sx_seq fun K8 k8 => ?_
 refine sx_seq fun K9 k9 => sx_region ?_
 refine mv rfl rfl ?_
 have f10 := hvl0.ext cb2
 have f11 := f10.ext cb5
 have f12 := f11.chg cw7 (by omega)
 refine sp rfl (px_len rfl Tryd.underlying35 f12.sv) ?_
 refine mv rfl rfl (wl_nil (q_n (k9 _ _ ?_)))
 refine sx_block ?_
 have hbz : Blk w7 b5 [.bool (ng (0 : Int)), (.slice none 0 0)] 25 := gw7
 have hnz : OwnI w7 w7.heap.size w7.heap.size (.slice none 0 0) intT (dg (0 : Int).natAbs) := by rw [show (0 : Int).natAbs = 0 from rfl, dg_zero]; exact Own.nil _ _ _ _ _
 have f14 := fb2.ext cb5
 have f15 := f14.chg cw7 (by omega)
 refine sx_loop (fun mm aa w' => ∃ (k : Nat) (x : Int) (s : Value) (gl : Nat) (gh : Nat), Agr 36 [(0, .string c), (4, .pointer (some ⟨b2, 0, none⟩)), (5, .bool false), (6, .pointer (some ⟨b5, 0, none⟩)), (10, vl), (11, .int .i64 (↑(ts).length)), (12, .int .i64 ↑k)] aa ∧ Chg b5 (b5 + 1) w7 w' ∧ Blk w' b5 [.bool (ng (x)), s] 25 ∧ Blk w' b2 [.string (⟨#[]⟩), .bool false, (.slice none 0 0)] 27 ∧ Own w' gl gh s intT ((dg (x).natAbs).length) 1 ((dg (x).natAbs).map (Value.int .i64)) ∧ (mm = ts.length - k) ∧ (k ≤ ts.length) ∧ (x = sumTo ts k) ∧ (AllM c ts k) ∧ (w7.heap.size ≤ gl ∧ gh ≤ w'.heap.size)) (_) (fun a ha => ⟨0, (0 : Int), (.slice none 0 0), w7.heap.size, w7.heap.size, ha.sub (Sub.c 0 rfl (.c 4 rfl (.c 5 rfl (.c 6 rfl (.c 10 rfl (.c 11 (look_int (t := 11) rfl (by first | omega | simp)) (.c 12 (look_int (t := 12) rfl (by first | omega | simp)) .nil))))))), Chg.refl _ _ _, hbz, f15, hnz, rfl, by omega, rfl, AllM_zero c ts, ⟨Nat.le_refl _, Nat.le_refl _⟩⟩) ?_
 rintro mm aa wl13 ⟨k, x, s, gl, gh, hAwl13, cwl13, hb_b5, hb_b2, hs_s, hm, hk, hx, hall, hgl⟩
 refine (show cw Tryd.prog 36 _ _ _ wl13 from ?_) aa hAwl13
 clear hAwl13
 have zwl13 := cwl13.size
 have hsl := msumTo_len hall (by omega)
 rw [← hx] at hsl
 refine sx_seq fun K16 k16 => sx_region ?_
 refine sp rfl (px_lt rfl rfl) ?_
 refine wl_nil (q_n (k16 _ _ ?_))
 refine sx_seq fun K17 k17 => ?_
 refine sx_condP rfl (fun h120 => ?_) (fun h120 => ?_)
 ·
  refine sx_skip ?_
  refine q_n (k17 _ _ ?_)
  refine sx_seq fun K18 k18 => ?_
  refine sx_block ?_
  refine sx_seq fun K19 k19 => sx_region ?_
  have f20 := f12.chg cwl13 (by omega)
  refine sp rfl (px_indexK (j := k) rfl rfl (by omega) Tryd.underlying35 Tryd.sizeOf27 f20.sv (by omega)) ?_
  refine sp rfl (px_load rfl (f20.sv.loadA (mt_look f20.len (by omega)) Tryd.isAgg27 Tryd.sizeOf27)) ?_
  refine sx_alloc [.string (⟨#[]⟩), .bool false, (.slice none 0 0)] rfl Tryd.zeroValue27 rfl (fun b21 w22 eb21 sb21 fb21 cb21 => ?_)
  have zw22 := cb21.size
  have f24 := (f20.nest k (by omega)).ext cb21
  refine sx_store (vs := [.string ((ts.getD k mt0).1), .bool ((ts.getD k mt0).2.1), (vvl.getD k vz)]) rfl rfl fb21 rfl Tryd.sizeOf27 (nbl rfl) (one_cons rfl (one_cons rfl (one_cons f24.one one_nil))) (fun w23 sw23 fw23 cw23 => ?_)
  have zw23 := cw23.size
  have gw23 : Blk w23 b21 [.string ((ts.getD k mt0).1), .bool ((ts.getD k mt0).2.1), (vvl.getD k vz)] 27 := fw23
  refine wl_nil (q_n (k19 _ _ ?_))
  refine sx_seq fun K25 k25 => ?_
  refine sx_seq fun K26 k26 => sx_region ?_
  refine sp rfl (px_load rfl (gw23.loadA (vs := [.string ((ts.getD k mt0).1), .bool ((ts.getD k mt0).2.1), (vvl.getD k vz)]) (look_lit rfl) Tryd.isAgg27 Tryd.sizeOf27)) ?_
  have f27 := hG0.ext cb2
  have f28 := f27.ext cb5
  have f29 := f28.chg cw7 (by omega)
  have f30 := f29.chg cwl13 (by omega)
  have f31 := f30.ext cb21
  have f32 := f31.chg cw23 (by omega)
  have f33 := f24.chg cw23 (by omega)
  refine sx_call rfl rfl Tryd.call35 (c_iMoneyOk f32 f33 (hz k (by omega))) (fun v34 w34 p34 => ?_)
  obtain ⟨rfl, c34⟩ := p34
  have zw34 := c34.size
  refine sp rfl (px_notP rfl) ?_
  refine mv rfl rfl ?_
  refine sx_tmpP (t := 19) rfl (fun h121 => ?_) (fun h121 => ?_)
  ·
   refine sx_guardF rfl rfl rfl rfl rfl rfl ?_
   refine sx_guardF rfl rfl rfl rfl rfl rfl ?_
   refine sx_guardF rfl rfl rfl rfl rfl rfl ?_
   refine sx_guardF rfl rfl rfl rfl rfl rfl ?_
   refine sp rfl (px_pick rfl rfl) ?_
   refine wl_nil (q_n (k26 _ _ ?_))
   refine sx_sub (Sub.c 0 rfl (.c 4 rfl (.c 5 rfl (.c 6 rfl (.c 8 rfl (.c 10 rfl (.c 11 rfl (.c 12 rfl (.c 24 rfl .nil))))))))) ?_
   refine sx_condT rfl ?_
   refine sx_seq fun K35 k35 => sx_region ?_
   refine sp rfl (px_build rfl (xbld27x  _)) ?_
   have f37 := hb_b2.ext cb21
   have f38 := f37.chg cw23 (by omega)
   have f39 := f38.ext c34
   refine sx_store (vs := [.string (⟨#[]⟩), .bool false, (.slice none 0 0)]) rfl rfl f39 rfl Tryd.sizeOf27 (nbl rfl) (o3 rfl rfl rfl) (fun w36 sw36 fw36 cw36 => ?_)
   have zw36 := cw36.size
   have gw36 : Blk w36 b2 [.string (⟨#[]⟩), .bool false, (.slice none 0 0)] 27 := fw36
   refine av rfl rfl (wl_nil (q_n (k35 _ _ ?_)))
   refine sx_retc ?_
   refine q_r (q_br (q_r (q_r (q_br (q_r (sx_ret2 Tryd.results9 ⟨_, rfl, gw36.loadA (vs := [.string (⟨#[]⟩), .bool false, (.slice none 0 0)]) (look_lit rfl) Tryd.isAgg27 Tryd.sizeOf27⟩ rfl ?_))))))
   rw [msum_no (k := k) (by omega) (fun hh => by first | exact h121 hh.1 | exact h121x1 hh.2)]
   have q40 := Chg.step (l := 0) (h := 0) (Chg.zero (l := 0) (h := 0) (cb2.t cb5)) cw7 (by omega)
   have q41 := Chg.step (l := 0) (h := 0) q40 cwl13 (by omega)
   have q42 := Chg.step (l := 0) (h := 0) q41 cb21 (by omega)
   have q43 := Chg.step (l := 0) (h := 0) q42 cw23 (by omega)
   have q44 := Chg.step (l := 0) (h := 0) q43 c34 (by omega)
   have q45 := Chg.step (l := 0) (h := 0) q44 cw36 (by omega)
   exact ⟨_, rfl, Own.nil _ _ _ _ _, by simp [noM], q45⟩
  refine sx_guardT rfl rfl rfl ?_
  refine sp rfl (px_field rfl xfld27x0) ?_
  refine sx_guardT rfl rfl rfl ?_
  have f46 := gw23.ext c34
  refine sp rfl (px_load rfl (f46.load1 rfl Tryd.isAgg9)) ?_
  refine sx_guardT rfl rfl rfl ?_
  refine mv rfl rfl ?_
  refine sx_guardT rfl rfl rfl ?_
  refine sp rfl (px_neS rfl rfl) ?_
  refine sp rfl (px_pick rfl rfl) ?_
  refine wl_nil (q_n (k26 _ _ ?_))
  refine sx_sub (Sub.c 0 rfl (.c 4 rfl (.c 5 rfl (.c 6 rfl (.c 8 rfl (.c 10 rfl (.c 11 rfl (.c 12 rfl (.c 24 rfl .nil))))))))) ?_
  refine sx_condP rfl (fun h121x1 => ?_) (fun h121x1 => ?_)
  ·
   refine sx_seq fun K47 k47 => sx_region ?_
   refine sp rfl (px_build rfl (xbld27x  _)) ?_
   have f49 := hb_b2.ext cb21
   have f50 := f49.chg cw23 (by omega)
   have f51 := f50.ext c34
   refine sx_store (vs := [.string (⟨#[]⟩), .bool false, (.slice none 0 0)]) rfl rfl f51 rfl Tryd.sizeOf27 (nbl rfl) (o3 rfl rfl rfl) (fun w48 sw48 fw48 cw48 => ?_)
   have zw48 := cw48.size
   have gw48 : Blk w48 b2 [.string (⟨#[]⟩), .bool false, (.slice none 0 0)] 27 := fw48
   refine av rfl rfl (wl_nil (q_n (k47 _ _ ?_)))
   refine sx_retc ?_
   refine q_r (q_br (q_r (q_r (q_br (q_r (sx_ret2 Tryd.results9 ⟨_, rfl, gw48.loadA (vs := [.string (⟨#[]⟩), .bool false, (.slice none 0 0)]) (look_lit rfl) Tryd.isAgg27 Tryd.sizeOf27⟩ rfl ?_))))))
   rw [msum_no (k := k) (by omega) (fun hh => by first | exact h121 hh.1 | exact h121x1 hh.2)]
   have q52 := Chg.step (l := 0) (h := 0) (Chg.zero (l := 0) (h := 0) (cb2.t cb5)) cw7 (by omega)
   have q53 := Chg.step (l := 0) (h := 0) q52 cwl13 (by omega)
   have q54 := Chg.step (l := 0) (h := 0) q53 cb21 (by omega)
   have q55 := Chg.step (l := 0) (h := 0) q54 cw23 (by omega)
   have q56 := Chg.step (l := 0) (h := 0) q55 c34 (by omega)
   have q57 := Chg.step (l := 0) (h := 0) q56 cw48 (by omega)
   exact ⟨_, rfl, Own.nil _ _ _ _ _, by simp [noM], q57⟩
  have hM := Decidable.not_not.1 h121
  have hC := Decidable.not_not.1 h121x1
  obtain ⟨y, hy1, hy2, hy⟩ := hM.int
  have hla := len_addI x y
  have f58 := f33.ext c34
  have f59 := f58
  rw [hy2] at f59
  have f60 := f46
  rw [hy1] at f60
  refine sx_skip ?_
  refine q_n (k25 _ _ ?_)
  refine sx_region ?_
  have f61 := hb_b5.ext cb21
  have f62 := f61.chg cw23 (by omega)
  have f63 := f62.ext c34
  refine sp rfl (px_load rfl (f63.loadA (vs := [.bool (ng (x)), s]) (look_lit rfl) Tryd.isAgg25 Tryd.sizeOf25)) ?_
  refine sp rfl (px_field rfl xfld27x1) ?_
  refine sp rfl (px_load rfl (f60.loadA (vs := [.bool (ng y), (vvl.getD k vz)]) (look_lit rfl) Tryd.isAgg25 Tryd.sizeOf25)) ?_
  have f64 := hs_s.ext cb21
  have f65 := f64.chg cw23 (by omega)
  have f66 := f65.ext c34
  refine sx_call rfl rfl Tryd.call36 (c_intAdd f66.sv f59 (by omega) (by omega)) (fun v67 w67 p67 => ?_)
  obtain ⟨s67, rfl, os_67, c67⟩ := p67
  have zw67 := c67.size
  have f69 := f63.ext c67
  refine sx_store (vs := [.bool (ng ((x) + (y))), s67]) rfl rfl f69 rfl Tryd.sizeOf25 (nbl rfl) (one_cons rfl (one_cons os_67.one one_nil)) (fun w68 sw68 fw68 cw68 => ?_)
  have zw68 := cw68.size
  have gw68 : Blk w68 b5 [.bool (ng ((x) + (y))), s67] 25 := fw68
  refine wl_nil ?_
  refine q_bn (q_n (k18 _ _ ?_))
  refine sx_region ?_
  refine sp rfl (px_add rfl rfl (by omega)) ?_
  refine mv rfl rfl (wl_nil ?_)
  have q70 := Chg.step (l := b5) (h := (b5 + 1)) cwl13 cb21 (by omega)
  have q71 := Chg.step (l := b5) (h := (b5 + 1)) q70 cw23 (by omega)
  have q72 := Chg.step (l := b5) (h := (b5 + 1)) q71 (c34.t c67) (by omega)
  have q73 := Chg.step (l := b5) (h := (b5 + 1)) q72 cw68 (by omega)
  have f74 := hb_b2.ext cb21
  have f75 := f74.chg cw23 (by omega)
  have f78 := ((f75.ext c34).ext c67).chg cw68 (by omega)
  have f79 := os_67.chg cw68 (by omega)
  exact fun a ha => ⟨_, by omega, (k + 1), (x + y), s67, w34.heap.size, w67.heap.size, ha.sub (Sub.c 0 rfl (.c 4 rfl (.c 5 rfl (.c 6 rfl (.c 10 rfl (.c 11 rfl (.c 12 (look_int (t := 12) rfl (by first | omega | simp)) .nil))))))), q73, gw68, f78, (f79.mono (by omega) (by omega)), rfl, by omega, by show x + y = sumTo ts k + vI _ _; rw [hx, hy1, hy2, vI_ng], AllM_succ hall hM hC, by omega⟩
 refine sx_exit ?_
 refine q_e (q_e (q_bx (q_n (k8 _ _ ?_))))
 refine sx_seq fun K80 k80 => sx_region ?_
 refine mv rfl rfl (sp rfl (px_load rfl (hb_b5.loadA (vs := [.bool (ng (x)), s]) (look_lit rfl) Tryd.isAgg25 Tryd.sizeOf25)) ?_)
 have f81 := hG0.ext cb2
 have f82 := f81.ext cb5
 have f83 := f82.chg cw7 (by omega)
 have f84 := f83.chg cwl13 (by omega)
 refine sx_call rfl rfl Tryd.call37 (c_moneyOf f84 hs_s (by omega) (by omega)) (fun v85 w85 p85 => ?_)
 obtain ⟨s85, rfl, os_85, c85⟩ := p85
 have zw85 := c85.size
 refine sp rfl (px_ex2 rfl rfl) ?_
 refine sp rfl (px_ex2 rfl rfl) ?_
 have f87 := hb_b2.ext c85
 refine sx_store (vs := [.string ((mR c (x)).1), .bool ((mR c (x)).2.1), s85]) rfl rfl f87 rfl Tryd.sizeOf27 (nbl rfl) (one_cons rfl (one_cons rfl (one_cons os_85.one one_nil))) (fun w86 sw86 fw86 cw86 => ?_)
 have zw86 := cw86.size
 have gw86 : Blk w86 b2 [.string ((mR c (x)).1), .bool ((mR c (x)).2.1), s85] 27 := fw86
 refine av rfl rfl (wl_nil (q_n (k80 _ _ ?_)))
 refine sx_retc ?_
 refine sx_ret2 Tryd.results9 ⟨_, rfl, gw86.loadA (vs := [.string ((mR c (x)).1), .bool ((mR c (x)).2.1), s85]) (look_lit rfl) Tryd.isAgg27 Tryd.sizeOf27⟩ rfl ?_
 have ek : k = ts.length := by omega
 subst ek
 rw [msum_ok hall, ← hx]
 have q88 := Chg.step (l := 0) (h := 0) (Chg.zero (l := 0) (h := 0) (cb2.t cb5)) cw7 (by omega)
 have q89 := Chg.step (l := 0) (h := 0) q88 cwl13 (by omega)
 have q90 := Chg.step (l := 0) (h := 0) q89 c85 (by omega)
 have q91 := Chg.step (l := 0) (h := 0) q90 cw86 (by omega)
 have f92 := os_85.chg cw86 (by omega)
 exact ⟨_, rfl, (Own.mono f92 (by omega) (by omega)), mR_len, q91⟩

theorem c_iMoneySumT {w : World} {c : ByteArray} {vl : Value} {lvl uvl : Nat} {ts : List Mt} {vvl : List Value} (hG0 : Glob w) (hvl : MtS w lvl uvl vl ts vvl) (h63 : ts.length ≤ 1000) (hcK : Known c) (hA : AllM c ts ts.length) (hl : (dg (sumTo ts ts.length).natAbs).length ≤ 4) :
  Ret Tryd.prog 9 [.string c, vl] w fun v w' => ∃ s, v = .tuple #[.agg #[.string (c), .bool (ng (sumTo ts (ts).length)), s], .bool (true)] ∧ OwnI w' w.heap.size w'.heap.size s intT (dg (sumTo ts (ts).length).natAbs) ∧ Chg 0 0 w w' := by
 have hk : ∀ i, i < ts.length → (ts.getD i mt0).2.2.length ≤ 4611686018427387904 := fun i hi => Nat.le_trans (hA i hi).1.2.2 (by decide)
 have h := c_iMoneySum (c := c) hG0 hvl (by omega) hk; rw [msum_ok hA, mR_ok (mok_len hcK hl)] at h
 exact Calls.mono h fun ev w' ⟨v, he, s, e1, o1, _, hc⟩ => ⟨v, he, s, e1, o1, hc⟩

theorem c_sameInts {w : World} {va : Value} {lva uva : Nat} {zs : List Int} {vb : Value} {lvb uvb : Nat} {ys : List Int} (hva : Sl w lva uva va (zs)) (hvb : Sl w lvb uvb vb (ys)) (h63 : zs.length ≤ 4611686018427387904 ∧ ys.length ≤ 4611686018427387904) :
  Ret Tryd.prog 58 [va, vb] w fun v w' => v = .bool (decide (zs = ys)) ∧ Chg 0 0 w w' := by
 have hva0 := hva.fit
 have hvb0 := hvb.fit
 have hneq : zs.length ≠ ys.length → zs ≠ ys := fun h e => h (by rw [e])
 refine sx_enter Tryd.func58 rfl Tryd.ntmps58 (nbl rfl) ?_
 refine sx_seq fun K1 k1 => sx_region ?_
 refine av rfl rfl (wl_nil (q_n (k1 _ _ ?_)))
 refine sx_seq fun K2 k2 => ?_
 refine sx_seq fun K3 k3 => sx_region ?_
 refine mv rfl rfl (sp rfl (px_len rfl Tryd.underlying23 hva0) ?_)
 refine mv rfl rfl (sp rfl (px_len rfl Tryd.underlying23 hvb0) ?_)
 refine sp rfl (px_ne rfl rfl) ?_
 refine wl_nil (q_n (k3 _ _ ?_))
 refine sx_condP rfl (fun h169 => ?_) (fun h169 => ?_)
 ·
  refine sx_seq fun K4 k4 => sx_region ?_
  refine av rfl rfl (wl_nil (q_n (k4 _ _ ?_)))
  refine sx_retc ?_
  refine q_r (sx_ret1 Tryd.results58 rfl ?_)
  exact ⟨bFalse (hneq (by omega)), (Chg.refl 0 0 _)⟩
 refine sx_skip ?_
 refine q_n (k2 _ _ ?_)
 refine sx_seq fun K5 k5 => ?_
 refine sx_seq fun K6 k6 => sx_region ?_
 refine mv rfl rfl (sp rfl (px_len rfl Tryd.underlying23 hva0) ?_)
 refine mv rfl rfl (wl_nil (q_n (k6 _ _ ?_)))
 refine sx_block ?_
 refine sx_loop (fun mm aa w' => ∃ (k : Nat), Agr 26 [(0, va), (1, vb), (12, .int .i64 ↑zs.length), (13, .int .i64 ↑k)] aa ∧ Chg 0 0 w w' ∧ (mm = zs.length - k) ∧ (k ≤ zs.length) ∧ (zs.take k = ys.take k)) (_) (fun a ha => ⟨0, ha.sub (Sub.c 0 rfl (.c 1 rfl (.c 12 (look_int (t := 12) rfl (by first | omega | simp)) (.c 13 (look_int (t := 13) rfl (by first | omega | simp)) .nil)))), Chg.refl _ _ _, rfl, by omega, by simp⟩) ?_
 rintro mm aa wl7 ⟨k, hAwl7, cwl7, hm, hk, he⟩
 refine (show cw Tryd.prog 26 _ _ _ wl7 from ?_) aa hAwl7
 clear hAwl7
 have zwl7 := cwl7.size
 refine sx_seq fun K8 k8 => sx_region ?_
 refine sp rfl (px_lt rfl rfl) ?_
 refine wl_nil (q_n (k8 _ _ ?_))
 refine sx_seq fun K9 k9 => ?_
 refine sx_condP rfl (fun h172 => ?_) (fun h172 => ?_)
 ·
  refine sx_skip ?_
  refine q_n (k9 _ _ ?_)
  refine sx_seq fun K10 k10 => ?_
  refine sx_block ?_
  refine sx_seq fun K11 k11 => sx_region ?_
  refine mv rfl rfl (av rfl rfl (wl_nil (q_n (k11 _ _ ?_))))
  refine sx_seq fun K12 k12 => ?_
  have f13 := hva0.ext cwl7
  have f14 := hvb0.ext cwl7
  refine dx_region (fun w' => Chg 0 0 wl7 w') (by kernel_rfl) (Chg.zero (Chg.drew _)) ?_
  have d15 := Chg.drew wl7
  have s15 : Chg 0 0 wl7 (World.drew wl7) := Chg.zero (Chg.drew _)
  have y15 : (World.drew wl7).heap.size = wl7.heap.size := rfl
  generalize World.drew wl7 = w15 at *
  have zw15 := d15.size
  refine dt 0 rfl rfl rfl rfl s15 (fun _ hS => px_move rfl) ?_
  refine dt 1 rfl rfl rfl rfl s15 (fun _ hS => px_move rfl) ?_
  refine dt 2 rfl rfl rfl rfl s15 (fun _ hS => px_index1 (j := k) rfl rfl (by omega) Tryd.underlying23 Tryd.sizeOf3 ((f13).chg hS (by omega)) (by omega)) ?_
  refine dt 3 rfl rfl rfl rfl s15 (fun _ hS => px_load rfl (((f13).chg hS (by omega)).load1 (at_int (by omega)) Tryd.isAgg3)) ?_
  refine dt 4 rfl rfl rfl rfl s15 (fun _ hS => px_move rfl) ?_
  refine dt 5 rfl rfl rfl rfl s15 (fun _ hS => px_move rfl) ?_
  refine dt 6 rfl rfl rfl rfl s15 (fun _ hS => px_index1 (j := k) rfl rfl (by omega) Tryd.underlying23 Tryd.sizeOf3 ((f14).chg hS (by omega)) (by omega)) ?_
  refine dt 7 rfl rfl rfl rfl s15 (fun _ hS => px_load rfl (((f14).chg hS (by omega)).load1 (at_int (by omega)) Tryd.isAgg3)) ?_
  refine dt 8 rfl rfl rfl rfl s15 (fun _ hS => px_ne rfl rfl) ?_
  refine dx_done (by kernel_rfl) ?_
  refine q_n (k12 _ _ ?_)
  refine sx_sub (Sub.c 0 rfl (.c 1 rfl (.c 12 rfl (.c 13 rfl (.c 24 rfl .nil))))) ?_
  refine sx_condP rfl (fun h173 => ?_) (fun h173 => ?_)
  ·
   refine sx_seq fun K16 k16 => sx_region ?_
   refine av rfl rfl (wl_nil (q_n (k16 _ _ ?_)))
   refine sx_retc ?_
   refine q_br (q_r (q_r (q_br (q_r (sx_ret1 Tryd.results58 rfl ?_)))))
   exact ⟨bFalse (ne_of_getD h173), (cwl7.t d15)⟩
  refine sx_skip ?_
  refine q_bn (q_n (k10 _ _ ?_))
  refine sx_region ?_
  refine sp rfl (px_add rfl rfl (by omega)) ?_
  refine mv rfl rfl (wl_nil ?_)
  exact fun a ha => ⟨_, by omega, (k + 1), ha.sub (Sub.c 0 rfl (.c 1 rfl (.c 12 rfl (.c 13 (look_int (t := 13) rfl (by first | omega | simp)) .nil)))), (cwl7.t d15), rfl, by omega, take_succ_eq he (by omega) (by omega) (Decidable.not_not.1 h173)⟩
 refine sx_exit ?_
 refine q_e (q_e (q_bx (q_n (k5 _ _ ?_))))
 refine sx_seq fun K17 k17 => sx_region ?_
 refine av rfl rfl (wl_nil (q_n (k17 _ _ ?_)))
 refine sx_retc ?_
 refine sx_ret1 Tryd.results58 rfl ?_
 have e1 : k = zs.length := by omega
 rw [e1, List.take_length, List.take_of_length_le (by omega)] at he
 exact ⟨bTrue he, cwl7⟩

theorem c_intSame {w : World} {n1 : Bool} {v1 : Value} {lv1 uv1 : Nat} {z1 : List Int} {n2 : Bool} {v2 : Value} {lv2 uv2 : Nat} {z2 : List Int} (hv1 : Sl w lv1 uv1 v1 (z1)) (hv2 : Sl w lv2 uv2 v2 (z2)) (h63 : z1.length ≤ 4611686018427387904 ∧ z2.length ≤ 4611686018427387904) :
  Ret Tryd.prog 38 [.agg #[.bool n1, v1], .agg #[.bool n2, v2]] w fun v w' => v = .bool (decide (n1 = n2 ∧ z1 = z2)) ∧ Chg 0 0 w w' := by
 have hv10 := hv1.fit
 have hv20 := hv2.fit
 refine sx_enter Tryd.func38 rfl Tryd.ntmps38 (nbl rfl) ?_
 refine sx_seq fun K1 k1 => sx_region ?_
 refine sx_box [.bool n1, v1] rfl rfl rfl (fun b2 w3 eb2 sb2 fb2 cb2 => ?_)
 have zw3 := cb2.size
 refine sx_box [.bool n2, v2] rfl rfl rfl (fun b4 w5 eb4 sb4 fb4 cb4 => ?_)
 have zw5 := cb4.size
 refine av rfl rfl (wl_nil (q_n (k1 _ _ ?_)))
 refine sx_seq fun K6 k6 => sx_region ?_
 refine sp rfl (px_field rfl xfld25x0) ?_
 have f7 := fb2.ext cb4
 refine sp rfl (px_load rfl (f7.load1 rfl Tryd.isAgg4)) ?_
 refine sp rfl (px_field rfl xfld25x0) ?_
 refine sp rfl (px_load rfl (fb4.load1 rfl Tryd.isAgg4)) ?_
 refine sp rfl (px_eqB Tryd.underlying4 rfl rfl) ?_
 refine mv rfl rfl ?_
 refine sx_tmpB (t := 10) rfl (fun h165 => ?_) (fun h165 => ?_)
 ·
  refine sx_guardT rfl rfl rfl ?_
  refine sp rfl (px_field rfl xfld25x1) ?_
  refine sx_guardT rfl rfl rfl ?_
  refine sp rfl (px_load rfl (f7.load1 rfl Tryd.isAgg23)) ?_
  refine sx_guardT rfl rfl rfl ?_
  refine sp rfl (px_field rfl xfld25x1) ?_
  refine sx_guardT rfl rfl rfl ?_
  refine sp rfl (px_load rfl (fb4.load1 rfl Tryd.isAgg23)) ?_
  refine sx_guardT rfl rfl rfl ?_
  have f8 := hv10.ext cb2
  have f9 := f8.ext cb4
  have f10 := hv20.ext cb2
  have f11 := f10.ext cb4
  refine sx_call rfl rfl Tryd.call58 (c_sameInts f9 f11 (by omega)) (fun v12 w12 p12 => ?_)
  obtain ⟨rfl, c12⟩ := p12
  have zw12 := c12.size
  refine sp rfl (px_pick rfl rfl) ?_
  refine av rfl rfl (wl_nil (q_n (k6 _ _ ?_)))
  refine sx_sub (Sub.c 4 rfl .nil) ?_
  refine sx_retc ?_
  refine sx_ret1 Tryd.results38 rfl ?_
  exact ⟨(by first | exact bTrue (by grind) | exact bFalse (by grind) | exact bIff (by grind)), ((cb2.t cb4).t c12)⟩
 refine sx_guardF rfl rfl rfl rfl rfl rfl ?_
 refine sx_guardF rfl rfl rfl rfl rfl rfl ?_
 refine sx_guardF rfl rfl rfl rfl rfl rfl ?_
 refine sx_guardF rfl rfl rfl rfl rfl rfl ?_
 refine sx_guardF rfl rfl rfl rfl rfl rfl ?_
 refine sp rfl (px_pick rfl rfl) ?_
 refine av rfl rfl (wl_nil (q_n (k6 _ _ ?_)))
 refine sx_sub (Sub.c 4 rfl .nil) ?_
 refine sx_retc ?_
 refine sx_ret1 Tryd.results38 rfl ?_
 exact ⟨(by first | exact bTrue (by grind) | exact bFalse (by grind) | exact bIff (by grind)), (cb2.t cb4)⟩

theorem c_iMoneySame {w : World} {c1 : ByteArray} {n1 : Bool} {v1 : Value} {lv1 uv1 : Nat} {z1 : List Int} {c2 : ByteArray} {n2 : Bool} {v2 : Value} {lv2 uv2 : Nat} {z2 : List Int} (hv1 : Sl w lv1 uv1 v1 (z1)) (hv2 : Sl w lv2 uv2 v2 (z2)) (h63 : z1.length ≤ 4611686018427387904 ∧ z2.length ≤ 4611686018427387904) :
  Ret Tryd.prog 10 [.agg #[.string c1, .bool n1, v1], .agg #[.string c2, .bool n2, v2]] w fun v w' => v = .bool (decide (c1 = c2 ∧ n1 = n2 ∧ z1 = z2)) ∧ Chg 0 0 w w' := by
 have hv10 := hv1.fit
 have hv20 := hv2.fit
 refine sx_enter Tryd.func10 rfl Tryd.ntmps10 (nbl rfl) ?_
 refine sx_seq fun K1 k1 => sx_region ?_
 refine sx_box [.string c1, .bool n1, v1] rfl rfl rfl (fun b2 w3 eb2 sb2 fb2 cb2 => ?_)
 have zw3 := cb2.size
 refine sx_box [.string c2, .bool n2, v2] rfl rfl rfl (fun b4 w5 eb4 sb4 fb4 cb4 => ?_)
 have zw5 := cb4.size
 refine av rfl rfl (wl_nil (q_n (k1 _ _ ?_)))
 refine sx_seq fun K6 k6 => sx_region ?_
 refine sp rfl (px_field rfl xfld27x0) ?_
 have f7 := fb2.ext cb4
 refine sp rfl (px_load rfl (f7.load1 rfl Tryd.isAgg9)) ?_
 refine sp rfl (px_field rfl xfld27x0) ?_
 refine sp rfl (px_load rfl (fb4.load1 rfl Tryd.isAgg9)) ?_
 refine sp rfl (px_eqS rfl rfl) ?_
 refine mv rfl rfl ?_
 refine sx_tmpP (t := 10) rfl (fun h94 => ?_) (fun h94 => ?_)
 ·
  refine sx_guardT rfl rfl rfl ?_
  refine sp rfl (px_field rfl xfld27x1) ?_
  refine sx_guardT rfl rfl rfl ?_
  refine sp rfl (px_load rfl (f7.loadA (vs := [.bool n1, v1]) (look_lit rfl) Tryd.isAgg25 Tryd.sizeOf25)) ?_
  refine sx_guardT rfl rfl rfl ?_
  refine sp rfl (px_field rfl xfld27x1) ?_
  refine sx_guardT rfl rfl rfl ?_
  refine sp rfl (px_load rfl (fb4.loadA (vs := [.bool n2, v2]) (look_lit rfl) Tryd.isAgg25 Tryd.sizeOf25)) ?_
  refine sx_guardT rfl rfl rfl ?_
  have f8 := hv10.ext cb2
  have f9 := f8.ext cb4
  have f10 := hv20.ext cb2
  have f11 := f10.ext cb4
  refine sx_call rfl rfl Tryd.call38 (c_intSame f9 f11 (by omega)) (fun v12 w12 p12 => ?_)
  obtain ⟨rfl, c12⟩ := p12
  have zw12 := c12.size
  refine sp rfl (px_pick rfl rfl) ?_
  refine av rfl rfl (wl_nil (q_n (k6 _ _ ?_)))
  refine sx_sub (Sub.c 4 rfl .nil) ?_
  refine sx_retc ?_
  refine sx_ret1 Tryd.results10 rfl ?_
  exact ⟨(by first | exact bTrue (by grind) | exact bFalse (by grind) | exact bIff (by grind)), ((cb2.t cb4).t c12)⟩
 refine sx_guardF rfl rfl rfl rfl rfl rfl ?_
 refine sx_guardF rfl rfl rfl rfl rfl rfl ?_
 refine sx_guardF rfl rfl rfl rfl rfl rfl ?_
 refine sx_guardF rfl rfl rfl rfl rfl rfl ?_
 refine sx_guardF rfl rfl rfl rfl rfl rfl ?_
 refine sp rfl (px_pick rfl rfl) ?_
 refine av rfl rfl (wl_nil (q_n (k6 _ _ ?_)))
 refine sx_sub (Sub.c 4 rfl .nil) ?_
 refine sx_retc ?_
 refine sx_ret1 Tryd.results10 rfl ?_
 exact ⟨(by first | exact bTrue (by grind) | exact bFalse (by grind) | exact bIff (by grind)), (cb2.t cb4)⟩

end Go.Proofs.YtjkeefmpjocilaaDoor
