/- Contracts of functions of the program: what each call returns, and that it changes nothing that was. Conditions: as each says. -/
import Derived.Test.YtoeclobdbblohaaDoorTy
import Derived.Test.YtoeclobdbblohaaDoorNatI
import Derived.Test.YtoeclobdbblohaaDoorNatQ
import Derived.Test.YtoeclobdbblohaaDoorSxW
import Derived.Test.YtoeclobdbblohaaDoorSxB
import Derived.Test.YtoeclobdbblohaaDoorTab
import Derived.Test.YtoeclobdbblohaaDoorLay
import Derived.Test.YtoeclobdbblohaaDoorLayB
import Derived.Test.YtoeclobdbblohaaDoorNatX
import Derived.Test.YtoeclobdbblohaaDoorSxP
import Derived.Test.YtoeclobdbblohaaDoorL0
import Derived.Test.YtoeclobdbblohaaDoorL1
import Derived.Test.YtoeclobdbblohaaDoorL2
set_option linter.unusedVariables false
set_option linter.unusedSimpArgs false
namespace Go.Proofs.YtoeclobdbblohaaDoor
open Go Go.RowKit
set_option maxRecDepth 100000
theorem c_sCutAtB {w : World} {s : ByteArray} {bb : ByteArray} (hs : s.size ≤ 1048576) (hbb : bb = ⟨#[32]⟩) :
  Ret Tryd.prog 60 [.string s, .string bb] w fun v w' => ∃ x, v = x ∧ OwnS w' w.heap.size w'.heap.size x strT (cutT 32 s) ∧ Chg 0 0 w w' := by
 have hb1 : bb.size = 1 := by rw [hbb]; rfl
 have hb0 : strB bb 0 = 32 := by rw [hbb]; rfl
 refine sx_enter Tryd.func60 rfl Tryd.ntmps60 (nbl rfl) ?_
 refine sx_seq fun K1 k1 => sx_region ?_
 refine av rfl rfl (wl_nil (q_n (k1 _ _ ?_)))
 refine sx_seq fun K2 k2 => sx_region ?_
 refine sx_lit0 rfl xelt54 (fun s3 ws3 ss3 fs3 cs3 => ?_)
 have zws3 := cs3.size
 refine av rfl rfl (wl_nil (q_n (k2 _ _ ?_)))
 refine sx_seq fun K4 k4 => sx_region ?_
 refine av rfl rfl (wl_nil (q_n (k4 _ _ ?_)))
 refine sx_seq fun K5 k5 => ?_
 refine sx_seq fun K6 k6 => sx_region ?_
 refine av rfl rfl (wl_nil (q_n (k6 _ _ ?_)))
 refine sx_block ?_
 refine sx_loop (fun mm aa w' => ∃ (s1 : Value) (os : List ByteArray) (k : Nat) (f : Nat), Agr 44 [(0, .string s), (1, .string bb), (5, s1), (6, .int .i64 ↑f), (7, .int .i64 ↑k)] aa ∧ Chg w.heap.size ws3.heap.size ws3 w' ∧ Own w' w.heap.size w'.heap.size s1 strT os.length 1 (os.map Value.string) ∧ (mm = s.size - k) ∧ (k ≤ s.size ∧ f ≤ k) ∧ (os = (cutGo 32 s k).1) ∧ (f = (cutGo 32 s k).2) ∧ (os.length ≤ k)) (_) (fun a ha => ⟨s3, [], 0, 0, ha.sub (Sub.c 0 rfl (.c 1 rfl (.c 5 rfl (.c 6 (look_int (t := 6) rfl (by first | omega | simp)) (.c 7 (look_int (t := 7) rfl (by first | omega | simp)) .nil))))), Chg.refl _ _ _, (fs3.mono (by omega) (by omega)), rfl, by omega, rfl, rfl, Nat.le_refl _⟩) ?_
 rintro mm aa wl7 ⟨s1, os, k, f, hAwl7, cwl7, hs_s1, hm, hk, hos, hf, hol⟩
 refine (show cw Tryd.prog 44 _ _ _ wl7 from ?_) aa hAwl7
 clear hAwl7
 have zwl7 := cwl7.size
 refine sx_seq fun K8 k8 => ?_
 refine sx_seq fun K9 k9 => sx_region ?_
 refine mv rfl rfl (mv rfl rfl (sp rfl (px_lenS rfl Tryd.underlying9) ?_))
 refine sp rfl (px_lt rfl rfl) ?_
 refine wl_nil (q_n (k9 _ _ ?_))
 refine sx_condP rfl (fun h77 => ?_) (fun h77 => ?_)
 ·
  refine sx_skip ?_
  refine q_n (k8 _ _ ?_)
  refine sx_seq fun K10 k10 => ?_
  refine sx_block ?_
  refine sx_seq fun K11 k11 => sx_region ?_
  refine av rfl rfl (wl_nil (q_n (k11 _ _ ?_)))
  refine sx_block ?_
  refine sx_loop (fun mm aa w' => ∃ (kk : Nat), Agr 44 [(0, .string s), (1, .string bb), (5, s1), (6, .int .i64 ↑f), (7, .int .i64 ↑k), (8, .int .i64 ↑kk)] aa ∧ Chg 0 0 wl7 w' ∧ (mm = 1 - kk) ∧ (kk ≤ 1) ∧ (kk = 1 → ¬ strB s k = 32)) (_) (fun a ha => ⟨0, ha.sub (Sub.c 0 rfl (.c 1 rfl (.c 5 rfl (.c 6 rfl (.c 7 rfl (.c 8 (look_int (t := 8) rfl (by first | omega | simp)) .nil)))))), Chg.refl _ _ _, rfl, by omega, fun h => by omega⟩) ?_
  rintro mm aa wl12 ⟨kk, hAwl12, cwl12, hm, hkk, hno⟩
  refine (show cw Tryd.prog 44 _ _ _ wl12 from ?_) aa hAwl12
  clear hAwl12
  have zwl12 := cwl12.size
  refine sx_seq fun K13 k13 => ?_
  refine sx_seq fun K14 k14 => sx_region ?_
  refine mv rfl rfl (mv rfl rfl (sp rfl (px_lenS rfl Tryd.underlying9) ?_))
  refine sp rfl (px_lt rfl rfl) ?_
  refine wl_nil (q_n (k14 _ _ ?_))
  refine sx_condP rfl (fun h78 => ?_) (fun h78 => ?_)
  ·
   refine sx_skip ?_
   refine q_n (k13 _ _ ?_)
   refine sx_seq fun K15 k15 => ?_
   refine sx_block ?_
   refine sx_seq fun K16 k16 => ?_
   have f17 := hs_s1.ext cwl12
   refine dx_region (fun w' => Chg 0 0 wl12 w') (by kernel_rfl) (Chg.zero (Chg.drew _)) ?_
   have d18 := Chg.drew wl12
   have s18 : Chg 0 0 wl12 (World.drew wl12) := Chg.zero (Chg.drew _)
   have y18 : (World.drew wl12).heap.size = wl12.heap.size := rfl
   generalize World.drew wl12 = w18 at *
   have zw18 := d18.size
   refine dt 0 rfl rfl rfl rfl s18 (fun _ hS => px_move rfl) ?_
   refine dt 1 rfl rfl rfl rfl s18 (fun _ hS => px_move rfl) ?_
   refine dt 2 rfl rfl rfl rfl s18 (fun _ hS => px_indexS (j := k) rfl rfl (by omega) Tryd.underlying9 (by omega)) ?_
   refine dt 3 rfl rfl rfl rfl s18 (fun _ hS => px_move rfl) ?_
   refine dt 4 rfl rfl rfl rfl s18 (fun _ hS => px_move rfl) ?_
   refine dt 5 rfl rfl rfl rfl s18 (fun _ hS => px_indexS (j := kk) rfl rfl (by omega) Tryd.underlying9 (by omega)) ?_
   refine dt 6 rfl rfl rfl rfl s18 (fun _ hS => px_eq rfl rfl) ?_
   refine dx_done (by kernel_rfl) ?_
   refine q_n (k16 _ _ ?_)
   refine sx_sub (Sub.c 0 rfl (.c 1 rfl (.c 5 rfl (.c 6 rfl (.c 7 rfl (.c 8 rfl (.c 28 rfl .nil))))))) ?_
   refine sx_condP rfl (fun h79 => ?_) (fun h79 => ?_)
   ·
    have hc : strB s k = 32 := by rw [h79, show kk = 0 by omega]; exact hb0
    refine sx_seq fun K19 k19 => sx_region ?_
    refine mv rfl rfl (mv rfl rfl (mv rfl rfl (mv rfl rfl (sp rfl (px_strMid (l := f) (h := k) rfl rfl rfl (by omega) (by omega) Tryd.underlying9 (by omega) (by omega)) ?_))))
    refine sx_lit1 rfl xelt54 rfl rfl (fun s20 ws20 ss20 fs20 cs20 => ?_)
    have ns20 := Own.norm (f := Value.string) (zs := [s.extract f k]) fs20
    have zws20 := cs20.size
    have f23 := (f17.ext d18).ext cs20
    refine sx_append rfl xelt54 rfl rfl f23 ns20.sv one_str (by omega) (by simp only [List.length_cons, List.length_nil]; omega) (by unfold maxLen; simp only [List.length_cons, List.length_nil]; omega) (fun a21 w21 fw21 cw21 => ?_)
    have nw21 := Own.app (f := Value.string) (a := os) (b := [s.extract f k]) fw21
    have zw21 := cw21.size
    refine av rfl rfl (wl_nil (q_n (k19 _ _ ?_)))
    refine sx_seq fun K24 k24 => sx_region ?_
    refine mv rfl rfl (sp rfl (px_add rfl rfl (by omega)) ?_)
    refine av rfl rfl (wl_nil (q_n (k24 _ _ ?_)))
    refine sx_sub (Sub.c 0 rfl (.c 1 rfl (.c 5 rfl (.c 6 rfl (.c 7 rfl (.c 8 rfl .nil)))))) ?_
    refine sx_exit ?_
    refine q_be rfl (q_e (q_e (q_bx (q_bn (q_n (k10 _ _ ?_))))))
    refine sx_region ?_
    refine mv rfl rfl (sp rfl (px_add rfl rfl (by omega)) ?_)
    refine av rfl rfl (wl_nil ?_)
    have q25 := Chg.step (l := w.heap.size) (h := ws3.heap.size) cwl7 ((cwl12.t d18).t cs20) (by omega)
    have q26 := Chg.step (l := w.heap.size) (h := ws3.heap.size) q25 cw21 (by omega)
    exact fun a ha => ⟨_, by omega, a21, (os ++ ([s.extract f k])), (k + 1), (k + 1), ha.sub (Sub.c 0 rfl (.c 1 rfl (.c 5 rfl (.c 6 (look_int (t := 6) rfl (by first | omega | simp)) (.c 7 (look_int (t := 7) rfl (by first | omega | simp)) .nil))))), q26, (nw21.mono (by omega) (by omega)), rfl, by omega, by first | (rw [cutGo_yes hc, hos, hf]) | (rw [cutGo_no hc]; exact hos), by first | (rw [cutGo_yes hc]) | (rw [cutGo_no hc]; exact hf), by first | omega | (simp only [List.length_append, List.length_singleton]; omega)⟩
   have hc : ¬ strB s k = 32 := fun e => h79 (by rw [e, show kk = 0 by omega, hb0])
   refine sx_skip ?_
   refine q_bn (q_n (k15 _ _ ?_))
   refine sx_region ?_
   refine mv rfl rfl (sp rfl (px_add rfl rfl (by omega)) ?_)
   refine av rfl rfl (wl_nil ?_)
   exact fun a ha => ⟨_, by omega, (kk + 1), ha.sub (Sub.c 0 rfl (.c 1 rfl (.c 5 rfl (.c 6 rfl (.c 7 rfl (.c 8 (look_int (t := 8) rfl (by first | omega | simp)) .nil)))))), (cwl12.t d18), rfl, by omega, fun _ => hc⟩
  have hc := hno (by omega)
  refine sx_exit ?_
  refine q_e (q_e (q_bx (q_bn (q_n (k10 _ _ ?_)))))
  refine sx_region ?_
  refine mv rfl rfl (sp rfl (px_add rfl rfl (by omega)) ?_)
  refine av rfl rfl (wl_nil ?_)
  have q27 := Chg.step (l := w.heap.size) (h := ws3.heap.size) cwl7 cwl12 (by omega)
  have f28 := hs_s1.ext cwl12
  exact fun a ha => ⟨_, by omega, s1, os, (k + 1), f, ha.sub (Sub.c 0 rfl (.c 1 rfl (.c 5 rfl (.c 6 rfl (.c 7 (look_int (t := 7) rfl (by first | omega | simp)) .nil))))), q27, (f28.mono (by omega) (by omega)), rfl, by omega, by first | (rw [cutGo_yes hc, hos, hf]) | (rw [cutGo_no hc]; exact hos), by first | (rw [cutGo_yes hc]) | (rw [cutGo_no hc]; exact hf), by first | omega | (simp only [List.length_append, List.length_singleton]; omega)⟩
 refine sx_exit ?_
 refine q_e (q_e (q_bx (q_n (k5 _ _ ?_))))
 refine sx_seq fun K29 k29 => sx_region ?_
 refine mv rfl rfl (mv rfl rfl (mv rfl rfl (sp rfl (px_strFrom (l := f) rfl rfl (by omega) Tryd.underlying9 (by omega)) ?_)))
 refine sx_lit1 rfl xelt54 rfl rfl (fun s30 ws30 ss30 fs30 cs30 => ?_)
 have ns30 := Own.norm (f := Value.string) (zs := [s.extract f s.size]) fs30
 have zws30 := cs30.size
 have f32 := hs_s1.ext cs30
 refine sx_append rfl xelt54 rfl rfl f32 ns30.sv one_str (by omega) (by simp only [List.length_cons, List.length_nil]; omega) (by unfold maxLen; simp only [List.length_cons, List.length_nil]; omega) (fun a31 w31 fw31 cw31 => ?_)
 have nw31 := Own.app (f := Value.string) (a := os) (b := [s.extract f s.size]) fw31
 have zw31 := cw31.size
 refine av rfl rfl (wl_nil (q_n (k29 _ _ ?_)))
 refine sx_sub (Sub.c 4 rfl .nil) ?_
 refine sx_retc ?_
 refine sx_ret1 Tryd.results60 rfl ?_
 have ek : k = s.size := by omega
 subst ek
 have e : os ++ [s.extract f s.size] = cutT 32 s := by unfold cutT; rw [hos, hf]
 have hs := nw31
 rw [e] at hs
 have q33 := Chg.step (l := 0) (h := 0) (Chg.zero (l := 0) (h := 0) cs3) cwl7 (by omega)
 have q34 := Chg.step (l := 0) (h := 0) q33 cs30 (by omega)
 have q35 := Chg.step (l := 0) (h := 0) q34 cw31 (by omega)
 exact ⟨_, rfl, hs.mono (by omega) (by omega), q35⟩

theorem c_sCut {w : World} {s : ByteArray} (hs : s.size ≤ 1048576) :
  Ret Tryd.prog 27 [.string s] w fun v w' => ∃ x, v = x ∧ OwnS w' w.heap.size w'.heap.size x strT (cutT 32 s) ∧ Chg 0 0 w w' := by
 refine sx_enter Tryd.func27 rfl Tryd.ntmps27 (nbl rfl) ?_
 refine sx_seq fun K1 k1 => sx_region ?_
 refine av rfl rfl (wl_nil (q_n (k1 _ _ ?_)))
 refine sx_seq fun K2 k2 => sx_region ?_
 refine mv rfl rfl (sx_call rfl rfl Tryd.call60 (c_sCutAtB (by omega) (rfl)) (fun v3 w3 p3 => ?_))
 obtain ⟨x3, rfl, ox_3, c3⟩ := p3
 have zw3 := c3.size
 refine av rfl rfl (wl_nil (q_n (k2 _ _ ?_)))
 refine sx_retc ?_
 refine sx_ret1 Tryd.results27 rfl ?_
 exact ⟨_, rfl, (Own.mono ox_3 (by omega) (by omega)), c3⟩

theorem c_l08Table {w : World} :
  Ret Tryd.prog 79 [] w fun v w' => ∃ sl, v = sl ∧ Own w' w.heap.size w'.heap.size sl 92 20 4 (crCells tabS) ∧ Chg 0 0 w w' := by
 refine sx_enter Tryd.func79 rfl Tryd.ntmps79 (nbl rfl) ?_
 refine sx_seq fun K1 k1 => sx_region ?_
 refine av rfl rfl (wl_nil (q_n (k1 _ _ ?_)))
 refine sx_seq fun K2 k2 => sx_region ?_
 refine sp rfl (px_build rfl (xbld92x0x1x2x3 rfl rfl rfl rfl _)) ?_
 refine sp rfl (px_build rfl (xbld92x0x1x2x3 rfl rfl rfl rfl _)) ?_
 refine sp rfl (px_build rfl (xbld92x0x1x2x3 rfl rfl rfl rfl _)) ?_
 refine sp rfl (px_build rfl (xbld92x0x1x2x3 rfl rfl rfl rfl _)) ?_
 refine sp rfl (px_build rfl (xbld92x0x1x2x3 rfl rfl rfl rfl _)) ?_
 refine sp rfl (px_build rfl (xbld92x0x1x2x3 rfl rfl rfl rfl _)) ?_
 refine sp rfl (px_build rfl (xbld92x0x1x2x3 rfl rfl rfl rfl _)) ?_
 refine sp rfl (px_build rfl (xbld92x0x1x2x3 rfl rfl rfl rfl _)) ?_
 refine sp rfl (px_build rfl (xbld92x0x1x2x3 rfl rfl rfl rfl _)) ?_
 refine sp rfl (px_build rfl (xbld92x0x1x2x3 rfl rfl rfl rfl _)) ?_
 refine sp rfl (px_build rfl (xbld92x0x1x2x3 rfl rfl rfl rfl _)) ?_
 refine sp rfl (px_build rfl (xbld92x0x1x2x3 rfl rfl rfl rfl _)) ?_
 refine sp rfl (px_build rfl (xbld92x0x1x2x3 rfl rfl rfl rfl _)) ?_
 refine sp rfl (px_build rfl (xbld92x0x1x2x3 rfl rfl rfl rfl _)) ?_
 refine sp rfl (px_build rfl (xbld92x0x1x2x3 rfl rfl rfl rfl _)) ?_
 refine sp rfl (px_build rfl (xbld92x0x1x2x3 rfl rfl rfl rfl _)) ?_
 refine sp rfl (px_build rfl (xbld92x0x1x2x3 rfl rfl rfl rfl _)) ?_
 refine sp rfl (px_build rfl (xbld92x0x1x2x3 rfl rfl rfl rfl _)) ?_
 refine sp rfl (px_build rfl (xbld92x0x1x2x3 rfl rfl rfl rfl _)) ?_
 refine sp rfl (px_build rfl (xbld92x0x1x2x3 rfl rfl rfl rfl _)) ?_
 refine sx_litG (k := 4) (e := 92) (vs := crCells tabS) rfl rfl ⟨by decide, by decide⟩ (fun w => by kernel_rfl) (fun s3 ws3 ss3 fs3 cs3 => ?_)
 have zws3 := cs3.size
 refine av rfl rfl (wl_nil (q_n (k2 _ _ ?_)))
 refine sx_sub (Sub.c 0 rfl .nil) ?_
 refine sx_retc ?_
 refine sx_ret1 Tryd.results79 rfl ?_
 exact ⟨_, rfl, fs3, cs3⟩

theorem c_l08Find {w : World} {s : ByteArray} :
  Ret Tryd.prog 100 [.string s] w fun v w' => v = .agg #[.string ((curOf s).code), .string ((curOf s).number), .int .i64 ((curOf s).places), .int .i64 ((curOf s).cash)] ∧ Chg 0 0 w w' := by
 refine sx_enter Tryd.func100 rfl Tryd.ntmps100 (nbl rfl) ?_
 refine sx_seq fun K1 k1 => sx_region ?_
 refine sx_alloc [.string (⟨#[]⟩), .string (⟨#[]⟩), .int .i64 0, .int .i64 0] rfl Tryd.zeroValue92 rfl (fun b2 w3 eb2 sb2 fb2 cb2 => ?_)
 have zw3 := cb2.size
 refine wl_nil (q_n (k1 _ _ ?_))
 refine sx_seq fun K4 k4 => ?_
 refine sx_seq fun K5 k5 => sx_region ?_
 refine sx_call rfl rfl Tryd.call79 (c_l08Table) (fun v6 w6 p6 => ?_)
 obtain ⟨sl6, rfl, osl_6, c6⟩ := p6
 have zw6 := c6.size
 refine sp rfl (px_len rfl Tryd.underlying89 osl_6.sv) ?_
 refine mv rfl rfl (wl_nil (q_n (k5 _ _ ?_)))
 refine sx_block ?_
 refine sx_loop (fun mm aa w' => ∃ (k : Nat), Agr 18 [(0, .string s), (2, .pointer (some ⟨b2, 0, none⟩)), (5, v6), (6, .int .i64 20), (7, .int .i64 ↑k)] aa ∧ Chg 0 0 w6 w' ∧ (mm = 20 - k) ∧ (k ≤ 20) ∧ (∀ i, i < k → ¬ (tabS.getD i cr0).code = s)) (20) (fun a ha => ⟨0, ha.sub (Sub.c 0 rfl (.c 2 rfl (.c 5 rfl (.c 6 rfl (.c 7 (look_int (t := 7) rfl (by first | omega | simp)) .nil))))), Chg.refl _ _ _, rfl, by omega, fun i h => by omega⟩) ?_
 rintro mm aa wl7 ⟨k, hAwl7, cwl7, hm, hk, hn⟩
 refine (show cw Tryd.prog 18 _ _ _ wl7 from ?_) aa hAwl7
 clear hAwl7
 have zwl7 := cwl7.size
 refine sx_seq fun K8 k8 => sx_region ?_
 refine sp rfl (px_lt rfl rfl) ?_
 refine wl_nil (q_n (k8 _ _ ?_))
 refine sx_seq fun K9 k9 => ?_
 refine sx_condP rfl (fun h24 => ?_) (fun h24 => ?_)
 ·
  refine sx_skip ?_
  refine q_n (k9 _ _ ?_)
  refine sx_seq fun K10 k10 => ?_
  refine sx_block ?_
  refine sx_seq fun K11 k11 => sx_region ?_
  have f12 := osl_6.ext cwl7
  refine sp rfl (px_indexK (j := k) rfl rfl (by omega) Tryd.underlying89 Tryd.sizeOf92 f12.sv (by omega)) ?_
  refine sp rfl (px_load rfl (f12.sv.loadA (cr_look (l := tabS) (k := k) (by rw [show tabS.length = 20 from rfl]; omega)) Tryd.isAgg92 Tryd.sizeOf92)) ?_
  refine sx_alloc [.string (⟨#[]⟩), .string (⟨#[]⟩), .int .i64 0, .int .i64 0] rfl Tryd.zeroValue92 rfl (fun b13 w14 eb13 sb13 fb13 cb13 => ?_)
  have zw14 := cb13.size
  refine sx_store (vs := [.string ((tabS.getD k cr0).code), .string ((tabS.getD k cr0).number), .int .i64 ((tabS.getD k cr0).places), .int .i64 ((tabS.getD k cr0).cash)]) rfl rfl fb13 rfl Tryd.sizeOf92 (nbl rfl) (one_cons rfl (o3 rfl rfl rfl)) (fun w15 sw15 fw15 cw15 => ?_)
  have zw15 := cw15.size
  have gw15 : Blk w15 b13 [.string ((tabS.getD k cr0).code), .string ((tabS.getD k cr0).number), .int .i64 ((tabS.getD k cr0).places), .int .i64 ((tabS.getD k cr0).cash)] 92 := fw15
  refine wl_nil (q_n (k11 _ _ ?_))
  refine sx_seq fun K16 k16 => sx_region ?_
  refine sp rfl (px_field rfl xfld92x0) ?_
  refine sp rfl (px_load rfl (gw15.load1 rfl Tryd.isAgg9)) ?_
  refine mv rfl rfl (sp rfl (px_eqS rfl rfl) ?_)
  refine wl_nil (q_n (k16 _ _ ?_))
  refine sx_condP rfl (fun h25 => ?_) (fun h25 => ?_)
  ·
   refine sx_seq fun K17 k17 => sx_region ?_
   refine sp rfl (px_load rfl (gw15.loadA (vs := [.string ((tabS.getD k cr0).code), .string ((tabS.getD k cr0).number), .int .i64 ((tabS.getD k cr0).places), .int .i64 ((tabS.getD k cr0).cash)]) (look_lit rfl) Tryd.isAgg92 Tryd.sizeOf92)) ?_
   have f20 := (fb2.ext c6).ext cwl7
   have f21 := f20.ext cb13
   have f22 := f21.chg cw15 (by omega)
   refine sx_store (vs := [.string ((tabS.getD k cr0).code), .string ((tabS.getD k cr0).number), .int .i64 ((tabS.getD k cr0).places), .int .i64 ((tabS.getD k cr0).cash)]) rfl rfl f22 rfl Tryd.sizeOf92 (nbl rfl) (one_cons rfl (o3 rfl rfl rfl)) (fun w18 sw18 fw18 cw18 => ?_)
   have zw18 := cw18.size
   have gw18 : Blk w18 b2 [.string ((tabS.getD k cr0).code), .string ((tabS.getD k cr0).number), .int .i64 ((tabS.getD k cr0).places), .int .i64 ((tabS.getD k cr0).cash)] 92 := fw18
   refine wl_nil (q_n (k17 _ _ ?_))
   refine sx_retc ?_
   refine q_br (q_r (q_r (q_br (q_r (sx_ret1 Tryd.results100 ⟨_, rfl, gw18.loadA (vs := [.string ((tabS.getD k cr0).code), .string ((tabS.getD k cr0).number), .int .i64 ((tabS.getD k cr0).places), .int .i64 ((tabS.getD k cr0).cash)]) (look_lit rfl) Tryd.isAgg92 Tryd.sizeOf92⟩ ?_)))))
   have e := curOf_someS (by rw [show tabS.length = 20 from rfl]; omega) hn h25
   rw [e]
   have q23 := Chg.step (l := 0) (h := 0) (Chg.zero (l := 0) (h := 0) (((cb2.t c6).t cwl7).t cb13)) cw15 (by omega)
   have q24 := Chg.step (l := 0) (h := 0) q23 cw18 (by omega)
   exact ⟨rfl, q24⟩
  refine sx_skip ?_
  refine q_bn (q_n (k10 _ _ ?_))
  refine sx_region ?_
  refine sp rfl (px_add rfl rfl (by omega)) ?_
  refine mv rfl rfl (wl_nil ?_)
  have q25 := Chg.step (l := 0) (h := 0) (Chg.zero (l := 0) (h := 0) (cwl7.t cb13)) cw15 (by omega)
  exact fun a ha => ⟨_, by omega, (k + 1), ha.sub (Sub.c 0 rfl (.c 2 rfl (.c 5 rfl (.c 6 rfl (.c 7 (look_int (t := 7) rfl (by first | omega | simp)) .nil))))), q25, rfl, by omega, upto_succ hn h25⟩
 refine sx_exit ?_
 refine q_e (q_e (q_bx (q_n (k4 _ _ ?_))))
 refine sx_seq fun K26 k26 => sx_region ?_
 refine sp rfl (px_build rfl (xbld92x  _)) ?_
 have f29 := (fb2.ext c6).ext cwl7
 refine sx_store (vs := [.string (⟨#[]⟩), .string (⟨#[]⟩), .int .i64 0, .int .i64 0]) rfl rfl f29 rfl Tryd.sizeOf92 (nbl rfl) (one_cons rfl (o3 rfl rfl rfl)) (fun w27 sw27 fw27 cw27 => ?_)
 have zw27 := cw27.size
 have gw27 : Blk w27 b2 [.string (⟨#[]⟩), .string (⟨#[]⟩), .int .i64 0, .int .i64 0] 92 := fw27
 refine wl_nil (q_n (k26 _ _ ?_))
 refine sx_retc ?_
 refine sx_ret1 Tryd.results100 ⟨_, rfl, gw27.loadA (vs := [.string (⟨#[]⟩), .string (⟨#[]⟩), .int .i64 0, .int .i64 0]) (look_lit rfl) Tryd.isAgg92 Tryd.sizeOf92⟩ ?_
 have e := curOf_noneS (s := s) (fun i hi => hn i (by rw [show tabS.length = 20 from rfl] at hi; omega))
 rw [e]
 have q30 := Chg.step (l := 0) (h := 0) (Chg.zero (l := 0) (h := 0) ((cb2.t c6).t cwl7)) cw27 (by omega)
 exact ⟨rfl, q30⟩

theorem c_sCurKnown {w : World} {s : ByteArray} :
  Ret Tryd.prog 73 [.string s] w fun v w' => v = .bool (decide (Known s)) ∧ Chg 0 0 w w' := by
 refine sx_enter Tryd.func73 rfl Tryd.ntmps73 (nbl rfl) ?_
 refine sx_seq fun K1 k1 => sx_region ?_
 refine av rfl rfl (wl_nil (q_n (k1 _ _ ?_)))
 refine sx_seq fun K2 k2 => sx_region ?_
 refine mv rfl rfl (sx_call rfl rfl Tryd.call100 (c_l08Find) (fun v3 w3 p3 => ?_))
 obtain ⟨rfl, c3⟩ := p3
 have zw3 := c3.size
 refine sp rfl (px_fieldv rfl (xfv92x0 _)) ?_
 refine sp rfl (px_neS rfl rfl) ?_
 refine av rfl rfl (wl_nil (q_n (k2 _ _ ?_)))
 refine sx_retc ?_
 refine sx_ret1 Tryd.results73 rfl ?_
 exact ⟨bIff (known_iff s).symm, c3⟩

theorem c_sMoneyOk {w : World} {c1 : ByteArray} {n1 : Bool} {v1 : Value} {lv1 uv1 : Nat} {z1 : List Int} (hv1 : Sl w lv1 uv1 v1 (z1)) (h63 : z1.length ≤ 4611686018427387904) :
  Ret Tryd.prog 64 [.agg #[.string c1, .bool n1, v1]] w fun v w' => v = .bool (decide (MOk c1 n1 z1)) ∧ Chg 0 0 w w' := by
 have hv10 := hv1.fit
 refine sx_enter Tryd.func64 rfl Tryd.ntmps64 (nbl rfl) ?_
 refine sx_seq fun K1 k1 => sx_region ?_
 refine sx_box [.string c1, .bool n1, v1] rfl rfl rfl (fun b2 w3 eb2 sb2 fb2 cb2 => ?_)
 have zw3 := cb2.size
 refine av rfl rfl (wl_nil (q_n (k1 _ _ ?_)))
 refine sx_seq fun K4 k4 => sx_region ?_
 refine sp rfl (px_field rfl xfld26x0) ?_
 refine sp rfl (px_load rfl (fb2.load1 rfl Tryd.isAgg9)) ?_
 refine sx_call rfl rfl Tryd.call73 (c_sCurKnown) (fun v5 w5 p5 => ?_)
 obtain ⟨rfl, c5⟩ := p5
 have zw5 := c5.size
 refine mv rfl rfl ?_
 refine sx_tmpP (t := 6) rfl (fun h7 => ?_) (fun h7 => ?_)
 ·
  refine sx_guardT rfl rfl rfl ?_
  refine sp rfl (px_field rfl xfld26x1) ?_
  refine sx_guardT rfl rfl rfl ?_
  have f6 := fb2.ext c5
  refine sp rfl (px_load rfl (f6.loadA (vs := [.bool n1, v1]) (look_lit rfl) Tryd.isAgg24 Tryd.sizeOf24)) ?_
  refine sx_guardT rfl rfl rfl ?_
  have f7 := hv10.ext cb2
  have f8 := f7.ext c5
  refine sx_call rfl rfl Tryd.call99 (c_sIntOk f8 (by omega)) (fun v9 w9 p9 => ?_)
  obtain ⟨rfl, c9⟩ := p9
  have zw9 := c9.size
  refine sp rfl (px_pick rfl rfl) ?_
  refine mv rfl rfl ?_
  refine sx_tmpP (t := 11) rfl (fun h7x1 => ?_) (fun h7x1 => ?_)
  ·
   refine sx_guardT rfl rfl rfl ?_
   refine sp rfl (px_field rfl xfld26x1) ?_
   refine sx_guardT rfl rfl rfl ?_
   refine sp rfl (px_field rfl xfld24x1) ?_
   refine sx_guardT rfl rfl rfl ?_
   have f10 := f6.ext c9
   refine sp rfl (px_load rfl (f10.load1 rfl Tryd.isAgg22)) ?_
   refine sx_guardT rfl rfl rfl ?_
   have f11 := f8.ext c9
   refine sp rfl (px_len rfl Tryd.underlying22 f11) ?_
   refine sx_guardT rfl rfl rfl ?_
   refine sp rfl (px_le rfl rfl) ?_
   refine sp rfl (px_pick rfl rfl) ?_
   refine av rfl rfl (wl_nil (q_n (k4 _ _ ?_)))
   refine sx_sub (Sub.c 2 rfl .nil) ?_
   refine sx_retc ?_
   refine sx_ret1 Tryd.results64 rfl ?_
   exact ⟨(by first | exact bTrue (by grind [MOk]) | exact bFalse (by grind [MOk]) | exact bIff (by grind [MOk])), ((cb2.t c5).t c9)⟩
  refine sx_guardF rfl rfl rfl rfl rfl rfl ?_
  refine sx_guardF rfl rfl rfl rfl rfl rfl ?_
  refine sx_guardF rfl rfl rfl rfl rfl rfl ?_
  refine sx_guardF rfl rfl rfl rfl rfl rfl ?_
  refine sx_guardF rfl rfl rfl rfl rfl rfl ?_
  refine sp rfl (px_pick rfl rfl) ?_
  refine av rfl rfl (wl_nil (q_n (k4 _ _ ?_)))
  refine sx_sub (Sub.c 2 rfl .nil) ?_
  refine sx_retc ?_
  refine sx_ret1 Tryd.results64 rfl ?_
  exact ⟨(by first | exact bTrue (by grind [MOk]) | exact bFalse (by grind [MOk]) | exact bIff (by grind [MOk])), ((cb2.t c5).t c9)⟩
 refine sx_guardF rfl rfl rfl rfl rfl rfl ?_
 refine sx_guardF rfl rfl rfl rfl rfl rfl ?_
 refine sx_guardF rfl rfl rfl rfl rfl rfl ?_
 refine sp rfl (px_pick rfl rfl) ?_
 refine mv rfl rfl ?_
 refine sx_guardF rfl rfl rfl rfl rfl rfl ?_
 refine sx_guardF rfl rfl rfl rfl rfl rfl ?_
 refine sx_guardF rfl rfl rfl rfl rfl rfl ?_
 refine sx_guardF rfl rfl rfl rfl rfl rfl ?_
 refine sx_guardF rfl rfl rfl rfl rfl rfl ?_
 refine sp rfl (px_pick rfl rfl) ?_
 refine av rfl rfl (wl_nil (q_n (k4 _ _ ?_)))
 refine sx_sub (Sub.c 2 rfl .nil) ?_
 refine sx_retc ?_
 refine sx_ret1 Tryd.results64 rfl ?_
 exact ⟨(by first | exact bTrue (by grind [MOk]) | exact bFalse (by grind [MOk]) | exact bIff (by grind [MOk])), (cb2.t c5)⟩

theorem c_l09Make {w : World} {c : ByteArray} {va : Value} {lva uva : Nat} {x : Int} (hva : OwnI w lva uva va intT (dg x.natAbs)) (hbx : (dg x.natAbs).length ≤ 1000) (hu : uva ≤ w.heap.size) :
  Ret Tryd.prog 29 [.string c, .agg #[.bool (ng x), va]] w fun v w' => ∃ s, v = .tuple #[.agg #[.string ((mR c x).1), .bool ((mR c x).2.1), s], .bool ((mR c x).2.2.2)] ∧ OwnI w' (lva) (uva) s intT ((mR c x).2.2.1) ∧ Chg 0 0 w w' := by
 refine sx_enter Tryd.func29 rfl Tryd.ntmps29 (nbl rfl) ?_
 refine sx_seq fun K1 k1 => sx_region ?_
 refine sx_box [.bool (ng x), va] rfl rfl rfl (fun b2 w3 eb2 sb2 fb2 cb2 => ?_)
 have zw3 := cb2.size
 refine sx_alloc [.string (⟨#[]⟩), .bool false, (.slice none 0 0)] rfl Tryd.zeroValue26 rfl (fun b4 w5 eb4 sb4 fb4 cb4 => ?_)
 have zw5 := cb4.size
 refine av rfl rfl (wl_nil (q_n (k1 _ _ ?_)))
 refine sx_seq fun K6 k6 => sx_region ?_
 refine mv rfl rfl ?_
 have f7 := fb2.ext cb4
 refine sp rfl (px_load rfl (f7.loadA (vs := [.bool (ng x), va]) (look_lit rfl) Tryd.isAgg24 Tryd.sizeOf24)) ?_
 refine sp rfl (px_build rfl (xbld26x0x1 rfl _)) ?_
 refine sx_alloc [.string (⟨#[]⟩), .bool false, (.slice none 0 0)] rfl Tryd.zeroValue26 rfl (fun b8 w9 eb8 sb8 fb8 cb8 => ?_)
 have zw9 := cb8.size
 have f11 := hva.ext cb2
 have f12 := f11.ext cb4
 have f13 := f12.ext cb8
 refine sx_store (vs := [.string c, .bool (ng x), va]) rfl rfl fb8 rfl Tryd.sizeOf26 (nbl rfl) (one_cons rfl (one_cons rfl (one_cons f13.one one_nil))) (fun w10 sw10 fw10 cw10 => ?_)
 have zw10 := cw10.size
 have gw10 : Blk w10 b8 [.string c, .bool (ng x), va] 26 := fw10
 refine wl_nil (q_n (k6 _ _ ?_))
 refine sx_seq fun K14 k14 => ?_
 refine sx_seq fun K15 k15 => sx_region ?_
 refine sp rfl (px_load rfl (gw10.loadA (vs := [.string c, .bool (ng x), va]) (look_lit rfl) Tryd.isAgg26 Tryd.sizeOf26)) ?_
 have f16 := f13.chg cw10 (by omega)
 refine sx_call rfl rfl Tryd.call64 (c_sMoneyOk f16.sv (by omega)) (fun v17 w17 p17 => ?_)
 obtain ⟨rfl, c17⟩ := p17
 have zw17 := c17.size
 refine sp rfl (px_notP rfl) ?_
 refine wl_nil (q_n (k15 _ _ ?_))
 refine sx_condP rfl (fun h13 => ?_) (fun h13 => ?_)
 ·
  refine sx_seq fun K18 k18 => sx_region ?_
  refine sp rfl (px_build rfl (xbld26x  _)) ?_
  have f20 := fb4.ext cb8
  have f21 := f20.chg cw10 (by omega)
  have f22 := f21.ext c17
  refine sx_store (vs := [.string (⟨#[]⟩), .bool false, (.slice none 0 0)]) rfl rfl f22 rfl Tryd.sizeOf26 (nbl rfl) (o3 rfl rfl rfl) (fun w19 sw19 fw19 cw19 => ?_)
  have zw19 := cw19.size
  have gw19 : Blk w19 b4 [.string (⟨#[]⟩), .bool false, (.slice none 0 0)] 26 := fw19
  refine av rfl rfl (wl_nil (q_n (k18 _ _ ?_)))
  refine sx_retc ?_
  refine q_r (sx_ret2 Tryd.results29 ⟨_, rfl, gw19.loadA (vs := [.string (⟨#[]⟩), .bool false, (.slice none 0 0)]) (look_lit rfl) Tryd.isAgg26 Tryd.sizeOf26⟩ rfl ?_)
  rw [mR_no (by first | exact h13 | assumption)]
  have q23 := Chg.step (l := 0) (h := 0) (Chg.zero (l := 0) (h := 0) ((cb2.t cb4).t cb8)) cw10 (by omega)
  have q24 := Chg.step (l := 0) (h := 0) q23 c17 (by omega)
  have q25 := Chg.step (l := 0) (h := 0) q24 cw19 (by omega)
  exact ⟨_, rfl, Own.nil _ _ _ _ _, q25⟩
 refine sx_skip ?_
 refine q_n (k14 _ _ ?_)
 refine sx_seq fun K26 k26 => sx_region ?_
 have f27 := gw10.ext c17
 refine sp rfl (px_load rfl (f27.loadA (vs := [.string c, .bool (ng x), va]) (look_lit rfl) Tryd.isAgg26 Tryd.sizeOf26)) ?_
 have f29 := fb4.ext cb8
 have f30 := f29.chg cw10 (by omega)
 have f31 := f30.ext c17
 have f32 := f16.ext c17
 refine sx_store (vs := [.string c, .bool (ng x), va]) rfl rfl f31 rfl Tryd.sizeOf26 (nbl rfl) (one_cons rfl (one_cons rfl (one_cons f32.one one_nil))) (fun w28 sw28 fw28 cw28 => ?_)
 have zw28 := cw28.size
 have gw28 : Blk w28 b4 [.string c, .bool (ng x), va] 26 := fw28
 refine av rfl rfl (wl_nil (q_n (k26 _ _ ?_)))
 refine sx_retc ?_
 refine sx_ret2 Tryd.results29 ⟨_, rfl, gw28.loadA (vs := [.string c, .bool (ng x), va]) (look_lit rfl) Tryd.isAgg26 Tryd.sizeOf26⟩ rfl ?_
 rw [mR_ok (by first | exact h13 | exact Decidable.not_not.1 h13)]
 have q33 := Chg.step (l := 0) (h := 0) (Chg.zero (l := 0) (h := 0) ((cb2.t cb4).t cb8)) cw10 (by omega)
 have q34 := Chg.step (l := 0) (h := 0) q33 c17 (by omega)
 have q35 := Chg.step (l := 0) (h := 0) q34 cw28 (by omega)
 have f36 := f32.chg cw28 (by omega)
 exact ⟨_, rfl, (Own.mono f36 (by omega) (by omega)), q35⟩

theorem c_sCurPlaces {w : World} {s : ByteArray} :
  Ret Tryd.prog 65 [.string s] w fun v w' => v = .int .i64 ((curOf s).places) ∧ Chg 0 0 w w' := by
 refine sx_enter Tryd.func65 rfl Tryd.ntmps65 (nbl rfl) ?_
 refine sx_seq fun K1 k1 => sx_region ?_
 refine av rfl rfl (wl_nil (q_n (k1 _ _ ?_)))
 refine sx_seq fun K2 k2 => sx_region ?_
 refine mv rfl rfl (sx_call rfl rfl Tryd.call100 (c_l08Find) (fun v3 w3 p3 => ?_))
 obtain ⟨rfl, c3⟩ := p3
 have zw3 := c3.size
 refine sp rfl (px_fieldv rfl (xfv92x2 _)) ?_
 refine av rfl rfl (wl_nil (q_n (k2 _ _ ?_)))
 refine sx_retc ?_
 refine sx_ret1 Tryd.results65 rfl ?_
 exact ⟨rfl, c3⟩

theorem c_sMoneyText {w : World} {c1 : ByteArray} {n1 : Bool} {v1 : Value} {lv1 uv1 : Nat} {z1 : List Int} (hv1 : Sl w lv1 uv1 v1 (z1)) (h63 : z1.length ≤ 4611686018427387904) :
  Ret Tryd.prog 30 [.agg #[.string c1, .bool n1, v1]] w fun v w' => v = .string (monT c1 n1 z1) ∧ Chg 0 0 w w' := by
 have hv10 := hv1.fit
 refine sx_enter Tryd.func30 rfl Tryd.ntmps30 (nbl rfl) ?_
 refine sx_seq fun K1 k1 => sx_region ?_
 refine sx_box [.string c1, .bool n1, v1] rfl rfl rfl (fun b2 w3 eb2 sb2 fb2 cb2 => ?_)
 have zw3 := cb2.size
 refine av rfl rfl (wl_nil (q_n (k1 _ _ ?_)))
 refine sx_seq fun K4 k4 => ?_
 refine sx_seq fun K5 k5 => sx_region ?_
 refine sp rfl (px_load rfl (fb2.loadA (vs := [.string c1, .bool n1, v1]) (look_lit rfl) Tryd.isAgg26 Tryd.sizeOf26)) ?_
 have f6 := hv10.ext cb2
 refine sx_call rfl rfl Tryd.call64 (c_sMoneyOk f6 (by omega)) (fun v7 w7 p7 => ?_)
 obtain ⟨rfl, c7⟩ := p7
 have zw7 := c7.size
 refine sp rfl (px_notP rfl) ?_
 refine wl_nil (q_n (k5 _ _ ?_))
 refine sx_condP rfl (fun h24 => ?_) (fun h24 => ?_)
 ·
  refine sx_seq fun K8 k8 => sx_region ?_
  refine av rfl rfl (wl_nil (q_n (k8 _ _ ?_)))
  refine sx_retc ?_
  refine q_r (sx_ret1 Tryd.results30 rfl ?_)
  rw [monT_no h24]
  exact ⟨rfl, (cb2.t c7)⟩
 have hM := Decidable.not_not.1 h24
 have hks := known_size hM.1
 refine sx_skip ?_
 refine q_n (k4 _ _ ?_)
 refine sx_seq fun K9 k9 => ?_
 have f10 := fb2.ext c7
 refine dx_region (fun w' => Chg 0 0 w7 w') (by kernel_rfl) (Chg.zero (Chg.drew _)) ?_
 have d12 := Chg.drew w7
 have s12 : Chg 0 0 w7 (World.drew w7) := Chg.zero (Chg.drew _)
 have y12 : (World.drew w7).heap.size = w7.heap.size := rfl
 generalize World.drew w7 = w12 at *
 have zw12 := d12.size
 refine dt 0 rfl rfl rfl rfl s12 (fun _ hS => px_field rfl xfld26x0) ?_
 refine dt 1 rfl rfl rfl rfl s12 (fun _ hS => px_load rfl ((f10.chg hS (by omega)).load1 rfl Tryd.isAgg9)) ?_
 refine dt 2 rfl rfl rfl rfl s12 (fun _ hS => px_cat rfl rfl (by (have e32 : (⟨#[32]⟩ : ByteArray).size = 1 := rfl); (try simp only [ByteArray.size_append]); omega)) ?_
 refine dt 3 rfl rfl rfl rfl s12 (fun _ hS => px_field rfl xfld26x1) ?_
 refine dt 4 rfl rfl rfl rfl s12 (fun _ hS => px_load rfl ((f10.chg hS (by omega)).loadA (vs := [.bool n1, v1]) (look_lit rfl) Tryd.isAgg24 Tryd.sizeOf24)) ?_
 refine dt 5 rfl rfl rfl rfl s12 (fun _ hS => px_field rfl xfld26x0) ?_
 refine dt 6 rfl rfl rfl rfl s12 (fun _ hS => px_load rfl ((f10.chg hS (by omega)).load1 rfl Tryd.isAgg9)) ?_
 refine dx_eff 7 rfl (by kernel_rfl) ?_
 refine sx_call rfl rfl Tryd.call65 (c_sCurPlaces) (fun v13 w13 p13 => ?_)
 obtain ⟨rfl, c13⟩ := p13
 have zw13 := c13.size
 have s14 : Chg 0 0 w7 w13 := (d12.t c13)
 refine wl_nil ?_
 refine dx_next s14 ?_
 refine dt 8 rfl rfl rfl rfl s14 (fun _ hS => px_build rfl (xbld33x0x1 rfl _)) ?_
 refine dx_eff 9 rfl (by kernel_rfl) ?_
 have f16 := ((f6.ext c7).ext d12).ext c13
 refine sx_call rfl rfl Tryd.call63 (c_sDecText f16 (by omega)) (fun v17 w17 p17 => ?_)
 obtain ⟨rfl, hsz17, c17⟩ := p17
 have zw17 := c17.size
 have s18 : Chg 0 0 w7 w17 := ((d12.t c13).t c17)
 refine wl_nil ?_
 refine dx_next s18 ?_
 refine dt 10 rfl rfl rfl rfl s18 (fun _ hS => px_cat rfl rfl (by (have e32 : (⟨#[32]⟩ : ByteArray).size = 1 := rfl); (try simp only [ByteArray.size_append]); omega)) ?_
 refine dt 11 rfl rfl rfl rfl s18 (fun _ hS => px_assign rfl) ?_
 refine dx_done (by kernel_rfl) ?_
 refine q_n (k9 _ _ ?_)
 refine sx_sub (Sub.c 2 rfl .nil) ?_
 refine sx_retc ?_
 refine sx_ret1 Tryd.results30 rfl ?_
 rw [monT_ok hM]
 exact ⟨rfl, ((((cb2.t c7).t d12).t c13).t c17)⟩

theorem c_sTextMoney {w : World} {s : ByteArray} (hs : s.size ≤ 1048576) :
  Ret Tryd.prog 6 [.string s] w fun v w' => ∃ x, v = .tuple #[.agg #[.string ((rdM s).1), .bool (ng (rdM s).2.1), x], .bool ((rdM s).2.2)] ∧ OwnI w' w.heap.size w'.heap.size x intT (dg (rdM s).2.1.natAbs) ∧ ((dg (rdM s).2.1.natAbs).length ≤ 4) ∧ Chg 0 0 w w' := by
 have hp0 := part_size (b := 32) (s := s) 0
 have hp1 := part_size (b := 32) (s := s) 1
 have hp2 := part_size (b := 32) (s := s) 2
 have hx1 := rdX_len ((cutT 32 s).getD 1 ByteArray.empty)
 have hx2 := rdX_len ((cutT 32 s).getD 2 ByteArray.empty)
 refine sx_enter Tryd.func6 rfl Tryd.ntmps6 (nbl rfl) ?_
 refine sx_seq fun K1 k1 => sx_region ?_
 refine sx_alloc [.string (⟨#[]⟩), .bool false, (.slice none 0 0)] rfl Tryd.zeroValue26 rfl (fun b2 w3 eb2 sb2 fb2 cb2 => ?_)
 have zw3 := cb2.size
 refine av rfl rfl (wl_nil (q_n (k1 _ _ ?_)))
 refine sx_seq fun K4 k4 => sx_region ?_
 refine mv rfl rfl (sx_call rfl rfl Tryd.call27 (c_sCut (by omega)) (fun v5 w5 p5 => ?_))
 obtain ⟨x5, rfl, ox_5, c5⟩ := p5
 have zw5 := c5.size
 refine av rfl rfl (wl_nil (q_n (k4 _ _ ?_)))
 refine sx_seq fun K6 k6 => ?_
 refine sx_seq fun K7 k7 => sx_region ?_
 refine mv rfl rfl (sp rfl (px_len rfl Tryd.underlying54 ox_5.sv) ?_)
 refine sp rfl (px_ne rfl rfl) ?_
 refine wl_nil (q_n (k7 _ _ ?_))
 refine sx_condP rfl (fun h33 => ?_) (fun h33 => ?_)
 ·
  refine sx_seq fun K8 k8 => sx_region ?_
  refine sp rfl (px_build rfl (xbld26x  _)) ?_
  have f10 := fb2.ext c5
  refine sx_store (vs := [.string (⟨#[]⟩), .bool false, (.slice none 0 0)]) rfl rfl f10 rfl Tryd.sizeOf26 (nbl rfl) (o3 rfl rfl rfl) (fun w9 sw9 fw9 cw9 => ?_)
  have zw9 := cw9.size
  have gw9 : Blk w9 b2 [.string (⟨#[]⟩), .bool false, (.slice none 0 0)] 26 := fw9
  refine av rfl rfl (wl_nil (q_n (k8 _ _ ?_)))
  refine sx_retc ?_
  refine q_r (sx_ret2 Tryd.results6 ⟨_, rfl, gw9.loadA (vs := [.string (⟨#[]⟩), .bool false, (.slice none 0 0)]) (look_lit rfl) Tryd.isAgg26 Tryd.sizeOf26⟩ rfl ?_)
  have hB : rdM s = (⟨#[]⟩, 0, false) := rdM_no fun h => by
   first
   | exact absurd h.1 (by omega)
   | exact nt h38 h.2.1
   | exact mR_bad (nff h38x1) h.2.2.1
   | exact h38x2 (by rw [(mR_fine (nf h38x1)).1]; exact h.2.2.2)
  rw [hB]
  have q11 := Chg.step (l := 0) (h := 0) (Chg.zero (l := 0) (h := 0) (cb2.t c5)) cw9 (by omega)
  exact ⟨_, rfl, own_nil0, len_nil0, q11⟩
 refine sx_skip ?_
 refine q_n (k6 _ _ ?_)
 refine sx_seq fun K12 k12 => sx_region ?_
 refine mv rfl rfl (sp rfl (px_index1 (j := 1) rfl rfl (by omega) Tryd.underlying54 Tryd.sizeOf9 ox_5.sv (by omega)) ?_)
 refine sp rfl (px_load rfl (ox_5.sv.load1 (at_str (by omega)) Tryd.isAgg9)) ?_
 refine sx_call rfl rfl Tryd.call28 (c_sTextDecX (by omega)) (fun v13 w13 p13 => ?_)
 obtain ⟨x13, rfl, ox_13, hl13, c13⟩ := p13
 have zw13 := c13.size
 refine mv rfl rfl (sp rfl (px_ex2 rfl rfl) ?_)
 refine sp rfl (px_ex2 rfl rfl) ?_
 refine sx_alloc [.bool false, (.slice none 0 0), .int .i64 0] rfl Tryd.zeroValue33 rfl (fun b14 w15 eb14 sb14 fb14 cb14 => ?_)
 have zw15 := cb14.size
 have f17 := ox_13.ext cb14
 refine sx_store (vs := [.bool (ng (rdX ((cutT 32 s).getD 1 ByteArray.empty))), x13, .int .i64 (rdP ((cutT 32 s).getD 1 ByteArray.empty))]) rfl rfl fb14 rfl Tryd.sizeOf33 (nbl rfl) (one_cons rfl (one_cons f17.one (o1 rfl))) (fun w16 sw16 fw16 cw16 => ?_)
 have zw16 := cw16.size
 have gw16 : Blk w16 b14 [.bool (ng (rdX ((cutT 32 s).getD 1 ByteArray.empty))), x13, .int .i64 (rdP ((cutT 32 s).getD 1 ByteArray.empty))] 33 := fw16
 refine av rfl rfl (wl_nil (q_n (k12 _ _ ?_)))
 refine sx_sub (Sub.c 0 rfl (.c 2 rfl (.c 3 rfl (.c 4 rfl (.c 5 rfl (.c 6 rfl .nil)))))) ?_
 refine sx_seq fun K18 k18 => ?_
 refine sx_cut k18 (fun fr w' => ∃ (gb19x0 : Nat) (gs19x1 : Value), fr = [(0, .string s), (2, .pointer (some ⟨b2, 0, none⟩)), (3, .bool false), (6, .bool (rdK ((cutT 32 s).getD 1 ByteArray.empty))), (7, .pointer (some ⟨gb19x0, 0, none⟩)), (8, .bool ((mR ((cutT 32 s).getD 0 ByteArray.empty) (rdX ((cutT 32 s).getD 1 ByteArray.empty))).2.2.2))] ∧ Chg 0 0 w16 w' ∧ (Blk w' gb19x0 [.string ((mR ((cutT 32 s).getD 0 ByteArray.empty) (rdX ((cutT 32 s).getD 1 ByteArray.empty))).1), .bool ((mR ((cutT 32 s).getD 0 ByteArray.empty) (rdX ((cutT 32 s).getD 1 ByteArray.empty))).2.1), gs19x1] 26) ∧ (Own w' w5.heap.size w13.heap.size gs19x1 intT (((mR ((cutT 32 s).getD 0 ByteArray.empty) (rdX ((cutT 32 s).getD 1 ByteArray.empty))).2.2.1).length) 1 (((mR ((cutT 32 s).getD 0 ByteArray.empty) (rdX ((cutT 32 s).getD 1 ByteArray.empty))).2.2.1).map (Value.int .i64))) ∧ (w16.heap.size ≤ gb19x0 ∧ gb19x0 + 1 ≤ w'.heap.size)) (fun kc19 => ?_) ?_
 ·
  have f22 := ((fb2.ext c5).ext c13).ext cb14
  have f23 := f22.chg cw16 (by omega)
  have f25 := (ox_5.ext c13).ext cb14
  have f26 := f25.chg cw16 (by omega)
  have f27 := f17.chg cw16 (by omega)
  refine dx_region (fun w' => Chg 0 0 w16 w') (by kernel_rfl) (Chg.zero (Chg.drew _)) ?_
  have d28 := Chg.drew w16
  have s28 : Chg 0 0 w16 (World.drew w16) := Chg.zero (Chg.drew _)
  have y28 : (World.drew w16).heap.size = w16.heap.size := rfl
  generalize World.drew w16 = w28 at *
  have zw28 := d28.size
  refine dt 0 rfl rfl rfl rfl s28 (fun _ hS => px_move rfl) ?_
  refine dt 1 rfl rfl rfl rfl s28 (fun _ hS => px_index1 (j := 0) rfl rfl (by omega) Tryd.underlying54 Tryd.sizeOf9 ((f26.sv).chg hS (by omega)) (by omega)) ?_
  refine dt 2 rfl rfl rfl rfl s28 (fun _ hS => px_load rfl (((f26.sv).chg hS (by omega)).load1 (at_str (by omega)) Tryd.isAgg9)) ?_
  refine dt 3 rfl rfl rfl rfl s28 (fun _ hS => px_field rfl xfld33x0) ?_
  refine dt 4 rfl rfl rfl rfl s28 (fun _ hS => px_load rfl ((gw16.chg hS (by omega)).loadA (vs := [.bool (ng (rdX ((cutT 32 s).getD 1 ByteArray.empty))), x13]) (look_lit rfl) Tryd.isAgg24 Tryd.sizeOf24)) ?_
  refine dx_eff2 5 9 rfl rfl (by kernel_rfl) ?_ ?_
  ·
   have f29 := f27.ext d28
   refine sx_call rfl rfl Tryd.call29 (c_l09Make f29 (by omega) (by omega)) (fun v30 w30 p30 => ?_)
   obtain ⟨s30, rfl, os_30, c30⟩ := p30
   have zw30 := c30.size
   have s31 : Chg 0 0 w16 w30 := (d28.t c30)
   refine wl_nil ?_
   refine dx_next s31 ?_
   refine dt 6 rfl rfl rfl rfl s31 (fun _ hS => px_move rfl) ?_
   refine dt 7 rfl rfl rfl rfl s31 (fun _ hS => px_ex2 rfl rfl) ?_
   refine dt 8 rfl rfl rfl rfl s31 (fun _ hS => px_ex2 rfl rfl) ?_
   refine dx_eff 9 rfl (by kernel_rfl) ?_
   refine sx_alloc [.string (⟨#[]⟩), .bool false, (.slice none 0 0)] rfl Tryd.zeroValue26 rfl (fun b32 w33 eb32 sb32 fb32 cb32 => ?_)
   have zw33 := cb32.size
   have s34 : Chg 0 0 w16 w33 := ((d28.t c30).t cb32)
   refine wl_nil ?_
   refine dx_next s34 ?_
   refine dx_eff 10 rfl (by kernel_rfl) ?_
   have f36 := os_30.ext cb32
   refine sx_store (vs := [.string ((mR ((cutT 32 s).getD 0 ByteArray.empty) (rdX ((cutT 32 s).getD 1 ByteArray.empty))).1), .bool ((mR ((cutT 32 s).getD 0 ByteArray.empty) (rdX ((cutT 32 s).getD 1 ByteArray.empty))).2.1), s30]) rfl rfl fb32 rfl Tryd.sizeOf26 (nbl rfl) (one_cons rfl (one_cons rfl (one_cons f36.one one_nil))) (fun w35 sw35 fw35 cw35 => ?_)
   have zw35 := cw35.size
   have gw35 : Blk w35 b32 [.string ((mR ((cutT 32 s).getD 0 ByteArray.empty) (rdX ((cutT 32 s).getD 1 ByteArray.empty))).1), .bool ((mR ((cutT 32 s).getD 0 ByteArray.empty) (rdX ((cutT 32 s).getD 1 ByteArray.empty))).2.1), s30] 26 := fw35
   have q38 := Chg.step (l := 0) (h := 0) (Chg.zero (l := 0) (h := 0) ((d28.t c30).t cb32)) cw35 (by omega)
   have s37 : Chg 0 0 w16 w35 := q38
   refine wl_nil ?_
   refine dx_next s37 ?_
   refine dt 11 rfl rfl rfl rfl s37 (fun _ hS => px_assign rfl) ?_
   refine dx_done (by kernel_rfl) ?_
   have f39 := f36.chg cw35 (by omega)
   have q40 := Chg.step (l := 0) (h := 0) (Chg.zero (l := 0) (h := 0) ((d28.t c30).t cb32)) cw35 (by omega)
   exact q_n (kw_sub (Sub.c 0 rfl (.c 2 rfl (.c 3 rfl (.c 6 rfl (.c 7 rfl (.c 8 rfl .nil)))))) (kc19 _ _ ⟨b32, s30, rfl, q40, gw35, f39, by omega⟩))
  refine sx_alloc [.string (⟨#[]⟩), .bool false, (.slice none 0 0)] rfl Tryd.zeroValue26 rfl (fun b41 w42 eb41 sb41 fb41 cb41 => ?_)
  have zw42 := cb41.size
  have s43 : Chg 0 0 w16 w42 := (d28.t cb41)
  refine wl_nil ?_
  refine dx_next s43 ?_
  refine dx_eff 5 rfl (by kernel_rfl) ?_
  have f45 := (f27.ext d28).ext cb41
  refine sx_call rfl rfl Tryd.call29 (c_l09Make f45 (by omega) (by omega)) (fun v46 w46 p46 => ?_)
  obtain ⟨s46, rfl, os_46, c46⟩ := p46
  have zw46 := c46.size
  have s47 : Chg 0 0 w16 w46 := ((d28.t cb41).t c46)
  refine wl_nil ?_
  refine dx_next s47 ?_
  refine dt 6 rfl rfl rfl rfl s47 (fun _ hS => px_move rfl) ?_
  refine dt 7 rfl rfl rfl rfl s47 (fun _ hS => px_ex2 rfl rfl) ?_
  refine dt 8 rfl rfl rfl rfl s47 (fun _ hS => px_ex2 rfl rfl) ?_
  refine dx_eff 10 rfl (by kernel_rfl) ?_
  have f49 := fb41.ext c46
  refine sx_store (vs := [.string ((mR ((cutT 32 s).getD 0 ByteArray.empty) (rdX ((cutT 32 s).getD 1 ByteArray.empty))).1), .bool ((mR ((cutT 32 s).getD 0 ByteArray.empty) (rdX ((cutT 32 s).getD 1 ByteArray.empty))).2.1), s46]) rfl rfl f49 rfl Tryd.sizeOf26 (nbl rfl) (one_cons rfl (one_cons rfl (one_cons os_46.one one_nil))) (fun w48 sw48 fw48 cw48 => ?_)
  have zw48 := cw48.size
  have gw48 : Blk w48 b41 [.string ((mR ((cutT 32 s).getD 0 ByteArray.empty) (rdX ((cutT 32 s).getD 1 ByteArray.empty))).1), .bool ((mR ((cutT 32 s).getD 0 ByteArray.empty) (rdX ((cutT 32 s).getD 1 ByteArray.empty))).2.1), s46] 26 := fw48
  have q51 := Chg.step (l := 0) (h := 0) (Chg.zero (l := 0) (h := 0) ((d28.t cb41).t c46)) cw48 (by omega)
  have s50 : Chg 0 0 w16 w48 := q51
  refine wl_nil ?_
  refine dx_next s50 ?_
  refine dt 11 rfl rfl rfl rfl s50 (fun _ hS => px_assign rfl) ?_
  refine dx_done (by kernel_rfl) ?_
  have f52 := os_46.chg cw48 (by omega)
  have q53 := Chg.step (l := 0) (h := 0) (Chg.zero (l := 0) (h := 0) ((d28.t cb41).t c46)) cw48 (by omega)
  exact q_n (kw_sub (Sub.c 0 rfl (.c 2 rfl (.c 3 rfl (.c 6 rfl (.c 7 rfl (.c 8 rfl .nil)))))) (kc19 _ _ ⟨b41, s46, rfl, q53, gw48, f52, by omega⟩))
 rintro fr w'19 ⟨gb19x0, gs19x1, rfl, cw'19, xgb19x0, xgs19x1, ygb19x0⟩
 have zw'19 := cw'19.size
 refine sx_seq fun K54 k54 => ?_
 refine sx_seq fun K55 k55 => sx_region ?_
 refine mv rfl rfl (sp rfl (px_not rfl) ?_)
 refine mv rfl rfl ?_
 refine sx_tmpB (t := 33) rfl (fun h38 => ?_) (fun h38 => ?_)
 ·
  refine sx_guardF rfl rfl rfl rfl rfl rfl ?_
  refine sx_guardF rfl rfl rfl rfl rfl rfl ?_
  refine sp rfl (px_pick rfl rfl) ?_
  refine mv rfl rfl ?_
  refine sx_guardF rfl rfl rfl rfl rfl rfl ?_
  refine sx_guardF rfl rfl rfl rfl rfl rfl ?_
  refine sx_guardF rfl rfl rfl rfl rfl rfl ?_
  refine sx_guardF rfl rfl rfl rfl rfl rfl ?_
  refine sp rfl (px_pick rfl rfl) ?_
  refine wl_nil (q_n (k55 _ _ ?_))
  refine sx_sub (Sub.c 2 rfl (.c 3 rfl (.c 7 rfl (.c 42 rfl .nil)))) ?_
  refine sx_condT rfl ?_
  refine sx_seq fun K56 k56 => sx_region ?_
  refine sp rfl (px_build rfl (xbld26x  _)) ?_
  have f60 := ((fb2.ext c5).ext c13).ext cb14
  have f61 := f60.chg cw16 (by omega)
  have f62 := f61.ext cw'19
  refine sx_store (vs := [.string (⟨#[]⟩), .bool false, (.slice none 0 0)]) rfl rfl f62 rfl Tryd.sizeOf26 (nbl rfl) (o3 rfl rfl rfl) (fun w57 sw57 fw57 cw57 => ?_)
  have zw57 := cw57.size
  have gw57 : Blk w57 b2 [.string (⟨#[]⟩), .bool false, (.slice none 0 0)] 26 := fw57
  refine av rfl rfl (wl_nil (q_n (k56 _ _ ?_)))
  refine sx_retc ?_
  refine q_r (sx_ret2 Tryd.results6 ⟨_, rfl, gw57.loadA (vs := [.string (⟨#[]⟩), .bool false, (.slice none 0 0)]) (look_lit rfl) Tryd.isAgg26 Tryd.sizeOf26⟩ rfl ?_)
  have hB : rdM s = (⟨#[]⟩, 0, false) := rdM_no fun h => by
   first
   | exact absurd h.1 (by omega)
   | exact nt h38 h.2.1
   | exact mR_bad (nff h38x1) h.2.2.1
   | exact h38x2 (by rw [(mR_fine (nf h38x1)).1]; exact h.2.2.2)
  rw [hB]
  have q63 := Chg.step (l := 0) (h := 0) (Chg.zero (l := 0) (h := 0) (((cb2.t c5).t c13).t cb14)) cw16 (by omega)
  have q64 := Chg.step (l := 0) (h := 0) q63 cw'19 (by omega)
  have q65 := Chg.step (l := 0) (h := 0) q64 cw57 (by omega)
  exact ⟨_, rfl, own_nil0, len_nil0, q65⟩
 refine sx_guardT rfl rfl rfl ?_
 refine mv rfl rfl ?_
 refine sx_guardT rfl rfl rfl ?_
 refine sp rfl (px_not rfl) ?_
 refine sp rfl (px_pick rfl rfl) ?_
 refine mv rfl rfl ?_
 refine sx_tmpB (t := 37) rfl (fun h38x1 => ?_) (fun h38x1 => ?_)
 ·
  refine sx_guardF rfl rfl rfl rfl rfl rfl ?_
  refine sx_guardF rfl rfl rfl rfl rfl rfl ?_
  refine sx_guardF rfl rfl rfl rfl rfl rfl ?_
  refine sx_guardF rfl rfl rfl rfl rfl rfl ?_
  refine sp rfl (px_pick rfl rfl) ?_
  refine wl_nil (q_n (k55 _ _ ?_))
  refine sx_sub (Sub.c 2 rfl (.c 3 rfl (.c 7 rfl (.c 42 rfl .nil)))) ?_
  refine sx_condT rfl ?_
  refine sx_seq fun K66 k66 => sx_region ?_
  refine sp rfl (px_build rfl (xbld26x  _)) ?_
  have f70 := ((fb2.ext c5).ext c13).ext cb14
  have f71 := f70.chg cw16 (by omega)
  have f72 := f71.ext cw'19
  refine sx_store (vs := [.string (⟨#[]⟩), .bool false, (.slice none 0 0)]) rfl rfl f72 rfl Tryd.sizeOf26 (nbl rfl) (o3 rfl rfl rfl) (fun w67 sw67 fw67 cw67 => ?_)
  have zw67 := cw67.size
  have gw67 : Blk w67 b2 [.string (⟨#[]⟩), .bool false, (.slice none 0 0)] 26 := fw67
  refine av rfl rfl (wl_nil (q_n (k66 _ _ ?_)))
  refine sx_retc ?_
  refine q_r (sx_ret2 Tryd.results6 ⟨_, rfl, gw67.loadA (vs := [.string (⟨#[]⟩), .bool false, (.slice none 0 0)]) (look_lit rfl) Tryd.isAgg26 Tryd.sizeOf26⟩ rfl ?_)
  have hB : rdM s = (⟨#[]⟩, 0, false) := rdM_no fun h => by
   first
   | exact absurd h.1 (by omega)
   | exact nt h38 h.2.1
   | exact mR_bad (nff h38x1) h.2.2.1
   | exact h38x2 (by rw [(mR_fine (nf h38x1)).1]; exact h.2.2.2)
  rw [hB]
  have q73 := Chg.step (l := 0) (h := 0) (Chg.zero (l := 0) (h := 0) (((cb2.t c5).t c13).t cb14)) cw16 (by omega)
  have q74 := Chg.step (l := 0) (h := 0) q73 cw'19 (by omega)
  have q75 := Chg.step (l := 0) (h := 0) q74 cw67 (by omega)
  exact ⟨_, rfl, own_nil0, len_nil0, q75⟩
 refine sx_guardT rfl rfl rfl ?_
 refine sp rfl (px_load rfl (xgb19x0.loadA (vs := [.string ((mR ((cutT 32 s).getD 0 ByteArray.empty) (rdX ((cutT 32 s).getD 1 ByteArray.empty))).1), .bool ((mR ((cutT 32 s).getD 0 ByteArray.empty) (rdX ((cutT 32 s).getD 1 ByteArray.empty))).2.1), gs19x1]) (look_lit rfl) Tryd.isAgg26 Tryd.sizeOf26)) ?_
 refine sx_guardT rfl rfl rfl ?_
 refine sx_call rfl rfl Tryd.call30 (c_sMoneyText xgs19x1.sv (Nat.le_trans mR_len (by decide))) (fun v76 w76 p76 => ?_)
 obtain ⟨rfl, c76⟩ := p76
 have zw76 := c76.size
 refine sx_guardT rfl rfl rfl ?_
 refine mv rfl rfl ?_
 refine sx_guardT rfl rfl rfl ?_
 refine sp rfl (px_neS rfl rfl) ?_
 refine sp rfl (px_pick rfl rfl) ?_
 refine wl_nil (q_n (k55 _ _ ?_))
 refine sx_sub (Sub.c 2 rfl (.c 3 rfl (.c 7 rfl (.c 42 rfl .nil)))) ?_
 refine sx_condP rfl (fun h38x2 => ?_) (fun h38x2 => ?_)
 ·
  refine sx_seq fun K77 k77 => sx_region ?_
  refine sp rfl (px_build rfl (xbld26x  _)) ?_
  have f81 := ((fb2.ext c5).ext c13).ext cb14
  have f82 := f81.chg cw16 (by omega)
  have f83 := f82.ext cw'19
  have f84 := f83.ext c76
  refine sx_store (vs := [.string (⟨#[]⟩), .bool false, (.slice none 0 0)]) rfl rfl f84 rfl Tryd.sizeOf26 (nbl rfl) (o3 rfl rfl rfl) (fun w78 sw78 fw78 cw78 => ?_)
  have zw78 := cw78.size
  have gw78 : Blk w78 b2 [.string (⟨#[]⟩), .bool false, (.slice none 0 0)] 26 := fw78
  refine av rfl rfl (wl_nil (q_n (k77 _ _ ?_)))
  refine sx_retc ?_
  refine q_r (sx_ret2 Tryd.results6 ⟨_, rfl, gw78.loadA (vs := [.string (⟨#[]⟩), .bool false, (.slice none 0 0)]) (look_lit rfl) Tryd.isAgg26 Tryd.sizeOf26⟩ rfl ?_)
  have hB : rdM s = (⟨#[]⟩, 0, false) := rdM_no fun h => by
   first
   | exact absurd h.1 (by omega)
   | exact nt h38 h.2.1
   | exact mR_bad (nff h38x1) h.2.2.1
   | exact h38x2 (by rw [(mR_fine (nf h38x1)).1]; exact h.2.2.2)
  rw [hB]
  have q85 := Chg.step (l := 0) (h := 0) (Chg.zero (l := 0) (h := 0) (((cb2.t c5).t c13).t cb14)) cw16 (by omega)
  have q86 := Chg.step (l := 0) (h := 0) q85 (cw'19.t c76) (by omega)
  have q87 := Chg.step (l := 0) (h := 0) q86 cw78 (by omega)
  exact ⟨_, rfl, own_nil0, len_nil0, q87⟩
 refine sx_skip ?_
 refine q_n (k54 _ _ ?_)
 refine sx_seq fun K88 k88 => sx_region ?_
 have f89 := xgb19x0.ext c76
 refine sp rfl (px_load rfl (f89.loadA (vs := [.string ((mR ((cutT 32 s).getD 0 ByteArray.empty) (rdX ((cutT 32 s).getD 1 ByteArray.empty))).1), .bool ((mR ((cutT 32 s).getD 0 ByteArray.empty) (rdX ((cutT 32 s).getD 1 ByteArray.empty))).2.1), gs19x1]) (look_lit rfl) Tryd.isAgg26 Tryd.sizeOf26)) ?_
 have f93 := ((fb2.ext c5).ext c13).ext cb14
 have f94 := f93.chg cw16 (by omega)
 have f95 := f94.ext cw'19
 have f96 := f95.ext c76
 have f97 := xgs19x1.ext c76
 refine sx_store (vs := [.string ((mR ((cutT 32 s).getD 0 ByteArray.empty) (rdX ((cutT 32 s).getD 1 ByteArray.empty))).1), .bool ((mR ((cutT 32 s).getD 0 ByteArray.empty) (rdX ((cutT 32 s).getD 1 ByteArray.empty))).2.1), gs19x1]) rfl rfl f96 rfl Tryd.sizeOf26 (nbl rfl) (one_cons rfl (one_cons rfl (one_cons f97.one one_nil))) (fun w90 sw90 fw90 cw90 => ?_)
 have zw90 := cw90.size
 have gw90 : Blk w90 b2 [.string ((mR ((cutT 32 s).getD 0 ByteArray.empty) (rdX ((cutT 32 s).getD 1 ByteArray.empty))).1), .bool ((mR ((cutT 32 s).getD 0 ByteArray.empty) (rdX ((cutT 32 s).getD 1 ByteArray.empty))).2.1), gs19x1] 26 := fw90
 refine av rfl rfl (wl_nil (q_n (k88 _ _ ?_)))
 refine sx_retc ?_
 refine sx_ret2 Tryd.results6 ⟨_, rfl, gw90.loadA (vs := [.string ((mR ((cutT 32 s).getD 0 ByteArray.empty) (rdX ((cutT 32 s).getD 1 ByteArray.empty))).1), .bool ((mR ((cutT 32 s).getD 0 ByteArray.empty) (rdX ((cutT 32 s).getD 1 ByteArray.empty))).2.1), gs19x1]) (look_lit rfl) Tryd.isAgg26 Tryd.sizeOf26⟩ rfl ?_
 have hf := mR_fine (nf h38x1)
 have h9 := Decidable.not_not.1 h38x2
 rw [hf.1] at h9
 have hR := rdM_yes (s := s) (Decidable.not_not.1 h33) (nf h38) h9 (fun e => monT_ne hf.2 (h9.trans e))
 have hl := rdM_len s
 rw [hR] at hl
 have f98 := f97.chg cw90 (by omega)
 have ho := f98
 rw [hf.1] at ho
 rw [hR, hf.1]
 have q99 := Chg.step (l := 0) (h := 0) (Chg.zero (l := 0) (h := 0) (((cb2.t c5).t c13).t cb14)) cw16 (by omega)
 have q100 := Chg.step (l := 0) (h := 0) q99 (cw'19.t c76) (by omega)
 have q101 := Chg.step (l := 0) (h := 0) q100 cw90 (by omega)
 exact ⟨_, rfl, ho.mono (by omega) (by omega), hl, q101⟩

theorem c_iCut {w : World} {s : ByteArray} (hs : s.size ≤ 1048576) :
  Ret Tryd.prog 31 [.string s] w fun v w' => ∃ x, v = x ∧ OwnS w' w.heap.size w'.heap.size x strT (cutT 32 s) ∧ Chg 0 0 w w' := by
 refine sx_enter Tryd.func31 rfl Tryd.ntmps31 (nbl rfl) ?_
 refine sx_seq fun K1 k1 => sx_region ?_
 refine av rfl rfl (wl_nil (q_n (k1 _ _ ?_)))
 refine sx_seq fun K2 k2 => sx_region ?_
 refine mv rfl rfl (sx_call rfl rfl Tryd.call66 (c_iCutAtB (by omega) (rfl)) (fun v3 w3 p3 => ?_))
 obtain ⟨x3, rfl, ox_3, c3⟩ := p3
 have zw3 := c3.size
 refine av rfl rfl (wl_nil (q_n (k2 _ _ ?_)))
 refine sx_retc ?_
 refine sx_ret1 Tryd.results31 rfl ?_
 exact ⟨_, rfl, (Own.mono ox_3 (by omega) (by omega)), c3⟩

theorem c_currencyOf {w : World} {s : ByteArray} (hG0 : Glob w) :
  Ret Tryd.prog 86 [.string s] w fun v w' => v = .tuple #[.agg #[.string ((curOf s).code), .string ((curOf s).number), .int .i64 ((curOf s).places), .int .i64 ((curOf s).cash)], .bool (decide (Known s))] ∧ Chg 0 0 w w' := by
 refine sx_enter Tryd.func86 rfl Tryd.ntmps86 (nbl rfl) ?_
 refine sx_seq fun K1 k1 => sx_region ?_
 refine sx_alloc [.string (⟨#[]⟩), .string (⟨#[]⟩), .int .i64 0, .int .i64 0] rfl Tryd.zeroValue98 rfl (fun b2 w3 eb2 sb2 fb2 cb2 => ?_)
 have zw3 := cb2.size
 refine av rfl rfl (wl_nil (q_n (k1 _ _ ?_)))
 refine sx_seq fun K4 k4 => ?_
 refine sx_seq fun K5 k5 => sx_region ?_
 have f6 := hG0.ext cb2
 refine sp rfl (px_load rfl (Glob.load f6 Tryd.isAgg115 Tryd.sizeOf115)) ?_
 refine mv rfl rfl (wl_nil (q_n (k5 _ _ ?_)))
 refine sx_block ?_
 refine sx_loop (fun mm aa w' => ∃ (k : Nat), Agr 17 [(0, .string s), (2, .pointer (some ⟨b2, 0, none⟩)), (6, .agg (crCells tabI).toArray), (7, .int .i64 ↑k)] aa ∧ Chg 0 0 w3 w' ∧ (mm = 20 - k) ∧ (k ≤ 20) ∧ (∀ i, i < k → ¬ (tabI.getD i cr0).code = s)) (20) (fun a ha => ⟨0, ha.sub (Sub.c 0 rfl (.c 2 rfl (.c 6 rfl (.c 7 (look_int (t := 7) rfl (by first | omega | simp)) .nil)))), Chg.refl _ _ _, rfl, by omega, fun i h => by omega⟩) ?_
 rintro mm aa wl7 ⟨k, hAwl7, cwl7, hm, hk, hn⟩
 refine (show cw Tryd.prog 17 _ _ _ wl7 from ?_) aa hAwl7
 clear hAwl7
 have zwl7 := cwl7.size
 refine sx_seq fun K8 k8 => sx_region ?_
 refine sp rfl (px_lt rfl rfl) ?_
 refine wl_nil (q_n (k8 _ _ ?_))
 refine sx_seq fun K9 k9 => ?_
 refine sx_condP rfl (fun h39 => ?_) (fun h39 => ?_)
 ·
  refine sx_skip ?_
  refine q_n (k9 _ _ ?_)
  refine sx_seq fun K10 k10 => ?_
  refine sx_block ?_
  refine sx_seq fun K11 k11 => sx_region ?_
  refine sp rfl (px_indexCr (l := tabI) (j := k) rfl rfl (by omega) Tryd.underlying115 rfl Tryd.sizeOf98 Tryd.isAgg98 (by rw [show tabI.length = 20 from rfl]; omega)) ?_
  refine sx_alloc [.string (⟨#[]⟩), .string (⟨#[]⟩), .int .i64 0, .int .i64 0] rfl Tryd.zeroValue98 rfl (fun b12 w13 eb12 sb12 fb12 cb12 => ?_)
  have zw13 := cb12.size
  refine sx_store (vs := [.string ((tabI.getD k cr0).code), .string ((tabI.getD k cr0).number), .int .i64 ((tabI.getD k cr0).places), .int .i64 ((tabI.getD k cr0).cash)]) rfl rfl fb12 rfl Tryd.sizeOf98 (nbl rfl) (one_cons rfl (o3 rfl rfl rfl)) (fun w14 sw14 fw14 cw14 => ?_)
  have zw14 := cw14.size
  have gw14 : Blk w14 b12 [.string ((tabI.getD k cr0).code), .string ((tabI.getD k cr0).number), .int .i64 ((tabI.getD k cr0).places), .int .i64 ((tabI.getD k cr0).cash)] 98 := fw14
  refine wl_nil (q_n (k11 _ _ ?_))
  refine sx_seq fun K15 k15 => sx_region ?_
  refine sp rfl (px_field rfl xfld98x0) ?_
  refine sp rfl (px_load rfl (gw14.load1 rfl Tryd.isAgg9)) ?_
  refine mv rfl rfl (sp rfl (px_eqS rfl rfl) ?_)
  refine wl_nil (q_n (k15 _ _ ?_))
  refine sx_condP rfl (fun h40 => ?_) (fun h40 => ?_)
  ·
   refine sx_seq fun K16 k16 => sx_region ?_
   refine sp rfl (px_load rfl (gw14.loadA (vs := [.string ((tabI.getD k cr0).code), .string ((tabI.getD k cr0).number), .int .i64 ((tabI.getD k cr0).places), .int .i64 ((tabI.getD k cr0).cash)]) (look_lit rfl) Tryd.isAgg98 Tryd.sizeOf98)) ?_
   have f18 := fb2.ext cwl7
   have f19 := f18.ext cb12
   have f20 := f19.chg cw14 (by omega)
   refine sx_store (vs := [.string ((tabI.getD k cr0).code), .string ((tabI.getD k cr0).number), .int .i64 ((tabI.getD k cr0).places), .int .i64 ((tabI.getD k cr0).cash)]) rfl rfl f20 rfl Tryd.sizeOf98 (nbl rfl) (one_cons rfl (o3 rfl rfl rfl)) (fun w17 sw17 fw17 cw17 => ?_)
   have zw17 := cw17.size
   have gw17 : Blk w17 b2 [.string ((tabI.getD k cr0).code), .string ((tabI.getD k cr0).number), .int .i64 ((tabI.getD k cr0).places), .int .i64 ((tabI.getD k cr0).cash)] 98 := fw17
   refine av rfl rfl (wl_nil (q_n (k16 _ _ ?_)))
   refine sx_retc ?_
   refine q_br (q_r (q_r (q_br (q_r (sx_ret2 Tryd.results86 ⟨_, rfl, gw17.loadA (vs := [.string ((tabI.getD k cr0).code), .string ((tabI.getD k cr0).number), .int .i64 ((tabI.getD k cr0).places), .int .i64 ((tabI.getD k cr0).cash)]) (look_lit rfl) Tryd.isAgg98 Tryd.sizeOf98⟩ rfl ?_)))))
   have e := curOf_some (by rw [show tabI.length = 20 from rfl]; omega) hn h40
   have e2 := known_some (by rw [show tabI.length = 20 from rfl]; omega) hn h40
   rw [e]
   have q21 := Chg.step (l := 0) (h := 0) (Chg.zero (l := 0) (h := 0) ((cb2.t cwl7).t cb12)) cw14 (by omega)
   have q22 := Chg.step (l := 0) (h := 0) q21 cw17 (by omega)
   exact ⟨by simp [e2], q22⟩
  refine sx_skip ?_
  refine q_bn (q_n (k10 _ _ ?_))
  refine sx_region ?_
  refine sp rfl (px_add rfl rfl (by omega)) ?_
  refine mv rfl rfl (wl_nil ?_)
  have q23 := Chg.step (l := 0) (h := 0) (Chg.zero (l := 0) (h := 0) (cwl7.t cb12)) cw14 (by omega)
  exact fun a ha => ⟨_, by omega, (k + 1), ha.sub (Sub.c 0 rfl (.c 2 rfl (.c 6 rfl (.c 7 (look_int (t := 7) rfl (by first | omega | simp)) .nil)))), q23, rfl, by omega, upto_succ hn h40⟩
 refine sx_exit ?_
 refine q_e (q_e (q_bx (q_n (k4 _ _ ?_))))
 refine sx_seq fun K24 k24 => sx_region ?_
 refine sp rfl (px_build rfl (xbld98x  _)) ?_
 have f26 := fb2.ext cwl7
 refine sx_store (vs := [.string (⟨#[]⟩), .string (⟨#[]⟩), .int .i64 0, .int .i64 0]) rfl rfl f26 rfl Tryd.sizeOf98 (nbl rfl) (one_cons rfl (o3 rfl rfl rfl)) (fun w25 sw25 fw25 cw25 => ?_)
 have zw25 := cw25.size
 have gw25 : Blk w25 b2 [.string (⟨#[]⟩), .string (⟨#[]⟩), .int .i64 0, .int .i64 0] 98 := fw25
 refine av rfl rfl (wl_nil (q_n (k24 _ _ ?_)))
 refine sx_retc ?_
 refine sx_ret2 Tryd.results86 ⟨_, rfl, gw25.loadA (vs := [.string (⟨#[]⟩), .string (⟨#[]⟩), .int .i64 0, .int .i64 0]) (look_lit rfl) Tryd.isAgg98 Tryd.sizeOf98⟩ rfl ?_
 have e := curOf_none (s := s) (fun i hi => hn i (by rw [show tabI.length = 20 from rfl] at hi; omega))
 have e2 := known_none (s := s) (fun i hi => hn i (by rw [show tabI.length = 20 from rfl] at hi; omega))
 rw [e]
 have q27 := Chg.step (l := 0) (h := 0) (Chg.zero (l := 0) (h := 0) (cb2.t cwl7)) cw25 (by omega)
 exact ⟨by simp [e2, cr0], q27⟩

theorem c_iCurKnown {w : World} {s : ByteArray} (hG0 : Glob w) :
  Ret Tryd.prog 76 [.string s] w fun v w' => v = .bool (decide (Known s)) ∧ Chg 0 0 w w' := by
 refine sx_enter Tryd.func76 rfl Tryd.ntmps76 (nbl rfl) ?_
 refine sx_seq fun K1 k1 => sx_region ?_
 refine av rfl rfl (wl_nil (q_n (k1 _ _ ?_)))
 refine sx_seq fun K2 k2 => sx_region ?_
 refine mv rfl rfl (sx_call rfl rfl Tryd.call86 (c_currencyOf hG0) (fun v3 w3 p3 => ?_))
 obtain ⟨rfl, c3⟩ := p3
 have zw3 := c3.size
 refine mv rfl rfl (sp rfl (px_ex2 rfl rfl) ?_)
 refine sp rfl (px_ex2 rfl rfl) ?_
 refine sx_alloc [.string (⟨#[]⟩), .string (⟨#[]⟩), .int .i64 0, .int .i64 0] rfl Tryd.zeroValue98 rfl (fun b4 w5 eb4 sb4 fb4 cb4 => ?_)
 have zw5 := cb4.size
 refine sx_store (vs := [.string ((curOf s).code), .string ((curOf s).number), .int .i64 ((curOf s).places), .int .i64 ((curOf s).cash)]) rfl rfl fb4 rfl Tryd.sizeOf98 (nbl rfl) (one_cons rfl (o3 rfl rfl rfl)) (fun w6 sw6 fw6 cw6 => ?_)
 have zw6 := cw6.size
 have gw6 : Blk w6 b4 [.string ((curOf s).code), .string ((curOf s).number), .int .i64 ((curOf s).places), .int .i64 ((curOf s).cash)] 98 := fw6
 refine av rfl rfl (wl_nil (q_n (k2 _ _ ?_)))
 refine sx_seq fun K7 k7 => sx_region ?_
 refine mv rfl rfl (av rfl rfl (wl_nil (q_n (k7 _ _ ?_))))
 refine sx_retc ?_
 refine sx_ret1 Tryd.results76 rfl ?_
 have q8 := Chg.step (l := 0) (h := 0) (Chg.zero (l := 0) (h := 0) (c3.t cb4)) cw6 (by omega)
 exact ⟨rfl, q8⟩

theorem c_iMoneyOk {w : World} {c1 : ByteArray} {n1 : Bool} {v1 : Value} {lv1 uv1 : Nat} {z1 : List Int} (hG0 : Glob w) (hv1 : Sl w lv1 uv1 v1 (z1)) (h63 : z1.length ≤ 4611686018427387904) :
  Ret Tryd.prog 46 [.agg #[.string c1, .bool n1, v1]] w fun v w' => v = .bool (decide (MOk c1 n1 z1)) ∧ Chg 0 0 w w' := by
 have hv10 := hv1.fit
 refine sx_enter Tryd.func46 rfl Tryd.ntmps46 (nbl rfl) ?_
 refine sx_seq fun K1 k1 => sx_region ?_
 refine sx_box [.string c1, .bool n1, v1] rfl rfl rfl (fun b2 w3 eb2 sb2 fb2 cb2 => ?_)
 have zw3 := cb2.size
 refine av rfl rfl (wl_nil (q_n (k1 _ _ ?_)))
 refine sx_seq fun K4 k4 => sx_region ?_
 refine sp rfl (px_field rfl xfld26x0) ?_
 refine sp rfl (px_load rfl (fb2.load1 rfl Tryd.isAgg9)) ?_
 have f5 := hG0.ext cb2
 refine sx_call rfl rfl Tryd.call76 (c_iCurKnown f5) (fun v6 w6 p6 => ?_)
 obtain ⟨rfl, c6⟩ := p6
 have zw6 := c6.size
 refine mv rfl rfl ?_
 refine sx_tmpP (t := 6) rfl (fun h14 => ?_) (fun h14 => ?_)
 ·
  refine sx_guardT rfl rfl rfl ?_
  refine sp rfl (px_field rfl xfld26x1) ?_
  refine sx_guardT rfl rfl rfl ?_
  have f7 := fb2.ext c6
  refine sp rfl (px_load rfl (f7.loadA (vs := [.bool n1, v1]) (look_lit rfl) Tryd.isAgg24 Tryd.sizeOf24)) ?_
  refine sx_guardT rfl rfl rfl ?_
  have f8 := hv10.ext cb2
  have f9 := f8.ext c6
  refine sx_call rfl rfl Tryd.call58 (c_iIntOk f9 (by omega)) (fun v10 w10 p10 => ?_)
  obtain ⟨rfl, c10⟩ := p10
  have zw10 := c10.size
  refine sp rfl (px_pick rfl rfl) ?_
  refine mv rfl rfl ?_
  refine sx_tmpP (t := 11) rfl (fun h14x1 => ?_) (fun h14x1 => ?_)
  ·
   refine sx_guardT rfl rfl rfl ?_
   refine sp rfl (px_field rfl xfld26x1) ?_
   refine sx_guardT rfl rfl rfl ?_
   refine sp rfl (px_field rfl xfld24x1) ?_
   refine sx_guardT rfl rfl rfl ?_
   have f11 := f7.ext c10
   refine sp rfl (px_load rfl (f11.load1 rfl Tryd.isAgg22)) ?_
   refine sx_guardT rfl rfl rfl ?_
   have f12 := f9.ext c10
   refine sp rfl (px_len rfl Tryd.underlying22 f12) ?_
   refine sx_guardT rfl rfl rfl ?_
   refine sp rfl (px_le rfl rfl) ?_
   refine sp rfl (px_pick rfl rfl) ?_
   refine av rfl rfl (wl_nil (q_n (k4 _ _ ?_)))
   refine sx_sub (Sub.c 2 rfl .nil) ?_
   refine sx_retc ?_
   refine sx_ret1 Tryd.results46 rfl ?_
   exact ⟨(by first | exact bTrue (by grind [MOk]) | exact bFalse (by grind [MOk]) | exact bIff (by grind [MOk])), ((cb2.t c6).t c10)⟩
  refine sx_guardF rfl rfl rfl rfl rfl rfl ?_
  refine sx_guardF rfl rfl rfl rfl rfl rfl ?_
  refine sx_guardF rfl rfl rfl rfl rfl rfl ?_
  refine sx_guardF rfl rfl rfl rfl rfl rfl ?_
  refine sx_guardF rfl rfl rfl rfl rfl rfl ?_
  refine sp rfl (px_pick rfl rfl) ?_
  refine av rfl rfl (wl_nil (q_n (k4 _ _ ?_)))
  refine sx_sub (Sub.c 2 rfl .nil) ?_
  refine sx_retc ?_
  refine sx_ret1 Tryd.results46 rfl ?_
  exact ⟨(by first | exact bTrue (by grind [MOk]) | exact bFalse (by grind [MOk]) | exact bIff (by grind [MOk])), ((cb2.t c6).t c10)⟩
 refine sx_guardF rfl rfl rfl rfl rfl rfl ?_
 refine sx_guardF rfl rfl rfl rfl rfl rfl ?_
 refine sx_guardF rfl rfl rfl rfl rfl rfl ?_
 refine sp rfl (px_pick rfl rfl) ?_
 refine mv rfl rfl ?_
 refine sx_guardF rfl rfl rfl rfl rfl rfl ?_
 refine sx_guardF rfl rfl rfl rfl rfl rfl ?_
 refine sx_guardF rfl rfl rfl rfl rfl rfl ?_
 refine sx_guardF rfl rfl rfl rfl rfl rfl ?_
 refine sx_guardF rfl rfl rfl rfl rfl rfl ?_
 refine sp rfl (px_pick rfl rfl) ?_
 refine av rfl rfl (wl_nil (q_n (k4 _ _ ?_)))
 refine sx_sub (Sub.c 2 rfl .nil) ?_
 refine sx_retc ?_
 refine sx_ret1 Tryd.results46 rfl ?_
 exact ⟨(by first | exact bTrue (by grind [MOk]) | exact bFalse (by grind [MOk]) | exact bIff (by grind [MOk])), (cb2.t c6)⟩

theorem c_iCurPlaces {w : World} {s : ByteArray} (hG0 : Glob w) :
  Ret Tryd.prog 48 [.string s] w fun v w' => v = .int .i64 ((curOf s).places) ∧ Chg 0 0 w w' := by
 refine sx_enter Tryd.func48 rfl Tryd.ntmps48 (nbl rfl) ?_
 refine sx_seq fun K1 k1 => sx_region ?_
 refine av rfl rfl (wl_nil (q_n (k1 _ _ ?_)))
 refine sx_seq fun K2 k2 => sx_region ?_
 refine mv rfl rfl (sx_call rfl rfl Tryd.call86 (c_currencyOf hG0) (fun v3 w3 p3 => ?_))
 obtain ⟨rfl, c3⟩ := p3
 have zw3 := c3.size
 refine mv rfl rfl (sp rfl (px_ex2 rfl rfl) ?_)
 refine sp rfl (px_ex2 rfl rfl) ?_
 refine sx_alloc [.string (⟨#[]⟩), .string (⟨#[]⟩), .int .i64 0, .int .i64 0] rfl Tryd.zeroValue98 rfl (fun b4 w5 eb4 sb4 fb4 cb4 => ?_)
 have zw5 := cb4.size
 refine sx_store (vs := [.string ((curOf s).code), .string ((curOf s).number), .int .i64 ((curOf s).places), .int .i64 ((curOf s).cash)]) rfl rfl fb4 rfl Tryd.sizeOf98 (nbl rfl) (one_cons rfl (o3 rfl rfl rfl)) (fun w6 sw6 fw6 cw6 => ?_)
 have zw6 := cw6.size
 have gw6 : Blk w6 b4 [.string ((curOf s).code), .string ((curOf s).number), .int .i64 ((curOf s).places), .int .i64 ((curOf s).cash)] 98 := fw6
 refine av rfl rfl (wl_nil (q_n (k2 _ _ ?_)))
 refine sx_seq fun K7 k7 => sx_region ?_
 refine sp rfl (px_field rfl xfld98x2) ?_
 refine sp rfl (px_load rfl (gw6.load1 rfl Tryd.isAgg3)) ?_
 refine av rfl rfl (wl_nil (q_n (k7 _ _ ?_)))
 refine sx_retc ?_
 refine sx_ret1 Tryd.results48 rfl ?_
 have q8 := Chg.step (l := 0) (h := 0) (Chg.zero (l := 0) (h := 0) (c3.t cb4)) cw6 (by omega)
 exact ⟨rfl, q8⟩

theorem c_iMoneyText {w : World} {c1 : ByteArray} {n1 : Bool} {v1 : Value} {lv1 uv1 : Nat} {z1 : List Int} (hG0 : Glob w) (hGT : GlobP w) (hv1 : Sl w lv1 uv1 v1 (z1)) (h63 : z1.length ≤ 4611686018427387904) :
  Ret Tryd.prog 17 [.agg #[.string c1, .bool n1, v1]] w fun v w' => v = .string (monT c1 n1 z1) ∧ Chg 0 0 w w' := by
 have hGTl := hGT.lt
 have hv10 := hv1.fit
 refine sx_enter Tryd.func17 rfl Tryd.ntmps17 (nbl rfl) ?_
 refine sx_seq fun K1 k1 => sx_region ?_
 refine sx_box [.string c1, .bool n1, v1] rfl rfl rfl (fun b2 w3 eb2 sb2 fb2 cb2 => ?_)
 have zw3 := cb2.size
 refine av rfl rfl (wl_nil (q_n (k1 _ _ ?_)))
 refine sx_seq fun K4 k4 => ?_
 refine sx_seq fun K5 k5 => sx_region ?_
 refine sp rfl (px_load rfl (fb2.loadA (vs := [.string c1, .bool n1, v1]) (look_lit rfl) Tryd.isAgg26 Tryd.sizeOf26)) ?_
 have f6 := hG0.ext cb2
 have f7 := hv10.ext cb2
 refine sx_call rfl rfl Tryd.call46 (c_iMoneyOk f6 f7 (by omega)) (fun v8 w8 p8 => ?_)
 obtain ⟨rfl, c8⟩ := p8
 have zw8 := c8.size
 refine sp rfl (px_notP rfl) ?_
 refine wl_nil (q_n (k5 _ _ ?_))
 refine sx_condP rfl (fun h30 => ?_) (fun h30 => ?_)
 ·
  refine sx_seq fun K9 k9 => sx_region ?_
  refine av rfl rfl (wl_nil (q_n (k9 _ _ ?_)))
  refine sx_retc ?_
  refine q_r (sx_ret1 Tryd.results17 rfl ?_)
  rw [monT_no h30]
  exact ⟨rfl, (cb2.t c8)⟩
 have hM := Decidable.not_not.1 h30
 have hks := known_size hM.1
 refine sx_skip ?_
 refine q_n (k4 _ _ ?_)
 refine sx_seq fun K10 k10 => ?_
 have f12 := hGT.ext cb2
 have f14 := fb2.ext c8
 refine dx_region (fun w' => Chg 0 0 w8 w') (by kernel_rfl) (Chg.zero (Chg.drew _)) ?_
 have d16 := Chg.drew w8
 have s16 : Chg 0 0 w8 (World.drew w8) := Chg.zero (Chg.drew _)
 have y16 : (World.drew w8).heap.size = w8.heap.size := rfl
 generalize World.drew w8 = w16 at *
 have zw16 := d16.size
 refine dt 0 rfl rfl rfl rfl s16 (fun _ hS => px_field rfl xfld26x0) ?_
 refine dt 1 rfl rfl rfl rfl s16 (fun _ hS => px_load rfl ((f14.chg hS (by omega)).load1 rfl Tryd.isAgg9)) ?_
 refine dt 2 rfl rfl rfl rfl s16 (fun _ hS => px_cat rfl rfl (by (have e32 : (⟨#[32]⟩ : ByteArray).size = 1 := rfl); (try simp only [ByteArray.size_append]); omega)) ?_
 refine dt 3 rfl rfl rfl rfl s16 (fun _ hS => px_field rfl xfld26x1) ?_
 refine dt 4 rfl rfl rfl rfl s16 (fun _ hS => px_load rfl ((f14.chg hS (by omega)).loadA (vs := [.bool n1, v1]) (look_lit rfl) Tryd.isAgg24 Tryd.sizeOf24)) ?_
 refine dt 5 rfl rfl rfl rfl s16 (fun _ hS => px_field rfl xfld26x0) ?_
 refine dt 6 rfl rfl rfl rfl s16 (fun _ hS => px_load rfl ((f14.chg hS (by omega)).load1 rfl Tryd.isAgg9)) ?_
 refine dx_eff 7 rfl (by kernel_rfl) ?_
 have f17 := (f6.ext c8).ext d16
 refine sx_call rfl rfl Tryd.call48 (c_iCurPlaces f17) (fun v18 w18 p18 => ?_)
 obtain ⟨rfl, c18⟩ := p18
 have zw18 := c18.size
 have s19 : Chg 0 0 w8 w18 := (d16.t c18)
 refine wl_nil ?_
 refine dx_next s19 ?_
 refine dt 8 rfl rfl rfl rfl s19 (fun _ hS => px_build rfl (xbld33x0x1 rfl _)) ?_
 refine dx_eff 9 rfl (by kernel_rfl) ?_
 have f21 := ((f12.ext c8).ext d16).ext c18
 have f23 := ((f7.ext c8).ext d16).ext c18
 refine sx_call rfl rfl Tryd.call47 (c_iDecText f21 f23 (by omega)) (fun v24 w24 p24 => ?_)
 obtain ⟨rfl, hsz24, c24⟩ := p24
 have zw24 := c24.size
 have s25 : Chg 0 0 w8 w24 := ((d16.t c18).t c24)
 refine wl_nil ?_
 refine dx_next s25 ?_
 refine dt 10 rfl rfl rfl rfl s25 (fun _ hS => px_cat rfl rfl (by (have e32 : (⟨#[32]⟩ : ByteArray).size = 1 := rfl); (try simp only [ByteArray.size_append]); omega)) ?_
 refine dt 11 rfl rfl rfl rfl s25 (fun _ hS => px_assign rfl) ?_
 refine dx_done (by kernel_rfl) ?_
 refine q_n (k10 _ _ ?_)
 refine sx_sub (Sub.c 2 rfl .nil) ?_
 refine sx_retc ?_
 refine sx_ret1 Tryd.results17 rfl ?_
 rw [monT_ok hM]
 exact ⟨rfl, ((((cb2.t c8).t d16).t c18).t c24)⟩

theorem c_iTextMoney {w : World} {s : ByteArray} (hG0 : Glob w) (hGT : GlobP w) (hs : s.size ≤ 1048576) :
  Ret Tryd.prog 7 [.string s] w fun v w' => ∃ x, v = .tuple #[.agg #[.string ((rdM s).1), .bool (ng (rdM s).2.1), x], .bool ((rdM s).2.2)] ∧ OwnI w' w.heap.size w'.heap.size x intT (dg (rdM s).2.1.natAbs) ∧ ((dg (rdM s).2.1.natAbs).length ≤ 4) ∧ Chg 0 0 w w' := by
 have hGTl := hGT.lt
 have hp0 := part_size (b := 32) (s := s) 0
 have hp1 := part_size (b := 32) (s := s) 1
 have hp2 := part_size (b := 32) (s := s) 2
 have hx1 := rdX_len ((cutT 32 s).getD 1 ByteArray.empty)
 have hx2 := rdX_len ((cutT 32 s).getD 2 ByteArray.empty)
 refine sx_enter Tryd.func7 rfl Tryd.ntmps7 (nbl rfl) ?_
 refine sx_seq fun K1 k1 => sx_region ?_
 refine sx_alloc [.string (⟨#[]⟩), .bool false, (.slice none 0 0)] rfl Tryd.zeroValue26 rfl (fun b2 w3 eb2 sb2 fb2 cb2 => ?_)
 have zw3 := cb2.size
 refine av rfl rfl (wl_nil (q_n (k1 _ _ ?_)))
 refine sx_seq fun K4 k4 => sx_region ?_
 refine mv rfl rfl (sx_call rfl rfl Tryd.call31 (c_iCut (by omega)) (fun v5 w5 p5 => ?_))
 obtain ⟨x5, rfl, ox_5, c5⟩ := p5
 have zw5 := c5.size
 refine av rfl rfl (wl_nil (q_n (k4 _ _ ?_)))
 refine sx_seq fun K6 k6 => ?_
 refine sx_seq fun K7 k7 => sx_region ?_
 refine mv rfl rfl (sp rfl (px_len rfl Tryd.underlying54 ox_5.sv) ?_)
 refine sp rfl (px_ne rfl rfl) ?_
 refine wl_nil (q_n (k7 _ _ ?_))
 refine sx_condP rfl (fun h39 => ?_) (fun h39 => ?_)
 ·
  refine sx_seq fun K8 k8 => sx_region ?_
  refine sp rfl (px_build rfl (xbld26x  _)) ?_
  have f10 := fb2.ext c5
  refine sx_store (vs := [.string (⟨#[]⟩), .bool false, (.slice none 0 0)]) rfl rfl f10 rfl Tryd.sizeOf26 (nbl rfl) (o3 rfl rfl rfl) (fun w9 sw9 fw9 cw9 => ?_)
  have zw9 := cw9.size
  have gw9 : Blk w9 b2 [.string (⟨#[]⟩), .bool false, (.slice none 0 0)] 26 := fw9
  refine av rfl rfl (wl_nil (q_n (k8 _ _ ?_)))
  refine sx_retc ?_
  refine q_r (sx_ret2 Tryd.results7 ⟨_, rfl, gw9.loadA (vs := [.string (⟨#[]⟩), .bool false, (.slice none 0 0)]) (look_lit rfl) Tryd.isAgg26 Tryd.sizeOf26⟩ rfl ?_)
  have hB : rdM s = (⟨#[]⟩, 0, false) := rdM_bad fun h => by
   first
   | exact absurd h.1 (by omega)
   | exact nt h44 h.2.1
   | exact h44x1 h.2.2.1
   | exact h.2.2.2 h44x2
  rw [hB]
  have q11 := Chg.step (l := 0) (h := 0) (Chg.zero (l := 0) (h := 0) (cb2.t c5)) cw9 (by omega)
  exact ⟨_, rfl, own_nil0, len_nil0, q11⟩
 refine sx_skip ?_
 refine q_n (k6 _ _ ?_)
 refine sx_seq fun K12 k12 => sx_region ?_
 refine mv rfl rfl (sp rfl (px_index1 (j := 1) rfl rfl (by omega) Tryd.underlying54 Tryd.sizeOf9 ox_5.sv (by omega)) ?_)
 refine sp rfl (px_load rfl (ox_5.sv.load1 (at_str (by omega)) Tryd.isAgg9)) ?_
 have f13 := hGT.ext cb2
 have f14 := f13.ext c5
 refine sx_call rfl rfl Tryd.call32 (c_iTextDecX f14 (by omega)) (fun v15 w15 p15 => ?_)
 obtain ⟨x15, rfl, ox_15, hl15, c15⟩ := p15
 have zw15 := c15.size
 refine mv rfl rfl (sp rfl (px_ex2 rfl rfl) ?_)
 refine sp rfl (px_ex2 rfl rfl) ?_
 refine sx_alloc [.bool false, (.slice none 0 0), .int .i64 0] rfl Tryd.zeroValue33 rfl (fun b16 w17 eb16 sb16 fb16 cb16 => ?_)
 have zw17 := cb16.size
 have f19 := ox_15.ext cb16
 refine sx_store (vs := [.bool (ng (rdX ((cutT 32 s).getD 1 ByteArray.empty))), x15, .int .i64 (rdP ((cutT 32 s).getD 1 ByteArray.empty))]) rfl rfl fb16 rfl Tryd.sizeOf33 (nbl rfl) (one_cons rfl (one_cons f19.one (o1 rfl))) (fun w18 sw18 fw18 cw18 => ?_)
 have zw18 := cw18.size
 have gw18 : Blk w18 b16 [.bool (ng (rdX ((cutT 32 s).getD 1 ByteArray.empty))), x15, .int .i64 (rdP ((cutT 32 s).getD 1 ByteArray.empty))] 33 := fw18
 refine av rfl rfl (wl_nil (q_n (k12 _ _ ?_)))
 refine sx_sub (Sub.c 0 rfl (.c 2 rfl (.c 3 rfl (.c 4 rfl (.c 5 rfl (.c 6 rfl .nil)))))) ?_
 refine sx_seq fun K20 k20 => ?_
 have f21 := hG0.ext cb2
 have f24 := ((f21.ext c5).ext c15).ext cb16
 have f25 := f24.chg cw18 (by omega)
 have f27 := (f14.ext c15).ext cb16
 have f28 := f27.chg cw18 (by omega)
 have f31 := ((fb2.ext c5).ext c15).ext cb16
 have f32 := f31.chg cw18 (by omega)
 have f34 := (ox_5.ext c15).ext cb16
 have f35 := f34.chg cw18 (by omega)
 have f36 := f19.chg cw18 (by omega)
 refine dx_region (fun w' => Chg 0 0 w18 w') (by kernel_rfl) (Chg.zero (Chg.drew _)) ?_
 have d37 := Chg.drew w18
 have s37 : Chg 0 0 w18 (World.drew w18) := Chg.zero (Chg.drew _)
 have y37 : (World.drew w18).heap.size = w18.heap.size := rfl
 generalize World.drew w18 = w37 at *
 have zw37 := d37.size
 refine dt 0 rfl rfl rfl rfl s37 (fun _ hS => px_move rfl) ?_
 refine dt 1 rfl rfl rfl rfl s37 (fun _ hS => px_index1 (j := 0) rfl rfl (by omega) Tryd.underlying54 Tryd.sizeOf9 ((f35.sv).chg hS (by omega)) (by omega)) ?_
 refine dt 2 rfl rfl rfl rfl s37 (fun _ hS => px_load rfl (((f35.sv).chg hS (by omega)).load1 (at_str (by omega)) Tryd.isAgg9)) ?_
 refine dt 3 rfl rfl rfl rfl s37 (fun _ hS => px_field rfl xfld33x0) ?_
 refine dt 4 rfl rfl rfl rfl s37 (fun _ hS => px_load rfl ((gw18.chg hS (by omega)).loadA (vs := [.bool (ng (rdX ((cutT 32 s).getD 1 ByteArray.empty))), x15]) (look_lit rfl) Tryd.isAgg24 Tryd.sizeOf24)) ?_
 refine dt 5 rfl rfl rfl rfl s37 (fun _ hS => px_build rfl (xbld26x0x1 rfl _)) ?_
 refine dx_eff 6 rfl (by kernel_rfl) ?_
 refine sx_alloc [.string (⟨#[]⟩), .bool false, (.slice none 0 0)] rfl Tryd.zeroValue26 rfl (fun b38 w39 eb38 sb38 fb38 cb38 => ?_)
 have zw39 := cb38.size
 have s40 : Chg 0 0 w18 w39 := (d37.t cb38)
 refine wl_nil ?_
 refine dx_next s40 ?_
 refine dx_eff 7 rfl (by kernel_rfl) ?_
 have f43 := (f36.ext d37).ext cb38
 refine sx_store (vs := [.string ((cutT 32 s).getD 0 ByteArray.empty), .bool (ng (rdX ((cutT 32 s).getD 1 ByteArray.empty))), x15]) rfl rfl fb38 rfl Tryd.sizeOf26 (nbl rfl) (one_cons rfl (one_cons rfl (one_cons f43.one one_nil))) (fun w41 sw41 fw41 cw41 => ?_)
 have zw41 := cw41.size
 have gw41 : Blk w41 b38 [.string ((cutT 32 s).getD 0 ByteArray.empty), .bool (ng (rdX ((cutT 32 s).getD 1 ByteArray.empty))), x15] 26 := fw41
 have q45 := Chg.step (l := 0) (h := 0) (Chg.zero (l := 0) (h := 0) (d37.t cb38)) cw41 (by omega)
 have s44 : Chg 0 0 w18 w41 := q45
 refine wl_nil ?_
 refine dx_next s44 ?_
 refine dx_done (by kernel_rfl) ?_
 refine q_n (k20 _ _ ?_)
 refine sx_seq fun K46 k46 => ?_
 refine sx_seq fun K47 k47 => sx_region ?_
 refine mv rfl rfl (sp rfl (px_not rfl) ?_)
 refine mv rfl rfl ?_
 refine sx_tmpB (t := 29) rfl (fun h44 => ?_) (fun h44 => ?_)
 ·
  refine sx_guardF rfl rfl rfl rfl rfl rfl ?_
  refine sx_guardF rfl rfl rfl rfl rfl rfl ?_
  refine sx_guardF rfl rfl rfl rfl rfl rfl ?_
  refine sx_guardF rfl rfl rfl rfl rfl rfl ?_
  refine sp rfl (px_pick rfl rfl) ?_
  refine mv rfl rfl ?_
  refine sx_guardF rfl rfl rfl rfl rfl rfl ?_
  refine sx_guardF rfl rfl rfl rfl rfl rfl ?_
  refine sp rfl (px_pick rfl rfl) ?_
  refine wl_nil (q_n (k47 _ _ ?_))
  refine sx_sub (Sub.c 2 rfl (.c 3 rfl (.c 7 rfl (.c 38 rfl .nil)))) ?_
  refine sx_condT rfl ?_
  refine sx_seq fun K48 k48 => sx_region ?_
  refine sp rfl (px_build rfl (xbld26x  _)) ?_
  have f51 := (f32.ext d37).ext cb38
  have f52 := f51.chg cw41 (by omega)
  refine sx_store (vs := [.string (⟨#[]⟩), .bool false, (.slice none 0 0)]) rfl rfl f52 rfl Tryd.sizeOf26 (nbl rfl) (o3 rfl rfl rfl) (fun w49 sw49 fw49 cw49 => ?_)
  have zw49 := cw49.size
  have gw49 : Blk w49 b2 [.string (⟨#[]⟩), .bool false, (.slice none 0 0)] 26 := fw49
  refine av rfl rfl (wl_nil (q_n (k48 _ _ ?_)))
  refine sx_retc ?_
  refine q_r (sx_ret2 Tryd.results7 ⟨_, rfl, gw49.loadA (vs := [.string (⟨#[]⟩), .bool false, (.slice none 0 0)]) (look_lit rfl) Tryd.isAgg26 Tryd.sizeOf26⟩ rfl ?_)
  have hB : rdM s = (⟨#[]⟩, 0, false) := rdM_bad fun h => by
   first
   | exact absurd h.1 (by omega)
   | exact nt h44 h.2.1
   | exact h44x1 h.2.2.1
   | exact h.2.2.2 h44x2
  rw [hB]
  have q53 := Chg.step (l := 0) (h := 0) (Chg.zero (l := 0) (h := 0) (((cb2.t c5).t c15).t cb16)) cw18 (by omega)
  have q54 := Chg.step (l := 0) (h := 0) q53 (d37.t cb38) (by omega)
  have q55 := Chg.step (l := 0) (h := 0) q54 cw41 (by omega)
  have q56 := Chg.step (l := 0) (h := 0) q55 cw49 (by omega)
  exact ⟨_, rfl, own_nil0, len_nil0, q56⟩
 refine sx_guardT rfl rfl rfl ?_
 refine sp rfl (px_load rfl (gw41.loadA (vs := [.string ((cutT 32 s).getD 0 ByteArray.empty), .bool (ng (rdX ((cutT 32 s).getD 1 ByteArray.empty))), x15]) (look_lit rfl) Tryd.isAgg26 Tryd.sizeOf26)) ?_
 refine sx_guardT rfl rfl rfl ?_
 have f58 := (f25.ext d37).ext cb38
 have f59 := f58.chg cw41 (by omega)
 have f61 := (f28.ext d37).ext cb38
 have f62 := f61.chg cw41 (by omega)
 have f63 := f43.chg cw41 (by omega)
 refine sx_call rfl rfl Tryd.call17 (c_iMoneyText f59 f62 f63.sv (by omega)) (fun v64 w64 p64 => ?_)
 obtain ⟨rfl, c64⟩ := p64
 have zw64 := c64.size
 refine sx_guardT rfl rfl rfl ?_
 refine mv rfl rfl ?_
 refine sx_guardT rfl rfl rfl ?_
 refine sp rfl (px_neS rfl rfl) ?_
 refine sp rfl (px_pick rfl rfl) ?_
 refine mv rfl rfl ?_
 refine sx_tmpP (t := 35) rfl (fun h44x1 => ?_) (fun h44x1 => ?_)
 ·
  refine sx_guardF rfl rfl rfl rfl rfl rfl ?_
  refine sx_guardF rfl rfl rfl rfl rfl rfl ?_
  refine sp rfl (px_pick rfl rfl) ?_
  refine wl_nil (q_n (k47 _ _ ?_))
  refine sx_sub (Sub.c 2 rfl (.c 3 rfl (.c 7 rfl (.c 38 rfl .nil)))) ?_
  refine sx_condT rfl ?_
  refine sx_seq fun K65 k65 => sx_region ?_
  refine sp rfl (px_build rfl (xbld26x  _)) ?_
  have f68 := (f32.ext d37).ext cb38
  have f69 := f68.chg cw41 (by omega)
  have f70 := f69.ext c64
  refine sx_store (vs := [.string (⟨#[]⟩), .bool false, (.slice none 0 0)]) rfl rfl f70 rfl Tryd.sizeOf26 (nbl rfl) (o3 rfl rfl rfl) (fun w66 sw66 fw66 cw66 => ?_)
  have zw66 := cw66.size
  have gw66 : Blk w66 b2 [.string (⟨#[]⟩), .bool false, (.slice none 0 0)] 26 := fw66
  refine av rfl rfl (wl_nil (q_n (k65 _ _ ?_)))
  refine sx_retc ?_
  refine q_r (sx_ret2 Tryd.results7 ⟨_, rfl, gw66.loadA (vs := [.string (⟨#[]⟩), .bool false, (.slice none 0 0)]) (look_lit rfl) Tryd.isAgg26 Tryd.sizeOf26⟩ rfl ?_)
  have hB : rdM s = (⟨#[]⟩, 0, false) := rdM_bad fun h => by
   first
   | exact absurd h.1 (by omega)
   | exact nt h44 h.2.1
   | exact h44x1 h.2.2.1
   | exact h.2.2.2 h44x2
  rw [hB]
  have q71 := Chg.step (l := 0) (h := 0) (Chg.zero (l := 0) (h := 0) (((cb2.t c5).t c15).t cb16)) cw18 (by omega)
  have q72 := Chg.step (l := 0) (h := 0) q71 (d37.t cb38) (by omega)
  have q73 := Chg.step (l := 0) (h := 0) q72 cw41 (by omega)
  have q74 := Chg.step (l := 0) (h := 0) q73 c64 (by omega)
  have q75 := Chg.step (l := 0) (h := 0) q74 cw66 (by omega)
  exact ⟨_, rfl, own_nil0, len_nil0, q75⟩
 refine sx_guardT rfl rfl rfl ?_
 refine mv rfl rfl ?_
 refine sx_guardT rfl rfl rfl ?_
 refine sp rfl (px_eqS rfl rfl) ?_
 refine sp rfl (px_pick rfl rfl) ?_
 refine wl_nil (q_n (k47 _ _ ?_))
 refine sx_sub (Sub.c 2 rfl (.c 3 rfl (.c 7 rfl (.c 38 rfl .nil)))) ?_
 refine sx_condP rfl (fun h44x2 => ?_) (fun h44x2 => ?_)
 ·
  refine sx_seq fun K76 k76 => sx_region ?_
  refine sp rfl (px_build rfl (xbld26x  _)) ?_
  have f79 := (f32.ext d37).ext cb38
  have f80 := f79.chg cw41 (by omega)
  have f81 := f80.ext c64
  refine sx_store (vs := [.string (⟨#[]⟩), .bool false, (.slice none 0 0)]) rfl rfl f81 rfl Tryd.sizeOf26 (nbl rfl) (o3 rfl rfl rfl) (fun w77 sw77 fw77 cw77 => ?_)
  have zw77 := cw77.size
  have gw77 : Blk w77 b2 [.string (⟨#[]⟩), .bool false, (.slice none 0 0)] 26 := fw77
  refine av rfl rfl (wl_nil (q_n (k76 _ _ ?_)))
  refine sx_retc ?_
  refine q_r (sx_ret2 Tryd.results7 ⟨_, rfl, gw77.loadA (vs := [.string (⟨#[]⟩), .bool false, (.slice none 0 0)]) (look_lit rfl) Tryd.isAgg26 Tryd.sizeOf26⟩ rfl ?_)
  have hB : rdM s = (⟨#[]⟩, 0, false) := rdM_bad fun h => by
   first
   | exact absurd h.1 (by omega)
   | exact nt h44 h.2.1
   | exact h44x1 h.2.2.1
   | exact h.2.2.2 h44x2
  rw [hB]
  have q82 := Chg.step (l := 0) (h := 0) (Chg.zero (l := 0) (h := 0) (((cb2.t c5).t c15).t cb16)) cw18 (by omega)
  have q83 := Chg.step (l := 0) (h := 0) q82 (d37.t cb38) (by omega)
  have q84 := Chg.step (l := 0) (h := 0) q83 cw41 (by omega)
  have q85 := Chg.step (l := 0) (h := 0) q84 c64 (by omega)
  have q86 := Chg.step (l := 0) (h := 0) q85 cw77 (by omega)
  exact ⟨_, rfl, own_nil0, len_nil0, q86⟩
 refine sx_skip ?_
 refine q_n (k46 _ _ ?_)
 refine sx_seq fun K87 k87 => sx_region ?_
 have f88 := gw41.ext c64
 refine sp rfl (px_load rfl (f88.loadA (vs := [.string ((cutT 32 s).getD 0 ByteArray.empty), .bool (ng (rdX ((cutT 32 s).getD 1 ByteArray.empty))), x15]) (look_lit rfl) Tryd.isAgg26 Tryd.sizeOf26)) ?_
 have f91 := (f32.ext d37).ext cb38
 have f92 := f91.chg cw41 (by omega)
 have f93 := f92.ext c64
 have f94 := f63.ext c64
 refine sx_store (vs := [.string ((cutT 32 s).getD 0 ByteArray.empty), .bool (ng (rdX ((cutT 32 s).getD 1 ByteArray.empty))), x15]) rfl rfl f93 rfl Tryd.sizeOf26 (nbl rfl) (one_cons rfl (one_cons rfl (one_cons f94.one one_nil))) (fun w89 sw89 fw89 cw89 => ?_)
 have zw89 := cw89.size
 have gw89 : Blk w89 b2 [.string ((cutT 32 s).getD 0 ByteArray.empty), .bool (ng (rdX ((cutT 32 s).getD 1 ByteArray.empty))), x15] 26 := fw89
 refine av rfl rfl (wl_nil (q_n (k87 _ _ ?_)))
 refine sx_retc ?_
 refine sx_ret2 Tryd.results7 ⟨_, rfl, gw89.loadA (vs := [.string ((cutT 32 s).getD 0 ByteArray.empty), .bool (ng (rdX ((cutT 32 s).getD 1 ByteArray.empty))), x15]) (look_lit rfl) Tryd.isAgg26 Tryd.sizeOf26⟩ rfl ?_
 have hR := rdM_yes (s := s) (Decidable.not_not.1 h39) (nf h44) (Decidable.not_not.1 h44x1) h44x2
 have hl := rdM_len s
 rw [hR] at hl
 rw [hR]
 have q95 := Chg.step (l := 0) (h := 0) (Chg.zero (l := 0) (h := 0) (((cb2.t c5).t c15).t cb16)) cw18 (by omega)
 have q96 := Chg.step (l := 0) (h := 0) q95 (d37.t cb38) (by omega)
 have q97 := Chg.step (l := 0) (h := 0) q96 cw41 (by omega)
 have q98 := Chg.step (l := 0) (h := 0) q97 c64 (by omega)
 have q99 := Chg.step (l := 0) (h := 0) q98 cw89 (by omega)
 have f100 := f94.chg cw89 (by omega)
 exact ⟨_, rfl, (Own.mono f100 (by omega) (by omega)), hl, q99⟩

theorem c_eqIntS {w : World} {va : Value} {lva uva : Nat} {zs : List Int} {vb : Value} {lvb uvb : Nat} {ys : List Int} (hva : Sl w lva uva va (zs)) (hvb : Sl w lvb uvb vb (ys)) (h63 : zs.length ≤ 4611686018427387904 ∧ ys.length ≤ 4611686018427387904) :
  Ret Tryd.prog 70 [va, vb] w fun v w' => v = .bool (decide (zs = ys)) ∧ Chg 0 0 w w' := by
 have hva0 := hva.fit
 have hvb0 := hvb.fit
 have hneq : zs.length ≠ ys.length → zs ≠ ys := fun h e => h (by rw [e])
 refine sx_enter Tryd.func70 rfl Tryd.ntmps70 (nbl rfl) ?_
 refine sx_seq fun K1 k1 => sx_region ?_
 refine av rfl rfl (wl_nil (q_n (k1 _ _ ?_)))
 refine sx_seq fun K2 k2 => ?_
 refine sx_seq fun K3 k3 => sx_region ?_
 refine mv rfl rfl (sp rfl (px_len rfl Tryd.underlying22 hva0) ?_)
 refine mv rfl rfl (sp rfl (px_len rfl Tryd.underlying22 hvb0) ?_)
 refine sp rfl (px_ne rfl rfl) ?_
 refine wl_nil (q_n (k3 _ _ ?_))
 refine sx_condP rfl (fun h210 => ?_) (fun h210 => ?_)
 ·
  refine sx_seq fun K4 k4 => sx_region ?_
  refine av rfl rfl (wl_nil (q_n (k4 _ _ ?_)))
  refine sx_retc ?_
  refine q_r (sx_ret1 Tryd.results70 rfl ?_)
  exact ⟨bFalse (hneq (by omega)), (Chg.refl 0 0 _)⟩
 refine sx_skip ?_
 refine q_n (k2 _ _ ?_)
 refine sx_seq fun K5 k5 => ?_
 refine sx_seq fun K6 k6 => sx_region ?_
 refine av rfl rfl (wl_nil (q_n (k6 _ _ ?_)))
 refine sx_block ?_
 refine sx_loop (fun mm aa w' => ∃ (k : Nat), Agr 26 [(0, va), (1, vb), (5, .int .i64 ↑k)] aa ∧ Chg 0 0 w w' ∧ (mm = zs.length - k) ∧ (k ≤ zs.length) ∧ (zs.take k = ys.take k)) (_) (fun a ha => ⟨0, ha.sub (Sub.c 0 rfl (.c 1 rfl (.c 5 (look_int (t := 5) rfl (by first | omega | simp)) .nil))), Chg.refl _ _ _, rfl, by omega, by simp⟩) ?_
 rintro mm aa wl7 ⟨k, hAwl7, cwl7, hm, hk, he⟩
 refine (show cw Tryd.prog 26 _ _ _ wl7 from ?_) aa hAwl7
 clear hAwl7
 have zwl7 := cwl7.size
 refine sx_seq fun K8 k8 => ?_
 refine sx_seq fun K9 k9 => sx_region ?_
 refine mv rfl rfl (mv rfl rfl ?_)
 have f10 := hva0.ext cwl7
 refine sp rfl (px_len rfl Tryd.underlying22 f10) ?_
 refine sp rfl (px_lt rfl rfl) ?_
 refine wl_nil (q_n (k9 _ _ ?_))
 refine sx_condP rfl (fun h213 => ?_) (fun h213 => ?_)
 ·
  refine sx_skip ?_
  refine q_n (k8 _ _ ?_)
  refine sx_seq fun K11 k11 => ?_
  refine sx_block ?_
  refine sx_seq fun K12 k12 => ?_
  have f13 := hvb0.ext cwl7
  refine dx_region (fun w' => Chg 0 0 wl7 w') (by kernel_rfl) (Chg.zero (Chg.drew _)) ?_
  have d14 := Chg.drew wl7
  have s14 : Chg 0 0 wl7 (World.drew wl7) := Chg.zero (Chg.drew _)
  have y14 : (World.drew wl7).heap.size = wl7.heap.size := rfl
  generalize World.drew wl7 = w14 at *
  have zw14 := d14.size
  refine dt 0 rfl rfl rfl rfl s14 (fun _ hS => px_move rfl) ?_
  refine dt 1 rfl rfl rfl rfl s14 (fun _ hS => px_move rfl) ?_
  refine dt 2 rfl rfl rfl rfl s14 (fun _ hS => px_index1 (j := k) rfl rfl (by omega) Tryd.underlying22 Tryd.sizeOf3 ((f10).chg hS (by omega)) (by omega)) ?_
  refine dt 3 rfl rfl rfl rfl s14 (fun _ hS => px_load rfl (((f10).chg hS (by omega)).load1 (at_int (by omega)) Tryd.isAgg3)) ?_
  refine dt 4 rfl rfl rfl rfl s14 (fun _ hS => px_move rfl) ?_
  refine dt 5 rfl rfl rfl rfl s14 (fun _ hS => px_move rfl) ?_
  refine dt 6 rfl rfl rfl rfl s14 (fun _ hS => px_index1 (j := k) rfl rfl (by omega) Tryd.underlying22 Tryd.sizeOf3 ((f13).chg hS (by omega)) (by omega)) ?_
  refine dt 7 rfl rfl rfl rfl s14 (fun _ hS => px_load rfl (((f13).chg hS (by omega)).load1 (at_int (by omega)) Tryd.isAgg3)) ?_
  refine dt 8 rfl rfl rfl rfl s14 (fun _ hS => px_ne rfl rfl) ?_
  refine dx_done (by kernel_rfl) ?_
  refine q_n (k12 _ _ ?_)
  refine sx_sub (Sub.c 0 rfl (.c 1 rfl (.c 5 rfl (.c 25 rfl .nil)))) ?_
  refine sx_condP rfl (fun h214 => ?_) (fun h214 => ?_)
  ·
   refine sx_seq fun K15 k15 => sx_region ?_
   refine av rfl rfl (wl_nil (q_n (k15 _ _ ?_)))
   refine sx_retc ?_
   refine q_br (q_r (q_r (q_br (q_r (sx_ret1 Tryd.results70 rfl ?_)))))
   exact ⟨bFalse (ne_of_getD h214), (cwl7.t d14)⟩
  refine sx_skip ?_
  refine q_bn (q_n (k11 _ _ ?_))
  refine sx_region ?_
  refine mv rfl rfl (sp rfl (px_add rfl rfl (by omega)) ?_)
  refine av rfl rfl (wl_nil ?_)
  exact fun a ha => ⟨_, by omega, (k + 1), ha.sub (Sub.c 0 rfl (.c 1 rfl (.c 5 (look_int (t := 5) rfl (by first | omega | simp)) .nil))), (cwl7.t d14), rfl, by omega, take_succ_eq he (by omega) (by omega) (Decidable.not_not.1 h214)⟩
 refine sx_exit ?_
 refine q_e (q_e (q_bx (q_n (k5 _ _ ?_))))
 refine sx_seq fun K16 k16 => sx_region ?_
 refine av rfl rfl (wl_nil (q_n (k16 _ _ ?_)))
 refine sx_retc ?_
 refine sx_ret1 Tryd.results70 rfl ?_
 have e1 : k = zs.length := by omega
 rw [e1, List.take_length, List.take_of_length_le (by omega)] at he
 exact ⟨bTrue he, cwl7⟩

theorem c_eqSigned {w : World} {n1 : Bool} {v1 : Value} {lv1 uv1 : Nat} {z1 : List Int} {n2 : Bool} {v2 : Value} {lv2 uv2 : Nat} {z2 : List Int} (hv1 : Sl w lv1 uv1 v1 (z1)) (hv2 : Sl w lv2 uv2 v2 (z2)) (h63 : z1.length ≤ 4611686018427387904 ∧ z2.length ≤ 4611686018427387904) :
  Ret Tryd.prog 33 [.agg #[.bool n1, v1], .agg #[.bool n2, v2]] w fun v w' => v = .bool (decide (n1 = n2 ∧ z1 = z2)) ∧ Chg 0 0 w w' := by
 have hv10 := hv1.fit
 have hv20 := hv2.fit
 refine sx_enter Tryd.func33 rfl Tryd.ntmps33 (nbl rfl) ?_
 refine sx_seq fun K1 k1 => sx_region ?_
 refine sx_box [.bool n1, v1] rfl rfl rfl (fun b2 w3 eb2 sb2 fb2 cb2 => ?_)
 have zw3 := cb2.size
 refine sx_box [.bool n2, v2] rfl rfl rfl (fun b4 w5 eb4 sb4 fb4 cb4 => ?_)
 have zw5 := cb4.size
 refine av rfl rfl (wl_nil (q_n (k1 _ _ ?_)))
 refine sx_seq fun K6 k6 => ?_
 refine sx_seq fun K7 k7 => sx_region ?_
 refine sp rfl (px_field rfl xfld24x0) ?_
 have f8 := fb2.ext cb4
 refine sp rfl (px_load rfl (f8.load1 rfl Tryd.isAgg4)) ?_
 refine sp rfl (px_field rfl xfld24x0) ?_
 refine sp rfl (px_load rfl (fb4.load1 rfl Tryd.isAgg4)) ?_
 refine sp rfl (px_neB Tryd.underlying4 rfl rfl) ?_
 refine wl_nil (q_n (k7 _ _ ?_))
 refine sx_condB rfl (fun h263 => ?_) (fun h263 => ?_)
 ·
  refine sx_seq fun K9 k9 => sx_region ?_
  refine av rfl rfl (wl_nil (q_n (k9 _ _ ?_)))
  refine sx_retc ?_
  refine q_r (sx_ret1 Tryd.results33 rfl ?_)
  exact ⟨(by first | exact bTrue (by grind) | exact bFalse (by grind) | exact bIff (by grind)), (cb2.t cb4)⟩
 refine sx_skip ?_
 refine q_n (k6 _ _ ?_)
 refine sx_seq fun K10 k10 => ?_
 refine sx_seq fun K11 k11 => sx_region ?_
 refine sp rfl (px_field rfl xfld24x1) ?_
 refine sp rfl (px_load rfl (f8.load1 rfl Tryd.isAgg22)) ?_
 refine sp rfl (px_field rfl xfld24x1) ?_
 refine sp rfl (px_load rfl (fb4.load1 rfl Tryd.isAgg22)) ?_
 have f12 := hv10.ext cb2
 have f13 := f12.ext cb4
 have f14 := hv20.ext cb2
 have f15 := f14.ext cb4
 refine sx_call rfl rfl Tryd.call70 (c_eqIntS f13 f15 (by omega)) (fun v16 w16 p16 => ?_)
 obtain ⟨rfl, c16⟩ := p16
 have zw16 := c16.size
 refine sp rfl (px_notP rfl) ?_
 refine wl_nil (q_n (k11 _ _ ?_))
 refine sx_sub (Sub.c 4 rfl (.c 15 rfl .nil)) ?_
 refine sx_condP rfl (fun h266 => ?_) (fun h266 => ?_)
 ·
  refine sx_seq fun K17 k17 => sx_region ?_
  refine av rfl rfl (wl_nil (q_n (k17 _ _ ?_)))
  refine sx_retc ?_
  refine q_r (sx_ret1 Tryd.results33 rfl ?_)
  exact ⟨(by first | exact bTrue (by grind) | exact bFalse (by grind) | exact bIff (by grind)), ((cb2.t cb4).t c16)⟩
 refine sx_skip ?_
 refine q_n (k10 _ _ ?_)
 refine sx_seq fun K18 k18 => sx_region ?_
 refine av rfl rfl (wl_nil (q_n (k18 _ _ ?_)))
 refine sx_retc ?_
 refine sx_ret1 Tryd.results33 rfl ?_
 exact ⟨(by first | exact bTrue (by grind) | exact bFalse (by grind) | exact bIff (by grind)), ((cb2.t cb4).t c16)⟩

theorem c_eqMoney {w : World} {c1 : ByteArray} {n1 : Bool} {v1 : Value} {lv1 uv1 : Nat} {z1 : List Int} {c2 : ByteArray} {n2 : Bool} {v2 : Value} {lv2 uv2 : Nat} {z2 : List Int} (hv1 : Sl w lv1 uv1 v1 (z1)) (hv2 : Sl w lv2 uv2 v2 (z2)) (h63 : z1.length ≤ 4611686018427387904 ∧ z2.length ≤ 4611686018427387904) :
  Ret Tryd.prog 8 [.agg #[.string c1, .bool n1, v1], .agg #[.string c2, .bool n2, v2]] w fun v w' => v = .bool (decide (c1 = c2 ∧ n1 = n2 ∧ z1 = z2)) ∧ Chg 0 0 w w' := by
 have hv10 := hv1.fit
 have hv20 := hv2.fit
 refine sx_enter Tryd.func8 rfl Tryd.ntmps8 (nbl rfl) ?_
 refine sx_seq fun K1 k1 => sx_region ?_
 refine sx_box [.string c1, .bool n1, v1] rfl rfl rfl (fun b2 w3 eb2 sb2 fb2 cb2 => ?_)
 have zw3 := cb2.size
 refine sx_box [.string c2, .bool n2, v2] rfl rfl rfl (fun b4 w5 eb4 sb4 fb4 cb4 => ?_)
 have zw5 := cb4.size
 refine av rfl rfl (wl_nil (q_n (k1 _ _ ?_)))
 refine sx_seq fun K6 k6 => ?_
 refine sx_seq fun K7 k7 => sx_region ?_
 refine sp rfl (px_field rfl xfld26x0) ?_
 have f8 := fb2.ext cb4
 refine sp rfl (px_load rfl (f8.load1 rfl Tryd.isAgg9)) ?_
 refine sp rfl (px_field rfl xfld26x0) ?_
 refine sp rfl (px_load rfl (fb4.load1 rfl Tryd.isAgg9)) ?_
 refine sp rfl (px_neS rfl rfl) ?_
 refine wl_nil (q_n (k7 _ _ ?_))
 refine sx_condP rfl (fun h447 => ?_) (fun h447 => ?_)
 ·
  refine sx_seq fun K9 k9 => sx_region ?_
  refine av rfl rfl (wl_nil (q_n (k9 _ _ ?_)))
  refine sx_retc ?_
  refine q_r (sx_ret1 Tryd.results8 rfl ?_)
  exact ⟨(by first | exact bTrue (by grind) | exact bFalse (by grind) | exact bIff (by grind)), (cb2.t cb4)⟩
 refine sx_skip ?_
 refine q_n (k6 _ _ ?_)
 refine sx_seq fun K10 k10 => ?_
 refine sx_seq fun K11 k11 => sx_region ?_
 refine sp rfl (px_field rfl xfld26x1) ?_
 refine sp rfl (px_load rfl (f8.loadA (vs := [.bool n1, v1]) (look_lit rfl) Tryd.isAgg24 Tryd.sizeOf24)) ?_
 refine sp rfl (px_field rfl xfld26x1) ?_
 refine sp rfl (px_load rfl (fb4.loadA (vs := [.bool n2, v2]) (look_lit rfl) Tryd.isAgg24 Tryd.sizeOf24)) ?_
 have f12 := hv10.ext cb2
 have f13 := f12.ext cb4
 have f14 := hv20.ext cb2
 have f15 := f14.ext cb4
 refine sx_call rfl rfl Tryd.call33 (c_eqSigned f13 f15 (by omega)) (fun v16 w16 p16 => ?_)
 obtain ⟨rfl, c16⟩ := p16
 have zw16 := c16.size
 refine sp rfl (px_notP rfl) ?_
 refine wl_nil (q_n (k11 _ _ ?_))
 refine sx_sub (Sub.c 4 rfl (.c 15 rfl .nil)) ?_
 refine sx_condP rfl (fun h450 => ?_) (fun h450 => ?_)
 ·
  refine sx_seq fun K17 k17 => sx_region ?_
  refine av rfl rfl (wl_nil (q_n (k17 _ _ ?_)))
  refine sx_retc ?_
  refine q_r (sx_ret1 Tryd.results8 rfl ?_)
  exact ⟨(by first | exact bTrue (by grind) | exact bFalse (by grind) | exact bIff (by grind)), ((cb2.t cb4).t c16)⟩
 refine sx_skip ?_
 refine q_n (k10 _ _ ?_)
 refine sx_seq fun K18 k18 => sx_region ?_
 refine av rfl rfl (wl_nil (q_n (k18 _ _ ?_)))
 refine sx_retc ?_
 refine sx_ret1 Tryd.results8 rfl ?_
 exact ⟨(by first | exact bTrue (by grind) | exact bFalse (by grind) | exact bIff (by grind)), ((cb2.t cb4).t c16)⟩

theorem c_markIntS {w : World} {va : Value} {lva uva : Nat} {zs : List Int} {n : Int} (hva : OwnI w lva uva va intT (zs)) (h63 : zs.length ≤ 1048576) (hn : 0 ≤ n ∧ n ≤ 4611686018427387904) :
  Ret Tryd.prog 71 [va, .int .i64 n] w fun v w' => v = .int .i64 (n + ↑(zs).length) ∧ OwnI w' (lva) (uva) va intT (mk n (zs).length) ∧ Chg lva uva w w' := by
 refine sx_enter Tryd.func71 rfl Tryd.ntmps71 (nbl rfl) ?_
 refine sx_seq fun K1 k1 => sx_region ?_
 refine av rfl rfl (wl_nil (q_n (k1 _ _ ?_)))
 refine sx_seq fun K2 k2 => ?_
 refine sx_seq fun K3 k3 => sx_region ?_
 refine av rfl rfl (wl_nil (q_n (k3 _ _ ?_)))
 refine sx_block ?_
 refine sx_loop (fun mm aa w' => ∃ (k : Nat) (os : List Int), Agr 19 [(0, va), (1, .int .i64 (n + ↑k)), (5, .int .i64 ↑k)] aa ∧ Chg lva uva w w' ∧ Own w' lva uva va intT os.length 1 (os.map (Value.int .i64)) ∧ (mm = zs.length - k) ∧ (k ≤ zs.length) ∧ (os.length = zs.length) ∧ (os.take k = mk n k)) (_) (fun a ha => ⟨0, zs, ha.sub (Sub.c 0 rfl (.c 1 (look_int (t := 1) rfl (by first | omega | simp)) (.c 5 (look_int (t := 5) rfl (by first | omega | simp)) .nil))), Chg.refl _ _ _, hva, rfl, by omega, rfl, rfl⟩) ?_
 rintro mm aa wl4 ⟨k, os, hAwl4, cwl4, hs_va, hm, hk, ho, he⟩
 refine (show cw Tryd.prog 19 _ _ _ wl4 from ?_) aa hAwl4
 clear hAwl4
 have zwl4 := cwl4.size
 refine sx_seq fun K5 k5 => ?_
 refine sx_seq fun K6 k6 => sx_region ?_
 refine mv rfl rfl (mv rfl rfl (sp rfl (px_len rfl Tryd.underlying22 hs_va.sv) ?_))
 refine sp rfl (px_lt rfl rfl) ?_
 refine wl_nil (q_n (k6 _ _ ?_))
 refine sx_condP rfl (fun h222 => ?_) (fun h222 => ?_)
 ·
  refine sx_skip ?_
  refine q_n (k5 _ _ ?_)
  refine sx_seq fun K7 k7 => ?_
  refine sx_block ?_
  refine sx_seq fun K8 k8 => sx_region ?_
  refine mv rfl rfl (mv rfl rfl (mv rfl rfl (sp rfl (px_index1 (j := k) rfl rfl (by omega) Tryd.underlying22 Tryd.sizeOf3 hs_va.sv (by omega)) ?_)))
  refine sx_storeO rfl rfl hs_va (by first | omega | (simp only [List.length_map]; omega)) Tryd.sizeOf3 rfl (fun w9 sw9 fw9 cw9 => ?_)
  have zw9 := cw9.size
  have nw9 := fw9.set
  refine wl_nil (q_n (k8 _ _ ?_))
  refine sx_region ?_
  refine mv rfl rfl (sp rfl (px_add rfl rfl (by omega)) ?_)
  refine av rfl rfl (wl_nil ?_)
  refine q_bn (q_n (k7 _ _ ?_))
  refine sx_region ?_
  refine mv rfl rfl (sp rfl (px_add rfl rfl (by omega)) ?_)
  refine av rfl rfl (wl_nil ?_)
  have q10 := Chg.step (l := lva) (h := uva) cwl4 cw9 (by omega)
  exact fun a ha => ⟨_, by omega, (k + 1), (os.set k (n + ↑k)), ha.sub (Sub.c 0 rfl (.c 1 (look_int (t := 1) rfl (by first | omega | simp)) (.c 5 (look_int (t := 5) rfl (by first | omega | simp)) .nil))), q10, (nw9.mono (by omega) (by omega)), rfl, by omega, by simp [ho], mk_set he (by omega)⟩
 refine sx_exit ?_
 refine q_e (q_e (q_bx (q_n (k2 _ _ ?_))))
 refine sx_seq fun K11 k11 => sx_region ?_
 refine mv rfl rfl (av rfl rfl (wl_nil (q_n (k11 _ _ ?_))))
 refine sx_retc ?_
 refine sx_ret1 Tryd.results71 rfl ?_
 have ek : k = zs.length := by omega
 subst ek
 rw [← ho, List.take_length, ho] at he
 subst he
 exact ⟨rfl, hs_va, cwl4⟩

theorem c_markSigned {w : World} {n1 : Bool} {v1 : Value} {lv1 uv1 : Nat} {z1 : List Int} {n : Int} (hv1 : OwnI w lv1 uv1 v1 intT (z1)) (h63 : z1.length ≤ 1048576) (hn : 0 ≤ n ∧ n ≤ 4611686018427387904) :
  Ret Tryd.prog 34 [.agg #[.bool n1, v1], .int .i64 n] w fun v w' => v = .int .i64 (n + ↑(z1).length) ∧ OwnI w' (lv1) (uv1) v1 intT (mk n (z1).length) ∧ Chg lv1 uv1 w w' := by
 refine sx_enter Tryd.func34 rfl Tryd.ntmps34 (nbl rfl) ?_
 refine sx_seq fun K1 k1 => sx_region ?_
 refine sx_box [.bool n1, v1] rfl rfl rfl (fun b2 w3 eb2 sb2 fb2 cb2 => ?_)
 have zw3 := cb2.size
 refine av rfl rfl (wl_nil (q_n (k1 _ _ ?_)))
 refine sx_seq fun K4 k4 => sx_region ?_
 refine sp rfl (px_field rfl xfld24x1) ?_
 refine sp rfl (px_load rfl (fb2.load1 rfl Tryd.isAgg22)) ?_
 refine mv rfl rfl ?_
 have f5 := hv1.ext cb2
 refine sx_call rfl rfl Tryd.call71 (c_markIntS f5 (by omega) (by omega)) (fun v6 w6 p6 => ?_)
 obtain ⟨rfl, ova_6, c6⟩ := p6
 have zw6 := c6.size
 refine av rfl rfl (wl_nil (q_n (k4 _ _ ?_)))
 refine sx_seq fun K7 k7 => sx_region ?_
 refine mv rfl rfl (av rfl rfl (wl_nil (q_n (k7 _ _ ?_))))
 refine sx_retc ?_
 refine sx_ret1 Tryd.results34 rfl ?_
 have q8 := Chg.step (l := lv1) (h := uv1) (Chg.zero (l := lv1) (h := uv1) cb2) c6 (by omega)
 exact ⟨rfl, ova_6, q8⟩

theorem c_markMoney {w : World} {c1 : ByteArray} {n1 : Bool} {v1 : Value} {lv1 uv1 : Nat} {z1 : List Int} {n : Int} (hv1 : OwnI w lv1 uv1 v1 intT (z1)) (h63 : z1.length ≤ 1048576) (hn : 0 ≤ n ∧ n ≤ 4611686018427387904) :
  Ret Tryd.prog 9 [.agg #[.string c1, .bool n1, v1], .int .i64 n] w fun v w' => v = .int .i64 (n + ↑(z1).length) ∧ OwnI w' (lv1) (uv1) v1 intT (mk n (z1).length) ∧ Chg lv1 uv1 w w' := by
 refine sx_enter Tryd.func9 rfl Tryd.ntmps9 (nbl rfl) ?_
 refine sx_seq fun K1 k1 => sx_region ?_
 refine sx_box [.string c1, .bool n1, v1] rfl rfl rfl (fun b2 w3 eb2 sb2 fb2 cb2 => ?_)
 have zw3 := cb2.size
 refine av rfl rfl (wl_nil (q_n (k1 _ _ ?_)))
 refine sx_seq fun K4 k4 => sx_region ?_
 refine sp rfl (px_field rfl xfld26x1) ?_
 refine sp rfl (px_load rfl (fb2.loadA (vs := [.bool n1, v1]) (look_lit rfl) Tryd.isAgg24 Tryd.sizeOf24)) ?_
 refine mv rfl rfl ?_
 have f5 := hv1.ext cb2
 refine sx_call rfl rfl Tryd.call34 (c_markSigned f5 (by omega) (by omega)) (fun v6 w6 p6 => ?_)
 obtain ⟨rfl, ov1_6, c6⟩ := p6
 have zw6 := c6.size
 refine av rfl rfl (wl_nil (q_n (k4 _ _ ?_)))
 refine sx_seq fun K7 k7 => sx_region ?_
 refine mv rfl rfl (av rfl rfl (wl_nil (q_n (k7 _ _ ?_))))
 refine sx_retc ?_
 refine sx_ret1 Tryd.results9 rfl ?_
 have q8 := Chg.step (l := lv1) (h := uv1) (Chg.zero (l := lv1) (h := uv1) cb2) c6 (by omega)
 exact ⟨rfl, ov1_6, q8⟩

theorem c_heldIntS {w : World} {va : Value} {lva uva : Nat} {zs : List Int} {n : Int} (hva : Sl w lva uva va (zs)) (h63 : zs.length ≤ 1048576) (hn : 0 ≤ n ∧ n ≤ 4611686018427387904) (hz : zs = mk n zs.length) :
  Ret Tryd.prog 72 [va, .int .i64 n] w fun v w' => v = .int .i64 (n + ↑(zs).length) ∧ Chg 0 0 w w' := by
 have hva0 := hva.fit
 refine sx_enter Tryd.func72 rfl Tryd.ntmps72 (nbl rfl) ?_
 refine sx_seq fun K1 k1 => sx_region ?_
 refine av rfl rfl (wl_nil (q_n (k1 _ _ ?_)))
 refine sx_seq fun K2 k2 => ?_
 refine sx_seq fun K3 k3 => sx_region ?_
 refine av rfl rfl (wl_nil (q_n (k3 _ _ ?_)))
 refine sx_block ?_
 refine sx_loop (fun mm aa w' => ∃ (k : Nat), Agr 21 [(0, va), (1, .int .i64 (n + ↑k)), (5, .int .i64 ↑k)] aa ∧ Chg 0 0 w w' ∧ (mm = zs.length - k) ∧ (k ≤ zs.length)) (_) (fun a ha => ⟨0, ha.sub (Sub.c 0 rfl (.c 1 (look_int (t := 1) rfl (by first | omega | simp)) (.c 5 (look_int (t := 5) rfl (by first | omega | simp)) .nil))), Chg.refl _ _ _, rfl, by omega⟩) ?_
 rintro mm aa wl4 ⟨k, hAwl4, cwl4, hm, hk⟩
 refine (show cw Tryd.prog 21 _ _ _ wl4 from ?_) aa hAwl4
 clear hAwl4
 have zwl4 := cwl4.size
 refine sx_seq fun K5 k5 => ?_
 refine sx_seq fun K6 k6 => sx_region ?_
 refine mv rfl rfl (mv rfl rfl ?_)
 have f7 := hva0.ext cwl4
 refine sp rfl (px_len rfl Tryd.underlying22 f7) ?_
 refine sp rfl (px_lt rfl rfl) ?_
 refine wl_nil (q_n (k6 _ _ ?_))
 refine sx_condP rfl (fun h230 => ?_) (fun h230 => ?_)
 ·
  refine sx_skip ?_
  refine q_n (k5 _ _ ?_)
  refine sx_seq fun K8 k8 => ?_
  refine sx_block ?_
  refine sx_seq fun K9 k9 => ?_
  refine sx_seq fun K10 k10 => sx_region ?_
  refine mv rfl rfl (mv rfl rfl (sp rfl (px_index1 (j := k) rfl rfl (by omega) Tryd.underlying22 Tryd.sizeOf3 f7 (by omega)) ?_))
  refine sp rfl (px_load rfl (f7.load1 (at_int (by omega)) Tryd.isAgg3)) ?_
  refine mv rfl rfl (sp rfl (px_ne rfl rfl) ?_)
  refine wl_nil (q_n (k10 _ _ ?_))
  have h231 : ¬ (((zs).getD k 0 : Int) ≠ n + ↑k) := fun h => h (by rw [hz]; exact mk_getD (by omega))
  refine sx_condPF rfl h231 ?_
  refine sx_skip ?_
  refine q_n (k9 _ _ ?_)
  refine sx_region ?_
  refine mv rfl rfl (sp rfl (px_add rfl rfl (by omega)) ?_)
  refine av rfl rfl (wl_nil ?_)
  refine q_bn (q_n (k8 _ _ ?_))
  refine sx_sub (Sub.c 0 rfl (.c 1 rfl (.c 5 rfl .nil))) ?_
  refine sx_region ?_
  refine mv rfl rfl (sp rfl (px_add rfl rfl (by omega)) ?_)
  refine av rfl rfl (wl_nil ?_)
  exact fun a ha => ⟨_, by omega, (k + 1), ha.sub (Sub.c 0 rfl (.c 1 (look_int (t := 1) rfl (by first | omega | simp)) (.c 5 (look_int (t := 5) rfl (by first | omega | simp)) .nil))), cwl4, rfl, by omega⟩
 refine sx_exit ?_
 refine q_e (q_e (q_bx (q_n (k2 _ _ ?_))))
 refine sx_seq fun K11 k11 => sx_region ?_
 refine mv rfl rfl (av rfl rfl (wl_nil (q_n (k11 _ _ ?_))))
 refine sx_retc ?_
 refine sx_ret1 Tryd.results72 rfl ?_
 have ek : k = zs.length := by omega
 subst ek
 exact ⟨rfl, cwl4⟩

theorem c_heldSigned {w : World} {n1 : Bool} {v1 : Value} {lv1 uv1 : Nat} {z1 : List Int} {n : Int} (hv1 : Sl w lv1 uv1 v1 (z1)) (h63 : z1.length ≤ 1048576) (hn : 0 ≤ n ∧ n ≤ 4611686018427387904) (hz : z1 = mk n z1.length) :
  Ret Tryd.prog 35 [.agg #[.bool n1, v1], .int .i64 n] w fun v w' => v = .int .i64 (n + ↑(z1).length) ∧ Chg 0 0 w w' := by
 have hv10 := hv1.fit
 refine sx_enter Tryd.func35 rfl Tryd.ntmps35 (nbl rfl) ?_
 refine sx_seq fun K1 k1 => sx_region ?_
 refine sx_box [.bool n1, v1] rfl rfl rfl (fun b2 w3 eb2 sb2 fb2 cb2 => ?_)
 have zw3 := cb2.size
 refine av rfl rfl (wl_nil (q_n (k1 _ _ ?_)))
 refine sx_seq fun K4 k4 => sx_region ?_
 refine sp rfl (px_field rfl xfld24x1) ?_
 refine sp rfl (px_load rfl (fb2.load1 rfl Tryd.isAgg22)) ?_
 refine mv rfl rfl ?_
 have f5 := hv10.ext cb2
 refine sx_call rfl rfl Tryd.call72 (c_heldIntS f5 (by omega) (by omega) (by first | assumption | simp [mk_length])) (fun v6 w6 p6 => ?_)
 obtain ⟨rfl, c6⟩ := p6
 have zw6 := c6.size
 refine av rfl rfl (wl_nil (q_n (k4 _ _ ?_)))
 refine sx_seq fun K7 k7 => ?_
 refine sx_seq fun K8 k8 => sx_region ?_
 refine mv rfl rfl (sp rfl (px_lt rfl rfl) ?_)
 refine wl_nil (q_n (k8 _ _ ?_))
 have h279 : ¬ ((n + ↑(z1).length : Int) < 0) := by omega
 refine sx_condPF rfl h279 ?_
 refine sx_skip ?_
 refine q_n (k7 _ _ ?_)
 refine sx_seq fun K9 k9 => sx_region ?_
 refine mv rfl rfl (av rfl rfl (wl_nil (q_n (k9 _ _ ?_))))
 refine sx_retc ?_
 refine sx_ret1 Tryd.results35 rfl ?_
 exact ⟨rfl, (cb2.t c6)⟩

theorem c_heldMoney {w : World} {c1 : ByteArray} {n1 : Bool} {v1 : Value} {lv1 uv1 : Nat} {z1 : List Int} {n : Int} (hv1 : Sl w lv1 uv1 v1 (z1)) (h63 : z1.length ≤ 1048576) (hn : 0 ≤ n ∧ n ≤ 4611686018427387904) (hz : z1 = mk n z1.length) :
  Ret Tryd.prog 10 [.agg #[.string c1, .bool n1, v1], .int .i64 n] w fun v w' => v = .int .i64 (n + ↑(z1).length) ∧ Chg 0 0 w w' := by
 have hv10 := hv1.fit
 refine sx_enter Tryd.func10 rfl Tryd.ntmps10 (nbl rfl) ?_
 refine sx_seq fun K1 k1 => sx_region ?_
 refine sx_box [.string c1, .bool n1, v1] rfl rfl rfl (fun b2 w3 eb2 sb2 fb2 cb2 => ?_)
 have zw3 := cb2.size
 refine av rfl rfl (wl_nil (q_n (k1 _ _ ?_)))
 refine sx_seq fun K4 k4 => sx_region ?_
 refine sp rfl (px_field rfl xfld26x1) ?_
 refine sp rfl (px_load rfl (fb2.loadA (vs := [.bool n1, v1]) (look_lit rfl) Tryd.isAgg24 Tryd.sizeOf24)) ?_
 refine mv rfl rfl ?_
 have f5 := hv10.ext cb2
 refine sx_call rfl rfl Tryd.call35 (c_heldSigned f5 (by first | omega | (simp only [mk_length]; omega)) (by omega) (by first | assumption | simp [mk_length])) (fun v6 w6 p6 => ?_)
 obtain ⟨rfl, c6⟩ := p6
 have zw6 := c6.size
 refine av rfl rfl (wl_nil (q_n (k4 _ _ ?_)))
 refine sx_seq fun K7 k7 => ?_
 refine sx_seq fun K8 k8 => sx_region ?_
 refine mv rfl rfl (sp rfl (px_lt rfl rfl) ?_)
 refine wl_nil (q_n (k8 _ _ ?_))
 have h463 : ¬ ((n + ↑(z1).length : Int) < 0) := by omega
 refine sx_condPF rfl h463 ?_
 refine sx_skip ?_
 refine q_n (k7 _ _ ?_)
 refine sx_seq fun K9 k9 => sx_region ?_
 refine mv rfl rfl (av rfl rfl (wl_nil (q_n (k9 _ _ ?_))))
 refine sx_retc ?_
 refine sx_ret1 Tryd.results10 rfl ?_
 exact ⟨rfl, (cb2.t c6)⟩

theorem c_l02Cmp {w : World} {va : Value} {lva uva : Nat} {zs : List Int} {vb : Value} {lvb uvb : Nat} {ys : List Int} (hva : Sl w lva uva va (zs)) (hvb : Sl w lvb uvb vb (ys)) (h63 : zs.length ≤ 4611686018427387904 ∧ ys.length ≤ 4611686018427387904) :
  Ret Tryd.prog 122 [va, vb] w fun v w' => v = .int .i64 (cmpL zs ys) ∧ Chg 0 0 w w' := by
 have hva0 := hva.fit
 have hvb0 := hvb.fit
 have zs0 : zs.drop zs.length = [] := by simp
 have ys0 : ys.drop ys.length = [] := by simp
 refine sx_enter Tryd.func122 rfl Tryd.ntmps122 (nbl rfl) ?_
 refine sx_seq fun K1 k1 => sx_region ?_
 refine av rfl rfl (wl_nil (q_n (k1 _ _ ?_)))
 refine sx_seq fun K2 k2 => ?_
 refine sx_seq fun K3 k3 => sx_region ?_
 refine mv rfl rfl (sp rfl (px_len rfl Tryd.underlying22 hva0) ?_)
 refine mv rfl rfl (sp rfl (px_len rfl Tryd.underlying22 hvb0) ?_)
 refine sp rfl (px_ne rfl rfl) ?_
 refine wl_nil (q_n (k3 _ _ ?_))
 refine sx_condP rfl (fun h54 => ?_) (fun h54 => ?_)
 ·
  refine sx_seq fun K4 k4 => ?_
  refine sx_seq fun K5 k5 => sx_region ?_
  refine mv rfl rfl (sp rfl (px_len rfl Tryd.underlying22 hva0) ?_)
  refine mv rfl rfl (sp rfl (px_len rfl Tryd.underlying22 hvb0) ?_)
  refine sp rfl (px_lt rfl rfl) ?_
  refine wl_nil (q_n (k5 _ _ ?_))
  refine sx_condP rfl (fun h55 => ?_) (fun h55 => ?_)
  ·
   refine sx_seq fun K6 k6 => sx_region ?_
   refine av rfl rfl (wl_nil (q_n (k6 _ _ ?_)))
   refine sx_retc ?_
   refine q_r (q_r (sx_ret1 Tryd.results122 rfl ?_))
   exact ⟨iEq (cmpL_short (by omega)).symm, (Chg.refl 0 0 _)⟩
  refine sx_skip ?_
  refine q_n (k4 _ _ ?_)
  refine sx_seq fun K7 k7 => sx_region ?_
  refine av rfl rfl (wl_nil (q_n (k7 _ _ ?_)))
  refine sx_retc ?_
  refine q_r (sx_ret1 Tryd.results122 rfl ?_)
  exact ⟨iEq (cmpL_long (by omega)).symm, (Chg.refl 0 0 _)⟩
 refine sx_skip ?_
 refine q_n (k2 _ _ ?_)
 refine sx_seq fun K8 k8 => ?_
 refine sx_seq fun K9 k9 => sx_region ?_
 refine mv rfl rfl (sp rfl (px_len rfl Tryd.underlying22 hva0) ?_)
 refine sp rfl (px_sub rfl rfl (by omega)) ?_
 refine av rfl rfl (wl_nil (q_n (k9 _ _ ?_)))
 refine sx_block ?_
 have e00 : zs.length = ys.length := by omega
 have he0 : zs.drop zs.length = ys.drop zs.length := by rw [zs0, e00, ys0]
 refine sx_loop (fun mm aa w' => ∃ (k : Nat), Agr 41 [(0, va), (1, vb), (5, .int .i64 (↑k - 1))] aa ∧ Chg 0 0 w w' ∧ (mm = k) ∧ (k ≤ zs.length) ∧ (zs.drop k = ys.drop k)) (_) (fun a ha => ⟨zs.length, ha.sub (Sub.c 0 rfl (.c 1 rfl (.c 5 (look_int (t := 5) rfl (by first | omega | simp)) .nil))), Chg.refl _ _ _, rfl, by omega, he0⟩) ?_
 rintro mm aa wl10 ⟨k, hAwl10, cwl10, hm, hk, he⟩
 refine (show cw Tryd.prog 41 _ _ _ wl10 from ?_) aa hAwl10
 clear hAwl10
 have zwl10 := cwl10.size
 have hl : zs.length = ys.length := by omega
 refine sx_seq fun K11 k11 => ?_
 refine sx_seq fun K12 k12 => sx_region ?_
 refine mv rfl rfl (sp rfl (px_ge rfl rfl) ?_)
 refine wl_nil (q_n (k12 _ _ ?_))
 refine sx_condP rfl (fun h60 => ?_) (fun h60 => ?_)
 ·
  refine sx_skip ?_
  refine q_n (k11 _ _ ?_)
  refine sx_seq fun K13 k13 => ?_
  refine sx_block ?_
  refine sx_seq fun K14 k14 => ?_
  refine sx_seq fun K15 k15 => ?_
  have f16 := hva0.ext cwl10
  have f17 := hvb0.ext cwl10
  refine dx_region (fun w' => Chg 0 0 wl10 w') (by kernel_rfl) (Chg.zero (Chg.drew _)) ?_
  have d18 := Chg.drew wl10
  have s18 : Chg 0 0 wl10 (World.drew wl10) := Chg.zero (Chg.drew _)
  have y18 : (World.drew wl10).heap.size = wl10.heap.size := rfl
  generalize World.drew wl10 = w18 at *
  have zw18 := d18.size
  refine dt 0 rfl rfl rfl rfl s18 (fun _ hS => px_move rfl) ?_
  refine dt 1 rfl rfl rfl rfl s18 (fun _ hS => px_move rfl) ?_
  refine dt 2 rfl rfl rfl rfl s18 (fun _ hS => px_index1 (j := (k - 1)) rfl rfl (by omega) Tryd.underlying22 Tryd.sizeOf3 ((f16).chg hS (by omega)) (by omega)) ?_
  refine dt 3 rfl rfl rfl rfl s18 (fun _ hS => px_load rfl (((f16).chg hS (by omega)).load1 (at_int (by omega)) Tryd.isAgg3)) ?_
  refine dt 4 rfl rfl rfl rfl s18 (fun _ hS => px_move rfl) ?_
  refine dt 5 rfl rfl rfl rfl s18 (fun _ hS => px_move rfl) ?_
  refine dt 6 rfl rfl rfl rfl s18 (fun _ hS => px_index1 (j := (k - 1)) rfl rfl (by omega) Tryd.underlying22 Tryd.sizeOf3 ((f17).chg hS (by omega)) (by omega)) ?_
  refine dt 7 rfl rfl rfl rfl s18 (fun _ hS => px_load rfl (((f17).chg hS (by omega)).load1 (at_int (by omega)) Tryd.isAgg3)) ?_
  refine dt 8 rfl rfl rfl rfl s18 (fun _ hS => px_lt rfl rfl) ?_
  refine dx_done (by kernel_rfl) ?_
  refine q_n (k15 _ _ ?_)
  refine sx_condP rfl (fun h61 => ?_) (fun h61 => ?_)
  ·
   refine sx_seq fun K19 k19 => sx_region ?_
   refine av rfl rfl (wl_nil (q_n (k19 _ _ ?_)))
   refine sx_sub (Sub.c 0 rfl (.c 1 rfl (.c 4 rfl (.c 5 rfl .nil)))) ?_
   refine sx_retc ?_
   refine q_r (q_br (q_r (q_r (q_br (q_r (sx_ret1 Tryd.results122 rfl ?_))))))
   have hlt := cmpL_lt hl (k := k - 1) (by omega) (by rw [Nat.sub_add_cancel (by omega)]; exact he) (h61)
   exact ⟨iEq hlt.symm, (cwl10.t d18)⟩
  refine sx_skip ?_
  refine q_n (k14 _ _ ?_)
  refine sx_seq fun K20 k20 => ?_
  have f21 := f16.ext d18
  have f22 := f17.ext d18
  refine dx_region (fun w' => Chg 0 0 w18 w') (by kernel_rfl) (Chg.zero (Chg.drew _)) ?_
  have d23 := Chg.drew w18
  have s23 : Chg 0 0 w18 (World.drew w18) := Chg.zero (Chg.drew _)
  have y23 : (World.drew w18).heap.size = w18.heap.size := rfl
  generalize World.drew w18 = w23 at *
  have zw23 := d23.size
  refine dt 0 rfl rfl rfl rfl s23 (fun _ hS => px_move rfl) ?_
  refine dt 1 rfl rfl rfl rfl s23 (fun _ hS => px_move rfl) ?_
  refine dt 2 rfl rfl rfl rfl s23 (fun _ hS => px_index1 (j := (k - 1)) rfl rfl (by omega) Tryd.underlying22 Tryd.sizeOf3 ((f21).chg hS (by omega)) (by omega)) ?_
  refine dt 3 rfl rfl rfl rfl s23 (fun _ hS => px_load rfl (((f21).chg hS (by omega)).load1 (at_int (by omega)) Tryd.isAgg3)) ?_
  refine dt 4 rfl rfl rfl rfl s23 (fun _ hS => px_move rfl) ?_
  refine dt 5 rfl rfl rfl rfl s23 (fun _ hS => px_move rfl) ?_
  refine dt 6 rfl rfl rfl rfl s23 (fun _ hS => px_index1 (j := (k - 1)) rfl rfl (by omega) Tryd.underlying22 Tryd.sizeOf3 ((f22).chg hS (by omega)) (by omega)) ?_
  refine dt 7 rfl rfl rfl rfl s23 (fun _ hS => px_load rfl (((f22).chg hS (by omega)).load1 (at_int (by omega)) Tryd.isAgg3)) ?_
  refine dt 8 rfl rfl rfl rfl s23 (fun _ hS => px_gt rfl rfl) ?_
  refine dx_done (by kernel_rfl) ?_
  refine q_n (k20 _ _ ?_)
  refine sx_sub (Sub.c 0 rfl (.c 1 rfl (.c 5 rfl (.c 40 rfl .nil)))) ?_
  refine sx_condP rfl (fun h64 => ?_) (fun h64 => ?_)
  ·
   refine sx_seq fun K24 k24 => sx_region ?_
   refine av rfl rfl (wl_nil (q_n (k24 _ _ ?_)))
   refine sx_retc ?_
   refine q_br (q_r (q_r (q_br (q_r (sx_ret1 Tryd.results122 rfl ?_)))))
   have hlt := cmpL_gt hl (k := k - 1) (by omega) (by rw [Nat.sub_add_cancel (by omega)]; exact he) (h64)
   exact ⟨iEq hlt.symm, ((cwl10.t d18).t d23)⟩
  refine sx_skip ?_
  refine q_bn (q_n (k13 _ _ ?_))
  refine sx_region ?_
  refine mv rfl rfl (sp rfl (px_sub rfl rfl (by omega)) ?_)
  refine av rfl rfl (wl_nil ?_)
  exact fun a ha => ⟨_, by omega, (k - 1), ha.sub (Sub.c 0 rfl (.c 1 rfl (.c 5 (look_int (t := 5) rfl (by first | omega | simp)) .nil))), ((cwl10.t d18).t d23), rfl, by omega, drop_succ_eq (by omega) (by omega) (by rw [Nat.sub_add_cancel (by omega)]; exact he) (by omega)⟩
 refine sx_exit ?_
 refine q_e (q_e (q_bx (q_n (k8 _ _ ?_))))
 refine sx_seq fun K25 k25 => sx_region ?_
 refine av rfl rfl (wl_nil (q_n (k25 _ _ ?_)))
 refine sx_retc ?_
 refine sx_ret1 Tryd.results122 rfl ?_
 have e1 : k = 0 := by omega
 subst e1
 have e2 : zs = ys := by simpa using he
 subst e2
 exact ⟨iEq (cmpL_self zs).symm, cwl10⟩

theorem c_IntCmp {w : World} {va : Value} {lva uva : Nat} {x : Int} {vb : Value} {lvb uvb : Nat} {y : Int} (hva : Sl w lva uva va (dg x.natAbs)) (hvb : Sl w lvb uvb vb (dg y.natAbs)) (hbx : (dg x.natAbs).length ≤ 50) (hby : (dg y.natAbs).length ≤ 50) :
  Ret Tryd.prog 106 [.agg #[.bool (ng x), va], .agg #[.bool (ng y), vb]] w fun v w' => v = .int .i64 (cmpI x y) ∧ Chg 0 0 w w' := by
 have hva0 := hva.fit
 have hvb0 := hvb.fit
 refine sx_enter Tryd.func106 rfl Tryd.ntmps106 (nbl rfl) ?_
 refine sx_seq fun K1 k1 => sx_region ?_
 refine sx_box [.bool (ng x), va] rfl rfl rfl (fun b2 w3 eb2 sb2 fb2 cb2 => ?_)
 have zw3 := cb2.size
 refine sx_box [.bool (ng y), vb] rfl rfl rfl (fun b4 w5 eb4 sb4 fb4 cb4 => ?_)
 have zw5 := cb4.size
 refine av rfl rfl (wl_nil (q_n (k1 _ _ ?_)))
 refine sx_seq fun K6 k6 => ?_
 refine sx_block ?_
 refine sx_seq fun K7 k7 => sx_region ?_
 have f8 := fb2.ext cb4
 refine sp rfl (px_load rfl (f8.loadA (vs := [.bool (ng x), va]) (look_lit rfl) Tryd.isAgg24 Tryd.sizeOf24)) ?_
 have f9 := hva0.ext cb2
 have f10 := f9.ext cb4
 refine sx_call rfl rfl Tryd.call99 (c_sIntOk f10 (by omega)) (fun v11 w11 p11 => ?_)
 obtain ⟨rfl, c11⟩ := p11
 have zw11 := c11.size
 refine sp rfl (px_notP rfl) ?_
 refine mv rfl rfl ?_
 have h89 : ¬ (¬ (IOk (ng x) (dg x.natAbs))) := by first | exact fun h => h (IOk_ng (by omega)) | exact fun h => h (IOk_ng (by assumption))
 refine sx_tmpPF (t := 9) rfl h89 ?_
 refine sx_guardT rfl rfl rfl ?_
 have f12 := fb4.ext c11
 refine sp rfl (px_load rfl (f12.loadA (vs := [.bool (ng y), vb]) (look_lit rfl) Tryd.isAgg24 Tryd.sizeOf24)) ?_
 refine sx_guardT rfl rfl rfl ?_
 have f13 := hvb0.ext cb2
 have f14 := f13.ext cb4
 have f15 := f14.ext c11
 refine sx_call rfl rfl Tryd.call99 (c_sIntOk f15 (by omega)) (fun v16 w16 p16 => ?_)
 obtain ⟨rfl, c16⟩ := p16
 have zw16 := c16.size
 refine sx_guardT rfl rfl rfl ?_
 refine sp rfl (px_notP rfl) ?_
 refine sp rfl (px_pick rfl rfl) ?_
 refine av rfl rfl (wl_nil (q_n (k7 _ _ ?_)))
 have h89x1 : ¬ (¬ (IOk (ng y) (dg y.natAbs))) := by first | exact fun h => h (IOk_ng (by omega)) | exact fun h => h (IOk_ng (by assumption))
 refine sx_condPF rfl h89x1 ?_
 refine sx_seq fun K17 k17 => sx_region ?_
 refine sp rfl (px_field rfl xfld24x0) ?_
 have f19 := (f8.ext c11).ext c16
 refine sp rfl (px_load rfl (f19.load1 rfl Tryd.isAgg4)) ?_
 refine mv rfl rfl ?_
 refine sx_tmpB (t := 17) rfl (fun h91 => ?_) (fun h91 => ?_)
 ·
  refine sx_guardT rfl rfl rfl ?_
  refine sp rfl (px_field rfl xfld24x0) ?_
  refine sx_guardT rfl rfl rfl ?_
  have f20 := f12.ext c16
  refine sp rfl (px_load rfl (f20.load1 rfl Tryd.isAgg4)) ?_
  refine sx_guardT rfl rfl rfl ?_
  refine sp rfl (px_not rfl) ?_
  refine sp rfl (px_pick rfl rfl) ?_
  refine av rfl rfl (wl_nil (q_n (k17 _ _ ?_)))
  refine sx_sub (Sub.c 2 rfl (.c 3 rfl (.c 4 rfl (.c 14 rfl .nil)))) ?_
  refine sx_condB rfl (fun h91x1 => ?_) (fun h91x1 => ?_)
  ·
   refine sx_seq fun K21 k21 => sx_region ?_
   refine av rfl rfl (wl_nil (q_n (k21 _ _ ?_)))
   refine sx_retc ?_
   refine q_br (q_r (sx_ret1 Tryd.results106 rfl ?_))
   exact ⟨iEq (cmpI_lt (by simp_all [ng] <;> omega)), (((cb2.t cb4).t c11).t c16)⟩
  refine sx_seq fun K22 k22 => sx_region ?_
  refine sp rfl (px_field rfl xfld24x0) ?_
  refine sp rfl (px_load rfl (f19.load1 rfl Tryd.isAgg4)) ?_
  refine sp rfl (px_not rfl) ?_
  refine mv rfl rfl ?_
  refine sx_tmpB (t := 26) rfl (fun h93 => ?_) (fun h93 => ?_)
  ·
   refine sx_guardT rfl rfl rfl ?_
   refine sp rfl (px_field rfl xfld24x0) ?_
   refine sx_guardT rfl rfl rfl ?_
   refine sp rfl (px_load rfl (f20.load1 rfl Tryd.isAgg4)) ?_
   refine sp rfl (px_pick rfl rfl) ?_
   refine av rfl rfl (wl_nil (q_n (k22 _ _ ?_)))
   refine sx_condB rfl (fun h93x1 => ?_) (fun h93x1 => ?_)
   ·
    refine sx_seq fun K23 k23 => sx_region ?_
    refine av rfl rfl (wl_nil (q_n (k23 _ _ ?_)))
    refine sx_retc ?_
    refine q_br (q_r (sx_ret1 Tryd.results106 rfl ?_))
    exact ⟨iEq (cmpI_gt (by simp_all [ng] <;> omega)), (((cb2.t cb4).t c11).t c16)⟩
   refine sx_seq fun K24 k24 => sx_region ?_
   refine sp rfl (px_field rfl xfld24x0) ?_
   refine sp rfl (px_load rfl (f19.load1 rfl Tryd.isAgg4)) ?_
   refine av rfl rfl (wl_nil (q_n (k24 _ _ ?_)))
   refine sx_sub (Sub.c 2 rfl (.c 3 rfl (.c 4 rfl (.c 30 rfl .nil)))) ?_
   refine sx_condB rfl (fun h95 => ?_) (fun h95 => ?_)
   ·
    refine sx_seq fun K25 k25 => sx_region ?_
    refine sp rfl (px_field rfl xfld24x1) ?_
    refine sp rfl (px_load rfl (f20.load1 rfl Tryd.isAgg22)) ?_
    refine sp rfl (px_field rfl xfld24x1) ?_
    refine sp rfl (px_load rfl (f19.load1 rfl Tryd.isAgg22)) ?_
    have f26 := f15.ext c16
    have f28 := (f10.ext c11).ext c16
    refine sx_call rfl rfl Tryd.call122 (c_l02Cmp f26 f28 (by omega)) (fun v29 w29 p29 => ?_)
    obtain ⟨rfl, c29⟩ := p29
    have zw29 := c29.size
    refine av rfl rfl (wl_nil (q_n (k25 _ _ ?_)))
    refine sx_retc ?_
    refine q_br (q_r (sx_ret1 Tryd.results106 rfl ?_))
    exact ⟨iEq (cmpI_mm (by simp_all [ng] <;> omega) (by simp_all [ng] <;> omega)), ((((cb2.t cb4).t c11).t c16).t c29)⟩
   refine sx_skip ?_
   refine q_bn (q_n (k6 _ _ ?_))
   refine sx_seq fun K30 k30 => sx_region ?_
   refine sp rfl (px_field rfl xfld24x1) ?_
   refine sp rfl (px_load rfl (f19.load1 rfl Tryd.isAgg22)) ?_
   refine sp rfl (px_field rfl xfld24x1) ?_
   refine sp rfl (px_load rfl (f20.load1 rfl Tryd.isAgg22)) ?_
   have f32 := (f10.ext c11).ext c16
   have f33 := f15.ext c16
   refine sx_call rfl rfl Tryd.call122 (c_l02Cmp f32 f33 (by omega)) (fun v34 w34 p34 => ?_)
   obtain ⟨rfl, c34⟩ := p34
   have zw34 := c34.size
   refine av rfl rfl (wl_nil (q_n (k30 _ _ ?_)))
   refine sx_retc ?_
   refine sx_ret1 Tryd.results106 rfl ?_
   exact ⟨iEq (cmpI_nn (by simp_all [ng] <;> omega) (by simp_all [ng] <;> omega)), ((((cb2.t cb4).t c11).t c16).t c34)⟩
  refine sx_guardF rfl rfl rfl rfl rfl rfl ?_
  refine sx_guardF rfl rfl rfl rfl rfl rfl ?_
  refine sp rfl (px_pick rfl rfl) ?_
  refine av rfl rfl (wl_nil (q_n (k22 _ _ ?_)))
  refine sx_condF rfl ?_
  refine sx_seq fun K35 k35 => sx_region ?_
  refine sp rfl (px_field rfl xfld24x0) ?_
  refine sp rfl (px_load rfl (f19.load1 rfl Tryd.isAgg4)) ?_
  refine av rfl rfl (wl_nil (q_n (k35 _ _ ?_)))
  refine sx_sub (Sub.c 2 rfl (.c 3 rfl (.c 4 rfl (.c 30 rfl .nil)))) ?_
  refine sx_condB rfl (fun h95 => ?_) (fun h95 => ?_)
  ·
   refine sx_seq fun K36 k36 => sx_region ?_
   refine sp rfl (px_field rfl xfld24x1) ?_
   refine sp rfl (px_load rfl (f20.load1 rfl Tryd.isAgg22)) ?_
   refine sp rfl (px_field rfl xfld24x1) ?_
   refine sp rfl (px_load rfl (f19.load1 rfl Tryd.isAgg22)) ?_
   have f37 := f15.ext c16
   have f39 := (f10.ext c11).ext c16
   refine sx_call rfl rfl Tryd.call122 (c_l02Cmp f37 f39 (by omega)) (fun v40 w40 p40 => ?_)
   obtain ⟨rfl, c40⟩ := p40
   have zw40 := c40.size
   refine av rfl rfl (wl_nil (q_n (k36 _ _ ?_)))
   refine sx_retc ?_
   refine q_br (q_r (sx_ret1 Tryd.results106 rfl ?_))
   exact ⟨iEq (cmpI_mm (by simp_all [ng] <;> omega) (by simp_all [ng] <;> omega)), ((((cb2.t cb4).t c11).t c16).t c40)⟩
  refine sx_skip ?_
  refine q_bn (q_n (k6 _ _ ?_))
  refine sx_seq fun K41 k41 => sx_region ?_
  refine sp rfl (px_field rfl xfld24x1) ?_
  refine sp rfl (px_load rfl (f19.load1 rfl Tryd.isAgg22)) ?_
  refine sp rfl (px_field rfl xfld24x1) ?_
  refine sp rfl (px_load rfl (f20.load1 rfl Tryd.isAgg22)) ?_
  have f43 := (f10.ext c11).ext c16
  have f44 := f15.ext c16
  refine sx_call rfl rfl Tryd.call122 (c_l02Cmp f43 f44 (by omega)) (fun v45 w45 p45 => ?_)
  obtain ⟨rfl, c45⟩ := p45
  have zw45 := c45.size
  refine av rfl rfl (wl_nil (q_n (k41 _ _ ?_)))
  refine sx_retc ?_
  refine sx_ret1 Tryd.results106 rfl ?_
  exact ⟨iEq (cmpI_nn (by simp_all [ng] <;> omega) (by simp_all [ng] <;> omega)), ((((cb2.t cb4).t c11).t c16).t c45)⟩
 refine sx_guardF rfl rfl rfl rfl rfl rfl ?_
 refine sx_guardF rfl rfl rfl rfl rfl rfl ?_
 refine sx_guardF rfl rfl rfl rfl rfl rfl ?_
 refine sp rfl (px_pick rfl rfl) ?_
 refine av rfl rfl (wl_nil (q_n (k17 _ _ ?_)))
 refine sx_sub (Sub.c 2 rfl (.c 3 rfl (.c 4 rfl (.c 14 rfl .nil)))) ?_
 refine sx_condF rfl ?_
 refine sx_seq fun K46 k46 => sx_region ?_
 refine sp rfl (px_field rfl xfld24x0) ?_
 refine sp rfl (px_load rfl (f19.load1 rfl Tryd.isAgg4)) ?_
 refine sp rfl (px_not rfl) ?_
 refine mv rfl rfl ?_
 refine sx_tmpB (t := 26) rfl (fun h93 => ?_) (fun h93 => ?_)
 ·
  refine sx_guardT rfl rfl rfl ?_
  refine sp rfl (px_field rfl xfld24x0) ?_
  refine sx_guardT rfl rfl rfl ?_
  have f47 := f12.ext c16
  refine sp rfl (px_load rfl (f47.load1 rfl Tryd.isAgg4)) ?_
  refine sp rfl (px_pick rfl rfl) ?_
  refine av rfl rfl (wl_nil (q_n (k46 _ _ ?_)))
  refine sx_condB rfl (fun h93x1 => ?_) (fun h93x1 => ?_)
  ·
   refine sx_seq fun K48 k48 => sx_region ?_
   refine av rfl rfl (wl_nil (q_n (k48 _ _ ?_)))
   refine sx_retc ?_
   refine q_br (q_r (sx_ret1 Tryd.results106 rfl ?_))
   exact ⟨iEq (cmpI_gt (by simp_all [ng] <;> omega)), (((cb2.t cb4).t c11).t c16)⟩
  refine sx_seq fun K49 k49 => sx_region ?_
  refine sp rfl (px_field rfl xfld24x0) ?_
  refine sp rfl (px_load rfl (f19.load1 rfl Tryd.isAgg4)) ?_
  refine av rfl rfl (wl_nil (q_n (k49 _ _ ?_)))
  refine sx_sub (Sub.c 2 rfl (.c 3 rfl (.c 4 rfl (.c 30 rfl .nil)))) ?_
  refine sx_condB rfl (fun h95 => ?_) (fun h95 => ?_)
  ·
   refine sx_seq fun K50 k50 => sx_region ?_
   refine sp rfl (px_field rfl xfld24x1) ?_
   refine sp rfl (px_load rfl (f47.load1 rfl Tryd.isAgg22)) ?_
   refine sp rfl (px_field rfl xfld24x1) ?_
   refine sp rfl (px_load rfl (f19.load1 rfl Tryd.isAgg22)) ?_
   have f51 := f15.ext c16
   have f53 := (f10.ext c11).ext c16
   refine sx_call rfl rfl Tryd.call122 (c_l02Cmp f51 f53 (by omega)) (fun v54 w54 p54 => ?_)
   obtain ⟨rfl, c54⟩ := p54
   have zw54 := c54.size
   refine av rfl rfl (wl_nil (q_n (k50 _ _ ?_)))
   refine sx_retc ?_
   refine q_br (q_r (sx_ret1 Tryd.results106 rfl ?_))
   exact ⟨iEq (cmpI_mm (by simp_all [ng] <;> omega) (by simp_all [ng] <;> omega)), ((((cb2.t cb4).t c11).t c16).t c54)⟩
  refine sx_skip ?_
  refine q_bn (q_n (k6 _ _ ?_))
  refine sx_seq fun K55 k55 => sx_region ?_
  refine sp rfl (px_field rfl xfld24x1) ?_
  refine sp rfl (px_load rfl (f19.load1 rfl Tryd.isAgg22)) ?_
  refine sp rfl (px_field rfl xfld24x1) ?_
  refine sp rfl (px_load rfl (f47.load1 rfl Tryd.isAgg22)) ?_
  have f57 := (f10.ext c11).ext c16
  have f58 := f15.ext c16
  refine sx_call rfl rfl Tryd.call122 (c_l02Cmp f57 f58 (by omega)) (fun v59 w59 p59 => ?_)
  obtain ⟨rfl, c59⟩ := p59
  have zw59 := c59.size
  refine av rfl rfl (wl_nil (q_n (k55 _ _ ?_)))
  refine sx_retc ?_
  refine sx_ret1 Tryd.results106 rfl ?_
  exact ⟨iEq (cmpI_nn (by simp_all [ng] <;> omega) (by simp_all [ng] <;> omega)), ((((cb2.t cb4).t c11).t c16).t c59)⟩
 refine sx_guardF rfl rfl rfl rfl rfl rfl ?_
 refine sx_guardF rfl rfl rfl rfl rfl rfl ?_
 refine sp rfl (px_pick rfl rfl) ?_
 refine av rfl rfl (wl_nil (q_n (k46 _ _ ?_)))
 refine sx_condF rfl ?_
 refine sx_seq fun K60 k60 => sx_region ?_
 refine sp rfl (px_field rfl xfld24x0) ?_
 refine sp rfl (px_load rfl (f19.load1 rfl Tryd.isAgg4)) ?_
 refine av rfl rfl (wl_nil (q_n (k60 _ _ ?_)))
 refine sx_sub (Sub.c 2 rfl (.c 3 rfl (.c 4 rfl (.c 30 rfl .nil)))) ?_
 refine sx_condB rfl (fun h95 => ?_) (fun h95 => ?_)
 ·
  refine sx_seq fun K61 k61 => sx_region ?_
  refine sp rfl (px_field rfl xfld24x1) ?_
  have f62 := f12.ext c16
  refine sp rfl (px_load rfl (f62.load1 rfl Tryd.isAgg22)) ?_
  refine sp rfl (px_field rfl xfld24x1) ?_
  refine sp rfl (px_load rfl (f19.load1 rfl Tryd.isAgg22)) ?_
  have f63 := f15.ext c16
  have f65 := (f10.ext c11).ext c16
  refine sx_call rfl rfl Tryd.call122 (c_l02Cmp f63 f65 (by omega)) (fun v66 w66 p66 => ?_)
  obtain ⟨rfl, c66⟩ := p66
  have zw66 := c66.size
  refine av rfl rfl (wl_nil (q_n (k61 _ _ ?_)))
  refine sx_retc ?_
  refine q_br (q_r (sx_ret1 Tryd.results106 rfl ?_))
  exact ⟨iEq (cmpI_mm (by simp_all [ng] <;> omega) (by simp_all [ng] <;> omega)), ((((cb2.t cb4).t c11).t c16).t c66)⟩
 refine sx_skip ?_
 refine q_bn (q_n (k6 _ _ ?_))
 refine sx_seq fun K67 k67 => sx_region ?_
 refine sp rfl (px_field rfl xfld24x1) ?_
 refine sp rfl (px_load rfl (f19.load1 rfl Tryd.isAgg22)) ?_
 refine sp rfl (px_field rfl xfld24x1) ?_
 have f68 := f12.ext c16
 refine sp rfl (px_load rfl (f68.load1 rfl Tryd.isAgg22)) ?_
 have f70 := (f10.ext c11).ext c16
 have f71 := f15.ext c16
 refine sx_call rfl rfl Tryd.call122 (c_l02Cmp f70 f71 (by omega)) (fun v72 w72 p72 => ?_)
 obtain ⟨rfl, c72⟩ := p72
 have zw72 := c72.size
 refine av rfl rfl (wl_nil (q_n (k67 _ _ ?_)))
 refine sx_retc ?_
 refine sx_ret1 Tryd.results106 rfl ?_
 exact ⟨iEq (cmpI_nn (by simp_all [ng] <;> omega) (by simp_all [ng] <;> omega)), ((((cb2.t cb4).t c11).t c16).t c72)⟩

theorem c_IntCmpZ {w : World} {va : Value} {lva uva : Nat} {x : Int} {b : Bool} {vb : Value} {lvb uvb : Nat} {ys : List Int} (hva : Sl w lva uva va (dg x.natAbs)) (hvb : Sl w lvb uvb vb (ys)) (hbx : (dg x.natAbs).length ≤ 50) (hb : b = false) (hy : ys = []) :
  Ret Tryd.prog 106 [.agg #[.bool (ng x), va], .agg #[.bool b, vb]] w fun v w' => v = .int .i64 (cmpI x 0) ∧ Chg 0 0 w w' := by
 have h := c_IntCmp (y := 0) (vb := vb) hva (by rw [Int.natAbs_zero, dg_zero]; rw [hy] at hvb; exact hvb) hbx (by rw [Int.natAbs_zero, dg_zero]; simp)
 rw [hb, show false = ng 0 by simp [ng]]; exact h

theorem c_sIntSign {w : World} {va : Value} {lva uva : Nat} {x : Int} (hva : Sl w lva uva va (dg x.natAbs)) (hbx : (dg x.natAbs).length ≤ 50) :
  Ret Tryd.prog 75 [.agg #[.bool (ng x), va]] w fun v w' => v = .int .i64 (cmpI x 0) ∧ Chg 0 0 w w' := by
 have hva0 := hva.fit
 refine sx_enter Tryd.func75 rfl Tryd.ntmps75 (nbl rfl) ?_
 refine sx_seq fun K1 k1 => sx_region ?_
 refine sx_box [.bool (ng x), va] rfl rfl rfl (fun b2 w3 eb2 sb2 fb2 cb2 => ?_)
 have zw3 := cb2.size
 refine av rfl rfl (wl_nil (q_n (k1 _ _ ?_)))
 refine sx_seq fun K4 k4 => sx_region ?_
 refine sp rfl (px_load rfl (fb2.loadA (vs := [.bool (ng x), va]) (look_lit rfl) Tryd.isAgg24 Tryd.sizeOf24)) ?_
 refine sp rfl (px_build rfl (xbld24x  _)) ?_
 have f5 := hva0.ext cb2
 refine sx_call rfl rfl Tryd.call106 (c_IntCmpZ f5 (Sv.nil _ 0 0 1) (by omega) (rfl) (rfl)) (fun v6 w6 p6 => ?_)
 obtain ⟨rfl, c6⟩ := p6
 have zw6 := c6.size
 refine av rfl rfl (wl_nil (q_n (k4 _ _ ?_)))
 refine sx_retc ?_
 refine sx_ret1 Tryd.results75 rfl ?_
 exact ⟨rfl, (cb2.t c6)⟩

theorem c_sRateOk {w : World} {f1 : ByteArray} {t1 : ByteArray} {n1 : Bool} {v1 : Value} {lv1 uv1 : Nat} {z1 : List Int} {p1 : Int} (hv1 : Sl w lv1 uv1 v1 (z1)) (h63 : z1.length ≤ 4611686018427387904) :
  Ret Tryd.prog 36 [.agg #[.string f1, .string t1, .bool n1, v1, .int .i64 p1]] w fun v w' => v = .bool (decide (RateP f1 t1 n1 z1 p1)) ∧ Chg 0 0 w w' := by
 have hv10 := hv1.fit
 refine sx_enter Tryd.func36 rfl Tryd.ntmps36 (nbl rfl) ?_
 refine sx_seq fun K1 k1 => sx_region ?_
 refine sx_box [.string f1, .string t1, .bool n1, v1, .int .i64 p1] rfl rfl rfl (fun b2 w3 eb2 sb2 fb2 cb2 => ?_)
 have zw3 := cb2.size
 refine av rfl rfl (wl_nil (q_n (k1 _ _ ?_)))
 refine sx_seq fun K4 k4 => sx_region ?_
 refine sp rfl (px_field rfl xfld35x0) ?_
 refine sp rfl (px_load rfl (fb2.load1 rfl Tryd.isAgg9)) ?_
 refine sx_call rfl rfl Tryd.call73 (c_sCurKnown) (fun v5 w5 p5 => ?_)
 obtain ⟨rfl, c5⟩ := p5
 have zw5 := c5.size
 refine mv rfl rfl ?_
 refine sx_tmpP (t := 6) rfl (fun h7 => ?_) (fun h7 => ?_)
 ·
  refine sx_guardT rfl rfl rfl ?_
  refine sp rfl (px_field rfl xfld35x1) ?_
  refine sx_guardT rfl rfl rfl ?_
  have f6 := fb2.ext c5
  refine sp rfl (px_load rfl (f6.load1 rfl Tryd.isAgg9)) ?_
  refine sx_guardT rfl rfl rfl ?_
  refine sx_call rfl rfl Tryd.call73 (c_sCurKnown) (fun v7 w7 p7 => ?_)
  obtain ⟨rfl, c7⟩ := p7
  have zw7 := c7.size
  refine sp rfl (px_pick rfl rfl) ?_
  refine mv rfl rfl ?_
  refine sx_tmpP (t := 11) rfl (fun h7x1 => ?_) (fun h7x1 => ?_)
  ·
   refine sx_guardT rfl rfl rfl ?_
   refine sp rfl (px_field rfl xfld35x0) ?_
   refine sx_guardT rfl rfl rfl ?_
   have f8 := f6.ext c7
   refine sp rfl (px_load rfl (f8.load1 rfl Tryd.isAgg9)) ?_
   refine sx_guardT rfl rfl rfl ?_
   refine sp rfl (px_field rfl xfld35x1) ?_
   refine sx_guardT rfl rfl rfl ?_
   refine sp rfl (px_load rfl (f8.load1 rfl Tryd.isAgg9)) ?_
   refine sx_guardT rfl rfl rfl ?_
   refine sp rfl (px_neS rfl rfl) ?_
   refine sp rfl (px_pick rfl rfl) ?_
   refine mv rfl rfl ?_
   refine sx_tmpP (t := 18) rfl (fun h7x2 => ?_) (fun h7x2 => ?_)
   ·
    refine sx_guardT rfl rfl rfl ?_
    refine sp rfl (px_field rfl xfld35x2) ?_
    refine sx_guardT rfl rfl rfl ?_
    refine sp rfl (px_load rfl (f8.loadA (vs := [.bool n1, v1, .int .i64 p1]) (look_lit rfl) Tryd.isAgg33 Tryd.sizeOf33)) ?_
    refine sx_guardT rfl rfl rfl ?_
    have f9 := hv10.ext cb2
    have f11 := (f9.ext c5).ext c7
    refine sx_call rfl rfl Tryd.call74 (c_sDecOk f11 (by omega)) (fun v12 w12 p12 => ?_)
    obtain ⟨rfl, c12⟩ := p12
    have zw12 := c12.size
    refine sp rfl (px_pick rfl rfl) ?_
    refine mv rfl rfl ?_
    refine sx_tmpP (t := 23) rfl (fun h7x3 => ?_) (fun h7x3 => ?_)
    ·
     have hD := h7x3
     obtain ⟨x1, rfl, rfl, hx1⟩ := hD.int
     have hvx := vI_ng x1
     have hsx := sign_gt (x := x1)
     have hcx := cmpI_gt0 (x := x1)
     refine sx_guardT rfl rfl rfl ?_
     refine sp rfl (px_field rfl xfld35x2) ?_
     refine sx_guardT rfl rfl rfl ?_
     refine sp rfl (px_field rfl xfld33x0) ?_
     refine sx_guardT rfl rfl rfl ?_
     have f13 := f8.ext c12
     refine sp rfl (px_load rfl (f13.loadA (vs := [.bool (ng x1), v1]) (look_lit rfl) Tryd.isAgg24 Tryd.sizeOf24)) ?_
     refine sx_guardT rfl rfl rfl ?_
     have f14 := f11.ext c12
     refine sx_call rfl rfl Tryd.call75 (c_sIntSign f14 (by omega)) (fun v15 w15 p15 => ?_)
     obtain ⟨rfl, c15⟩ := p15
     have zw15 := c15.size
     refine sx_guardT rfl rfl rfl ?_
     refine sp rfl (px_gt rfl rfl) ?_
     refine sp rfl (px_pick rfl rfl) ?_
     refine mv rfl rfl ?_
     refine sx_tmpP (t := 30) rfl (fun h7x4 => ?_) (fun h7x4 => ?_)
     ·
      refine sx_guardT rfl rfl rfl ?_
      refine sp rfl (px_field rfl xfld35x2) ?_
      refine sx_guardT rfl rfl rfl ?_
      refine sp rfl (px_field rfl xfld33x0) ?_
      refine sx_guardT rfl rfl rfl ?_
      refine sp rfl (px_field rfl xfld24x1) ?_
      refine sx_guardT rfl rfl rfl ?_
      have f16 := f13.ext c15
      refine sp rfl (px_load rfl (f16.load1 rfl Tryd.isAgg22)) ?_
      refine sx_guardT rfl rfl rfl ?_
      have f17 := f14.ext c15
      refine sp rfl (px_len rfl Tryd.underlying22 f17) ?_
      refine sx_guardT rfl rfl rfl ?_
      refine sp rfl (px_le rfl rfl) ?_
      refine sp rfl (px_pick rfl rfl) ?_
      refine av rfl rfl (wl_nil (q_n (k4 _ _ ?_)))
      refine sx_sub (Sub.c 2 rfl .nil) ?_
      refine sx_retc ?_
      refine sx_ret1 Tryd.results36 rfl ?_
      exact ⟨(by first | exact bTrue (by grind [RateP]) | exact bFalse (by grind [RateP]) | exact bIff (by grind [RateP])), ((((cb2.t c5).t c7).t c12).t c15)⟩
     refine sx_guardF rfl rfl rfl rfl rfl rfl ?_
     refine sx_guardF rfl rfl rfl rfl rfl rfl ?_
     refine sx_guardF rfl rfl rfl rfl rfl rfl ?_
     refine sx_guardF rfl rfl rfl rfl rfl rfl ?_
     refine sx_guardF rfl rfl rfl rfl rfl rfl ?_
     refine sx_guardF rfl rfl rfl rfl rfl rfl ?_
     refine sp rfl (px_pick rfl rfl) ?_
     refine av rfl rfl (wl_nil (q_n (k4 _ _ ?_)))
     refine sx_sub (Sub.c 2 rfl .nil) ?_
     refine sx_retc ?_
     refine sx_ret1 Tryd.results36 rfl ?_
     exact ⟨(by first | exact bTrue (by grind [RateP]) | exact bFalse (by grind [RateP]) | exact bIff (by grind [RateP])), ((((cb2.t c5).t c7).t c12).t c15)⟩
    refine sx_guardF rfl rfl rfl rfl rfl rfl ?_
    refine sx_guardF rfl rfl rfl rfl rfl rfl ?_
    refine sx_guardF rfl rfl rfl rfl rfl rfl ?_
    refine sx_guardF rfl rfl rfl rfl rfl rfl ?_
    refine sx_guardF rfl rfl rfl rfl rfl rfl ?_
    refine sp rfl (px_pick rfl rfl) ?_
    refine mv rfl rfl ?_
    refine sx_guardF rfl rfl rfl rfl rfl rfl ?_
    refine sx_guardF rfl rfl rfl rfl rfl rfl ?_
    refine sx_guardF rfl rfl rfl rfl rfl rfl ?_
    refine sx_guardF rfl rfl rfl rfl rfl rfl ?_
    refine sx_guardF rfl rfl rfl rfl rfl rfl ?_
    refine sx_guardF rfl rfl rfl rfl rfl rfl ?_
    refine sp rfl (px_pick rfl rfl) ?_
    refine av rfl rfl (wl_nil (q_n (k4 _ _ ?_)))
    refine sx_sub (Sub.c 2 rfl .nil) ?_
    refine sx_retc ?_
    refine sx_ret1 Tryd.results36 rfl ?_
    exact ⟨(by first | exact bTrue (by grind [RateP]) | exact bFalse (by grind [RateP]) | exact bIff (by grind [RateP])), (((cb2.t c5).t c7).t c12)⟩
   refine sx_guardF rfl rfl rfl rfl rfl rfl ?_
   refine sx_guardF rfl rfl rfl rfl rfl rfl ?_
   refine sx_guardF rfl rfl rfl rfl rfl rfl ?_
   refine sp rfl (px_pick rfl rfl) ?_
   refine mv rfl rfl ?_
   refine sx_guardF rfl rfl rfl rfl rfl rfl ?_
   refine sx_guardF rfl rfl rfl rfl rfl rfl ?_
   refine sx_guardF rfl rfl rfl rfl rfl rfl ?_
   refine sx_guardF rfl rfl rfl rfl rfl rfl ?_
   refine sx_guardF rfl rfl rfl rfl rfl rfl ?_
   refine sp rfl (px_pick rfl rfl) ?_
   refine mv rfl rfl ?_
   refine sx_guardF rfl rfl rfl rfl rfl rfl ?_
   refine sx_guardF rfl rfl rfl rfl rfl rfl ?_
   refine sx_guardF rfl rfl rfl rfl rfl rfl ?_
   refine sx_guardF rfl rfl rfl rfl rfl rfl ?_
   refine sx_guardF rfl rfl rfl rfl rfl rfl ?_
   refine sx_guardF rfl rfl rfl rfl rfl rfl ?_
   refine sp rfl (px_pick rfl rfl) ?_
   refine av rfl rfl (wl_nil (q_n (k4 _ _ ?_)))
   refine sx_sub (Sub.c 2 rfl .nil) ?_
   refine sx_retc ?_
   refine sx_ret1 Tryd.results36 rfl ?_
   exact ⟨(by first | exact bTrue (by grind [RateP]) | exact bFalse (by grind [RateP]) | exact bIff (by grind [RateP])), ((cb2.t c5).t c7)⟩
  refine sx_guardF rfl rfl rfl rfl rfl rfl ?_
  refine sx_guardF rfl rfl rfl rfl rfl rfl ?_
  refine sx_guardF rfl rfl rfl rfl rfl rfl ?_
  refine sx_guardF rfl rfl rfl rfl rfl rfl ?_
  refine sx_guardF rfl rfl rfl rfl rfl rfl ?_
  refine sp rfl (px_pick rfl rfl) ?_
  refine mv rfl rfl ?_
  refine sx_guardF rfl rfl rfl rfl rfl rfl ?_
  refine sx_guardF rfl rfl rfl rfl rfl rfl ?_
  refine sx_guardF rfl rfl rfl rfl rfl rfl ?_
  refine sp rfl (px_pick rfl rfl) ?_
  refine mv rfl rfl ?_
  refine sx_guardF rfl rfl rfl rfl rfl rfl ?_
  refine sx_guardF rfl rfl rfl rfl rfl rfl ?_
  refine sx_guardF rfl rfl rfl rfl rfl rfl ?_
  refine sx_guardF rfl rfl rfl rfl rfl rfl ?_
  refine sx_guardF rfl rfl rfl rfl rfl rfl ?_
  refine sp rfl (px_pick rfl rfl) ?_
  refine mv rfl rfl ?_
  refine sx_guardF rfl rfl rfl rfl rfl rfl ?_
  refine sx_guardF rfl rfl rfl rfl rfl rfl ?_
  refine sx_guardF rfl rfl rfl rfl rfl rfl ?_
  refine sx_guardF rfl rfl rfl rfl rfl rfl ?_
  refine sx_guardF rfl rfl rfl rfl rfl rfl ?_
  refine sx_guardF rfl rfl rfl rfl rfl rfl ?_
  refine sp rfl (px_pick rfl rfl) ?_
  refine av rfl rfl (wl_nil (q_n (k4 _ _ ?_)))
  refine sx_sub (Sub.c 2 rfl .nil) ?_
  refine sx_retc ?_
  refine sx_ret1 Tryd.results36 rfl ?_
  exact ⟨(by first | exact bTrue (by grind [RateP]) | exact bFalse (by grind [RateP]) | exact bIff (by grind [RateP])), ((cb2.t c5).t c7)⟩
 refine sx_guardF rfl rfl rfl rfl rfl rfl ?_
 refine sx_guardF rfl rfl rfl rfl rfl rfl ?_
 refine sx_guardF rfl rfl rfl rfl rfl rfl ?_
 refine sp rfl (px_pick rfl rfl) ?_
 refine mv rfl rfl ?_
 refine sx_guardF rfl rfl rfl rfl rfl rfl ?_
 refine sx_guardF rfl rfl rfl rfl rfl rfl ?_
 refine sx_guardF rfl rfl rfl rfl rfl rfl ?_
 refine sx_guardF rfl rfl rfl rfl rfl rfl ?_
 refine sx_guardF rfl rfl rfl rfl rfl rfl ?_
 refine sp rfl (px_pick rfl rfl) ?_
 refine mv rfl rfl ?_
 refine sx_guardF rfl rfl rfl rfl rfl rfl ?_
 refine sx_guardF rfl rfl rfl rfl rfl rfl ?_
 refine sx_guardF rfl rfl rfl rfl rfl rfl ?_
 refine sp rfl (px_pick rfl rfl) ?_
 refine mv rfl rfl ?_
 refine sx_guardF rfl rfl rfl rfl rfl rfl ?_
 refine sx_guardF rfl rfl rfl rfl rfl rfl ?_
 refine sx_guardF rfl rfl rfl rfl rfl rfl ?_
 refine sx_guardF rfl rfl rfl rfl rfl rfl ?_
 refine sx_guardF rfl rfl rfl rfl rfl rfl ?_
 refine sp rfl (px_pick rfl rfl) ?_
 refine mv rfl rfl ?_
 refine sx_guardF rfl rfl rfl rfl rfl rfl ?_
 refine sx_guardF rfl rfl rfl rfl rfl rfl ?_
 refine sx_guardF rfl rfl rfl rfl rfl rfl ?_
 refine sx_guardF rfl rfl rfl rfl rfl rfl ?_
 refine sx_guardF rfl rfl rfl rfl rfl rfl ?_
 refine sx_guardF rfl rfl rfl rfl rfl rfl ?_
 refine sp rfl (px_pick rfl rfl) ?_
 refine av rfl rfl (wl_nil (q_n (k4 _ _ ?_)))
 refine sx_sub (Sub.c 2 rfl .nil) ?_
 refine sx_retc ?_
 refine sx_ret1 Tryd.results36 rfl ?_
 exact ⟨(by first | exact bTrue (by grind [RateP]) | exact bFalse (by grind [RateP]) | exact bIff (by grind [RateP])), (cb2.t c5)⟩

theorem c_sRateText {w : World} {f1 : ByteArray} {t1 : ByteArray} {n1 : Bool} {v1 : Value} {lv1 uv1 : Nat} {z1 : List Int} {p1 : Int} (hv1 : Sl w lv1 uv1 v1 (z1)) (h63 : z1.length ≤ 4611686018427387904) :
  Ret Tryd.prog 37 [.agg #[.string f1, .string t1, .bool n1, v1, .int .i64 p1]] w fun v w' => v = .string (ratT f1 t1 n1 z1 p1) ∧ Chg 0 0 w w' := by
 have hv10 := hv1.fit
 refine sx_enter Tryd.func37 rfl Tryd.ntmps37 (nbl rfl) ?_
 refine sx_seq fun K1 k1 => sx_region ?_
 refine sx_box [.string f1, .string t1, .bool n1, v1, .int .i64 p1] rfl rfl rfl (fun b2 w3 eb2 sb2 fb2 cb2 => ?_)
 have zw3 := cb2.size
 refine av rfl rfl (wl_nil (q_n (k1 _ _ ?_)))
 refine sx_seq fun K4 k4 => ?_
 refine sx_seq fun K5 k5 => sx_region ?_
 refine sp rfl (px_load rfl (fb2.loadA (vs := [.string f1, .string t1, .bool n1, v1, .int .i64 p1]) (look_lit rfl) Tryd.isAgg35 Tryd.sizeOf35)) ?_
 have f6 := hv10.ext cb2
 refine sx_call rfl rfl Tryd.call36 (c_sRateOk f6 (by omega)) (fun v7 w7 p7 => ?_)
 obtain ⟨rfl, c7⟩ := p7
 have zw7 := c7.size
 refine sp rfl (px_notP rfl) ?_
 refine wl_nil (q_n (k5 _ _ ?_))
 refine sx_condP rfl (fun h130 => ?_) (fun h130 => ?_)
 ·
  refine sx_seq fun K8 k8 => sx_region ?_
  refine av rfl rfl (wl_nil (q_n (k8 _ _ ?_)))
  refine sx_retc ?_
  refine q_r (sx_ret1 Tryd.results37 rfl ?_)
  rw [ratT_no h130]
  exact ⟨rfl, (cb2.t c7)⟩
 have hM := Decidable.not_not.1 h130
 have hks := known_size hM.1
 have hks2 := known_size hM.2.1
 refine sx_skip ?_
 refine q_n (k4 _ _ ?_)
 refine sx_seq fun K9 k9 => ?_
 have f10 := fb2.ext c7
 refine dx_region (fun w' => Chg 0 0 w7 w') (by kernel_rfl) (Chg.zero (Chg.drew _)) ?_
 have d12 := Chg.drew w7
 have s12 : Chg 0 0 w7 (World.drew w7) := Chg.zero (Chg.drew _)
 have y12 : (World.drew w7).heap.size = w7.heap.size := rfl
 generalize World.drew w7 = w12 at *
 have zw12 := d12.size
 refine dt 0 rfl rfl rfl rfl s12 (fun _ hS => px_field rfl xfld35x0) ?_
 refine dt 1 rfl rfl rfl rfl s12 (fun _ hS => px_load rfl ((f10.chg hS (by omega)).load1 rfl Tryd.isAgg9)) ?_
 refine dt 2 rfl rfl rfl rfl s12 (fun _ hS => px_cat rfl rfl (by (have e32 : (⟨#[32]⟩ : ByteArray).size = 1 := rfl); (try simp only [ByteArray.size_append]); omega)) ?_
 refine dt 3 rfl rfl rfl rfl s12 (fun _ hS => px_field rfl xfld35x1) ?_
 refine dt 4 rfl rfl rfl rfl s12 (fun _ hS => px_load rfl ((f10.chg hS (by omega)).load1 rfl Tryd.isAgg9)) ?_
 refine dt 5 rfl rfl rfl rfl s12 (fun _ hS => px_cat rfl rfl (by (have e32 : (⟨#[32]⟩ : ByteArray).size = 1 := rfl); (try simp only [ByteArray.size_append]); omega)) ?_
 refine dt 6 rfl rfl rfl rfl s12 (fun _ hS => px_cat rfl rfl (by (have e32 : (⟨#[32]⟩ : ByteArray).size = 1 := rfl); (try simp only [ByteArray.size_append]); omega)) ?_
 refine dt 7 rfl rfl rfl rfl s12 (fun _ hS => px_field rfl xfld35x2) ?_
 refine dt 8 rfl rfl rfl rfl s12 (fun _ hS => px_load rfl ((f10.chg hS (by omega)).loadA (vs := [.bool n1, v1, .int .i64 p1]) (look_lit rfl) Tryd.isAgg33 Tryd.sizeOf33)) ?_
 refine dx_eff 9 rfl (by kernel_rfl) ?_
 have f13 := (f6.ext c7).ext d12
 refine sx_call rfl rfl Tryd.call63 (c_sDecText f13 (by omega)) (fun v14 w14 p14 => ?_)
 obtain ⟨rfl, hsz14, c14⟩ := p14
 have zw14 := c14.size
 have s15 : Chg 0 0 w7 w14 := (d12.t c14)
 refine wl_nil ?_
 refine dx_next s15 ?_
 refine dt 10 rfl rfl rfl rfl s15 (fun _ hS => px_cat rfl rfl (by (have e32 : (⟨#[32]⟩ : ByteArray).size = 1 := rfl); (try simp only [ByteArray.size_append]); omega)) ?_
 refine dt 11 rfl rfl rfl rfl s15 (fun _ hS => px_assign rfl) ?_
 refine dx_done (by kernel_rfl) ?_
 refine q_n (k9 _ _ ?_)
 refine sx_sub (Sub.c 2 rfl .nil) ?_
 refine sx_retc ?_
 refine sx_ret1 Tryd.results37 rfl ?_
 rw [ratT_ok hM]
 exact ⟨rfl, (((cb2.t c7).t d12).t c14)⟩

theorem c_sTextRate {w : World} {s : ByteArray} (hs : s.size ≤ 1048576) :
  Ret Tryd.prog 11 [.string s] w fun v w' => ∃ x, v = .tuple #[.agg #[.string ((rdR s).1), .string ((rdR s).2.1), .bool (ng (rdR s).2.2.1), x, .int .i64 ((rdR s).2.2.2.1)], .bool ((rdR s).2.2.2.2)] ∧ OwnI w' w.heap.size w'.heap.size x intT (dg (rdR s).2.2.1.natAbs) ∧ ((dg (rdR s).2.2.1.natAbs).length ≤ 2) ∧ Chg 0 0 w w' := by
 have hp0 := part_size (b := 32) (s := s) 0
 have hp1 := part_size (b := 32) (s := s) 1
 have hp2 := part_size (b := 32) (s := s) 2
 have hx1 := rdX_len ((cutT 32 s).getD 1 ByteArray.empty)
 have hx2 := rdX_len ((cutT 32 s).getD 2 ByteArray.empty)
 refine sx_enter Tryd.func11 rfl Tryd.ntmps11 (nbl rfl) ?_
 refine sx_seq fun K1 k1 => sx_region ?_
 refine sx_alloc [.string (⟨#[]⟩), .string (⟨#[]⟩), .bool false, (.slice none 0 0), .int .i64 0] rfl Tryd.zeroValue35 rfl (fun b2 w3 eb2 sb2 fb2 cb2 => ?_)
 have zw3 := cb2.size
 refine av rfl rfl (wl_nil (q_n (k1 _ _ ?_)))
 refine sx_seq fun K4 k4 => sx_region ?_
 refine mv rfl rfl (sx_call rfl rfl Tryd.call27 (c_sCut (by omega)) (fun v5 w5 p5 => ?_))
 obtain ⟨x5, rfl, ox_5, c5⟩ := p5
 have zw5 := c5.size
 refine av rfl rfl (wl_nil (q_n (k4 _ _ ?_)))
 refine sx_seq fun K6 k6 => ?_
 refine sx_seq fun K7 k7 => sx_region ?_
 refine mv rfl rfl (sp rfl (px_len rfl Tryd.underlying54 ox_5.sv) ?_)
 refine sp rfl (px_ne rfl rfl) ?_
 refine wl_nil (q_n (k7 _ _ ?_))
 refine sx_condP rfl (fun h139 => ?_) (fun h139 => ?_)
 ·
  refine sx_seq fun K8 k8 => sx_region ?_
  refine sp rfl (px_build rfl (xbld35x  _)) ?_
  have f10 := fb2.ext c5
  refine sx_store (vs := [.string (⟨#[]⟩), .string (⟨#[]⟩), .bool false, (.slice none 0 0), .int .i64 0]) rfl rfl f10 rfl Tryd.sizeOf35 (nbl rfl) (one_cons rfl (one_cons rfl (o3 rfl rfl rfl))) (fun w9 sw9 fw9 cw9 => ?_)
  have zw9 := cw9.size
  have gw9 : Blk w9 b2 [.string (⟨#[]⟩), .string (⟨#[]⟩), .bool false, (.slice none 0 0), .int .i64 0] 35 := fw9
  refine av rfl rfl (wl_nil (q_n (k8 _ _ ?_)))
  refine sx_retc ?_
  refine q_r (sx_ret2 Tryd.results11 ⟨_, rfl, gw9.loadA (vs := [.string (⟨#[]⟩), .string (⟨#[]⟩), .bool false, (.slice none 0 0), .int .i64 0]) (look_lit rfl) Tryd.isAgg35 Tryd.sizeOf35⟩ rfl ?_)
  have hB : rdR s = (⟨#[]⟩, ⟨#[]⟩, 0, 0, false) := rdR_no fun h => by
   first
   | exact absurd h.1 (by omega)
   | exact nt h144 h.2.1
   | exact h144x1 h.2.2
   | exact h144x2 (cut_rate (Decidable.not_not.1 h139) h.2.1 h.2.2)
  rw [hB]
  have q11 := Chg.step (l := 0) (h := 0) (Chg.zero (l := 0) (h := 0) (cb2.t c5)) cw9 (by omega)
  exact ⟨_, rfl, own_nil0, len_nil0, q11⟩
 refine sx_skip ?_
 refine q_n (k6 _ _ ?_)
 refine sx_seq fun K12 k12 => sx_region ?_
 refine mv rfl rfl (sp rfl (px_index1 (j := 2) rfl rfl (by omega) Tryd.underlying54 Tryd.sizeOf9 ox_5.sv (by omega)) ?_)
 refine sp rfl (px_load rfl (ox_5.sv.load1 (at_str (by omega)) Tryd.isAgg9)) ?_
 refine sx_call rfl rfl Tryd.call28 (c_sTextDecX (by omega)) (fun v13 w13 p13 => ?_)
 obtain ⟨x13, rfl, ox_13, hl13, c13⟩ := p13
 have zw13 := c13.size
 refine mv rfl rfl (sp rfl (px_ex2 rfl rfl) ?_)
 refine sp rfl (px_ex2 rfl rfl) ?_
 refine sx_alloc [.bool false, (.slice none 0 0), .int .i64 0] rfl Tryd.zeroValue33 rfl (fun b14 w15 eb14 sb14 fb14 cb14 => ?_)
 have zw15 := cb14.size
 have f17 := ox_13.ext cb14
 refine sx_store (vs := [.bool (ng (rdX ((cutT 32 s).getD 2 ByteArray.empty))), x13, .int .i64 (rdP ((cutT 32 s).getD 2 ByteArray.empty))]) rfl rfl fb14 rfl Tryd.sizeOf33 (nbl rfl) (one_cons rfl (one_cons f17.one (o1 rfl))) (fun w16 sw16 fw16 cw16 => ?_)
 have zw16 := cw16.size
 have gw16 : Blk w16 b14 [.bool (ng (rdX ((cutT 32 s).getD 2 ByteArray.empty))), x13, .int .i64 (rdP ((cutT 32 s).getD 2 ByteArray.empty))] 33 := fw16
 refine av rfl rfl (wl_nil (q_n (k12 _ _ ?_)))
 refine sx_sub (Sub.c 0 rfl (.c 2 rfl (.c 3 rfl (.c 4 rfl (.c 5 rfl (.c 6 rfl .nil)))))) ?_
 refine sx_seq fun K18 k18 => ?_
 have f21 := ((fb2.ext c5).ext c13).ext cb14
 have f22 := f21.chg cw16 (by omega)
 have f24 := (ox_5.ext c13).ext cb14
 have f25 := f24.chg cw16 (by omega)
 have f26 := f17.chg cw16 (by omega)
 refine dx_region (fun w' => Chg 0 0 w16 w') (by kernel_rfl) (Chg.zero (Chg.drew _)) ?_
 have d27 := Chg.drew w16
 have s27 : Chg 0 0 w16 (World.drew w16) := Chg.zero (Chg.drew _)
 have y27 : (World.drew w16).heap.size = w16.heap.size := rfl
 generalize World.drew w16 = w27 at *
 have zw27 := d27.size
 refine dt 0 rfl rfl rfl rfl s27 (fun _ hS => px_move rfl) ?_
 refine dt 1 rfl rfl rfl rfl s27 (fun _ hS => px_index1 (j := 0) rfl rfl (by omega) Tryd.underlying54 Tryd.sizeOf9 ((f25.sv).chg hS (by omega)) (by omega)) ?_
 refine dt 2 rfl rfl rfl rfl s27 (fun _ hS => px_load rfl (((f25.sv).chg hS (by omega)).load1 (at_str (by omega)) Tryd.isAgg9)) ?_
 refine dt 3 rfl rfl rfl rfl s27 (fun _ hS => px_move rfl) ?_
 refine dt 4 rfl rfl rfl rfl s27 (fun _ hS => px_index1 (j := 1) rfl rfl (by omega) Tryd.underlying54 Tryd.sizeOf9 ((f25.sv).chg hS (by omega)) (by omega)) ?_
 refine dt 5 rfl rfl rfl rfl s27 (fun _ hS => px_load rfl (((f25.sv).chg hS (by omega)).load1 (at_str (by omega)) Tryd.isAgg9)) ?_
 refine dt 6 rfl rfl rfl rfl s27 (fun _ hS => px_load rfl ((gw16.chg hS (by omega)).loadA (vs := [.bool (ng (rdX ((cutT 32 s).getD 2 ByteArray.empty))), x13, .int .i64 (rdP ((cutT 32 s).getD 2 ByteArray.empty))]) (look_lit rfl) Tryd.isAgg33 Tryd.sizeOf33)) ?_
 refine dt 7 rfl rfl rfl rfl s27 (fun _ hS => px_build rfl (xbld35x0x1x2 rfl rfl _)) ?_
 refine dx_eff 8 rfl (by kernel_rfl) ?_
 refine sx_alloc [.string (⟨#[]⟩), .string (⟨#[]⟩), .bool false, (.slice none 0 0), .int .i64 0] rfl Tryd.zeroValue35 rfl (fun b28 w29 eb28 sb28 fb28 cb28 => ?_)
 have zw29 := cb28.size
 have s30 : Chg 0 0 w16 w29 := (d27.t cb28)
 refine wl_nil ?_
 refine dx_next s30 ?_
 refine dx_eff 9 rfl (by kernel_rfl) ?_
 have f33 := (f26.ext d27).ext cb28
 refine sx_store (vs := [.string ((cutT 32 s).getD 0 ByteArray.empty), .string ((cutT 32 s).getD 1 ByteArray.empty), .bool (ng (rdX ((cutT 32 s).getD 2 ByteArray.empty))), x13, .int .i64 (rdP ((cutT 32 s).getD 2 ByteArray.empty))]) rfl rfl fb28 rfl Tryd.sizeOf35 (nbl rfl) (one_cons rfl (one_cons rfl (one_cons rfl (one_cons f33.one (o1 rfl))))) (fun w31 sw31 fw31 cw31 => ?_)
 have zw31 := cw31.size
 have gw31 : Blk w31 b28 [.string ((cutT 32 s).getD 0 ByteArray.empty), .string ((cutT 32 s).getD 1 ByteArray.empty), .bool (ng (rdX ((cutT 32 s).getD 2 ByteArray.empty))), x13, .int .i64 (rdP ((cutT 32 s).getD 2 ByteArray.empty))] 35 := fw31
 have q35 := Chg.step (l := 0) (h := 0) (Chg.zero (l := 0) (h := 0) (d27.t cb28)) cw31 (by omega)
 have s34 : Chg 0 0 w16 w31 := q35
 refine wl_nil ?_
 refine dx_next s34 ?_
 refine dx_done (by kernel_rfl) ?_
 refine q_n (k18 _ _ ?_)
 refine sx_sub (Sub.c 0 rfl (.c 2 rfl (.c 3 rfl (.c 6 rfl (.c 7 rfl .nil))))) ?_
 refine sx_seq fun K36 k36 => ?_
 refine sx_seq fun K37 k37 => sx_region ?_
 refine mv rfl rfl (sp rfl (px_not rfl) ?_)
 refine mv rfl rfl ?_
 refine sx_tmpB (t := 31) rfl (fun h144 => ?_) (fun h144 => ?_)
 ·
  refine sx_guardF rfl rfl rfl rfl rfl rfl ?_
  refine sx_guardF rfl rfl rfl rfl rfl rfl ?_
  refine sx_guardF rfl rfl rfl rfl rfl rfl ?_
  refine sp rfl (px_pick rfl rfl) ?_
  refine mv rfl rfl ?_
  refine sx_guardF rfl rfl rfl rfl rfl rfl ?_
  refine sx_guardF rfl rfl rfl rfl rfl rfl ?_
  refine sx_guardF rfl rfl rfl rfl rfl rfl ?_
  refine sx_guardF rfl rfl rfl rfl rfl rfl ?_
  refine sp rfl (px_pick rfl rfl) ?_
  refine wl_nil (q_n (k37 _ _ ?_))
  refine sx_sub (Sub.c 2 rfl (.c 3 rfl (.c 7 rfl (.c 41 rfl .nil)))) ?_
  refine sx_condT rfl ?_
  refine sx_seq fun K38 k38 => sx_region ?_
  refine sp rfl (px_build rfl (xbld35x  _)) ?_
  have f41 := (f22.ext d27).ext cb28
  have f42 := f41.chg cw31 (by omega)
  refine sx_store (vs := [.string (⟨#[]⟩), .string (⟨#[]⟩), .bool false, (.slice none 0 0), .int .i64 0]) rfl rfl f42 rfl Tryd.sizeOf35 (nbl rfl) (one_cons rfl (one_cons rfl (o3 rfl rfl rfl))) (fun w39 sw39 fw39 cw39 => ?_)
  have zw39 := cw39.size
  have gw39 : Blk w39 b2 [.string (⟨#[]⟩), .string (⟨#[]⟩), .bool false, (.slice none 0 0), .int .i64 0] 35 := fw39
  refine av rfl rfl (wl_nil (q_n (k38 _ _ ?_)))
  refine sx_retc ?_
  refine q_r (sx_ret2 Tryd.results11 ⟨_, rfl, gw39.loadA (vs := [.string (⟨#[]⟩), .string (⟨#[]⟩), .bool false, (.slice none 0 0), .int .i64 0]) (look_lit rfl) Tryd.isAgg35 Tryd.sizeOf35⟩ rfl ?_)
  have hB : rdR s = (⟨#[]⟩, ⟨#[]⟩, 0, 0, false) := rdR_no fun h => by
   first
   | exact absurd h.1 (by omega)
   | exact nt h144 h.2.1
   | exact h144x1 h.2.2
   | exact h144x2 (cut_rate (Decidable.not_not.1 h139) h.2.1 h.2.2)
  rw [hB]
  have q43 := Chg.step (l := 0) (h := 0) (Chg.zero (l := 0) (h := 0) (((cb2.t c5).t c13).t cb14)) cw16 (by omega)
  have q44 := Chg.step (l := 0) (h := 0) q43 (d27.t cb28) (by omega)
  have q45 := Chg.step (l := 0) (h := 0) q44 cw31 (by omega)
  have q46 := Chg.step (l := 0) (h := 0) q45 cw39 (by omega)
  exact ⟨_, rfl, own_nil0, len_nil0, q46⟩
 refine sx_guardT rfl rfl rfl ?_
 refine sp rfl (px_load rfl (gw31.loadA (vs := [.string ((cutT 32 s).getD 0 ByteArray.empty), .string ((cutT 32 s).getD 1 ByteArray.empty), .bool (ng (rdX ((cutT 32 s).getD 2 ByteArray.empty))), x13, .int .i64 (rdP ((cutT 32 s).getD 2 ByteArray.empty))]) (look_lit rfl) Tryd.isAgg35 Tryd.sizeOf35)) ?_
 refine sx_guardT rfl rfl rfl ?_
 have f47 := f33.chg cw31 (by omega)
 refine sx_call rfl rfl Tryd.call36 (c_sRateOk f47.sv (by omega)) (fun v48 w48 p48 => ?_)
 obtain ⟨rfl, c48⟩ := p48
 have zw48 := c48.size
 refine sx_guardT rfl rfl rfl ?_
 refine sp rfl (px_notP rfl) ?_
 refine sp rfl (px_pick rfl rfl) ?_
 refine mv rfl rfl ?_
 refine sx_tmpP (t := 36) rfl (fun h144x1 => ?_) (fun h144x1 => ?_)
 ·
  refine sx_guardF rfl rfl rfl rfl rfl rfl ?_
  refine sx_guardF rfl rfl rfl rfl rfl rfl ?_
  refine sx_guardF rfl rfl rfl rfl rfl rfl ?_
  refine sx_guardF rfl rfl rfl rfl rfl rfl ?_
  refine sp rfl (px_pick rfl rfl) ?_
  refine wl_nil (q_n (k37 _ _ ?_))
  refine sx_sub (Sub.c 2 rfl (.c 3 rfl (.c 7 rfl (.c 41 rfl .nil)))) ?_
  refine sx_condT rfl ?_
  refine sx_seq fun K49 k49 => sx_region ?_
  refine sp rfl (px_build rfl (xbld35x  _)) ?_
  have f52 := (f22.ext d27).ext cb28
  have f53 := f52.chg cw31 (by omega)
  have f54 := f53.ext c48
  refine sx_store (vs := [.string (⟨#[]⟩), .string (⟨#[]⟩), .bool false, (.slice none 0 0), .int .i64 0]) rfl rfl f54 rfl Tryd.sizeOf35 (nbl rfl) (one_cons rfl (one_cons rfl (o3 rfl rfl rfl))) (fun w50 sw50 fw50 cw50 => ?_)
  have zw50 := cw50.size
  have gw50 : Blk w50 b2 [.string (⟨#[]⟩), .string (⟨#[]⟩), .bool false, (.slice none 0 0), .int .i64 0] 35 := fw50
  refine av rfl rfl (wl_nil (q_n (k49 _ _ ?_)))
  refine sx_retc ?_
  refine q_r (sx_ret2 Tryd.results11 ⟨_, rfl, gw50.loadA (vs := [.string (⟨#[]⟩), .string (⟨#[]⟩), .bool false, (.slice none 0 0), .int .i64 0]) (look_lit rfl) Tryd.isAgg35 Tryd.sizeOf35⟩ rfl ?_)
  have hB : rdR s = (⟨#[]⟩, ⟨#[]⟩, 0, 0, false) := rdR_no fun h => by
   first
   | exact absurd h.1 (by omega)
   | exact nt h144 h.2.1
   | exact h144x1 h.2.2
   | exact h144x2 (cut_rate (Decidable.not_not.1 h139) h.2.1 h.2.2)
  rw [hB]
  have q55 := Chg.step (l := 0) (h := 0) (Chg.zero (l := 0) (h := 0) (((cb2.t c5).t c13).t cb14)) cw16 (by omega)
  have q56 := Chg.step (l := 0) (h := 0) q55 (d27.t cb28) (by omega)
  have q57 := Chg.step (l := 0) (h := 0) q56 cw31 (by omega)
  have q58 := Chg.step (l := 0) (h := 0) q57 c48 (by omega)
  have q59 := Chg.step (l := 0) (h := 0) q58 cw50 (by omega)
  exact ⟨_, rfl, own_nil0, len_nil0, q59⟩
 refine sx_guardT rfl rfl rfl ?_
 have f60 := gw31.ext c48
 refine sp rfl (px_load rfl (f60.loadA (vs := [.string ((cutT 32 s).getD 0 ByteArray.empty), .string ((cutT 32 s).getD 1 ByteArray.empty), .bool (ng (rdX ((cutT 32 s).getD 2 ByteArray.empty))), x13, .int .i64 (rdP ((cutT 32 s).getD 2 ByteArray.empty))]) (look_lit rfl) Tryd.isAgg35 Tryd.sizeOf35)) ?_
 refine sx_guardT rfl rfl rfl ?_
 have f61 := f47.ext c48
 refine sx_call rfl rfl Tryd.call37 (c_sRateText f61.sv (by omega)) (fun v62 w62 p62 => ?_)
 obtain ⟨rfl, c62⟩ := p62
 have zw62 := c62.size
 refine sx_guardT rfl rfl rfl ?_
 refine mv rfl rfl ?_
 refine sx_guardT rfl rfl rfl ?_
 refine sp rfl (px_neS rfl rfl) ?_
 refine sp rfl (px_pick rfl rfl) ?_
 refine wl_nil (q_n (k37 _ _ ?_))
 refine sx_sub (Sub.c 2 rfl (.c 3 rfl (.c 7 rfl (.c 41 rfl .nil)))) ?_
 refine sx_condP rfl (fun h144x2 => ?_) (fun h144x2 => ?_)
 ·
  refine sx_seq fun K63 k63 => sx_region ?_
  refine sp rfl (px_build rfl (xbld35x  _)) ?_
  have f66 := (f22.ext d27).ext cb28
  have f67 := f66.chg cw31 (by omega)
  have f69 := (f67.ext c48).ext c62
  refine sx_store (vs := [.string (⟨#[]⟩), .string (⟨#[]⟩), .bool false, (.slice none 0 0), .int .i64 0]) rfl rfl f69 rfl Tryd.sizeOf35 (nbl rfl) (one_cons rfl (one_cons rfl (o3 rfl rfl rfl))) (fun w64 sw64 fw64 cw64 => ?_)
  have zw64 := cw64.size
  have gw64 : Blk w64 b2 [.string (⟨#[]⟩), .string (⟨#[]⟩), .bool false, (.slice none 0 0), .int .i64 0] 35 := fw64
  refine av rfl rfl (wl_nil (q_n (k63 _ _ ?_)))
  refine sx_retc ?_
  refine q_r (sx_ret2 Tryd.results11 ⟨_, rfl, gw64.loadA (vs := [.string (⟨#[]⟩), .string (⟨#[]⟩), .bool false, (.slice none 0 0), .int .i64 0]) (look_lit rfl) Tryd.isAgg35 Tryd.sizeOf35⟩ rfl ?_)
  have hB : rdR s = (⟨#[]⟩, ⟨#[]⟩, 0, 0, false) := rdR_no fun h => by
   first
   | exact absurd h.1 (by omega)
   | exact nt h144 h.2.1
   | exact h144x1 h.2.2
   | exact h144x2 (cut_rate (Decidable.not_not.1 h139) h.2.1 h.2.2)
  rw [hB]
  have q70 := Chg.step (l := 0) (h := 0) (Chg.zero (l := 0) (h := 0) (((cb2.t c5).t c13).t cb14)) cw16 (by omega)
  have q71 := Chg.step (l := 0) (h := 0) q70 (d27.t cb28) (by omega)
  have q72 := Chg.step (l := 0) (h := 0) q71 cw31 (by omega)
  have q73 := Chg.step (l := 0) (h := 0) q72 (c48.t c62) (by omega)
  have q74 := Chg.step (l := 0) (h := 0) q73 cw64 (by omega)
  exact ⟨_, rfl, own_nil0, len_nil0, q74⟩
 refine sx_skip ?_
 refine q_n (k36 _ _ ?_)
 refine sx_seq fun K75 k75 => sx_region ?_
 have f76 := f60.ext c62
 refine sp rfl (px_load rfl (f76.loadA (vs := [.string ((cutT 32 s).getD 0 ByteArray.empty), .string ((cutT 32 s).getD 1 ByteArray.empty), .bool (ng (rdX ((cutT 32 s).getD 2 ByteArray.empty))), x13, .int .i64 (rdP ((cutT 32 s).getD 2 ByteArray.empty))]) (look_lit rfl) Tryd.isAgg35 Tryd.sizeOf35)) ?_
 have f79 := (f22.ext d27).ext cb28
 have f80 := f79.chg cw31 (by omega)
 have f82 := (f80.ext c48).ext c62
 have f83 := f61.ext c62
 refine sx_store (vs := [.string ((cutT 32 s).getD 0 ByteArray.empty), .string ((cutT 32 s).getD 1 ByteArray.empty), .bool (ng (rdX ((cutT 32 s).getD 2 ByteArray.empty))), x13, .int .i64 (rdP ((cutT 32 s).getD 2 ByteArray.empty))]) rfl rfl f82 rfl Tryd.sizeOf35 (nbl rfl) (one_cons rfl (one_cons rfl (one_cons rfl (one_cons f83.one (o1 rfl))))) (fun w77 sw77 fw77 cw77 => ?_)
 have zw77 := cw77.size
 have gw77 : Blk w77 b2 [.string ((cutT 32 s).getD 0 ByteArray.empty), .string ((cutT 32 s).getD 1 ByteArray.empty), .bool (ng (rdX ((cutT 32 s).getD 2 ByteArray.empty))), x13, .int .i64 (rdP ((cutT 32 s).getD 2 ByteArray.empty))] 35 := fw77
 refine av rfl rfl (wl_nil (q_n (k75 _ _ ?_)))
 refine sx_retc ?_
 refine sx_ret2 Tryd.results11 ⟨_, rfl, gw77.loadA (vs := [.string ((cutT 32 s).getD 0 ByteArray.empty), .string ((cutT 32 s).getD 1 ByteArray.empty), .bool (ng (rdX ((cutT 32 s).getD 2 ByteArray.empty))), x13, .int .i64 (rdP ((cutT 32 s).getD 2 ByteArray.empty))]) (look_lit rfl) Tryd.isAgg35 Tryd.sizeOf35⟩ rfl ?_
 have hR := rdR_yes (s := s) (Decidable.not_not.1 h139) (nf h144) (Decidable.not_not.1 h144x1)
 have hl := rdR_len s
 rw [hR] at hl
 rw [hR]
 have q84 := Chg.step (l := 0) (h := 0) (Chg.zero (l := 0) (h := 0) (((cb2.t c5).t c13).t cb14)) cw16 (by omega)
 have q85 := Chg.step (l := 0) (h := 0) q84 (d27.t cb28) (by omega)
 have q86 := Chg.step (l := 0) (h := 0) q85 cw31 (by omega)
 have q87 := Chg.step (l := 0) (h := 0) q86 (c48.t c62) (by omega)
 have q88 := Chg.step (l := 0) (h := 0) q87 cw77 (by omega)
 have f89 := f83.chg cw77 (by omega)
 exact ⟨_, rfl, (Own.mono f89 (by omega) (by omega)), hl, q88⟩

theorem c_intSign {w : World} {va : Value} {lva uva : Nat} {x : Int} (hva : Sl w lva uva va (dg x.natAbs)) (hbx : (dg x.natAbs).length ≤ 1000) :
  Ret Tryd.prog 59 [.agg #[.bool (ng x), va]] w fun v w' => v = .int .i64 ((x).sign) ∧ Chg 0 0 w w' := by
 have hva0 := hva.fit
 refine sx_enter Tryd.func59 rfl Tryd.ntmps59 (nbl rfl) ?_
 refine sx_seq fun K1 k1 => sx_region ?_
 refine sx_box [.bool (ng x), va] rfl rfl rfl (fun b2 w3 eb2 sb2 fb2 cb2 => ?_)
 have zw3 := cb2.size
 refine av rfl rfl (wl_nil (q_n (k1 _ _ ?_)))
 refine sx_seq fun K4 k4 => ?_
 refine sx_block ?_
 refine sx_seq fun K5 k5 => sx_region ?_
 refine sp rfl (px_field rfl xfld24x1) ?_
 refine sp rfl (px_load rfl (fb2.load1 rfl Tryd.isAgg22)) ?_
 have f6 := hva0.ext cb2
 refine sp rfl (px_len rfl Tryd.underlying22 f6) ?_
 refine sp rfl (px_eq rfl rfl) ?_
 refine av rfl rfl (wl_nil (q_n (k5 _ _ ?_)))
 refine sx_condP rfl (fun h101 => ?_) (fun h101 => ?_)
 ·
  refine sx_seq fun K7 k7 => sx_region ?_
  refine av rfl rfl (wl_nil (q_n (k7 _ _ ?_)))
  refine sx_retc ?_
  refine q_br (q_r (sx_ret1 Tryd.results59 rfl ?_))
  exact ⟨(by rw [sign_z (by omega)]), cb2⟩
 refine sx_seq fun K8 k8 => sx_region ?_
 refine sp rfl (px_field rfl xfld24x0) ?_
 refine sp rfl (px_load rfl (fb2.load1 rfl Tryd.isAgg4)) ?_
 refine av rfl rfl (wl_nil (q_n (k8 _ _ ?_)))
 refine sx_condB rfl (fun h103 => ?_) (fun h103 => ?_)
 ·
  refine sx_seq fun K9 k9 => sx_region ?_
  refine av rfl rfl (wl_nil (q_n (k9 _ _ ?_)))
  refine sx_retc ?_
  refine q_br (q_r (sx_ret1 Tryd.results59 rfl ?_))
  exact ⟨(by rw [sign_n h103]), cb2⟩
 refine sx_skip ?_
 refine q_bn (q_n (k4 _ _ ?_))
 refine sx_seq fun K10 k10 => sx_region ?_
 refine av rfl rfl (wl_nil (q_n (k10 _ _ ?_)))
 refine sx_retc ?_
 refine sx_ret1 Tryd.results59 rfl ?_
 exact ⟨(by rw [sign_p (by omega) h103]), cb2⟩

theorem c_iRateOk {w : World} {f1 : ByteArray} {t1 : ByteArray} {n1 : Bool} {v1 : Value} {lv1 uv1 : Nat} {z1 : List Int} {p1 : Int} (hG0 : Glob w) (hv1 : Sl w lv1 uv1 v1 (z1)) (h63 : z1.length ≤ 4611686018427387904) :
  Ret Tryd.prog 38 [.agg #[.string f1, .string t1, .bool n1, v1, .int .i64 p1]] w fun v w' => v = .bool (decide (RateP f1 t1 n1 z1 p1)) ∧ Chg 0 0 w w' := by
 have hv10 := hv1.fit
 refine sx_enter Tryd.func38 rfl Tryd.ntmps38 (nbl rfl) ?_
 refine sx_seq fun K1 k1 => sx_region ?_
 refine sx_box [.string f1, .string t1, .bool n1, v1, .int .i64 p1] rfl rfl rfl (fun b2 w3 eb2 sb2 fb2 cb2 => ?_)
 have zw3 := cb2.size
 refine av rfl rfl (wl_nil (q_n (k1 _ _ ?_)))
 refine sx_seq fun K4 k4 => sx_region ?_
 refine sp rfl (px_field rfl xfld35x0) ?_
 refine sp rfl (px_load rfl (fb2.load1 rfl Tryd.isAgg9)) ?_
 have f5 := hG0.ext cb2
 refine sx_call rfl rfl Tryd.call76 (c_iCurKnown f5) (fun v6 w6 p6 => ?_)
 obtain ⟨rfl, c6⟩ := p6
 have zw6 := c6.size
 refine mv rfl rfl ?_
 refine sx_tmpP (t := 6) rfl (fun h36 => ?_) (fun h36 => ?_)
 ·
  refine sx_guardT rfl rfl rfl ?_
  refine sp rfl (px_field rfl xfld35x1) ?_
  refine sx_guardT rfl rfl rfl ?_
  have f7 := fb2.ext c6
  refine sp rfl (px_load rfl (f7.load1 rfl Tryd.isAgg9)) ?_
  refine sx_guardT rfl rfl rfl ?_
  have f8 := f5.ext c6
  refine sx_call rfl rfl Tryd.call76 (c_iCurKnown f8) (fun v9 w9 p9 => ?_)
  obtain ⟨rfl, c9⟩ := p9
  have zw9 := c9.size
  refine sp rfl (px_pick rfl rfl) ?_
  refine mv rfl rfl ?_
  refine sx_tmpP (t := 11) rfl (fun h36x1 => ?_) (fun h36x1 => ?_)
  ·
   refine sx_guardT rfl rfl rfl ?_
   refine sp rfl (px_field rfl xfld35x0) ?_
   refine sx_guardT rfl rfl rfl ?_
   have f10 := f7.ext c9
   refine sp rfl (px_load rfl (f10.load1 rfl Tryd.isAgg9)) ?_
   refine sx_guardT rfl rfl rfl ?_
   refine sp rfl (px_field rfl xfld35x1) ?_
   refine sx_guardT rfl rfl rfl ?_
   refine sp rfl (px_load rfl (f10.load1 rfl Tryd.isAgg9)) ?_
   refine sx_guardT rfl rfl rfl ?_
   refine sp rfl (px_neS rfl rfl) ?_
   refine sp rfl (px_pick rfl rfl) ?_
   refine mv rfl rfl ?_
   refine sx_tmpP (t := 18) rfl (fun h36x2 => ?_) (fun h36x2 => ?_)
   ·
    refine sx_guardT rfl rfl rfl ?_
    refine sp rfl (px_field rfl xfld35x2) ?_
    refine sx_guardT rfl rfl rfl ?_
    refine sp rfl (px_load rfl (f10.loadA (vs := [.bool n1, v1, .int .i64 p1]) (look_lit rfl) Tryd.isAgg33 Tryd.sizeOf33)) ?_
    refine sx_guardT rfl rfl rfl ?_
    have f11 := hv10.ext cb2
    have f13 := (f11.ext c6).ext c9
    refine sx_call rfl rfl Tryd.call77 (c_iDecOk f13 (by omega)) (fun v14 w14 p14 => ?_)
    obtain ⟨rfl, c14⟩ := p14
    have zw14 := c14.size
    refine sp rfl (px_pick rfl rfl) ?_
    refine mv rfl rfl ?_
    refine sx_tmpP (t := 23) rfl (fun h36x3 => ?_) (fun h36x3 => ?_)
    ·
     have hD := h36x3
     obtain ⟨x1, rfl, rfl, hx1⟩ := hD.int
     have hvx := vI_ng x1
     have hsx := sign_gt (x := x1)
     have hcx := cmpI_gt0 (x := x1)
     refine sx_guardT rfl rfl rfl ?_
     refine sp rfl (px_field rfl xfld35x2) ?_
     refine sx_guardT rfl rfl rfl ?_
     refine sp rfl (px_field rfl xfld33x0) ?_
     refine sx_guardT rfl rfl rfl ?_
     have f15 := f10.ext c14
     refine sp rfl (px_load rfl (f15.loadA (vs := [.bool (ng x1), v1]) (look_lit rfl) Tryd.isAgg24 Tryd.sizeOf24)) ?_
     refine sx_guardT rfl rfl rfl ?_
     have f16 := f13.ext c14
     refine sx_call rfl rfl Tryd.call59 (c_intSign f16 (by omega)) (fun v17 w17 p17 => ?_)
     obtain ⟨rfl, c17⟩ := p17
     have zw17 := c17.size
     refine sx_guardT rfl rfl rfl ?_
     refine sp rfl (px_gt rfl rfl) ?_
     refine sp rfl (px_pick rfl rfl) ?_
     refine mv rfl rfl ?_
     refine sx_tmpP (t := 30) rfl (fun h36x4 => ?_) (fun h36x4 => ?_)
     ·
      refine sx_guardT rfl rfl rfl ?_
      refine sp rfl (px_field rfl xfld35x2) ?_
      refine sx_guardT rfl rfl rfl ?_
      refine sp rfl (px_field rfl xfld33x0) ?_
      refine sx_guardT rfl rfl rfl ?_
      refine sp rfl (px_field rfl xfld24x1) ?_
      refine sx_guardT rfl rfl rfl ?_
      have f18 := f15.ext c17
      refine sp rfl (px_load rfl (f18.load1 rfl Tryd.isAgg22)) ?_
      refine sx_guardT rfl rfl rfl ?_
      have f19 := f16.ext c17
      refine sp rfl (px_len rfl Tryd.underlying22 f19) ?_
      refine sx_guardT rfl rfl rfl ?_
      refine sp rfl (px_le rfl rfl) ?_
      refine sp rfl (px_pick rfl rfl) ?_
      refine av rfl rfl (wl_nil (q_n (k4 _ _ ?_)))
      refine sx_sub (Sub.c 2 rfl .nil) ?_
      refine sx_retc ?_
      refine sx_ret1 Tryd.results38 rfl ?_
      exact ⟨(by first | exact bTrue (by grind [RateP]) | exact bFalse (by grind [RateP]) | exact bIff (by grind [RateP])), ((((cb2.t c6).t c9).t c14).t c17)⟩
     refine sx_guardF rfl rfl rfl rfl rfl rfl ?_
     refine sx_guardF rfl rfl rfl rfl rfl rfl ?_
     refine sx_guardF rfl rfl rfl rfl rfl rfl ?_
     refine sx_guardF rfl rfl rfl rfl rfl rfl ?_
     refine sx_guardF rfl rfl rfl rfl rfl rfl ?_
     refine sx_guardF rfl rfl rfl rfl rfl rfl ?_
     refine sp rfl (px_pick rfl rfl) ?_
     refine av rfl rfl (wl_nil (q_n (k4 _ _ ?_)))
     refine sx_sub (Sub.c 2 rfl .nil) ?_
     refine sx_retc ?_
     refine sx_ret1 Tryd.results38 rfl ?_
     exact ⟨(by first | exact bTrue (by grind [RateP]) | exact bFalse (by grind [RateP]) | exact bIff (by grind [RateP])), ((((cb2.t c6).t c9).t c14).t c17)⟩
    refine sx_guardF rfl rfl rfl rfl rfl rfl ?_
    refine sx_guardF rfl rfl rfl rfl rfl rfl ?_
    refine sx_guardF rfl rfl rfl rfl rfl rfl ?_
    refine sx_guardF rfl rfl rfl rfl rfl rfl ?_
    refine sx_guardF rfl rfl rfl rfl rfl rfl ?_
    refine sp rfl (px_pick rfl rfl) ?_
    refine mv rfl rfl ?_
    refine sx_guardF rfl rfl rfl rfl rfl rfl ?_
    refine sx_guardF rfl rfl rfl rfl rfl rfl ?_
    refine sx_guardF rfl rfl rfl rfl rfl rfl ?_
    refine sx_guardF rfl rfl rfl rfl rfl rfl ?_
    refine sx_guardF rfl rfl rfl rfl rfl rfl ?_
    refine sx_guardF rfl rfl rfl rfl rfl rfl ?_
    refine sp rfl (px_pick rfl rfl) ?_
    refine av rfl rfl (wl_nil (q_n (k4 _ _ ?_)))
    refine sx_sub (Sub.c 2 rfl .nil) ?_
    refine sx_retc ?_
    refine sx_ret1 Tryd.results38 rfl ?_
    exact ⟨(by first | exact bTrue (by grind [RateP]) | exact bFalse (by grind [RateP]) | exact bIff (by grind [RateP])), (((cb2.t c6).t c9).t c14)⟩
   refine sx_guardF rfl rfl rfl rfl rfl rfl ?_
   refine sx_guardF rfl rfl rfl rfl rfl rfl ?_
   refine sx_guardF rfl rfl rfl rfl rfl rfl ?_
   refine sp rfl (px_pick rfl rfl) ?_
   refine mv rfl rfl ?_
   refine sx_guardF rfl rfl rfl rfl rfl rfl ?_
   refine sx_guardF rfl rfl rfl rfl rfl rfl ?_
   refine sx_guardF rfl rfl rfl rfl rfl rfl ?_
   refine sx_guardF rfl rfl rfl rfl rfl rfl ?_
   refine sx_guardF rfl rfl rfl rfl rfl rfl ?_
   refine sp rfl (px_pick rfl rfl) ?_
   refine mv rfl rfl ?_
   refine sx_guardF rfl rfl rfl rfl rfl rfl ?_
   refine sx_guardF rfl rfl rfl rfl rfl rfl ?_
   refine sx_guardF rfl rfl rfl rfl rfl rfl ?_
   refine sx_guardF rfl rfl rfl rfl rfl rfl ?_
   refine sx_guardF rfl rfl rfl rfl rfl rfl ?_
   refine sx_guardF rfl rfl rfl rfl rfl rfl ?_
   refine sp rfl (px_pick rfl rfl) ?_
   refine av rfl rfl (wl_nil (q_n (k4 _ _ ?_)))
   refine sx_sub (Sub.c 2 rfl .nil) ?_
   refine sx_retc ?_
   refine sx_ret1 Tryd.results38 rfl ?_
   exact ⟨(by first | exact bTrue (by grind [RateP]) | exact bFalse (by grind [RateP]) | exact bIff (by grind [RateP])), ((cb2.t c6).t c9)⟩
  refine sx_guardF rfl rfl rfl rfl rfl rfl ?_
  refine sx_guardF rfl rfl rfl rfl rfl rfl ?_
  refine sx_guardF rfl rfl rfl rfl rfl rfl ?_
  refine sx_guardF rfl rfl rfl rfl rfl rfl ?_
  refine sx_guardF rfl rfl rfl rfl rfl rfl ?_
  refine sp rfl (px_pick rfl rfl) ?_
  refine mv rfl rfl ?_
  refine sx_guardF rfl rfl rfl rfl rfl rfl ?_
  refine sx_guardF rfl rfl rfl rfl rfl rfl ?_
  refine sx_guardF rfl rfl rfl rfl rfl rfl ?_
  refine sp rfl (px_pick rfl rfl) ?_
  refine mv rfl rfl ?_
  refine sx_guardF rfl rfl rfl rfl rfl rfl ?_
  refine sx_guardF rfl rfl rfl rfl rfl rfl ?_
  refine sx_guardF rfl rfl rfl rfl rfl rfl ?_
  refine sx_guardF rfl rfl rfl rfl rfl rfl ?_
  refine sx_guardF rfl rfl rfl rfl rfl rfl ?_
  refine sp rfl (px_pick rfl rfl) ?_
  refine mv rfl rfl ?_
  refine sx_guardF rfl rfl rfl rfl rfl rfl ?_
  refine sx_guardF rfl rfl rfl rfl rfl rfl ?_
  refine sx_guardF rfl rfl rfl rfl rfl rfl ?_
  refine sx_guardF rfl rfl rfl rfl rfl rfl ?_
  refine sx_guardF rfl rfl rfl rfl rfl rfl ?_
  refine sx_guardF rfl rfl rfl rfl rfl rfl ?_
  refine sp rfl (px_pick rfl rfl) ?_
  refine av rfl rfl (wl_nil (q_n (k4 _ _ ?_)))
  refine sx_sub (Sub.c 2 rfl .nil) ?_
  refine sx_retc ?_
  refine sx_ret1 Tryd.results38 rfl ?_
  exact ⟨(by first | exact bTrue (by grind [RateP]) | exact bFalse (by grind [RateP]) | exact bIff (by grind [RateP])), ((cb2.t c6).t c9)⟩
 refine sx_guardF rfl rfl rfl rfl rfl rfl ?_
 refine sx_guardF rfl rfl rfl rfl rfl rfl ?_
 refine sx_guardF rfl rfl rfl rfl rfl rfl ?_
 refine sp rfl (px_pick rfl rfl) ?_
 refine mv rfl rfl ?_
 refine sx_guardF rfl rfl rfl rfl rfl rfl ?_
 refine sx_guardF rfl rfl rfl rfl rfl rfl ?_
 refine sx_guardF rfl rfl rfl rfl rfl rfl ?_
 refine sx_guardF rfl rfl rfl rfl rfl rfl ?_
 refine sx_guardF rfl rfl rfl rfl rfl rfl ?_
 refine sp rfl (px_pick rfl rfl) ?_
 refine mv rfl rfl ?_
 refine sx_guardF rfl rfl rfl rfl rfl rfl ?_
 refine sx_guardF rfl rfl rfl rfl rfl rfl ?_
 refine sx_guardF rfl rfl rfl rfl rfl rfl ?_
 refine sp rfl (px_pick rfl rfl) ?_
 refine mv rfl rfl ?_
 refine sx_guardF rfl rfl rfl rfl rfl rfl ?_
 refine sx_guardF rfl rfl rfl rfl rfl rfl ?_
 refine sx_guardF rfl rfl rfl rfl rfl rfl ?_
 refine sx_guardF rfl rfl rfl rfl rfl rfl ?_
 refine sx_guardF rfl rfl rfl rfl rfl rfl ?_
 refine sp rfl (px_pick rfl rfl) ?_
 refine mv rfl rfl ?_
 refine sx_guardF rfl rfl rfl rfl rfl rfl ?_
 refine sx_guardF rfl rfl rfl rfl rfl rfl ?_
 refine sx_guardF rfl rfl rfl rfl rfl rfl ?_
 refine sx_guardF rfl rfl rfl rfl rfl rfl ?_
 refine sx_guardF rfl rfl rfl rfl rfl rfl ?_
 refine sx_guardF rfl rfl rfl rfl rfl rfl ?_
 refine sp rfl (px_pick rfl rfl) ?_
 refine av rfl rfl (wl_nil (q_n (k4 _ _ ?_)))
 refine sx_sub (Sub.c 2 rfl .nil) ?_
 refine sx_retc ?_
 refine sx_ret1 Tryd.results38 rfl ?_
 exact ⟨(by first | exact bTrue (by grind [RateP]) | exact bFalse (by grind [RateP]) | exact bIff (by grind [RateP])), (cb2.t c6)⟩

theorem c_iTextRate {w : World} {s : ByteArray} (hG0 : Glob w) (hGT : GlobP w) (hs : s.size ≤ 1048576) :
  Ret Tryd.prog 12 [.string s] w fun v w' => ∃ x, v = .tuple #[.agg #[.string ((rdR s).1), .string ((rdR s).2.1), .bool (ng (rdR s).2.2.1), x, .int .i64 ((rdR s).2.2.2.1)], .bool ((rdR s).2.2.2.2)] ∧ OwnI w' w.heap.size w'.heap.size x intT (dg (rdR s).2.2.1.natAbs) ∧ ((dg (rdR s).2.2.1.natAbs).length ≤ 2) ∧ Chg 0 0 w w' := by
 have hGTl := hGT.lt
 have hp0 := part_size (b := 32) (s := s) 0
 have hp1 := part_size (b := 32) (s := s) 1
 have hp2 := part_size (b := 32) (s := s) 2
 have hx1 := rdX_len ((cutT 32 s).getD 1 ByteArray.empty)
 have hx2 := rdX_len ((cutT 32 s).getD 2 ByteArray.empty)
 refine sx_enter Tryd.func12 rfl Tryd.ntmps12 (nbl rfl) ?_
 refine sx_seq fun K1 k1 => sx_region ?_
 refine sx_alloc [.string (⟨#[]⟩), .string (⟨#[]⟩), .bool false, (.slice none 0 0), .int .i64 0] rfl Tryd.zeroValue35 rfl (fun b2 w3 eb2 sb2 fb2 cb2 => ?_)
 have zw3 := cb2.size
 refine av rfl rfl (wl_nil (q_n (k1 _ _ ?_)))
 refine sx_seq fun K4 k4 => sx_region ?_
 refine mv rfl rfl (sx_call rfl rfl Tryd.call31 (c_iCut (by omega)) (fun v5 w5 p5 => ?_))
 obtain ⟨x5, rfl, ox_5, c5⟩ := p5
 have zw5 := c5.size
 refine av rfl rfl (wl_nil (q_n (k4 _ _ ?_)))
 refine sx_seq fun K6 k6 => ?_
 refine sx_seq fun K7 k7 => sx_region ?_
 refine mv rfl rfl (sp rfl (px_len rfl Tryd.underlying54 ox_5.sv) ?_)
 refine sp rfl (px_ne rfl rfl) ?_
 refine wl_nil (q_n (k7 _ _ ?_))
 refine sx_condP rfl (fun h167 => ?_) (fun h167 => ?_)
 ·
  refine sx_seq fun K8 k8 => sx_region ?_
  refine sp rfl (px_build rfl (xbld35x  _)) ?_
  have f10 := fb2.ext c5
  refine sx_store (vs := [.string (⟨#[]⟩), .string (⟨#[]⟩), .bool false, (.slice none 0 0), .int .i64 0]) rfl rfl f10 rfl Tryd.sizeOf35 (nbl rfl) (one_cons rfl (one_cons rfl (o3 rfl rfl rfl))) (fun w9 sw9 fw9 cw9 => ?_)
  have zw9 := cw9.size
  have gw9 : Blk w9 b2 [.string (⟨#[]⟩), .string (⟨#[]⟩), .bool false, (.slice none 0 0), .int .i64 0] 35 := fw9
  refine av rfl rfl (wl_nil (q_n (k8 _ _ ?_)))
  refine sx_retc ?_
  refine q_r (sx_ret2 Tryd.results12 ⟨_, rfl, gw9.loadA (vs := [.string (⟨#[]⟩), .string (⟨#[]⟩), .bool false, (.slice none 0 0), .int .i64 0]) (look_lit rfl) Tryd.isAgg35 Tryd.sizeOf35⟩ rfl ?_)
  have hB : rdR s = (⟨#[]⟩, ⟨#[]⟩, 0, 0, false) := rdR_no fun h => by
   first
   | exact absurd h.1 (by omega)
   | exact nt h172 h.2.1
   | exact h172x1 h.2.2
   | exact h172x2 (cut_rate (Decidable.not_not.1 h167) h.2.1 h.2.2)
  rw [hB]
  have q11 := Chg.step (l := 0) (h := 0) (Chg.zero (l := 0) (h := 0) (cb2.t c5)) cw9 (by omega)
  exact ⟨_, rfl, own_nil0, len_nil0, q11⟩
 refine sx_skip ?_
 refine q_n (k6 _ _ ?_)
 refine sx_seq fun K12 k12 => sx_region ?_
 refine mv rfl rfl (sp rfl (px_index1 (j := 2) rfl rfl (by omega) Tryd.underlying54 Tryd.sizeOf9 ox_5.sv (by omega)) ?_)
 refine sp rfl (px_load rfl (ox_5.sv.load1 (at_str (by omega)) Tryd.isAgg9)) ?_
 have f13 := hGT.ext cb2
 have f14 := f13.ext c5
 refine sx_call rfl rfl Tryd.call32 (c_iTextDecX f14 (by omega)) (fun v15 w15 p15 => ?_)
 obtain ⟨x15, rfl, ox_15, hl15, c15⟩ := p15
 have zw15 := c15.size
 refine mv rfl rfl (sp rfl (px_ex2 rfl rfl) ?_)
 refine sp rfl (px_ex2 rfl rfl) ?_
 refine sx_alloc [.bool false, (.slice none 0 0), .int .i64 0] rfl Tryd.zeroValue33 rfl (fun b16 w17 eb16 sb16 fb16 cb16 => ?_)
 have zw17 := cb16.size
 have f19 := ox_15.ext cb16
 refine sx_store (vs := [.bool (ng (rdX ((cutT 32 s).getD 2 ByteArray.empty))), x15, .int .i64 (rdP ((cutT 32 s).getD 2 ByteArray.empty))]) rfl rfl fb16 rfl Tryd.sizeOf33 (nbl rfl) (one_cons rfl (one_cons f19.one (o1 rfl))) (fun w18 sw18 fw18 cw18 => ?_)
 have zw18 := cw18.size
 have gw18 : Blk w18 b16 [.bool (ng (rdX ((cutT 32 s).getD 2 ByteArray.empty))), x15, .int .i64 (rdP ((cutT 32 s).getD 2 ByteArray.empty))] 33 := fw18
 refine av rfl rfl (wl_nil (q_n (k12 _ _ ?_)))
 refine sx_sub (Sub.c 2 rfl (.c 3 rfl (.c 4 rfl (.c 5 rfl (.c 6 rfl .nil))))) ?_
 refine sx_seq fun K20 k20 => ?_
 have f21 := hG0.ext cb2
 have f24 := ((f21.ext c5).ext c15).ext cb16
 have f25 := f24.chg cw18 (by omega)
 have f27 := (f14.ext c15).ext cb16
 have f28 := f27.chg cw18 (by omega)
 have f31 := ((fb2.ext c5).ext c15).ext cb16
 have f32 := f31.chg cw18 (by omega)
 have f34 := (ox_5.ext c15).ext cb16
 have f35 := f34.chg cw18 (by omega)
 have f36 := f19.chg cw18 (by omega)
 refine dx_region (fun w' => Chg 0 0 w18 w') (by kernel_rfl) (Chg.zero (Chg.drew _)) ?_
 have d37 := Chg.drew w18
 have s37 : Chg 0 0 w18 (World.drew w18) := Chg.zero (Chg.drew _)
 have y37 : (World.drew w18).heap.size = w18.heap.size := rfl
 generalize World.drew w18 = w37 at *
 have zw37 := d37.size
 refine dt 0 rfl rfl rfl rfl s37 (fun _ hS => px_move rfl) ?_
 refine dt 1 rfl rfl rfl rfl s37 (fun _ hS => px_index1 (j := 0) rfl rfl (by omega) Tryd.underlying54 Tryd.sizeOf9 ((f35.sv).chg hS (by omega)) (by omega)) ?_
 refine dt 2 rfl rfl rfl rfl s37 (fun _ hS => px_load rfl (((f35.sv).chg hS (by omega)).load1 (at_str (by omega)) Tryd.isAgg9)) ?_
 refine dt 3 rfl rfl rfl rfl s37 (fun _ hS => px_move rfl) ?_
 refine dt 4 rfl rfl rfl rfl s37 (fun _ hS => px_index1 (j := 1) rfl rfl (by omega) Tryd.underlying54 Tryd.sizeOf9 ((f35.sv).chg hS (by omega)) (by omega)) ?_
 refine dt 5 rfl rfl rfl rfl s37 (fun _ hS => px_load rfl (((f35.sv).chg hS (by omega)).load1 (at_str (by omega)) Tryd.isAgg9)) ?_
 refine dt 6 rfl rfl rfl rfl s37 (fun _ hS => px_load rfl ((gw18.chg hS (by omega)).loadA (vs := [.bool (ng (rdX ((cutT 32 s).getD 2 ByteArray.empty))), x15, .int .i64 (rdP ((cutT 32 s).getD 2 ByteArray.empty))]) (look_lit rfl) Tryd.isAgg33 Tryd.sizeOf33)) ?_
 refine dt 7 rfl rfl rfl rfl s37 (fun _ hS => px_build rfl (xbld35x0x1x2 rfl rfl _)) ?_
 refine dx_eff 8 rfl (by kernel_rfl) ?_
 refine sx_alloc [.string (⟨#[]⟩), .string (⟨#[]⟩), .bool false, (.slice none 0 0), .int .i64 0] rfl Tryd.zeroValue35 rfl (fun b38 w39 eb38 sb38 fb38 cb38 => ?_)
 have zw39 := cb38.size
 have s40 : Chg 0 0 w18 w39 := (d37.t cb38)
 refine wl_nil ?_
 refine dx_next s40 ?_
 refine dx_eff 9 rfl (by kernel_rfl) ?_
 have f43 := (f36.ext d37).ext cb38
 refine sx_store (vs := [.string ((cutT 32 s).getD 0 ByteArray.empty), .string ((cutT 32 s).getD 1 ByteArray.empty), .bool (ng (rdX ((cutT 32 s).getD 2 ByteArray.empty))), x15, .int .i64 (rdP ((cutT 32 s).getD 2 ByteArray.empty))]) rfl rfl fb38 rfl Tryd.sizeOf35 (nbl rfl) (one_cons rfl (one_cons rfl (one_cons rfl (one_cons f43.one (o1 rfl))))) (fun w41 sw41 fw41 cw41 => ?_)
 have zw41 := cw41.size
 have gw41 : Blk w41 b38 [.string ((cutT 32 s).getD 0 ByteArray.empty), .string ((cutT 32 s).getD 1 ByteArray.empty), .bool (ng (rdX ((cutT 32 s).getD 2 ByteArray.empty))), x15, .int .i64 (rdP ((cutT 32 s).getD 2 ByteArray.empty))] 35 := fw41
 have q45 := Chg.step (l := 0) (h := 0) (Chg.zero (l := 0) (h := 0) (d37.t cb38)) cw41 (by omega)
 have s44 : Chg 0 0 w18 w41 := q45
 refine wl_nil ?_
 refine dx_next s44 ?_
 refine dx_done (by kernel_rfl) ?_
 refine q_n (k20 _ _ ?_)
 refine sx_seq fun K46 k46 => ?_
 refine sx_seq fun K47 k47 => sx_region ?_
 refine mv rfl rfl (sp rfl (px_not rfl) ?_)
 refine mv rfl rfl ?_
 refine sx_tmpB (t := 31) rfl (fun h172 => ?_) (fun h172 => ?_)
 ·
  refine sx_guardF rfl rfl rfl rfl rfl rfl ?_
  refine sx_guardF rfl rfl rfl rfl rfl rfl ?_
  refine sx_guardF rfl rfl rfl rfl rfl rfl ?_
  refine sp rfl (px_pick rfl rfl) ?_
  refine wl_nil (q_n (k47 _ _ ?_))
  refine sx_sub (Sub.c 2 rfl (.c 3 rfl (.c 7 rfl (.c 35 rfl .nil)))) ?_
  refine sx_condT rfl ?_
  refine sx_seq fun K48 k48 => sx_region ?_
  refine sp rfl (px_build rfl (xbld35x  _)) ?_
  have f51 := (f32.ext d37).ext cb38
  have f52 := f51.chg cw41 (by omega)
  refine sx_store (vs := [.string (⟨#[]⟩), .string (⟨#[]⟩), .bool false, (.slice none 0 0), .int .i64 0]) rfl rfl f52 rfl Tryd.sizeOf35 (nbl rfl) (one_cons rfl (one_cons rfl (o3 rfl rfl rfl))) (fun w49 sw49 fw49 cw49 => ?_)
  have zw49 := cw49.size
  have gw49 : Blk w49 b2 [.string (⟨#[]⟩), .string (⟨#[]⟩), .bool false, (.slice none 0 0), .int .i64 0] 35 := fw49
  refine av rfl rfl (wl_nil (q_n (k48 _ _ ?_)))
  refine sx_retc ?_
  refine q_r (sx_ret2 Tryd.results12 ⟨_, rfl, gw49.loadA (vs := [.string (⟨#[]⟩), .string (⟨#[]⟩), .bool false, (.slice none 0 0), .int .i64 0]) (look_lit rfl) Tryd.isAgg35 Tryd.sizeOf35⟩ rfl ?_)
  have hB : rdR s = (⟨#[]⟩, ⟨#[]⟩, 0, 0, false) := rdR_no fun h => by
   first
   | exact absurd h.1 (by omega)
   | exact nt h172 h.2.1
   | exact h172x1 h.2.2
   | exact h172x2 (cut_rate (Decidable.not_not.1 h167) h.2.1 h.2.2)
  rw [hB]
  have q53 := Chg.step (l := 0) (h := 0) (Chg.zero (l := 0) (h := 0) (((cb2.t c5).t c15).t cb16)) cw18 (by omega)
  have q54 := Chg.step (l := 0) (h := 0) q53 (d37.t cb38) (by omega)
  have q55 := Chg.step (l := 0) (h := 0) q54 cw41 (by omega)
  have q56 := Chg.step (l := 0) (h := 0) q55 cw49 (by omega)
  exact ⟨_, rfl, own_nil0, len_nil0, q56⟩
 refine sx_guardT rfl rfl rfl ?_
 refine sp rfl (px_load rfl (gw41.loadA (vs := [.string ((cutT 32 s).getD 0 ByteArray.empty), .string ((cutT 32 s).getD 1 ByteArray.empty), .bool (ng (rdX ((cutT 32 s).getD 2 ByteArray.empty))), x15, .int .i64 (rdP ((cutT 32 s).getD 2 ByteArray.empty))]) (look_lit rfl) Tryd.isAgg35 Tryd.sizeOf35)) ?_
 refine sx_guardT rfl rfl rfl ?_
 have f58 := (f25.ext d37).ext cb38
 have f59 := f58.chg cw41 (by omega)
 have f60 := f43.chg cw41 (by omega)
 refine sx_call rfl rfl Tryd.call38 (c_iRateOk f59 f60.sv (by omega)) (fun v61 w61 p61 => ?_)
 obtain ⟨rfl, c61⟩ := p61
 have zw61 := c61.size
 refine sx_guardT rfl rfl rfl ?_
 refine sp rfl (px_notP rfl) ?_
 refine sp rfl (px_pick rfl rfl) ?_
 refine wl_nil (q_n (k47 _ _ ?_))
 refine sx_sub (Sub.c 2 rfl (.c 3 rfl (.c 7 rfl (.c 35 rfl .nil)))) ?_
 refine sx_condP rfl (fun h172x1 => ?_) (fun h172x1 => ?_)
 ·
  refine sx_seq fun K62 k62 => sx_region ?_
  refine sp rfl (px_build rfl (xbld35x  _)) ?_
  have f65 := (f32.ext d37).ext cb38
  have f66 := f65.chg cw41 (by omega)
  have f67 := f66.ext c61
  refine sx_store (vs := [.string (⟨#[]⟩), .string (⟨#[]⟩), .bool false, (.slice none 0 0), .int .i64 0]) rfl rfl f67 rfl Tryd.sizeOf35 (nbl rfl) (one_cons rfl (one_cons rfl (o3 rfl rfl rfl))) (fun w63 sw63 fw63 cw63 => ?_)
  have zw63 := cw63.size
  have gw63 : Blk w63 b2 [.string (⟨#[]⟩), .string (⟨#[]⟩), .bool false, (.slice none 0 0), .int .i64 0] 35 := fw63
  refine av rfl rfl (wl_nil (q_n (k62 _ _ ?_)))
  refine sx_retc ?_
  refine q_r (sx_ret2 Tryd.results12 ⟨_, rfl, gw63.loadA (vs := [.string (⟨#[]⟩), .string (⟨#[]⟩), .bool false, (.slice none 0 0), .int .i64 0]) (look_lit rfl) Tryd.isAgg35 Tryd.sizeOf35⟩ rfl ?_)
  have hB : rdR s = (⟨#[]⟩, ⟨#[]⟩, 0, 0, false) := rdR_no fun h => by
   first
   | exact absurd h.1 (by omega)
   | exact nt h172 h.2.1
   | exact h172x1 h.2.2
   | exact h172x2 (cut_rate (Decidable.not_not.1 h167) h.2.1 h.2.2)
  rw [hB]
  have q68 := Chg.step (l := 0) (h := 0) (Chg.zero (l := 0) (h := 0) (((cb2.t c5).t c15).t cb16)) cw18 (by omega)
  have q69 := Chg.step (l := 0) (h := 0) q68 (d37.t cb38) (by omega)
  have q70 := Chg.step (l := 0) (h := 0) q69 cw41 (by omega)
  have q71 := Chg.step (l := 0) (h := 0) q70 c61 (by omega)
  have q72 := Chg.step (l := 0) (h := 0) q71 cw63 (by omega)
  exact ⟨_, rfl, own_nil0, len_nil0, q72⟩
 refine sx_skip ?_
 refine q_n (k46 _ _ ?_)
 refine sx_seq fun K73 k73 => sx_region ?_
 have f74 := gw41.ext c61
 refine sp rfl (px_load rfl (f74.loadA (vs := [.string ((cutT 32 s).getD 0 ByteArray.empty), .string ((cutT 32 s).getD 1 ByteArray.empty), .bool (ng (rdX ((cutT 32 s).getD 2 ByteArray.empty))), x15, .int .i64 (rdP ((cutT 32 s).getD 2 ByteArray.empty))]) (look_lit rfl) Tryd.isAgg35 Tryd.sizeOf35)) ?_
 have f77 := (f32.ext d37).ext cb38
 have f78 := f77.chg cw41 (by omega)
 have f79 := f78.ext c61
 have f80 := f60.ext c61
 refine sx_store (vs := [.string ((cutT 32 s).getD 0 ByteArray.empty), .string ((cutT 32 s).getD 1 ByteArray.empty), .bool (ng (rdX ((cutT 32 s).getD 2 ByteArray.empty))), x15, .int .i64 (rdP ((cutT 32 s).getD 2 ByteArray.empty))]) rfl rfl f79 rfl Tryd.sizeOf35 (nbl rfl) (one_cons rfl (one_cons rfl (one_cons rfl (one_cons f80.one (o1 rfl))))) (fun w75 sw75 fw75 cw75 => ?_)
 have zw75 := cw75.size
 have gw75 : Blk w75 b2 [.string ((cutT 32 s).getD 0 ByteArray.empty), .string ((cutT 32 s).getD 1 ByteArray.empty), .bool (ng (rdX ((cutT 32 s).getD 2 ByteArray.empty))), x15, .int .i64 (rdP ((cutT 32 s).getD 2 ByteArray.empty))] 35 := fw75
 refine av rfl rfl (wl_nil (q_n (k73 _ _ ?_)))
 refine sx_retc ?_
 refine sx_ret2 Tryd.results12 ⟨_, rfl, gw75.loadA (vs := [.string ((cutT 32 s).getD 0 ByteArray.empty), .string ((cutT 32 s).getD 1 ByteArray.empty), .bool (ng (rdX ((cutT 32 s).getD 2 ByteArray.empty))), x15, .int .i64 (rdP ((cutT 32 s).getD 2 ByteArray.empty))]) (look_lit rfl) Tryd.isAgg35 Tryd.sizeOf35⟩ rfl ?_
 have hR := rdR_yes (s := s) (Decidable.not_not.1 h167) (nf h172) (Decidable.not_not.1 h172x1)
 have hl := rdR_len s
 rw [hR] at hl
 rw [hR]
 have q81 := Chg.step (l := 0) (h := 0) (Chg.zero (l := 0) (h := 0) (((cb2.t c5).t c15).t cb16)) cw18 (by omega)
 have q82 := Chg.step (l := 0) (h := 0) q81 (d37.t cb38) (by omega)
 have q83 := Chg.step (l := 0) (h := 0) q82 cw41 (by omega)
 have q84 := Chg.step (l := 0) (h := 0) q83 c61 (by omega)
 have q85 := Chg.step (l := 0) (h := 0) q84 cw75 (by omega)
 have f86 := f80.chg cw75 (by omega)
 exact ⟨_, rfl, (Own.mono f86 (by omega) (by omega)), hl, q85⟩

theorem c_eqDec {w : World} {n1 : Bool} {v1 : Value} {lv1 uv1 : Nat} {z1 : List Int} {p1 : Int} {n2 : Bool} {v2 : Value} {lv2 uv2 : Nat} {z2 : List Int} {p2 : Int} (hv1 : Sl w lv1 uv1 v1 (z1)) (hv2 : Sl w lv2 uv2 v2 (z2)) (h63 : z1.length ≤ 4611686018427387904 ∧ z2.length ≤ 4611686018427387904) :
  Ret Tryd.prog 39 [.agg #[.bool n1, v1, .int .i64 p1], .agg #[.bool n2, v2, .int .i64 p2]] w fun v w' => v = .bool (decide (n1 = n2 ∧ z1 = z2 ∧ p1 = p2)) ∧ Chg 0 0 w w' := by
 have hv10 := hv1.fit
 have hv20 := hv2.fit
 refine sx_enter Tryd.func39 rfl Tryd.ntmps39 (nbl rfl) ?_
 refine sx_seq fun K1 k1 => sx_region ?_
 refine sx_box [.bool n1, v1, .int .i64 p1] rfl rfl rfl (fun b2 w3 eb2 sb2 fb2 cb2 => ?_)
 have zw3 := cb2.size
 refine sx_box [.bool n2, v2, .int .i64 p2] rfl rfl rfl (fun b4 w5 eb4 sb4 fb4 cb4 => ?_)
 have zw5 := cb4.size
 refine av rfl rfl (wl_nil (q_n (k1 _ _ ?_)))
 refine sx_seq fun K6 k6 => ?_
 refine sx_seq fun K7 k7 => sx_region ?_
 refine sp rfl (px_field rfl xfld33x0) ?_
 have f8 := fb2.ext cb4
 refine sp rfl (px_load rfl (f8.loadA (vs := [.bool n1, v1]) (look_lit rfl) Tryd.isAgg24 Tryd.sizeOf24)) ?_
 refine sp rfl (px_field rfl xfld33x0) ?_
 refine sp rfl (px_load rfl (fb4.loadA (vs := [.bool n2, v2]) (look_lit rfl) Tryd.isAgg24 Tryd.sizeOf24)) ?_
 have f9 := hv10.ext cb2
 have f10 := f9.ext cb4
 have f11 := hv20.ext cb2
 have f12 := f11.ext cb4
 refine sx_call rfl rfl Tryd.call33 (c_eqSigned f10 f12 (by omega)) (fun v13 w13 p13 => ?_)
 obtain ⟨rfl, c13⟩ := p13
 have zw13 := c13.size
 refine sp rfl (px_notP rfl) ?_
 refine wl_nil (q_n (k7 _ _ ?_))
 refine sx_condP rfl (fun h405 => ?_) (fun h405 => ?_)
 ·
  refine sx_seq fun K14 k14 => sx_region ?_
  refine av rfl rfl (wl_nil (q_n (k14 _ _ ?_)))
  refine sx_retc ?_
  refine q_r (sx_ret1 Tryd.results39 rfl ?_)
  exact ⟨(by first | exact bTrue (by grind) | exact bFalse (by grind) | exact bIff (by grind)), ((cb2.t cb4).t c13)⟩
 refine sx_skip ?_
 refine q_n (k6 _ _ ?_)
 refine sx_seq fun K15 k15 => ?_
 refine sx_seq fun K16 k16 => sx_region ?_
 refine sp rfl (px_field rfl xfld33x1) ?_
 have f17 := f8.ext c13
 refine sp rfl (px_load rfl (f17.load1 rfl Tryd.isAgg3)) ?_
 refine sp rfl (px_field rfl xfld33x1) ?_
 have f18 := fb4.ext c13
 refine sp rfl (px_load rfl (f18.load1 rfl Tryd.isAgg3)) ?_
 refine sp rfl (px_ne rfl rfl) ?_
 refine wl_nil (q_n (k16 _ _ ?_))
 refine sx_sub (Sub.c 4 rfl (.c 15 rfl .nil)) ?_
 refine sx_condP rfl (fun h408 => ?_) (fun h408 => ?_)
 ·
  refine sx_seq fun K19 k19 => sx_region ?_
  refine av rfl rfl (wl_nil (q_n (k19 _ _ ?_)))
  refine sx_retc ?_
  refine q_r (sx_ret1 Tryd.results39 rfl ?_)
  exact ⟨(by first | exact bTrue (by grind) | exact bFalse (by grind) | exact bIff (by grind)), ((cb2.t cb4).t c13)⟩
 refine sx_skip ?_
 refine q_n (k15 _ _ ?_)
 refine sx_seq fun K20 k20 => sx_region ?_
 refine av rfl rfl (wl_nil (q_n (k20 _ _ ?_)))
 refine sx_retc ?_
 refine sx_ret1 Tryd.results39 rfl ?_
 exact ⟨(by first | exact bTrue (by grind) | exact bFalse (by grind) | exact bIff (by grind)), ((cb2.t cb4).t c13)⟩

theorem c_eqRate {w : World} {f1 : ByteArray} {t1 : ByteArray} {n1 : Bool} {v1 : Value} {lv1 uv1 : Nat} {z1 : List Int} {p1 : Int} {f2 : ByteArray} {t2 : ByteArray} {n2 : Bool} {v2 : Value} {lv2 uv2 : Nat} {z2 : List Int} {p2 : Int} (hv1 : Sl w lv1 uv1 v1 (z1)) (hv2 : Sl w lv2 uv2 v2 (z2)) (h63 : z1.length ≤ 4611686018427387904 ∧ z2.length ≤ 4611686018427387904) :
  Ret Tryd.prog 13 [.agg #[.string f1, .string t1, .bool n1, v1, .int .i64 p1], .agg #[.string f2, .string t2, .bool n2, v2, .int .i64 p2]] w fun v w' => v = .bool (decide (f1 = f2 ∧ t1 = t2 ∧ n1 = n2 ∧ z1 = z2 ∧ p1 = p2)) ∧ Chg 0 0 w w' := by
 have hv10 := hv1.fit
 have hv20 := hv2.fit
 refine sx_enter Tryd.func13 rfl Tryd.ntmps13 (nbl rfl) ?_
 refine sx_seq fun K1 k1 => sx_region ?_
 refine sx_box [.string f1, .string t1, .bool n1, v1, .int .i64 p1] rfl rfl rfl (fun b2 w3 eb2 sb2 fb2 cb2 => ?_)
 have zw3 := cb2.size
 refine sx_box [.string f2, .string t2, .bool n2, v2, .int .i64 p2] rfl rfl rfl (fun b4 w5 eb4 sb4 fb4 cb4 => ?_)
 have zw5 := cb4.size
 refine av rfl rfl (wl_nil (q_n (k1 _ _ ?_)))
 refine sx_seq fun K6 k6 => ?_
 refine sx_seq fun K7 k7 => sx_region ?_
 refine sp rfl (px_field rfl xfld35x0) ?_
 have f8 := fb2.ext cb4
 refine sp rfl (px_load rfl (f8.load1 rfl Tryd.isAgg9)) ?_
 refine sp rfl (px_field rfl xfld35x0) ?_
 refine sp rfl (px_load rfl (fb4.load1 rfl Tryd.isAgg9)) ?_
 refine sp rfl (px_neS rfl rfl) ?_
 refine wl_nil (q_n (k7 _ _ ?_))
 refine sx_condP rfl (fun h557 => ?_) (fun h557 => ?_)
 ·
  refine sx_seq fun K9 k9 => sx_region ?_
  refine av rfl rfl (wl_nil (q_n (k9 _ _ ?_)))
  refine sx_retc ?_
  refine q_r (sx_ret1 Tryd.results13 rfl ?_)
  exact ⟨(by first | exact bTrue (by grind) | exact bFalse (by grind) | exact bIff (by grind)), (cb2.t cb4)⟩
 refine sx_skip ?_
 refine q_n (k6 _ _ ?_)
 refine sx_seq fun K10 k10 => ?_
 refine sx_seq fun K11 k11 => sx_region ?_
 refine sp rfl (px_field rfl xfld35x1) ?_
 refine sp rfl (px_load rfl (f8.load1 rfl Tryd.isAgg9)) ?_
 refine sp rfl (px_field rfl xfld35x1) ?_
 refine sp rfl (px_load rfl (fb4.load1 rfl Tryd.isAgg9)) ?_
 refine sp rfl (px_neS rfl rfl) ?_
 refine wl_nil (q_n (k11 _ _ ?_))
 refine sx_sub (Sub.c 2 rfl (.c 3 rfl (.c 4 rfl (.c 14 rfl .nil)))) ?_
 refine sx_condP rfl (fun h560 => ?_) (fun h560 => ?_)
 ·
  refine sx_seq fun K12 k12 => sx_region ?_
  refine av rfl rfl (wl_nil (q_n (k12 _ _ ?_)))
  refine sx_retc ?_
  refine q_r (sx_ret1 Tryd.results13 rfl ?_)
  exact ⟨(by first | exact bTrue (by grind) | exact bFalse (by grind) | exact bIff (by grind)), (cb2.t cb4)⟩
 refine sx_skip ?_
 refine q_n (k10 _ _ ?_)
 refine sx_seq fun K13 k13 => ?_
 refine sx_seq fun K14 k14 => sx_region ?_
 refine sp rfl (px_field rfl xfld35x2) ?_
 refine sp rfl (px_load rfl (f8.loadA (vs := [.bool n1, v1, .int .i64 p1]) (look_lit rfl) Tryd.isAgg33 Tryd.sizeOf33)) ?_
 refine sp rfl (px_field rfl xfld35x2) ?_
 refine sp rfl (px_load rfl (fb4.loadA (vs := [.bool n2, v2, .int .i64 p2]) (look_lit rfl) Tryd.isAgg33 Tryd.sizeOf33)) ?_
 have f15 := hv10.ext cb2
 have f16 := f15.ext cb4
 have f17 := hv20.ext cb2
 have f18 := f17.ext cb4
 refine sx_call rfl rfl Tryd.call39 (c_eqDec f16 f18 (by omega)) (fun v19 w19 p19 => ?_)
 obtain ⟨rfl, c19⟩ := p19
 have zw19 := c19.size
 refine sp rfl (px_notP rfl) ?_
 refine wl_nil (q_n (k14 _ _ ?_))
 refine sx_condP rfl (fun h563 => ?_) (fun h563 => ?_)
 ·
  refine sx_seq fun K20 k20 => sx_region ?_
  refine av rfl rfl (wl_nil (q_n (k20 _ _ ?_)))
  refine sx_retc ?_
  refine q_r (sx_ret1 Tryd.results13 rfl ?_)
  exact ⟨(by first | exact bTrue (by grind) | exact bFalse (by grind) | exact bIff (by grind)), ((cb2.t cb4).t c19)⟩
 refine sx_skip ?_
 refine q_n (k13 _ _ ?_)
 refine sx_seq fun K21 k21 => sx_region ?_
 refine av rfl rfl (wl_nil (q_n (k21 _ _ ?_)))
 refine sx_retc ?_
 refine sx_ret1 Tryd.results13 rfl ?_
 exact ⟨(by first | exact bTrue (by grind) | exact bFalse (by grind) | exact bIff (by grind)), ((cb2.t cb4).t c19)⟩

theorem c_markDec {w : World} {n1 : Bool} {v1 : Value} {lv1 uv1 : Nat} {z1 : List Int} {p1 : Int} {n : Int} (hv1 : OwnI w lv1 uv1 v1 intT (z1)) (h63 : z1.length ≤ 1048576) (hn : 0 ≤ n ∧ n ≤ 4611686018427387904) :
  Ret Tryd.prog 40 [.agg #[.bool n1, v1, .int .i64 p1], .int .i64 n] w fun v w' => v = .int .i64 (n + ↑(z1).length) ∧ OwnI w' (lv1) (uv1) v1 intT (mk n (z1).length) ∧ Chg lv1 uv1 w w' := by
 refine sx_enter Tryd.func40 rfl Tryd.ntmps40 (nbl rfl) ?_
 refine sx_seq fun K1 k1 => sx_region ?_
 refine sx_box [.bool n1, v1, .int .i64 p1] rfl rfl rfl (fun b2 w3 eb2 sb2 fb2 cb2 => ?_)
 have zw3 := cb2.size
 refine av rfl rfl (wl_nil (q_n (k1 _ _ ?_)))
 refine sx_seq fun K4 k4 => sx_region ?_
 refine sp rfl (px_field rfl xfld33x0) ?_
 refine sp rfl (px_load rfl (fb2.loadA (vs := [.bool n1, v1]) (look_lit rfl) Tryd.isAgg24 Tryd.sizeOf24)) ?_
 refine mv rfl rfl ?_
 have f5 := hv1.ext cb2
 refine sx_call rfl rfl Tryd.call34 (c_markSigned f5 (by omega) (by omega)) (fun v6 w6 p6 => ?_)
 obtain ⟨rfl, ov1_6, c6⟩ := p6
 have zw6 := c6.size
 refine av rfl rfl (wl_nil (q_n (k4 _ _ ?_)))
 refine sx_seq fun K7 k7 => sx_region ?_
 refine mv rfl rfl (av rfl rfl (wl_nil (q_n (k7 _ _ ?_))))
 refine sx_retc ?_
 refine sx_ret1 Tryd.results40 rfl ?_
 have q8 := Chg.step (l := lv1) (h := uv1) (Chg.zero (l := lv1) (h := uv1) cb2) c6 (by omega)
 exact ⟨rfl, ov1_6, q8⟩

theorem c_markRate {w : World} {f1 : ByteArray} {t1 : ByteArray} {n1 : Bool} {v1 : Value} {lv1 uv1 : Nat} {z1 : List Int} {p1 : Int} {n : Int} (hv1 : OwnI w lv1 uv1 v1 intT (z1)) (h63 : z1.length ≤ 1048576) (hn : 0 ≤ n ∧ n ≤ 4611686018427387904) :
  Ret Tryd.prog 14 [.agg #[.string f1, .string t1, .bool n1, v1, .int .i64 p1], .int .i64 n] w fun v w' => v = .int .i64 (n + ↑(z1).length) ∧ OwnI w' (lv1) (uv1) v1 intT (mk n (z1).length) ∧ Chg lv1 uv1 w w' := by
 refine sx_enter Tryd.func14 rfl Tryd.ntmps14 (nbl rfl) ?_
 refine sx_seq fun K1 k1 => sx_region ?_
 refine sx_box [.string f1, .string t1, .bool n1, v1, .int .i64 p1] rfl rfl rfl (fun b2 w3 eb2 sb2 fb2 cb2 => ?_)
 have zw3 := cb2.size
 refine av rfl rfl (wl_nil (q_n (k1 _ _ ?_)))
 refine sx_seq fun K4 k4 => sx_region ?_
 refine sp rfl (px_field rfl xfld35x2) ?_
 refine sp rfl (px_load rfl (fb2.loadA (vs := [.bool n1, v1, .int .i64 p1]) (look_lit rfl) Tryd.isAgg33 Tryd.sizeOf33)) ?_
 refine mv rfl rfl ?_
 have f5 := hv1.ext cb2
 refine sx_call rfl rfl Tryd.call40 (c_markDec f5 (by omega) (by omega)) (fun v6 w6 p6 => ?_)
 obtain ⟨rfl, ov1_6, c6⟩ := p6
 have zw6 := c6.size
 refine av rfl rfl (wl_nil (q_n (k4 _ _ ?_)))
 refine sx_seq fun K7 k7 => sx_region ?_
 refine mv rfl rfl (av rfl rfl (wl_nil (q_n (k7 _ _ ?_))))
 refine sx_retc ?_
 refine sx_ret1 Tryd.results14 rfl ?_
 have q8 := Chg.step (l := lv1) (h := uv1) (Chg.zero (l := lv1) (h := uv1) cb2) c6 (by omega)
 exact ⟨rfl, ov1_6, q8⟩

theorem c_heldDec {w : World} {n1 : Bool} {v1 : Value} {lv1 uv1 : Nat} {z1 : List Int} {p1 : Int} {n : Int} (hv1 : Sl w lv1 uv1 v1 (z1)) (h63 : z1.length ≤ 1048576) (hn : 0 ≤ n ∧ n ≤ 4611686018427387904) (hz : z1 = mk n z1.length) :
  Ret Tryd.prog 41 [.agg #[.bool n1, v1, .int .i64 p1], .int .i64 n] w fun v w' => v = .int .i64 (n + ↑(z1).length) ∧ Chg 0 0 w w' := by
 have hv10 := hv1.fit
 refine sx_enter Tryd.func41 rfl Tryd.ntmps41 (nbl rfl) ?_
 refine sx_seq fun K1 k1 => sx_region ?_
 refine sx_box [.bool n1, v1, .int .i64 p1] rfl rfl rfl (fun b2 w3 eb2 sb2 fb2 cb2 => ?_)
 have zw3 := cb2.size
 refine av rfl rfl (wl_nil (q_n (k1 _ _ ?_)))
 refine sx_seq fun K4 k4 => sx_region ?_
 refine sp rfl (px_field rfl xfld33x0) ?_
 refine sp rfl (px_load rfl (fb2.loadA (vs := [.bool n1, v1]) (look_lit rfl) Tryd.isAgg24 Tryd.sizeOf24)) ?_
 refine mv rfl rfl ?_
 have f5 := hv10.ext cb2
 refine sx_call rfl rfl Tryd.call35 (c_heldSigned f5 (by first | omega | (simp only [mk_length]; omega)) (by omega) (by first | assumption | simp [mk_length])) (fun v6 w6 p6 => ?_)
 obtain ⟨rfl, c6⟩ := p6
 have zw6 := c6.size
 refine av rfl rfl (wl_nil (q_n (k4 _ _ ?_)))
 refine sx_seq fun K7 k7 => ?_
 refine sx_seq fun K8 k8 => sx_region ?_
 refine mv rfl rfl (sp rfl (px_lt rfl rfl) ?_)
 refine wl_nil (q_n (k8 _ _ ?_))
 have h421 : ¬ ((n + ↑(z1).length : Int) < 0) := by omega
 refine sx_condPF rfl h421 ?_
 refine sx_skip ?_
 refine q_n (k7 _ _ ?_)
 refine sx_seq fun K9 k9 => sx_region ?_
 refine mv rfl rfl (av rfl rfl (wl_nil (q_n (k9 _ _ ?_))))
 refine sx_retc ?_
 refine sx_ret1 Tryd.results41 rfl ?_
 exact ⟨rfl, (cb2.t c6)⟩

theorem c_heldRate {w : World} {f1 : ByteArray} {t1 : ByteArray} {n1 : Bool} {v1 : Value} {lv1 uv1 : Nat} {z1 : List Int} {p1 : Int} {n : Int} (hv1 : Sl w lv1 uv1 v1 (z1)) (h63 : z1.length ≤ 1048576) (hn : 0 ≤ n ∧ n ≤ 4611686018427387904) (hz : z1 = mk n z1.length) :
  Ret Tryd.prog 15 [.agg #[.string f1, .string t1, .bool n1, v1, .int .i64 p1], .int .i64 n] w fun v w' => v = .int .i64 (n + ↑(z1).length) ∧ Chg 0 0 w w' := by
 have hv10 := hv1.fit
 refine sx_enter Tryd.func15 rfl Tryd.ntmps15 (nbl rfl) ?_
 refine sx_seq fun K1 k1 => sx_region ?_
 refine sx_box [.string f1, .string t1, .bool n1, v1, .int .i64 p1] rfl rfl rfl (fun b2 w3 eb2 sb2 fb2 cb2 => ?_)
 have zw3 := cb2.size
 refine av rfl rfl (wl_nil (q_n (k1 _ _ ?_)))
 refine sx_seq fun K4 k4 => sx_region ?_
 refine sp rfl (px_field rfl xfld35x2) ?_
 refine sp rfl (px_load rfl (fb2.loadA (vs := [.bool n1, v1, .int .i64 p1]) (look_lit rfl) Tryd.isAgg33 Tryd.sizeOf33)) ?_
 refine mv rfl rfl ?_
 have f5 := hv10.ext cb2
 refine sx_call rfl rfl Tryd.call41 (c_heldDec f5 (by first | omega | (simp only [mk_length]; omega)) (by omega) (by first | assumption | simp [mk_length])) (fun v6 w6 p6 => ?_)
 obtain ⟨rfl, c6⟩ := p6
 have zw6 := c6.size
 refine av rfl rfl (wl_nil (q_n (k4 _ _ ?_)))
 refine sx_seq fun K7 k7 => ?_
 refine sx_seq fun K8 k8 => sx_region ?_
 refine mv rfl rfl (sp rfl (px_lt rfl rfl) ?_)
 refine wl_nil (q_n (k8 _ _ ?_))
 have h693 : ¬ ((n + ↑(z1).length : Int) < 0) := by omega
 refine sx_condPF rfl h693 ?_
 refine sx_skip ?_
 refine q_n (k7 _ _ ?_)
 refine sx_seq fun K9 k9 => sx_region ?_
 refine mv rfl rfl (av rfl rfl (wl_nil (q_n (k9 _ _ ?_))))
 refine sx_retc ?_
 refine sx_ret1 Tryd.results15 rfl ?_
 exact ⟨rfl, (cb2.t c6)⟩

end Go.Proofs.YtoeclobdbblohaaDoor
