/- Contracts of functions of the program: what each call returns, and that it changes nothing that was. Conditions: as each says. -/
import Derived.Test.YtjkeefmpjocilaaTy
import Derived.Test.YtjkeefmpjocilaaNatI
import Derived.Test.YtjkeefmpjocilaaSxW
import Derived.Test.YtjkeefmpjocilaaSxQ
import Derived.Test.YtjkeefmpjocilaaSxR
import Derived.Test.YtjkeefmpjocilaaSxP
import Derived.Test.YtjkeefmpjocilaaRm
import Derived.Test.YtjkeefmpjocilaaL3
import Derived.Test.YtjkeefmpjocilaaNatSk
import Derived.Test.YtjkeefmpjocilaaLay
import Derived.Test.YtjkeefmpjocilaaSxU
import Derived.Test.YtjkeefmpjocilaaNatSm
set_option linter.unusedVariables false
set_option linter.unusedSimpArgs false
namespace Go.Proofs.Ytjkeefmpjocilaa
open Go Go.RowKit
set_option maxRecDepth 100000
theorem c_bitsMul {w : World} {x : Int} {y : Int} (hx : x = 1) (hy : 0 ≤ y ∧ y ≤ 1000) :
  Ret Try.prog 82 [.int .u64 x, .int .u64 y] w fun v w' => v = .tuple #[.int .u64 (0), .int .u64 (y)] ∧ Chg 0 0 w w' := by
 subst hx
 obtain ⟨m, rfl⟩ : ∃ m : Nat, y = m := ⟨y.toNat, by omega⟩
 have h := Any.bits_Mul lays212 1 m (by omega) (by omega) w
 rw [show 1 * m / 18446744073709551616 = 0 by omega, show 1 * m % 18446744073709551616 = m by omega] at h
 exact Calls.mono h fun e w' ⟨he, hw⟩ => ⟨_, he, rfl, by subst hw; exact Chg.refl _ _ _⟩

theorem c_repeat {w : World} {va : Value} {lva uva : Nat} {zs : List Int} {n : Nat} (hva : Sl w lva uva va (zs)) (hz : zs = [1]) (hn : 1 ≤ n ∧ n ≤ 30) :
  Ret Try.prog 55 [va, .int .i64 ↑n] w fun v w' => ∃ s, v = s ∧ OwnI w' w.heap.size w'.heap.size s intT (ones n) ∧ Chg 0 0 w w' := by
 have hva0 := hva.fit
 subst hz
 have hl1 : ([1] : List Int).length = 1 := rfl
 have hlr : (List.replicate n (0 : Int)).length = n := List.length_replicate
 refine sx_enter Try.func55 rfl Try.ntmps55 (nbl rfl) ?_
 refine sx_seq fun K1 k1 => sx_region ?_
 refine av rfl rfl (wl_nil (q_n (k1 _ _ ?_)))
 refine sx_seq fun K2 k2 => ?_
 refine sx_seq fun K3 k3 => sx_region ?_
 refine mv rfl rfl (sp rfl (px_lt rfl rfl) ?_)
 refine wl_nil (q_n (k3 _ _ ?_))
 have h515 : ¬ ((↑n : Int) < 0) := by omega
 refine sx_condPF rfl h515 ?_
 refine sx_skip ?_
 refine q_n (k2 _ _ ?_)
 refine sx_seq fun K4 k4 => sx_region ?_
 refine mv rfl rfl (sp rfl (px_len rfl Try.underlying23 hva0) ?_)
 refine sp rfl (px_convU Try.underlying3 Try.underlying108 rfl (by omega)) ?_
 refine mv rfl rfl (sp rfl (px_convU Try.underlying3 Try.underlying108 rfl (by omega)) ?_)
 refine sx_call rfl rfl Try.call82 (c_bitsMul (rfl) (by omega)) (fun v5 w5 p5 => ?_)
 obtain ⟨rfl, c5⟩ := p5
 have zw5 := c5.size
 refine mv rfl rfl (sp rfl (px_ex2 rfl rfl) ?_)
 refine sp rfl (px_ex2 rfl rfl) ?_
 refine av rfl rfl (av rfl rfl (wl_nil (q_n (k4 _ _ ?_))))
 refine sx_sub (Sub.c 0 rfl (.c 4 rfl (.c 5 rfl (.c 6 rfl .nil)))) ?_
 refine sx_seq fun K6 k6 => ?_
 refine sx_seq fun K7 k7 => sx_region ?_
 refine mv rfl rfl (sp rfl (px_gt rfl rfl) ?_)
 refine mv rfl rfl ?_
 have h521 : ¬ ((0 : Int) < 0) := by omega
 refine sx_tmpPF (t := 23) rfl h521 ?_
 refine sx_guardT rfl rfl rfl ?_
 refine mv rfl rfl ?_
 refine sx_guardT rfl rfl rfl ?_
 refine sp rfl (px_gt rfl rfl) ?_
 refine sp rfl (px_pick rfl rfl) ?_
 refine wl_nil (q_n (k7 _ _ ?_))
 have h521x1 : ¬ ((9223372036854775807 : Int) < ↑n) := by omega
 refine sx_condPF rfl h521x1 ?_
 refine sx_skip ?_
 refine q_n (k6 _ _ ?_)
 refine sx_seq fun K8 k8 => sx_region ?_
 refine mv rfl rfl (sp rfl (px_convI Try.underlying108 Try.underlying3 rfl (by omega)) ?_)
 refine sx_make (c := n) rfl xelt23 (rfl) (rfl) (by omega) (by unfold maxLen; omega) (fun s9 ws9 fs9 cs9 ls9 => ?_)
 have ns9 := fs9.made
 have zws9 := cs9.size
 refine av rfl rfl (wl_nil (q_n (k8 _ _ ?_)))
 refine sx_seq fun K10 k10 => sx_region ?_
 refine mv rfl rfl (mv rfl rfl ?_)
 have f13 := (hva0.ext c5).ext cs9
 refine sx_copy (a := 0) rfl rfl rfl Try.underlying23 (by rw [xelt23.hi]; exact congrArg some xelt23.hk) ns9 (.inr ⟨rfl, rfl⟩) (by omega) f13 (by omega) (fun w11 fw11 cw11 => ?_)
 have zw11 := cw11.size
 refine av rfl rfl (wl_nil (q_n (k10 _ _ ?_)))
 refine sx_sub (Sub.c 4 rfl (.c 7 rfl (.c 8 rfl .nil))) ?_
 refine sx_seq fun K14 k14 => ?_
 refine sx_block ?_
 have hf1 := fw11
 rw [fill_one (by omega)] at hf1
 refine sx_loop (fun mm aa w' => ∃ (k : Nat), Agr 48 [(7, s9), (8, .int .i64 ↑k)] aa ∧ Chg w5.heap.size ws9.heap.size w11 w' ∧ Own w' w5.heap.size ws9.heap.size s9 3 ((fill k n).length) 1 ((fill k n).map (Value.int .i64)) ∧ (mm = n - k) ∧ (1 ≤ k ∧ k ≤ n)) (_) (fun a ha => ⟨1, ha.sub (Sub.c 7 rfl (.c 8 (look_int (t := 8) rfl (by first | omega | simp)) .nil)), Chg.refl _ _ _, (hf1.mono (by omega) (by omega)), rfl, by omega⟩) ?_
 rintro mm aa wl15 ⟨k, hAwl15, cwl15, hs_s9, hm, hk⟩
 refine (show cw Try.prog 48 _ _ _ wl15 from ?_) aa hAwl15
 clear hAwl15
 have zwl15 := cwl15.size
 have hfl := fill_len (k := k) (n := n) (by omega)
 have htl : ((fill k n).take k).length = k := by rw [List.length_take, hfl]; omega
 refine sx_seq fun K16 k16 => ?_
 refine sx_seq fun K17 k17 => sx_region ?_
 refine mv rfl rfl (mv rfl rfl (sp rfl (px_len rfl Try.underlying23 hs_s9.sv) ?_))
 refine sp rfl (px_lt rfl rfl) ?_
 refine wl_nil (q_n (k17 _ _ ?_))
 refine sx_condP rfl (fun h527 => ?_) (fun h527 => ?_)
 ·
  refine sx_skip ?_
  refine q_n (k16 _ _ ?_)
  refine sx_block ?_
  have f18 := f13.chg cw11 (by omega)
  have f19 := f18.chg cwl15 (by omega)
  refine dx_region (fun w' => Chg w5.heap.size (ws9.heap.size) wl15 w') (by kernel_rfl) (Chg.zero (Chg.drew _)) ?_
  have d20 := Chg.drew wl15
  have s20 : Chg w5.heap.size (ws9.heap.size) wl15 (World.drew wl15) := Chg.zero (Chg.drew _)
  have y20 : (World.drew wl15).heap.size = wl15.heap.size := rfl
  generalize World.drew wl15 = w20 at *
  have zw20 := d20.size
  refine dt 0 rfl rfl rfl rfl s20 (fun _ hS => px_move rfl) ?_
  refine dt 1 rfl rfl rfl rfl s20 (fun _ hS => px_move rfl) ?_
  refine dt 2 rfl rfl rfl rfl s20 (fun _ hS => px_move rfl) ?_
  refine dt 3 rfl rfl rfl rfl s20 (fun _ hS => px_sliceFrom (l := k) rfl rfl (by omega) Try.underlying23 Try.sizeOf3 hs_s9.sv (by omega)) ?_
  refine dt 4 rfl rfl rfl rfl s20 (fun _ hS => px_move rfl) ?_
  refine dt 5 rfl rfl rfl rfl s20 (fun _ hS => px_move rfl) ?_
  refine dt 6 rfl rfl rfl rfl s20 (fun _ hS => px_sliceToW (h := k) rfl rfl (by omega) Try.underlying23 Try.sizeOf3 hs_s9.sv (by omega)) ?_
  refine dx_eff 7 rfl (by kernel_rfl) ?_
  have f22 := hs_s9.ext d20
  have f23 := (Own.takeI hs_s9 (h := k) (by omega)).ext d20
  refine sx_copy (a := k) rfl rfl rfl Try.underlying23 (by rw [xelt23.hi]; exact congrArg some xelt23.hk) f22 (.inl rfl) (by omega) f23.sv (by omega) (fun w21 fw21 cw21 => ?_)
  have zw21 := cw21.size
  have q25 := Chg.step (l := w5.heap.size) (h := (ws9.heap.size)) (Chg.zero (l := w5.heap.size) (h := (ws9.heap.size)) d20) cw21 (by omega)
  have s24 : Chg w5.heap.size (ws9.heap.size) wl15 w21 := q25
  refine wl_nil ?_
  refine dx_next s24 ?_
  refine dt 8 rfl rfl rfl rfl s24 (fun _ hS => px_add rfl rfl (by omega)) ?_
  refine dt 9 rfl rfl rfl rfl s24 (fun _ hS => px_assign rfl) ?_
  refine dx_done (by kernel_rfl) ?_
  have q26 := Chg.step (l := w5.heap.size) (h := ws9.heap.size) cwl15 d20 (by omega)
  have q27 := Chg.step (l := w5.heap.size) (h := ws9.heap.size) q26 cw21 (by omega)
  exact q_bn (fun a ha => ⟨_, by omega, (k + min k (n - k)), ha.sub (Sub.c 7 rfl (.c 8 (look_int (t := 8) rfl (by first | omega | simp)) .nil)), q27, (by rw [← fill_next (k := k) (n := n) (by omega) (by omega)]; exact (fw21.mono (by omega) (by omega))), rfl, by omega⟩)
 refine sx_exit ?_
 refine q_e (q_e (q_bx (q_n (k14 _ _ ?_))))
 refine sx_seq fun K28 k28 => sx_region ?_
 refine mv rfl rfl (av rfl rfl (wl_nil (q_n (k28 _ _ ?_))))
 refine sx_retc ?_
 refine sx_ret1 Try.results55 rfl ?_
 have ek : k = n := by omega
 have hs := hs_s9
 rw [fill_all ek] at hs
 have q29 := Chg.step (l := 0) (h := 0) (Chg.zero (l := 0) (h := 0) (c5.t cs9)) cw11 (by omega)
 have q30 := Chg.step (l := 0) (h := 0) q29 cwl15 (by omega)
 exact ⟨_, rfl, hs.mono (by omega) (by omega), q30⟩

theorem c_iSharesEven {w : World} {va : Value} {lva uva : Nat} {x : Int} {n : Nat} (hva : Sl w lva uva va (dg x.natAbs)) (hn : 1 ≤ n ∧ n ≤ 30) (hx : (dg x.natAbs).length ≤ 8) :
  Ret Try.prog 17 [.agg #[.bool (ng x), va], .int .i64 ↑n] w fun v w' => ∃ s us, v = .tuple #[s, .bool (true)] ∧ SgS w' (0) (w'.heap.size) s (shrs x (ones n)) us ∧ ((∃ ix : List Nat, ix.Perm (List.range (ones n).length) ∧ SortTo (sR (x).natAbs (ones n)) ix (ones n).length)) ∧ Chg 0 0 w w' := by
 have hva0 := hva.fit
 refine sx_enter Try.func17 rfl Try.ntmps17 (nbl rfl) ?_
 refine sx_seq fun K1 k1 => sx_region ?_
 refine sx_box [.bool (ng x), va] rfl rfl rfl (fun b2 w3 eb2 sb2 fb2 cb2 => ?_)
 have zw3 := cb2.size
 refine av rfl rfl (av rfl rfl (wl_nil (q_n (k1 _ _ ?_))))
 refine sx_seq fun K4 k4 => ?_
 refine sx_seq fun K5 k5 => sx_region ?_
 refine mv rfl rfl (sp rfl (px_lt rfl rfl) ?_)
 refine mv rfl rfl ?_
 have h93 : ¬ ((↑n : Int) < 1) := by omega
 refine sx_tmpPF (t := 8) rfl h93 ?_
 refine sx_guardT rfl rfl rfl ?_
 refine mv rfl rfl ?_
 refine sx_guardT rfl rfl rfl ?_
 refine sp rfl (px_gt rfl rfl) ?_
 refine sp rfl (px_pick rfl rfl) ?_
 refine wl_nil (q_n (k5 _ _ ?_))
 have h93x1 : ¬ ((30 : Int) < ↑n) := by omega
 refine sx_condPF rfl h93x1 ?_
 refine sx_skip ?_
 refine q_n (k4 _ _ ?_)
 refine sx_seq fun K6 k6 => ?_
 have f7 := hva0.ext cb2
 refine dx_region (fun w' => Chg 0 0 w3 w') (by kernel_rfl) (Chg.zero (Chg.drew _)) ?_
 have d8 := Chg.drew w3
 have s8 : Chg 0 0 w3 (World.drew w3) := Chg.zero (Chg.drew _)
 have y8 : (World.drew w3).heap.size = w3.heap.size := rfl
 generalize World.drew w3 = w8 at *
 have zw8 := d8.size
 refine dt 0 rfl rfl rfl rfl s8 (fun _ hS => px_load rfl ((fb2.chg hS (by omega)).loadA (vs := [.bool (ng x), va]) (look_lit rfl) Try.isAgg25 Try.sizeOf25)) ?_
 refine dt 2 rfl rfl rfl rfl s8 (fun _ hS => px_move rfl) ?_
 refine dx_eff 1 rfl (by kernel_rfl) ?_
 refine sx_lit1 rfl xelt23 rfl rfl (fun s9 ws9 ss9 fs9 cs9 => ?_)
 have ns9 := Own.norm (f := (Value.int .i64)) (zs := [1]) fs9
 have zws9 := cs9.size
 have s10 : Chg 0 0 w3 ws9 := (d8.t cs9)
 refine wl_nil ?_
 refine dx_next s10 ?_
 refine dx_eff 3 rfl (by kernel_rfl) ?_
 refine sx_call rfl rfl Try.call55 (c_repeat ns9.sv (rfl) (by omega)) (fun v11 w11 p11 => ?_)
 obtain ⟨s11, rfl, os_11, c11⟩ := p11
 have zw11 := c11.size
 have s12 : Chg 0 0 w3 w11 := ((d8.t cs9).t c11)
 refine wl_nil ?_
 refine dx_next s12 ?_
 refine dx_eff 4 rfl (by kernel_rfl) ?_
 have f14 := (f7.ext d8).ext cs9
 have f15 := f14.ext c11
 refine sx_call rfl rfl Try.call7 (c_iShares f15 os_11.sv (ones_ok hn) (by omega) (.inr (ones_sorted _ _))) (fun v16 w16 p16 => ?_)
 obtain ⟨s16, us16, rfl, os_16, hix16, c16⟩ := p16
 have zw16 := c16.size
 have hixx := hix16
 have s17 : Chg 0 0 w3 w16 := (((d8.t cs9).t c11).t c16)
 refine wl_nil ?_
 refine dx_next s17 ?_
 refine dt 5 rfl rfl rfl rfl s17 (fun _ hS => px_ex2 rfl rfl) ?_
 refine dt 6 rfl rfl rfl rfl s17 (fun _ hS => px_ex2 rfl rfl) ?_
 refine dt 7 rfl rfl rfl rfl s17 (fun _ hS => px_assign rfl) ?_
 refine dt 8 rfl rfl rfl rfl s17 (fun _ hS => px_assign rfl) ?_
 refine dx_done (by kernel_rfl) ?_
 refine q_n (k6 _ _ ?_)
 refine sx_sub (Sub.c 4 rfl (.c 5 rfl .nil)) ?_
 refine sx_retc ?_
 refine sx_ret2 Try.results17 rfl rfl ?_
 exact ⟨_, _, rfl, os_16, hixx, ((((cb2.t d8).t cs9).t c11).t c16)⟩

theorem c_MakeNumN {w : World} {vb : Value} {lvb uvb : Nat} {bs : List Int} {n : Int} (hvb : SlB w lvb uvb vb (bs)) (hb8 : ∀ j, j < bs.length → 0 ≤ bs.getD j 0 ∧ bs.getD j 0 ≤ 255) (hbl : bs.length ≤ 1048576) (hn : 1 ≤ n ∧ n ≤ 1000000000) :
  Ret Try.prog 16 [vb, .int .i64 n] w fun v w' => ∃ m, v = .int .i64 (((m : Nat) : Int)) ∧ (((m : Nat) : Int) < n) ∧ Chg 0 0 w w' := by
 have hvb0 := hvb.fit
 refine sx_enter Try.func16 rfl Try.ntmps16 (nbl rfl) ?_
 refine sx_seq fun K1 k1 => sx_region ?_
 refine av rfl rfl (wl_nil (q_n (k1 _ _ ?_)))
 refine sx_seq fun K2 k2 => sx_region ?_
 refine mv rfl rfl (sx_call rfl rfl Try.call21 (c_l01New hvb0 (by assumption) (by omega)) (fun v3 w3 p3 => ?_))
 obtain ⟨c3, h23, rfl, xc_3, hh3, hc3, cq3⟩ := p3
 have zw3 := cq3.size
 refine av rfl rfl (wl_nil (q_n (k2 _ _ ?_)))
 refine sx_seq fun K4 k4 => sx_region ?_
 refine mv rfl rfl (mv rfl rfl (sp rfl (px_nil rfl) ?_))
 refine sp rfl (px_field rfl xfld52x2) ?_
 refine sp rfl (px_load rfl (xc_3.load1 rfl Try.isAgg3)) ?_
 refine sp rfl (px_add rfl rfl (by omega)) ?_
 refine sp rfl (px_nil rfl) ?_
 refine sp rfl (px_field rfl xfld52x2) ?_
 refine sx_store (vs := [.int .i64 (h23 + 777)]) rfl rfl xc_3 rfl Try.sizeOf3 (nbl rfl) (o1 rfl) (fun w5 sw5 fw5 cw5 => ?_)
 have zw5 := cw5.size
 have gw5 : Blk w5 c3 [vb, .int .i64 0, .int .i64 (h23 + 777)] 52 := fw5
 refine wl_nil (q_n (k4 _ _ ?_))
 refine sx_seq fun K6 k6 => sx_region ?_
 refine mv rfl rfl (mv rfl rfl ?_)
 have f7 := hvb0.ext cq3
 have f8 := f7.chg cw5 (by omega)
 refine sx_call rfl rfl Try.call54 (c_l01Below gw5 f8 (by assumption) (by omega) (by omega) (by omega) (by omega)) (fun v9 w9 p9 => ?_)
 obtain ⟨x9, i29, h29, rfl, xc_9, hx9, hi29, c9⟩ := p9
 have zw9 := c9.size
 refine av rfl rfl (wl_nil (q_n (k6 _ _ ?_)))
 refine sx_sub (Sub.c 4 rfl .nil) ?_
 refine sx_retc ?_
 refine sx_ret1 Try.results16 rfl ?_
 have q10 := Chg.step (l := 0) (h := 0) (Chg.zero (l := 0) (h := 0) cq3) cw5 (by omega)
 have q11 := Chg.step (l := 0) (h := 0) q10 c9 (by omega)
 exact ⟨_, congrArg (Value.int .i64) (Int.toNat_of_nonneg (by omega)).symm, by omega, q11⟩

end Go.Proofs.Ytjkeefmpjocilaa
