/- Contracts of functions of the program: what each call returns, and that it changes nothing that was. Conditions: as each says. -/
import Derived.Test.YtoeclobdbblohaaDoorTy
import Derived.Test.YtoeclobdbblohaaDoorNatI
import Derived.Test.YtoeclobdbblohaaDoorNatQ
import Derived.Test.YtoeclobdbblohaaDoorSxW
import Derived.Test.YtoeclobdbblohaaDoorSxB
import Derived.Test.YtoeclobdbblohaaDoorTab
import Derived.Test.YtoeclobdbblohaaDoorLay
import Derived.Test.YtoeclobdbblohaaDoorLayB
import Derived.Test.YtoeclobdbblohaaDoorNatX
import Derived.Test.YtoeclobdbblohaaDoorSxP
import Derived.Test.YtoeclobdbblohaaDoorL1
set_option linter.unusedVariables false
set_option linter.unusedSimpArgs false
namespace Go.Proofs.YtoeclobdbblohaaDoor
open Go Go.RowKit
set_option maxRecDepth 100000
theorem c_sIntText {w : World} {n : Int} (hn : 0 ≤ n ∧ n < 1000000000) :
  Ret Tryd.prog 116 [.int .i64 n] w fun v w' => v = .string (itx n) ∧ Chg 0 0 w w' := by
 refine sx_enter Tryd.func116 rfl Tryd.ntmps116 (nbl rfl) ?_
 refine sx_seq fun K1 k1 => sx_region ?_
 refine av rfl rfl (wl_nil (q_n (k1 _ _ ?_)))
 refine sx_seq fun K2 k2 => ?_
 refine sx_seq fun K3 k3 => sx_region ?_
 refine mv rfl rfl (sp rfl (px_lt rfl rfl) ?_)
 refine wl_nil (q_n (k3 _ _ ?_))
 have h9 : ¬ ((n : Int) < 0) := by omega
 refine sx_condPF rfl h9 ?_
 refine sx_skip ?_
 refine q_n (k2 _ _ ?_)
 refine sx_seq fun K4 k4 => sx_region ?_
 refine av rfl rfl (wl_nil (q_n (k4 _ _ ?_)))
 refine sx_seq fun K5 k5 => ?_
 refine sx_block ?_
 refine sx_loop (fun mm aa w' => ∃ (m : Int) (s : ByteArray), Agr 44 [(0, .int .i64 m), (3, .string s)] aa ∧ Chg 0 0 w w' ∧ (mm = m.toNat) ∧ (0 ≤ m ∧ m ≤ n) ∧ (Lib.decDigits n.toNat = Lib.decDigits m.toNat ++ s.data.toList) ∧ (↑s.size + m ≤ 1000000000)) (_) (fun a ha => ⟨n, ⟨#[]⟩, ha.sub (Sub.c 0 (look_int (t := 0) rfl (by first | omega | simp)) (.c 3 rfl .nil)), Chg.refl _ _ _, rfl, by omega, by simp, by have : (⟨#[]⟩ : ByteArray).size = 0 := rfl; omega⟩) ?_
 rintro mm aa wl6 ⟨m, s, hAwl6, cwl6, hm, hm, hd, hz⟩
 refine (show cw Tryd.prog 44 _ _ _ wl6 from ?_) aa hAwl6
 clear hAwl6
 have zwl6 := cwl6.size
 refine sx_seq fun K7 k7 => ?_
 refine sx_seq fun K8 k8 => sx_region ?_
 refine mv rfl rfl (sp rfl (px_gt rfl rfl) ?_)
 refine wl_nil (q_n (k8 _ _ ?_))
 refine sx_condP rfl (fun h16 => ?_) (fun h16 => ?_)
 ·
  refine sx_skip ?_
  refine q_n (k7 _ _ ?_)
  refine sx_block ?_
  refine sx_seq fun K9 k9 => sx_region ?_
  refine mv rfl rfl (sp rfl (px_rem rfl rfl (by omega) (by omega)) ?_)
  refine sp rfl (px_add rfl rfl (by omega)) ?_
  refine sp rfl (px_convU8 Tryd.underlying3 Tryd.underlying5 rfl (by omega)) ?_
  refine sx_lit1 rfl xelt40 rfl rfl (fun s10 ws10 ss10 fs10 cs10 => ?_)
  have zws10 := cs10.size
  refine sp rfl (px_convS1 Tryd.underlying40 Tryd.underlying9 Tryd.underlying5 rfl fs10.sv) ?_
  refine mv rfl rfl (sp rfl (px_cat rfl rfl (by first | omega | (simp only [byteS_size]; omega))) ?_)
  refine av rfl rfl (wl_nil (q_n (k9 _ _ ?_)))
  refine sx_region ?_
  refine mv rfl rfl (sp rfl (px_quo rfl rfl (by omega) (by omega) (by omega)) ?_)
  refine av rfl rfl (wl_nil ?_)
  exact q_bn (fun a ha => ⟨_, by omega, (m / 10), ((byteS (48 + (m % 10))) ++ s), ha.sub (Sub.c 0 (look_int (t := 0) rfl (by first | omega | simp)) (.c 3 rfl .nil)), (cwl6.t cs10), rfl, by omega, itx_step (by omega) hd, by rw [ByteArray.size_append, byteS_size]; omega⟩)
 refine sx_exit ?_
 refine q_e (q_e (q_bx (q_n (k5 _ _ ?_))))
 refine sx_seq fun K11 k11 => sx_region ?_
 refine mv rfl rfl (sp rfl (px_add rfl rfl (by omega)) ?_)
 refine sp rfl (px_convU8 Tryd.underlying3 Tryd.underlying5 rfl (by omega)) ?_
 refine sx_lit1 rfl xelt40 rfl rfl (fun s12 ws12 ss12 fs12 cs12 => ?_)
 have zws12 := cs12.size
 refine sp rfl (px_convS1 Tryd.underlying40 Tryd.underlying9 Tryd.underlying5 rfl fs12.sv) ?_
 refine mv rfl rfl (sp rfl (px_cat rfl rfl (by first | omega | (simp only [byteS_size]; omega))) ?_)
 refine av rfl rfl (wl_nil (q_n (k11 _ _ ?_)))
 refine sx_retc ?_
 refine sx_ret1 Tryd.results116 rfl ?_
 have e := itx_end (by omega) (by omega) hd
 exact ⟨congrArg Value.string e, (cwl6.t cs12)⟩

theorem c_sPad {w : World} {s : ByteArray} {n : Int} (hs : s.size ≤ 100000) (hn : 0 ≤ n ∧ n ≤ 100000) :
  Ret Tryd.prog 97 [.string s, .int .i64 n] w fun v w' => v = .string (padT s n) ∧ Chg 0 0 w w' := by
 refine sx_enter Tryd.func97 rfl Tryd.ntmps97 (nbl rfl) ?_
 refine sx_seq fun K1 k1 => sx_region ?_
 refine av rfl rfl (wl_nil (q_n (k1 _ _ ?_)))
 refine sx_seq fun K2 k2 => ?_
 refine sx_seq fun K3 k3 => sx_region ?_
 refine mv rfl rfl (sp rfl (px_gt rfl rfl) ?_)
 refine wl_nil (q_n (k3 _ _ ?_))
 refine sx_condP rfl (fun h115 => ?_) (fun h115 => ?_)
 ·
  refine sx_seq fun K4 k4 => sx_region ?_
  refine mv rfl rfl (av rfl rfl (wl_nil (q_n (k4 _ _ ?_))))
  refine sx_retc ?_
  refine q_r (sx_ret1 Tryd.results97 rfl ?_)
  rw [padT_no (by omega)]
  exact ⟨rfl, (Chg.refl 0 0 _)⟩
 refine sx_skip ?_
 refine q_n (k2 _ _ ?_)
 refine sx_seq fun K5 k5 => ?_
 refine sx_block ?_
 have hz0 := zer_zero s
 refine sx_loop (fun mm aa w' => ∃ (j : Nat), Agr 15 [(0, .string (zer j ++ s)), (1, .int .i64 n)] aa ∧ Chg 0 0 w w' ∧ (mm = (n - ↑j).toNat) ∧ (j = 0 ∨ ((j + s.size : Nat) : Int) ≤ n)) (_) (fun a ha => ⟨0, ha.sub (Sub.c 0 rfl (.c 1 rfl .nil)), Chg.refl _ _ _, rfl, by omega⟩) ?_
 rintro mm aa wl6 ⟨j, hAwl6, cwl6, hm, hj⟩
 refine (show cw Tryd.prog 15 _ _ _ wl6 from ?_) aa hAwl6
 clear hAwl6
 have zwl6 := cwl6.size
 have hsz : (zer j ++ s).size = j + s.size := by rw [ByteArray.size_append, zer_size]
 refine sx_seq fun K7 k7 => ?_
 refine sx_seq fun K8 k8 => sx_region ?_
 refine mv rfl rfl (sp rfl (px_lenS rfl Tryd.underlying9) ?_)
 refine mv rfl rfl (sp rfl (px_lt rfl rfl) ?_)
 refine wl_nil (q_n (k8 _ _ ?_))
 refine sx_condP rfl (fun h118 => ?_) (fun h118 => ?_)
 ·
  refine sx_skip ?_
  refine q_n (k7 _ _ ?_)
  refine sx_block ?_
  refine sx_region ?_
  refine mv rfl rfl (sp rfl (px_cat rfl rfl (by (have : (⟨#[48]⟩ : ByteArray).size = 1 := rfl); rw [ByteArray.size_append, zer_size]; omega)) ?_)
  refine av rfl rfl (wl_nil ?_)
  exact q_bn (fun a ha => ⟨_, by omega, (j + 1), ha.sub (Sub.c 0 rfl (.c 1 rfl .nil)), cwl6, rfl, by omega⟩)
 refine sx_exit ?_
 refine q_e (q_e (q_bx (q_n (k5 _ _ ?_))))
 refine sx_seq fun K9 k9 => sx_region ?_
 refine mv rfl rfl (av rfl rfl (wl_nil (q_n (k9 _ _ ?_))))
 refine sx_retc ?_
 refine sx_ret1 Tryd.results97 rfl ?_
 have e : zer j ++ s = padT s n := by
  rcases Nat.eq_zero_or_pos j with h0 | h0
  · subst h0; rw [zer_zero, padT_no (by omega)]
  · rw [padT_yes (by omega)]; congr 1; congr 1; omega
 exact ⟨congrArg Value.string e, cwl6⟩

theorem c_sNatText {w : World} {va : Value} {lva uva : Nat} {zs : List Int} (hva : Sl w lva uva va (zs)) (hN : NOk zs) (hl : zs.length ≤ 60) :
  Ret Tryd.prog 98 [va] w fun v w' => v = .string (natT zs) ∧ Chg 0 0 w w' := by
 have hva0 := hva.fit
 have hz := hN.1
 refine sx_enter Tryd.func98 rfl Tryd.ntmps98 (nbl rfl) ?_
 refine sx_seq fun K1 k1 => sx_region ?_
 refine av rfl rfl (wl_nil (q_n (k1 _ _ ?_)))
 refine sx_seq fun K2 k2 => ?_
 refine sx_seq fun K3 k3 => sx_region ?_
 refine mv rfl rfl (sx_call rfl rfl Tryd.call115 (c_sNatOk hva0 (by omega)) (fun v4 w4 p4 => ?_))
 obtain ⟨rfl, c4⟩ := p4
 have zw4 := c4.size
 refine sp rfl (px_notP rfl) ?_
 refine wl_nil (q_n (k3 _ _ ?_))
 have h165 : ¬ (¬ (NOk zs)) := fun h => h hN
 refine sx_condPF rfl h165 ?_
 refine sx_skip ?_
 refine q_n (k2 _ _ ?_)
 refine sx_seq fun K5 k5 => ?_
 refine sx_seq fun K6 k6 => sx_region ?_
 refine mv rfl rfl ?_
 have f7 := hva0.ext c4
 refine sp rfl (px_len rfl Tryd.underlying22 f7) ?_
 refine sp rfl (px_eq rfl rfl) ?_
 refine wl_nil (q_n (k6 _ _ ?_))
 refine sx_condP rfl (fun h168 => ?_) (fun h168 => ?_)
 ·
  refine sx_seq fun K8 k8 => sx_region ?_
  refine av rfl rfl (wl_nil (q_n (k8 _ _ ?_)))
  refine sx_retc ?_
  refine q_r (sx_ret1 Tryd.results98 rfl ?_)
  have e : natT zs = ⟨#[48]⟩ := by unfold natT; rw [if_pos (by omega)]
  exact ⟨congrArg Value.string e.symm, c4⟩
 refine sx_skip ?_
 refine q_n (k5 _ _ ?_)
 refine sx_seq fun K9 k9 => sx_region ?_
 refine mv rfl rfl (mv rfl rfl (sp rfl (px_len rfl Tryd.underlying22 f7) ?_))
 refine sp rfl (px_sub rfl rfl (by omega)) ?_
 refine sp rfl (px_index1 (j := (zs.length - 1)) rfl rfl (by omega) Tryd.underlying22 Tryd.sizeOf3 f7 (by omega)) ?_
 refine sp rfl (px_load rfl (f7.load1 (at_int (by omega)) Tryd.isAgg3)) ?_
 refine sx_call rfl rfl Tryd.call116 (c_sIntText (by have hb := hz.getD (zs.length - 1); omega)) (fun v10 w10 p10 => ?_)
 obtain ⟨rfl, c10⟩ := p10
 have zw10 := c10.size
 refine av rfl rfl (wl_nil (q_n (k9 _ _ ?_)))
 refine sx_sub (Sub.c 0 rfl (.c 2 rfl (.c 3 rfl .nil))) ?_
 refine sx_seq fun K11 k11 => ?_
 refine sx_seq fun K12 k12 => sx_region ?_
 refine mv rfl rfl ?_
 have f13 := f7.ext c10
 refine sp rfl (px_len rfl Tryd.underlying22 f13) ?_
 refine sp rfl (px_sub rfl rfl (by omega)) ?_
 refine av rfl rfl (wl_nil (q_n (k12 _ _ ?_)))
 refine sx_block ?_
 refine sx_loop (fun mm aa w' => ∃ (k : Nat) (t : ByteArray), Agr 34 [(0, va), (3, .string t), (4, .int .i64 (↑k - 1))] aa ∧ Chg 0 0 w10 w' ∧ (mm = k) ∧ (k < zs.length) ∧ (natGo zs k t = natT zs) ∧ (t.size + 9 * k ≤ 1000)) (_) (fun a ha => ⟨(zs.length - 1), (itx ((zs).getD (zs.length - 1) 0)), ha.sub (Sub.c 0 rfl (.c 3 rfl (.c 4 (look_int (t := 4) rfl (by first | omega | simp)) .nil))), Chg.refl _ _ _, rfl, by omega, by unfold natT; rw [if_neg (by omega)], by have hb := hz.getD (zs.length - 1); have h1 := itx_size hb.1 hb.2; omega⟩) ?_
 rintro mm aa wl14 ⟨k, t, hAwl14, cwl14, hm, hk, ht, hts⟩
 refine (show cw Tryd.prog 34 _ _ _ wl14 from ?_) aa hAwl14
 clear hAwl14
 have zwl14 := cwl14.size
 have hb := hz.getD (k - 1)
 have h1 := itx_size hb.1 hb.2
 have h2 := padT_size (s := itx (zs.getD (k - 1) 0)) (n := 9) (by decide)
 refine sx_seq fun K15 k15 => ?_
 refine sx_seq fun K16 k16 => sx_region ?_
 refine mv rfl rfl (sp rfl (px_ge rfl rfl) ?_)
 refine wl_nil (q_n (k16 _ _ ?_))
 refine sx_condP rfl (fun h172 => ?_) (fun h172 => ?_)
 ·
  refine sx_skip ?_
  refine q_n (k15 _ _ ?_)
  refine sx_seq fun K17 k17 => ?_
  refine sx_block ?_
  refine sx_region ?_
  refine mv rfl rfl (mv rfl rfl (mv rfl rfl ?_))
  have f18 := f13.ext cwl14
  refine sp rfl (px_index1 (j := (k - 1)) rfl rfl (by omega) Tryd.underlying22 Tryd.sizeOf3 f18 (by omega)) ?_
  refine sp rfl (px_load rfl (f18.load1 (at_int (by omega)) Tryd.isAgg3)) ?_
  refine sx_call rfl rfl Tryd.call116 (c_sIntText (by omega)) (fun v19 w19 p19 => ?_)
  obtain ⟨rfl, c19⟩ := p19
  have zw19 := c19.size
  refine sx_call rfl rfl Tryd.call97 (c_sPad (by omega) (by omega)) (fun v20 w20 p20 => ?_)
  obtain ⟨rfl, c20⟩ := p20
  have zw20 := c20.size
  refine sp rfl (px_cat rfl rfl (by omega)) ?_
  refine av rfl rfl (wl_nil ?_)
  refine q_bn (q_n (k17 _ _ ?_))
  refine sx_region ?_
  refine mv rfl rfl (sp rfl (px_sub rfl rfl (by omega)) ?_)
  refine av rfl rfl (wl_nil ?_)
  exact fun a ha => ⟨_, by omega, (k - 1), (t ++ (padT (itx ((zs).getD (k - 1) 0)) (9 : Int))), ha.sub (Sub.c 0 rfl (.c 3 rfl (.c 4 (look_int (t := 4) rfl (by first | omega | simp)) .nil))), ((cwl14.t c19).t c20), rfl, by omega, (natGo_step (by omega)).symm.trans ht, by rw [ByteArray.size_append]; omega⟩
 refine sx_exit ?_
 refine q_e (q_e (q_bx (q_n (k11 _ _ ?_))))
 refine sx_seq fun K21 k21 => sx_region ?_
 refine mv rfl rfl (av rfl rfl (wl_nil (q_n (k21 _ _ ?_))))
 refine sx_retc ?_
 refine sx_ret1 Tryd.results98 rfl ?_
 have ek : k = 0 := by omega
 subst ek
 exact ⟨congrArg Value.string (show t = natT zs from ht), ((c4.t c10).t cwl14)⟩

theorem c_sDecText {w : World} {n1 : Bool} {v1 : Value} {lv1 uv1 : Nat} {z1 : List Int} {p1 : Int} (hv1 : Sl w lv1 uv1 v1 (z1)) (h63 : z1.length ≤ 4611686018427387904) :
  Ret Tryd.prog 63 [.agg #[.bool n1, v1, .int .i64 p1]] w fun v w' => v = .string (decT n1 z1 p1) ∧ ((decT n1 z1 p1).size ≤ 200) ∧ Chg 0 0 w w' := by
 have hv10 := hv1.fit
 refine sx_enter Tryd.func63 rfl Tryd.ntmps63 (nbl rfl) ?_
 refine sx_seq fun K1 k1 => sx_region ?_
 refine sx_box [.bool n1, v1, .int .i64 p1] rfl rfl rfl (fun b2 w3 eb2 sb2 fb2 cb2 => ?_)
 have zw3 := cb2.size
 refine av rfl rfl (wl_nil (q_n (k1 _ _ ?_)))
 refine sx_seq fun K4 k4 => ?_
 refine sx_seq fun K5 k5 => sx_region ?_
 refine sp rfl (px_load rfl (fb2.loadA (vs := [.bool n1, v1, .int .i64 p1]) (look_lit rfl) Tryd.isAgg33 Tryd.sizeOf33)) ?_
 have f6 := hv10.ext cb2
 refine sx_call rfl rfl Tryd.call74 (c_sDecOk f6 (by omega)) (fun v7 w7 p7 => ?_)
 obtain ⟨rfl, c7⟩ := p7
 have zw7 := c7.size
 refine sp rfl (px_notP rfl) ?_
 refine wl_nil (q_n (k5 _ _ ?_))
 refine sx_condP rfl (fun h32 => ?_) (fun h32 => ?_)
 ·
  refine sx_seq fun K8 k8 => sx_region ?_
  refine av rfl rfl (wl_nil (q_n (k8 _ _ ?_)))
  refine sx_retc ?_
  refine q_r (sx_ret1 Tryd.results63 rfl ?_)
  rw [decT_no h32]
  exact ⟨rfl, by decide, (cb2.t c7)⟩
 have hD := Decidable.not_not.1 h32
 have hz := hD.1.1.1
 have hl6 := hD.2.1
 have hp30 := hD.2.2
 have hns := natT_size hz
 have hps := padT_size (s := natT z1) (n := p1 + 1) (by omega)
 refine sx_skip ?_
 refine q_n (k4 _ _ ?_)
 refine sx_seq fun K9 k9 => ?_
 have f10 := fb2.ext c7
 refine dx_region (fun w' => Chg 0 0 w7 w') (by kernel_rfl) (Chg.zero (Chg.drew _)) ?_
 have d12 := Chg.drew w7
 have s12 : Chg 0 0 w7 (World.drew w7) := Chg.zero (Chg.drew _)
 have y12 : (World.drew w7).heap.size = w7.heap.size := rfl
 generalize World.drew w7 = w12 at *
 have zw12 := d12.size
 refine dt 0 rfl rfl rfl rfl s12 (fun _ hS => px_field rfl xfld33x0) ?_
 refine dt 1 rfl rfl rfl rfl s12 (fun _ hS => px_field rfl xfld24x1) ?_
 refine dt 2 rfl rfl rfl rfl s12 (fun _ hS => px_load rfl ((f10.chg hS (by omega)).load1 rfl Tryd.isAgg22)) ?_
 refine dt 4 rfl rfl rfl rfl s12 (fun _ hS => px_field rfl xfld33x1) ?_
 refine dt 5 rfl rfl rfl rfl s12 (fun _ hS => px_load rfl ((f10.chg hS (by omega)).load1 rfl Tryd.isAgg3)) ?_
 refine dt 6 rfl rfl rfl rfl s12 (fun _ hS => px_add rfl rfl (by omega)) ?_
 refine dx_eff 3 rfl (by kernel_rfl) ?_
 have f13 := (f6.ext c7).ext d12
 refine sx_call rfl rfl Tryd.call98 (c_sNatText f13 (hD.1.1) (by omega)) (fun v14 w14 p14 => ?_)
 obtain ⟨rfl, c14⟩ := p14
 have zw14 := c14.size
 have s15 : Chg 0 0 w7 w14 := (d12.t c14)
 refine wl_nil ?_
 refine dx_next s15 ?_
 refine dx_eff 7 rfl (by kernel_rfl) ?_
 refine sx_call rfl rfl Tryd.call97 (c_sPad (by omega) (by omega)) (fun v16 w16 p16 => ?_)
 obtain ⟨rfl, c16⟩ := p16
 have zw16 := c16.size
 have s17 : Chg 0 0 w7 w16 := ((d12.t c14).t c16)
 refine wl_nil ?_
 refine dx_next s17 ?_
 refine dt 8 rfl rfl rfl rfl s17 (fun _ hS => px_assign rfl) ?_
 refine dx_done (by kernel_rfl) ?_
 refine q_n (k9 _ _ ?_)
 refine sx_sub (Sub.c 1 rfl (.c 2 rfl (.c 3 rfl .nil))) ?_
 refine sx_seq fun K18 k18 => ?_
 refine sx_seq fun K19 k19 => sx_region ?_
 refine sp rfl (px_field rfl xfld33x1) ?_
 have f22 := ((f10.ext d12).ext c14).ext c16
 refine sp rfl (px_load rfl (f22.load1 rfl Tryd.isAgg3)) ?_
 refine sp rfl (px_gt rfl rfl) ?_
 refine wl_nil (q_n (k19 _ _ ?_))
 refine sx_condP rfl (fun h36 => ?_) (fun h36 => ?_)
 ·
  refine sx_seq fun K23 k23 => sx_region ?_
  refine mv rfl rfl (sp rfl (px_lenS rfl Tryd.underlying9) ?_)
  refine sp rfl (px_field rfl xfld33x1) ?_
  refine sp rfl (px_load rfl (f22.load1 rfl Tryd.isAgg3)) ?_
  refine sp rfl (px_sub rfl rfl (by omega)) ?_
  refine av rfl rfl (wl_nil (q_n (k23 _ _ ?_)))
  have f25 := (f13.ext c14).ext c16
  refine dx_region (fun w' => Chg 0 0 w16 w') (by kernel_rfl) (Chg.zero (Chg.drew _)) ?_
  have d26 := Chg.drew w16
  have s26 : Chg 0 0 w16 (World.drew w16) := Chg.zero (Chg.drew _)
  have y26 : (World.drew w16).heap.size = w16.heap.size := rfl
  generalize World.drew w16 = w26 at *
  have zw26 := d26.size
  refine dt 0 rfl rfl rfl rfl s26 (fun _ hS => px_move rfl) ?_
  refine dt 1 rfl rfl rfl rfl s26 (fun _ hS => px_move rfl) ?_
  refine dt 2 rfl rfl rfl rfl s26 (fun _ hS => px_strTo (h := ((padT (natT z1) (p1 + 1)).size - p1.toNat)) rfl rfl (by omega) Tryd.underlying9 (by omega)) ?_
  refine dt 3 rfl rfl rfl rfl s26 (fun _ hS => px_cat rfl rfl (by (have e45 : (⟨#[45]⟩ : ByteArray).size = 1 := rfl); (have e46 : (⟨#[46]⟩ : ByteArray).size = 1 := rfl); (try simp only [ByteArray.size_append, ByteArray.size_extract]); omega)) ?_
  refine dt 4 rfl rfl rfl rfl s26 (fun _ hS => px_move rfl) ?_
  refine dt 5 rfl rfl rfl rfl s26 (fun _ hS => px_move rfl) ?_
  refine dt 6 rfl rfl rfl rfl s26 (fun _ hS => px_strFrom (l := ((padT (natT z1) (p1 + 1)).size - p1.toNat)) rfl rfl (by omega) Tryd.underlying9 (by omega)) ?_
  refine dt 7 rfl rfl rfl rfl s26 (fun _ hS => px_cat rfl rfl (by (have e45 : (⟨#[45]⟩ : ByteArray).size = 1 := rfl); (have e46 : (⟨#[46]⟩ : ByteArray).size = 1 := rfl); (try simp only [ByteArray.size_append, ByteArray.size_extract]); omega)) ?_
  refine dt 8 rfl rfl rfl rfl s26 (fun _ hS => px_assign rfl) ?_
  refine dx_done (by kernel_rfl) ?_
  refine q_n (k18 _ _ ?_)
  refine sx_sub (Sub.c 1 rfl (.c 2 rfl (.c 3 rfl .nil))) ?_
  refine sx_seq fun K27 k27 => ?_
  refine sx_seq fun K28 k28 => sx_region ?_
  refine sp rfl (px_field rfl xfld33x0) ?_
  refine sp rfl (px_field rfl xfld24x0) ?_
  have f29 := f22.ext d26
  refine sp rfl (px_load rfl (f29.load1 rfl Tryd.isAgg4)) ?_
  refine wl_nil (q_n (k28 _ _ ?_))
  refine sx_condB rfl (fun h40 => ?_) (fun h40 => ?_)
  ·
   refine sx_seq fun K30 k30 => sx_region ?_
   refine mv rfl rfl (sp rfl (px_cat rfl rfl (by (have e45 : (⟨#[45]⟩ : ByteArray).size = 1 := rfl); (have e46 : (⟨#[46]⟩ : ByteArray).size = 1 := rfl); (try simp only [ByteArray.size_append, ByteArray.size_extract]); omega)) ?_)
   refine av rfl rfl (wl_nil (q_n (k30 _ _ ?_)))
   refine sx_retc ?_
   refine q_r (sx_ret1 Tryd.results63 rfl ?_)
   have e : (⟨#[45]⟩) ++ ((((padT (natT z1) (p1 + 1)).extract 0 ((padT (natT z1) (p1 + 1)).size - p1.toNat)) ++ (⟨#[46]⟩)) ++ ((padT (natT z1) (p1 + 1)).extract ((padT (natT z1) (p1 + 1)).size - p1.toNat) (padT (natT z1) (p1 + 1)).size)) = decT n1 z1 p1 := by unfold decT sgT ptT; rw [if_pos hD]; simp [h36, h40]
   exact ⟨congrArg Value.string e, by rw [← e]; (try simp only [ByteArray.size_append, ByteArray.size_extract]); (try have e45 : (⟨#[45]⟩ : ByteArray).size = 1 := rfl); (try have e46 : (⟨#[46]⟩ : ByteArray).size = 1 := rfl); omega, (((((cb2.t c7).t d12).t c14).t c16).t d26)⟩
  refine sx_skip ?_
  refine q_n (k27 _ _ ?_)
  refine sx_seq fun K31 k31 => sx_region ?_
  refine mv rfl rfl (av rfl rfl (wl_nil (q_n (k31 _ _ ?_))))
  refine sx_retc ?_
  refine sx_ret1 Tryd.results63 rfl ?_
  have e : (((padT (natT z1) (p1 + 1)).extract 0 ((padT (natT z1) (p1 + 1)).size - p1.toNat)) ++ (⟨#[46]⟩)) ++ ((padT (natT z1) (p1 + 1)).extract ((padT (natT z1) (p1 + 1)).size - p1.toNat) (padT (natT z1) (p1 + 1)).size) = decT n1 z1 p1 := by unfold decT sgT ptT; rw [if_pos hD]; simp [h36, h40]
  exact ⟨congrArg Value.string e, by rw [← e]; (try simp only [ByteArray.size_append, ByteArray.size_extract]); (try have e45 : (⟨#[45]⟩ : ByteArray).size = 1 := rfl); (try have e46 : (⟨#[46]⟩ : ByteArray).size = 1 := rfl); omega, (((((cb2.t c7).t d12).t c14).t c16).t d26)⟩
 refine sx_skip ?_
 refine q_n (k18 _ _ ?_)
 refine sx_seq fun K32 k32 => ?_
 refine sx_seq fun K33 k33 => sx_region ?_
 refine sp rfl (px_field rfl xfld33x0) ?_
 refine sp rfl (px_field rfl xfld24x0) ?_
 refine sp rfl (px_load rfl (f22.load1 rfl Tryd.isAgg4)) ?_
 refine wl_nil (q_n (k33 _ _ ?_))
 refine sx_condB rfl (fun h40 => ?_) (fun h40 => ?_)
 ·
  refine sx_seq fun K34 k34 => sx_region ?_
  refine mv rfl rfl (sp rfl (px_cat rfl rfl (by (have e45 : (⟨#[45]⟩ : ByteArray).size = 1 := rfl); (have e46 : (⟨#[46]⟩ : ByteArray).size = 1 := rfl); (try simp only [ByteArray.size_append, ByteArray.size_extract]); omega)) ?_)
  refine av rfl rfl (wl_nil (q_n (k34 _ _ ?_)))
  refine sx_retc ?_
  refine q_r (sx_ret1 Tryd.results63 rfl ?_)
  have e : (⟨#[45]⟩) ++ (padT (natT z1) (p1 + 1)) = decT n1 z1 p1 := by unfold decT sgT ptT; rw [if_pos hD]; simp [h36, h40]
  exact ⟨congrArg Value.string e, by rw [← e]; (try simp only [ByteArray.size_append, ByteArray.size_extract]); (try have e45 : (⟨#[45]⟩ : ByteArray).size = 1 := rfl); (try have e46 : (⟨#[46]⟩ : ByteArray).size = 1 := rfl); omega, ((((cb2.t c7).t d12).t c14).t c16)⟩
 refine sx_skip ?_
 refine q_n (k32 _ _ ?_)
 refine sx_seq fun K35 k35 => sx_region ?_
 refine mv rfl rfl (av rfl rfl (wl_nil (q_n (k35 _ _ ?_))))
 refine sx_retc ?_
 refine sx_ret1 Tryd.results63 rfl ?_
 have e : padT (natT z1) (p1 + 1) = decT n1 z1 p1 := by unfold decT sgT ptT; rw [if_pos hD]; simp [h36, h40]
 exact ⟨congrArg Value.string e, by rw [← e]; (try simp only [ByteArray.size_append, ByteArray.size_extract]); (try have e45 : (⟨#[45]⟩ : ByteArray).size = 1 := rfl); (try have e46 : (⟨#[46]⟩ : ByteArray).size = 1 := rfl); omega, ((((cb2.t c7).t d12).t c14).t c16)⟩

theorem c_sTextDec {w : World} {s : ByteArray} (hs : s.size ≤ 1048576) :
  Ret Tryd.prog 28 [.string s] w fun v w' => ∃ x, v = .tuple #[.agg #[.bool ((rdD s).1), x, .int .i64 ((rdD s).2.2.1)], .bool ((rdD s).2.2.2)] ∧ OwnI w' w.heap.size w'.heap.size x intT ((rdD s).2.1) ∧ ((rdD s).2.1.length ≤ 6) ∧ Chg 0 0 w w' := by
 refine sx_enter Tryd.func28 rfl Tryd.ntmps28 (nbl rfl) ?_
 refine sx_seq fun K1 k1 => sx_region ?_
 refine sx_alloc [.bool false, (.slice none 0 0), .int .i64 0] rfl Tryd.zeroValue33 rfl (fun b2 w3 eb2 sb2 fb2 cb2 => ?_)
 have zw3 := cb2.size
 refine av rfl rfl (wl_nil (q_n (k1 _ _ ?_)))
 refine sx_seq fun K4 k4 => sx_region ?_
 refine av rfl rfl (wl_nil (q_n (k4 _ _ ?_)))
 refine sx_seq fun K5 k5 => sx_region ?_
 refine av rfl rfl (wl_nil (q_n (k5 _ _ ?_)))
 refine sx_seq fun K6 k6 => ?_
 refine sx_seq fun K7 k7 => sx_region ?_
 refine av rfl rfl (wl_nil (q_n (k7 _ _ ?_)))
 refine sx_block ?_
 refine sx_loop (fun mm aa w' => ∃ (k : Nat) (d : ByteArray) (c : Int), Agr 81 [(0, .string s), (2, .pointer (some ⟨b2, 0, none⟩)), (3, .bool false), (4, .string d), (5, .int .i64 c), (6, .int .i64 ↑k)] aa ∧ Chg 0 0 w3 w' ∧ (mm = s.size - k) ∧ (k ≤ s.size) ∧ (d = dgAt s k) ∧ (c = ptAt s k) ∧ (d.size ≤ k)) (_) (fun a ha => ⟨0, ⟨#[]⟩, 0, ha.sub (Sub.c 0 rfl (.c 2 rfl (.c 3 rfl (.c 4 rfl (.c 5 (look_int (t := 5) rfl (by first | omega | simp)) (.c 6 (look_int (t := 6) rfl (by first | omega | simp)) .nil)))))), Chg.refl _ _ _, rfl, by omega, rfl, rfl, Nat.le_refl _⟩) ?_
 rintro mm aa wl8 ⟨k, d, c, hAwl8, cwl8, hm, hk, hdd, hcc, hds⟩
 refine (show cw Tryd.prog 81 _ _ _ wl8 from ?_) aa hAwl8
 clear hAwl8
 have zwl8 := cwl8.size
 have hb8 := strB_range s k
 refine sx_seq fun K9 k9 => ?_
 refine sx_seq fun K10 k10 => sx_region ?_
 refine mv rfl rfl (mv rfl rfl (sp rfl (px_lenS rfl Tryd.underlying9) ?_))
 refine sp rfl (px_lt rfl rfl) ?_
 refine wl_nil (q_n (k10 _ _ ?_))
 refine sx_condP rfl (fun h50 => ?_) (fun h50 => ?_)
 ·
  refine sx_skip ?_
  refine q_n (k9 _ _ ?_)
  refine sx_seq fun K11 k11 => ?_
  refine sx_block ?_
  refine sx_seq fun K12 k12 => sx_region ?_
  refine mv rfl rfl (mv rfl rfl (sp rfl (px_indexS (j := k) rfl rfl (by omega) Tryd.underlying9 (by omega)) ?_))
  refine sp rfl (px_eq rfl rfl) ?_
  refine wl_nil (q_n (k12 _ _ ?_))
  refine sx_condP rfl (fun h51 => ?_) (fun h51 => ?_)
  ·
   refine sx_region ?_
   refine mv rfl rfl (sp rfl (px_lenS rfl Tryd.underlying9) ?_)
   refine sp rfl (px_sub rfl rfl (by omega)) ?_
   refine mv rfl rfl (sp rfl (px_sub rfl rfl (by omega)) ?_)
   refine av rfl rfl (wl_nil ?_)
   refine q_bn (q_n (k11 _ _ ?_))
   refine sx_sub (Sub.c 0 rfl (.c 2 rfl (.c 3 rfl (.c 4 rfl (.c 5 rfl (.c 6 rfl .nil)))))) ?_
   refine sx_region ?_
   refine mv rfl rfl (sp rfl (px_add rfl rfl (by omega)) ?_)
   refine av rfl rfl (wl_nil ?_)
   exact fun a ha => ⟨_, by omega, (k + 1), d, ((↑s.size - 1) - ↑k), ha.sub (Sub.c 0 rfl (.c 2 rfl (.c 3 rfl (.c 4 rfl (.c 5 (look_int (t := 5) rfl (by first | omega | simp)) (.c 6 (look_int (t := 6) rfl (by first | omega | simp)) .nil)))))), cwl8, rfl, by omega, by rw [hdd]; first | exact (dgAt_skip (by omega)).symm | exact (dgAt_more (by omega) (by omega)).symm, by first | exact (ptAt_yes (by omega)).symm | (rw [hcc]; exact (ptAt_skip (by omega)).symm), by first | omega | (simp only [ByteArray.size_append, ByteArray.size_extract]; omega)⟩
  refine sx_seq fun K13 k13 => sx_region ?_
  refine mv rfl rfl (mv rfl rfl (sp rfl (px_indexS (j := k) rfl rfl (by omega) Tryd.underlying9 (by omega)) ?_))
  refine sp rfl (px_ne rfl rfl) ?_
  refine wl_nil (q_n (k13 _ _ ?_))
  refine sx_sub (Sub.c 0 rfl (.c 2 rfl (.c 3 rfl (.c 4 rfl (.c 5 rfl (.c 6 rfl (.c 29 rfl .nil))))))) ?_
  refine sx_condP rfl (fun h53 => ?_) (fun h53 => ?_)
  ·
   refine sx_region ?_
   refine mv rfl rfl (mv rfl rfl (mv rfl rfl (mv rfl rfl (sp rfl (px_add rfl rfl (by omega)) ?_))))
   refine sp rfl (px_strMid (l := k) (h := (k + 1)) rfl rfl rfl (by omega) (by omega) Tryd.underlying9 (by omega) (by omega)) ?_
   refine sp rfl (px_cat rfl rfl (by simp only [ByteArray.size_extract]; omega)) ?_
   refine av rfl rfl (wl_nil ?_)
   refine q_bn (q_n (k11 _ _ ?_))
   refine sx_region ?_
   refine mv rfl rfl (sp rfl (px_add rfl rfl (by omega)) ?_)
   refine av rfl rfl (wl_nil ?_)
   exact fun a ha => ⟨_, by omega, (k + 1), (d ++ (s.extract k (k + 1))), c, ha.sub (Sub.c 0 rfl (.c 2 rfl (.c 3 rfl (.c 4 rfl (.c 5 rfl (.c 6 (look_int (t := 6) rfl (by first | omega | simp)) .nil)))))), cwl8, rfl, by omega, by rw [hdd]; first | exact (dgAt_skip (by omega)).symm | exact (dgAt_more (by omega) (by omega)).symm, by first | exact (ptAt_yes (by omega)).symm | (rw [hcc]; exact (ptAt_skip (by omega)).symm), by first | omega | (simp only [ByteArray.size_append, ByteArray.size_extract]; omega)⟩
  refine sx_skip ?_
  refine q_bn (q_n (k11 _ _ ?_))
  refine sx_region ?_
  refine mv rfl rfl (sp rfl (px_add rfl rfl (by omega)) ?_)
  refine av rfl rfl (wl_nil ?_)
  exact fun a ha => ⟨_, by omega, (k + 1), d, c, ha.sub (Sub.c 0 rfl (.c 2 rfl (.c 3 rfl (.c 4 rfl (.c 5 rfl (.c 6 (look_int (t := 6) rfl (by first | omega | simp)) .nil)))))), cwl8, rfl, by omega, by rw [hdd]; first | exact (dgAt_skip (by omega)).symm | exact (dgAt_more (by omega) (by omega)).symm, by first | exact (ptAt_yes (by omega)).symm | (rw [hcc]; exact (ptAt_skip (by omega)).symm), by first | omega | (simp only [ByteArray.size_append, ByteArray.size_extract]; omega)⟩
 refine sx_exit ?_
 refine q_e (q_e (q_bx (q_n (k6 _ _ ?_))))
 refine sx_seq fun K14 k14 => ?_
 refine sx_block ?_
 have hke : k = s.size := by omega
 refine sx_loop (fun mm aa w' => ∃ (t : ByteArray), Agr 81 [(0, .string s), (2, .pointer (some ⟨b2, 0, none⟩)), (3, .bool false), (4, .string t), (5, .int .i64 c)] aa ∧ Chg 0 0 wl8 w' ∧ (mm = t.size) ∧ (strip t.data.toList = strip (filt s.data.toList)) ∧ (t.size ≤ s.size)) (_) (fun a ha => ⟨d, ha.sub (Sub.c 0 rfl (.c 2 rfl (.c 3 rfl (.c 4 rfl (.c 5 rfl .nil))))), Chg.refl _ _ _, rfl, by rw [hdd, hke, filt_all], by omega⟩) ?_
 rintro mm aa wl15 ⟨t, hAwl15, cwl15, hm, hst, hts⟩
 refine (show cw Tryd.prog 81 _ _ _ wl15 from ?_) aa hAwl15
 clear hAwl15
 have zwl15 := cwl15.size
 refine sx_seq fun K16 k16 => ?_
 refine sx_seq fun K17 k17 => sx_region ?_
 refine mv rfl rfl (sp rfl (px_lenS rfl Tryd.underlying9) ?_)
 refine sp rfl (px_gt rfl rfl) ?_
 refine mv rfl rfl ?_
 refine sx_tmpP (t := 40) rfl (fun h57 => ?_) (fun h57 => ?_)
 ·
  refine sx_guardT rfl rfl rfl ?_
  refine mv rfl rfl ?_
  refine sx_guardT rfl rfl rfl ?_
  refine sp rfl (px_indexS (j := 0) rfl rfl (by omega) Tryd.underlying9 (by omega)) ?_
  refine sx_guardT rfl rfl rfl ?_
  refine sp rfl (px_eq rfl rfl) ?_
  refine sp rfl (px_pick rfl rfl) ?_
  refine wl_nil (q_n (k17 _ _ ?_))
  refine sx_condP rfl (fun h57x1 => ?_) (fun h57x1 => ?_)
  ·
   refine sx_skip ?_
   refine q_n (k16 _ _ ?_)
   refine sx_block ?_
   refine sx_region ?_
   refine mv rfl rfl (sp rfl (px_strFrom (l := 1) rfl rfl (by omega) Tryd.underlying9 (by omega)) ?_)
   refine av rfl rfl (wl_nil ?_)
   have hsx : (t.extract 1 t.size).size = t.size - 1 := by rw [ByteArray.size_extract]; omega
   exact q_bn (fun a ha => ⟨_, by omega, (t.extract 1 t.size), ha.sub (Sub.c 0 rfl (.c 2 rfl (.c 3 rfl (.c 4 rfl (.c 5 rfl .nil))))), cwl15, rfl, (strip_step (by omega) (by omega)).trans hst, by omega⟩)
  have ht : t = spT s := strip_done hst (by omega)
  subst ht
  refine sx_exit ?_
  refine q_e (q_e (q_bx (q_n (k14 _ _ ?_))))
  refine sx_seq fun K18 k18 => sx_region ?_
  refine mv rfl rfl (sx_call rfl rfl Tryd.call61 (c_sTextNat (by omega)) (fun v19 w19 p19 => ?_))
  obtain ⟨x19, rfl, ox_19, c19⟩ := p19
  have zw19 := c19.size
  refine mv rfl rfl (sp rfl (px_ex2 rfl rfl) ?_)
  refine sp rfl (px_ex2 rfl rfl) ?_
  refine av rfl rfl (av rfl rfl (wl_nil (q_n (k18 _ _ ?_))))
  refine sx_sub (Sub.c 0 rfl (.c 2 rfl (.c 3 rfl (.c 5 rfl (.c 7 rfl (.c 8 rfl .nil)))))) ?_
  refine sx_seq fun K20 k20 => sx_region ?_
  refine mv rfl rfl (sp rfl (px_lenS rfl Tryd.underlying9) ?_)
  refine sp rfl (px_gt rfl rfl) ?_
  refine mv rfl rfl ?_
  refine sx_tmpP (t := 56) rfl (fun h61 => ?_) (fun h61 => ?_)
  ·
   refine sx_guardT rfl rfl rfl ?_
   refine mv rfl rfl ?_
   refine sx_guardT rfl rfl rfl ?_
   refine sp rfl (px_indexS (j := 0) rfl rfl (by omega) Tryd.underlying9 (by omega)) ?_
   refine sx_guardT rfl rfl rfl ?_
   refine sp rfl (px_eq rfl rfl) ?_
   refine sp rfl (px_pick rfl rfl) ?_
   refine mv rfl rfl (sp rfl (px_build rfl (xbld24x0x1 rfl ox_19.one _)) ?_)
   refine mv rfl rfl (sx_call rfl rfl Tryd.call62 (c_l07DecN ox_19 (by have := tnV_len (spT s); omega) (by omega)) (fun v21 w21 p21 => ?_))
   obtain ⟨s21, rfl, os_21, c21⟩ := p21
   have zw21 := c21.size
   refine mv rfl rfl (sp rfl (px_ex2 rfl rfl) ?_)
   refine sp rfl (px_ex2 rfl rfl) ?_
   refine sx_alloc [.bool false, (.slice none 0 0), .int .i64 0] rfl Tryd.zeroValue33 rfl (fun b22 w23 eb22 sb22 fb22 cb22 => ?_)
   have zw23 := cb22.size
   have f25 := os_21.ext cb22
   refine sx_store (vs := [.bool ((decS (decide ((strB s 0 : Int) = 45)) (dg (tnV (spT s))) c).1), s21, .int .i64 ((decS (decide ((strB s 0 : Int) = 45)) (dg (tnV (spT s))) c).2.2.1)]) rfl rfl fb22 rfl Tryd.sizeOf33 (nbl rfl) (one_cons rfl (one_cons f25.one (o1 rfl))) (fun w24 sw24 fw24 cw24 => ?_)
   have zw24 := cw24.size
   have gw24 : Blk w24 b22 [.bool ((decS (decide ((strB s 0 : Int) = 45)) (dg (tnV (spT s))) c).1), s21, .int .i64 ((decS (decide ((strB s 0 : Int) = 45)) (dg (tnV (spT s))) c).2.2.1)] 33 := fw24
   refine av rfl rfl (wl_nil (q_n (k20 _ _ ?_)))
   refine sx_sub (Sub.c 0 rfl (.c 2 rfl (.c 3 rfl (.c 8 rfl (.c 9 rfl (.c 10 rfl .nil)))))) ?_
   refine sx_seq fun K26 k26 => ?_
   refine sx_seq fun K27 k27 => sx_region ?_
   refine mv rfl rfl (sp rfl (px_not rfl) ?_)
   refine mv rfl rfl ?_
   refine sx_tmpB (t := 69) rfl (fun h62 => ?_) (fun h62 => ?_)
   ·
    refine sx_guardF rfl rfl rfl rfl rfl rfl ?_
    refine sx_guardF rfl rfl rfl rfl rfl rfl ?_
    refine sp rfl (px_pick rfl rfl) ?_
    refine mv rfl rfl ?_
    refine sx_guardF rfl rfl rfl rfl rfl rfl ?_
    refine sx_guardF rfl rfl rfl rfl rfl rfl ?_
    refine sx_guardF rfl rfl rfl rfl rfl rfl ?_
    refine sx_guardF rfl rfl rfl rfl rfl rfl ?_
    refine sp rfl (px_pick rfl rfl) ?_
    refine wl_nil (q_n (k27 _ _ ?_))
    refine sx_sub (Sub.c 2 rfl (.c 3 rfl (.c 9 rfl (.c 78 rfl .nil)))) ?_
    refine sx_condT rfl ?_
    refine sx_seq fun K28 k28 => sx_region ?_
    refine sp rfl (px_build rfl (xbld33x  _)) ?_
    have f30 := fb2.ext cwl8
    have f31 := f30.ext cwl15
    have f34 := ((f31.ext c19).ext c21).ext cb22
    have f35 := f34.chg cw24 (by omega)
    refine sx_store (vs := [.bool false, (.slice none 0 0), .int .i64 0]) rfl rfl f35 rfl Tryd.sizeOf33 (nbl rfl) (o3 rfl rfl rfl) (fun w29 sw29 fw29 cw29 => ?_)
    have zw29 := cw29.size
    have gw29 : Blk w29 b2 [.bool false, (.slice none 0 0), .int .i64 0] 33 := fw29
    refine av rfl rfl (wl_nil (q_n (k28 _ _ ?_)))
    refine sx_retc ?_
    refine q_r (sx_ret2 Tryd.results28 ⟨_, rfl, gw29.loadA (vs := [.bool false, (.slice none 0 0), .int .i64 0]) (look_lit rfl) Tryd.isAgg33 Tryd.sizeOf33⟩ rfl ?_)
    have hB := rdD_bad (s := s) (n := (decide ((strB s 0 : Int) = 45))) (c := c) (by unfold sgK; first | exact decide_eq_decide.2 ⟨fun h => h.2, fun h => ⟨by omega, h⟩⟩ | exact decide_eq_false (fun h => by omega) | exact decide_eq_true ⟨by omega, by omega⟩) (by rw [hcc, show k = s.size by omega]) (by
     rintro ⟨a1, a2, a3⟩
     first
     | exact absurd a3 (by assumption)
     | exact absurd (by assumption : (!tnK (spT s)) = true) (by rw [a1]; decide)
     | exact absurd (by assumption : (!(decS (decide ((strB s 0 : Int) = 45)) (dg (tnV (spT s))) c).2.2.2) = true) (by rw [a2]; decide))
    rw [hB]
    have q36 := Chg.step (l := 0) (h := 0) (Chg.zero (l := 0) (h := 0) (((((cb2.t cwl8).t cwl15).t c19).t c21).t cb22)) cw24 (by omega)
    have q37 := Chg.step (l := 0) (h := 0) q36 cw29 (by omega)
    exact ⟨_, rfl, Own.nil _ _ _ _ _, by simp, q37⟩
   refine sx_guardT rfl rfl rfl ?_
   refine mv rfl rfl ?_
   refine sx_guardT rfl rfl rfl ?_
   refine sp rfl (px_not rfl) ?_
   refine sp rfl (px_pick rfl rfl) ?_
   refine mv rfl rfl ?_
   refine sx_tmpB (t := 73) rfl (fun h62x1 => ?_) (fun h62x1 => ?_)
   ·
    refine sx_guardF rfl rfl rfl rfl rfl rfl ?_
    refine sx_guardF rfl rfl rfl rfl rfl rfl ?_
    refine sx_guardF rfl rfl rfl rfl rfl rfl ?_
    refine sx_guardF rfl rfl rfl rfl rfl rfl ?_
    refine sp rfl (px_pick rfl rfl) ?_
    refine wl_nil (q_n (k27 _ _ ?_))
    refine sx_sub (Sub.c 2 rfl (.c 3 rfl (.c 9 rfl (.c 78 rfl .nil)))) ?_
    refine sx_condT rfl ?_
    refine sx_seq fun K38 k38 => sx_region ?_
    refine sp rfl (px_build rfl (xbld33x  _)) ?_
    have f40 := fb2.ext cwl8
    have f41 := f40.ext cwl15
    have f44 := ((f41.ext c19).ext c21).ext cb22
    have f45 := f44.chg cw24 (by omega)
    refine sx_store (vs := [.bool false, (.slice none 0 0), .int .i64 0]) rfl rfl f45 rfl Tryd.sizeOf33 (nbl rfl) (o3 rfl rfl rfl) (fun w39 sw39 fw39 cw39 => ?_)
    have zw39 := cw39.size
    have gw39 : Blk w39 b2 [.bool false, (.slice none 0 0), .int .i64 0] 33 := fw39
    refine av rfl rfl (wl_nil (q_n (k38 _ _ ?_)))
    refine sx_retc ?_
    refine q_r (sx_ret2 Tryd.results28 ⟨_, rfl, gw39.loadA (vs := [.bool false, (.slice none 0 0), .int .i64 0]) (look_lit rfl) Tryd.isAgg33 Tryd.sizeOf33⟩ rfl ?_)
    have hB := rdD_bad (s := s) (n := (decide ((strB s 0 : Int) = 45))) (c := c) (by unfold sgK; first | exact decide_eq_decide.2 ⟨fun h => h.2, fun h => ⟨by omega, h⟩⟩ | exact decide_eq_false (fun h => by omega) | exact decide_eq_true ⟨by omega, by omega⟩) (by rw [hcc, show k = s.size by omega]) (by
     rintro ⟨a1, a2, a3⟩
     first
     | exact absurd a3 (by assumption)
     | exact absurd (by assumption : (!tnK (spT s)) = true) (by rw [a1]; decide)
     | exact absurd (by assumption : (!(decS (decide ((strB s 0 : Int) = 45)) (dg (tnV (spT s))) c).2.2.2) = true) (by rw [a2]; decide))
    rw [hB]
    have q46 := Chg.step (l := 0) (h := 0) (Chg.zero (l := 0) (h := 0) (((((cb2.t cwl8).t cwl15).t c19).t c21).t cb22)) cw24 (by omega)
    have q47 := Chg.step (l := 0) (h := 0) q46 cw39 (by omega)
    exact ⟨_, rfl, Own.nil _ _ _ _ _, by simp, q47⟩
   refine sx_guardT rfl rfl rfl ?_
   refine sp rfl (px_load rfl (gw24.loadA (vs := [.bool ((decS (decide ((strB s 0 : Int) = 45)) (dg (tnV (spT s))) c).1), s21, .int .i64 ((decS (decide ((strB s 0 : Int) = 45)) (dg (tnV (spT s))) c).2.2.1)]) (look_lit rfl) Tryd.isAgg33 Tryd.sizeOf33)) ?_
   refine sx_guardT rfl rfl rfl ?_
   have f48 := f25.chg cw24 (by omega)
   refine sx_call rfl rfl Tryd.call63 (c_sDecText f48.sv (Nat.le_trans (decS_len _ _ _) (by decide))) (fun v49 w49 p49 => ?_)
   obtain ⟨rfl, hsz49, c49⟩ := p49
   have zw49 := c49.size
   refine sx_guardT rfl rfl rfl ?_
   refine mv rfl rfl ?_
   refine sx_guardT rfl rfl rfl ?_
   refine sp rfl (px_neS rfl rfl) ?_
   refine sp rfl (px_pick rfl rfl) ?_
   refine wl_nil (q_n (k27 _ _ ?_))
   refine sx_sub (Sub.c 2 rfl (.c 3 rfl (.c 9 rfl (.c 78 rfl .nil)))) ?_
   refine sx_condP rfl (fun h62x2 => ?_) (fun h62x2 => ?_)
   ·
    refine sx_seq fun K50 k50 => sx_region ?_
    refine sp rfl (px_build rfl (xbld33x  _)) ?_
    have f52 := fb2.ext cwl8
    have f53 := f52.ext cwl15
    have f56 := ((f53.ext c19).ext c21).ext cb22
    have f57 := f56.chg cw24 (by omega)
    have f58 := f57.ext c49
    refine sx_store (vs := [.bool false, (.slice none 0 0), .int .i64 0]) rfl rfl f58 rfl Tryd.sizeOf33 (nbl rfl) (o3 rfl rfl rfl) (fun w51 sw51 fw51 cw51 => ?_)
    have zw51 := cw51.size
    have gw51 : Blk w51 b2 [.bool false, (.slice none 0 0), .int .i64 0] 33 := fw51
    refine av rfl rfl (wl_nil (q_n (k50 _ _ ?_)))
    refine sx_retc ?_
    refine q_r (sx_ret2 Tryd.results28 ⟨_, rfl, gw51.loadA (vs := [.bool false, (.slice none 0 0), .int .i64 0]) (look_lit rfl) Tryd.isAgg33 Tryd.sizeOf33⟩ rfl ?_)
    have hB := rdD_bad (s := s) (n := (decide ((strB s 0 : Int) = 45))) (c := c) (by unfold sgK; first | exact decide_eq_decide.2 ⟨fun h => h.2, fun h => ⟨by omega, h⟩⟩ | exact decide_eq_false (fun h => by omega) | exact decide_eq_true ⟨by omega, by omega⟩) (by rw [hcc, show k = s.size by omega]) (by
     rintro ⟨a1, a2, a3⟩
     first
     | exact absurd a3 (by assumption)
     | exact absurd (by assumption : (!tnK (spT s)) = true) (by rw [a1]; decide)
     | exact absurd (by assumption : (!(decS (decide ((strB s 0 : Int) = 45)) (dg (tnV (spT s))) c).2.2.2) = true) (by rw [a2]; decide))
    rw [hB]
    have q59 := Chg.step (l := 0) (h := 0) (Chg.zero (l := 0) (h := 0) (((((cb2.t cwl8).t cwl15).t c19).t c21).t cb22)) cw24 (by omega)
    have q60 := Chg.step (l := 0) (h := 0) q59 c49 (by omega)
    have q61 := Chg.step (l := 0) (h := 0) q60 cw51 (by omega)
    exact ⟨_, rfl, Own.nil _ _ _ _ _, by simp, q61⟩
   refine sx_skip ?_
   refine q_n (k26 _ _ ?_)
   refine sx_seq fun K62 k62 => sx_region ?_
   have f63 := gw24.ext c49
   refine sp rfl (px_load rfl (f63.loadA (vs := [.bool ((decS (decide ((strB s 0 : Int) = 45)) (dg (tnV (spT s))) c).1), s21, .int .i64 ((decS (decide ((strB s 0 : Int) = 45)) (dg (tnV (spT s))) c).2.2.1)]) (look_lit rfl) Tryd.isAgg33 Tryd.sizeOf33)) ?_
   have f65 := fb2.ext cwl8
   have f66 := f65.ext cwl15
   have f69 := ((f66.ext c19).ext c21).ext cb22
   have f70 := f69.chg cw24 (by omega)
   have f71 := f70.ext c49
   have f72 := f48.ext c49
   refine sx_store (vs := [.bool ((decS (decide ((strB s 0 : Int) = 45)) (dg (tnV (spT s))) c).1), s21, .int .i64 ((decS (decide ((strB s 0 : Int) = 45)) (dg (tnV (spT s))) c).2.2.1)]) rfl rfl f71 rfl Tryd.sizeOf33 (nbl rfl) (one_cons rfl (one_cons f72.one (o1 rfl))) (fun w64 sw64 fw64 cw64 => ?_)
   have zw64 := cw64.size
   have gw64 : Blk w64 b2 [.bool ((decS (decide ((strB s 0 : Int) = 45)) (dg (tnV (spT s))) c).1), s21, .int .i64 ((decS (decide ((strB s 0 : Int) = 45)) (dg (tnV (spT s))) c).2.2.1)] 33 := fw64
   refine av rfl rfl (wl_nil (q_n (k62 _ _ ?_)))
   refine sx_retc ?_
   refine sx_ret2 Tryd.results28 ⟨_, rfl, gw64.loadA (vs := [.bool ((decS (decide ((strB s 0 : Int) = 45)) (dg (tnV (spT s))) c).1), s21, .int .i64 ((decS (decide ((strB s 0 : Int) = 45)) (dg (tnV (spT s))) c).2.2.1)]) (look_lit rfl) Tryd.isAgg33 Tryd.sizeOf33⟩ rfl ?_
   have hd1 : (decS (decide ((strB s 0 : Int) = 45)) (dg (tnV (spT s))) c).2.2.2 = true := by first | assumption | simpa using (by assumption : (!(decS (decide ((strB s 0 : Int) = 45)) (dg (tnV (spT s))) c).2.2.2) = false)
   have hd2 := rdD_dec (s := s) hd1 (by first | assumption | exact Decidable.not_not.1 (by assumption))
   rw [hd2, hd1]
   have q73 := Chg.step (l := 0) (h := 0) (Chg.zero (l := 0) (h := 0) (((((cb2.t cwl8).t cwl15).t c19).t c21).t cb22)) cw24 (by omega)
   have q74 := Chg.step (l := 0) (h := 0) q73 c49 (by omega)
   have q75 := Chg.step (l := 0) (h := 0) q74 cw64 (by omega)
   have f76 := f72.chg cw64 (by omega)
   exact ⟨_, rfl, (Own.mono f76 (by omega) (by omega)), decS_len _ _ _, q75⟩
  refine sx_guardF rfl rfl rfl rfl rfl rfl ?_
  refine sx_guardF rfl rfl rfl rfl rfl rfl ?_
  refine sx_guardF rfl rfl rfl rfl rfl rfl ?_
  refine sp rfl (px_pick rfl rfl) ?_
  refine mv rfl rfl (sp rfl (px_build rfl (xbld24x0x1 rfl ox_19.one _)) ?_)
  refine mv rfl rfl (sx_call rfl rfl Tryd.call62 (c_l07DecN ox_19 (by have := tnV_len (spT s); omega) (by omega)) (fun v77 w77 p77 => ?_))
  obtain ⟨s77, rfl, os_77, c77⟩ := p77
  have zw77 := c77.size
  refine mv rfl rfl (sp rfl (px_ex2 rfl rfl) ?_)
  refine sp rfl (px_ex2 rfl rfl) ?_
  refine sx_alloc [.bool false, (.slice none 0 0), .int .i64 0] rfl Tryd.zeroValue33 rfl (fun b78 w79 eb78 sb78 fb78 cb78 => ?_)
  have zw79 := cb78.size
  have f81 := os_77.ext cb78
  refine sx_store (vs := [.bool ((decS false (dg (tnV (spT s))) c).1), s77, .int .i64 ((decS false (dg (tnV (spT s))) c).2.2.1)]) rfl rfl fb78 rfl Tryd.sizeOf33 (nbl rfl) (one_cons rfl (one_cons f81.one (o1 rfl))) (fun w80 sw80 fw80 cw80 => ?_)
  have zw80 := cw80.size
  have gw80 : Blk w80 b78 [.bool ((decS false (dg (tnV (spT s))) c).1), s77, .int .i64 ((decS false (dg (tnV (spT s))) c).2.2.1)] 33 := fw80
  refine av rfl rfl (wl_nil (q_n (k20 _ _ ?_)))
  refine sx_sub (Sub.c 0 rfl (.c 2 rfl (.c 3 rfl (.c 8 rfl (.c 9 rfl (.c 10 rfl .nil)))))) ?_
  refine sx_seq fun K82 k82 => ?_
  refine sx_seq fun K83 k83 => sx_region ?_
  refine mv rfl rfl (sp rfl (px_not rfl) ?_)
  refine mv rfl rfl ?_
  refine sx_tmpB (t := 69) rfl (fun h62 => ?_) (fun h62 => ?_)
  ·
   refine sx_guardF rfl rfl rfl rfl rfl rfl ?_
   refine sx_guardF rfl rfl rfl rfl rfl rfl ?_
   refine sp rfl (px_pick rfl rfl) ?_
   refine mv rfl rfl ?_
   refine sx_guardF rfl rfl rfl rfl rfl rfl ?_
   refine sx_guardF rfl rfl rfl rfl rfl rfl ?_
   refine sx_guardF rfl rfl rfl rfl rfl rfl ?_
   refine sx_guardF rfl rfl rfl rfl rfl rfl ?_
   refine sp rfl (px_pick rfl rfl) ?_
   refine wl_nil (q_n (k83 _ _ ?_))
   refine sx_sub (Sub.c 2 rfl (.c 3 rfl (.c 9 rfl (.c 78 rfl .nil)))) ?_
   refine sx_condT rfl ?_
   refine sx_seq fun K84 k84 => sx_region ?_
   refine sp rfl (px_build rfl (xbld33x  _)) ?_
   have f86 := fb2.ext cwl8
   have f87 := f86.ext cwl15
   have f90 := ((f87.ext c19).ext c77).ext cb78
   have f91 := f90.chg cw80 (by omega)
   refine sx_store (vs := [.bool false, (.slice none 0 0), .int .i64 0]) rfl rfl f91 rfl Tryd.sizeOf33 (nbl rfl) (o3 rfl rfl rfl) (fun w85 sw85 fw85 cw85 => ?_)
   have zw85 := cw85.size
   have gw85 : Blk w85 b2 [.bool false, (.slice none 0 0), .int .i64 0] 33 := fw85
   refine av rfl rfl (wl_nil (q_n (k84 _ _ ?_)))
   refine sx_retc ?_
   refine q_r (sx_ret2 Tryd.results28 ⟨_, rfl, gw85.loadA (vs := [.bool false, (.slice none 0 0), .int .i64 0]) (look_lit rfl) Tryd.isAgg33 Tryd.sizeOf33⟩ rfl ?_)
   have hB := rdD_bad (s := s) (n := false) (c := c) (by unfold sgK; first | exact decide_eq_decide.2 ⟨fun h => h.2, fun h => ⟨by omega, h⟩⟩ | exact decide_eq_false (fun h => by omega) | exact decide_eq_true ⟨by omega, by omega⟩) (by rw [hcc, show k = s.size by omega]) (by
    rintro ⟨a1, a2, a3⟩
    first
    | exact absurd a3 (by assumption)
    | exact absurd (by assumption : (!tnK (spT s)) = true) (by rw [a1]; decide)
    | exact absurd (by assumption : (!(decS false (dg (tnV (spT s))) c).2.2.2) = true) (by rw [a2]; decide))
   rw [hB]
   have q92 := Chg.step (l := 0) (h := 0) (Chg.zero (l := 0) (h := 0) (((((cb2.t cwl8).t cwl15).t c19).t c77).t cb78)) cw80 (by omega)
   have q93 := Chg.step (l := 0) (h := 0) q92 cw85 (by omega)
   exact ⟨_, rfl, Own.nil _ _ _ _ _, by simp, q93⟩
  refine sx_guardT rfl rfl rfl ?_
  refine mv rfl rfl ?_
  refine sx_guardT rfl rfl rfl ?_
  refine sp rfl (px_not rfl) ?_
  refine sp rfl (px_pick rfl rfl) ?_
  refine mv rfl rfl ?_
  refine sx_tmpB (t := 73) rfl (fun h62x1 => ?_) (fun h62x1 => ?_)
  ·
   refine sx_guardF rfl rfl rfl rfl rfl rfl ?_
   refine sx_guardF rfl rfl rfl rfl rfl rfl ?_
   refine sx_guardF rfl rfl rfl rfl rfl rfl ?_
   refine sx_guardF rfl rfl rfl rfl rfl rfl ?_
   refine sp rfl (px_pick rfl rfl) ?_
   refine wl_nil (q_n (k83 _ _ ?_))
   refine sx_sub (Sub.c 2 rfl (.c 3 rfl (.c 9 rfl (.c 78 rfl .nil)))) ?_
   refine sx_condT rfl ?_
   refine sx_seq fun K94 k94 => sx_region ?_
   refine sp rfl (px_build rfl (xbld33x  _)) ?_
   have f96 := fb2.ext cwl8
   have f97 := f96.ext cwl15
   have f100 := ((f97.ext c19).ext c77).ext cb78
   have f101 := f100.chg cw80 (by omega)
   refine sx_store (vs := [.bool false, (.slice none 0 0), .int .i64 0]) rfl rfl f101 rfl Tryd.sizeOf33 (nbl rfl) (o3 rfl rfl rfl) (fun w95 sw95 fw95 cw95 => ?_)
   have zw95 := cw95.size
   have gw95 : Blk w95 b2 [.bool false, (.slice none 0 0), .int .i64 0] 33 := fw95
   refine av rfl rfl (wl_nil (q_n (k94 _ _ ?_)))
   refine sx_retc ?_
   refine q_r (sx_ret2 Tryd.results28 ⟨_, rfl, gw95.loadA (vs := [.bool false, (.slice none 0 0), .int .i64 0]) (look_lit rfl) Tryd.isAgg33 Tryd.sizeOf33⟩ rfl ?_)
   have hB := rdD_bad (s := s) (n := false) (c := c) (by unfold sgK; first | exact decide_eq_decide.2 ⟨fun h => h.2, fun h => ⟨by omega, h⟩⟩ | exact decide_eq_false (fun h => by omega) | exact decide_eq_true ⟨by omega, by omega⟩) (by rw [hcc, show k = s.size by omega]) (by
    rintro ⟨a1, a2, a3⟩
    first
    | exact absurd a3 (by assumption)
    | exact absurd (by assumption : (!tnK (spT s)) = true) (by rw [a1]; decide)
    | exact absurd (by assumption : (!(decS false (dg (tnV (spT s))) c).2.2.2) = true) (by rw [a2]; decide))
   rw [hB]
   have q102 := Chg.step (l := 0) (h := 0) (Chg.zero (l := 0) (h := 0) (((((cb2.t cwl8).t cwl15).t c19).t c77).t cb78)) cw80 (by omega)
   have q103 := Chg.step (l := 0) (h := 0) q102 cw95 (by omega)
   exact ⟨_, rfl, Own.nil _ _ _ _ _, by simp, q103⟩
  refine sx_guardT rfl rfl rfl ?_
  refine sp rfl (px_load rfl (gw80.loadA (vs := [.bool ((decS false (dg (tnV (spT s))) c).1), s77, .int .i64 ((decS false (dg (tnV (spT s))) c).2.2.1)]) (look_lit rfl) Tryd.isAgg33 Tryd.sizeOf33)) ?_
  refine sx_guardT rfl rfl rfl ?_
  have f104 := f81.chg cw80 (by omega)
  refine sx_call rfl rfl Tryd.call63 (c_sDecText f104.sv (Nat.le_trans (decS_len _ _ _) (by decide))) (fun v105 w105 p105 => ?_)
  obtain ⟨rfl, hsz105, c105⟩ := p105
  have zw105 := c105.size
  refine sx_guardT rfl rfl rfl ?_
  refine mv rfl rfl ?_
  refine sx_guardT rfl rfl rfl ?_
  refine sp rfl (px_neS rfl rfl) ?_
  refine sp rfl (px_pick rfl rfl) ?_
  refine wl_nil (q_n (k83 _ _ ?_))
  refine sx_sub (Sub.c 2 rfl (.c 3 rfl (.c 9 rfl (.c 78 rfl .nil)))) ?_
  refine sx_condP rfl (fun h62x2 => ?_) (fun h62x2 => ?_)
  ·
   refine sx_seq fun K106 k106 => sx_region ?_
   refine sp rfl (px_build rfl (xbld33x  _)) ?_
   have f108 := fb2.ext cwl8
   have f109 := f108.ext cwl15
   have f112 := ((f109.ext c19).ext c77).ext cb78
   have f113 := f112.chg cw80 (by omega)
   have f114 := f113.ext c105
   refine sx_store (vs := [.bool false, (.slice none 0 0), .int .i64 0]) rfl rfl f114 rfl Tryd.sizeOf33 (nbl rfl) (o3 rfl rfl rfl) (fun w107 sw107 fw107 cw107 => ?_)
   have zw107 := cw107.size
   have gw107 : Blk w107 b2 [.bool false, (.slice none 0 0), .int .i64 0] 33 := fw107
   refine av rfl rfl (wl_nil (q_n (k106 _ _ ?_)))
   refine sx_retc ?_
   refine q_r (sx_ret2 Tryd.results28 ⟨_, rfl, gw107.loadA (vs := [.bool false, (.slice none 0 0), .int .i64 0]) (look_lit rfl) Tryd.isAgg33 Tryd.sizeOf33⟩ rfl ?_)
   have hB := rdD_bad (s := s) (n := false) (c := c) (by unfold sgK; first | exact decide_eq_decide.2 ⟨fun h => h.2, fun h => ⟨by omega, h⟩⟩ | exact decide_eq_false (fun h => by omega) | exact decide_eq_true ⟨by omega, by omega⟩) (by rw [hcc, show k = s.size by omega]) (by
    rintro ⟨a1, a2, a3⟩
    first
    | exact absurd a3 (by assumption)
    | exact absurd (by assumption : (!tnK (spT s)) = true) (by rw [a1]; decide)
    | exact absurd (by assumption : (!(decS false (dg (tnV (spT s))) c).2.2.2) = true) (by rw [a2]; decide))
   rw [hB]
   have q115 := Chg.step (l := 0) (h := 0) (Chg.zero (l := 0) (h := 0) (((((cb2.t cwl8).t cwl15).t c19).t c77).t cb78)) cw80 (by omega)
   have q116 := Chg.step (l := 0) (h := 0) q115 c105 (by omega)
   have q117 := Chg.step (l := 0) (h := 0) q116 cw107 (by omega)
   exact ⟨_, rfl, Own.nil _ _ _ _ _, by simp, q117⟩
  refine sx_skip ?_
  refine q_n (k82 _ _ ?_)
  refine sx_seq fun K118 k118 => sx_region ?_
  have f119 := gw80.ext c105
  refine sp rfl (px_load rfl (f119.loadA (vs := [.bool ((decS false (dg (tnV (spT s))) c).1), s77, .int .i64 ((decS false (dg (tnV (spT s))) c).2.2.1)]) (look_lit rfl) Tryd.isAgg33 Tryd.sizeOf33)) ?_
  have f121 := fb2.ext cwl8
  have f122 := f121.ext cwl15
  have f125 := ((f122.ext c19).ext c77).ext cb78
  have f126 := f125.chg cw80 (by omega)
  have f127 := f126.ext c105
  have f128 := f104.ext c105
  refine sx_store (vs := [.bool ((decS false (dg (tnV (spT s))) c).1), s77, .int .i64 ((decS false (dg (tnV (spT s))) c).2.2.1)]) rfl rfl f127 rfl Tryd.sizeOf33 (nbl rfl) (one_cons rfl (one_cons f128.one (o1 rfl))) (fun w120 sw120 fw120 cw120 => ?_)
  have zw120 := cw120.size
  have gw120 : Blk w120 b2 [.bool ((decS false (dg (tnV (spT s))) c).1), s77, .int .i64 ((decS false (dg (tnV (spT s))) c).2.2.1)] 33 := fw120
  refine av rfl rfl (wl_nil (q_n (k118 _ _ ?_)))
  refine sx_retc ?_
  refine sx_ret2 Tryd.results28 ⟨_, rfl, gw120.loadA (vs := [.bool ((decS false (dg (tnV (spT s))) c).1), s77, .int .i64 ((decS false (dg (tnV (spT s))) c).2.2.1)]) (look_lit rfl) Tryd.isAgg33 Tryd.sizeOf33⟩ rfl ?_
  have hd1 : (decS false (dg (tnV (spT s))) c).2.2.2 = true := by first | assumption | simpa using (by assumption : (!(decS false (dg (tnV (spT s))) c).2.2.2) = false)
  have hd2 := rdD_dec (s := s) hd1 (by first | assumption | exact Decidable.not_not.1 (by assumption))
  rw [hd2, hd1]
  have q129 := Chg.step (l := 0) (h := 0) (Chg.zero (l := 0) (h := 0) (((((cb2.t cwl8).t cwl15).t c19).t c77).t cb78)) cw80 (by omega)
  have q130 := Chg.step (l := 0) (h := 0) q129 c105 (by omega)
  have q131 := Chg.step (l := 0) (h := 0) q130 cw120 (by omega)
  have f132 := f128.chg cw120 (by omega)
  exact ⟨_, rfl, (Own.mono f132 (by omega) (by omega)), decS_len _ _ _, q131⟩
 have ht : t = spT s := strip_done hst (by omega)
 subst ht
 refine sx_guardF rfl rfl rfl rfl rfl rfl ?_
 refine sx_guardF rfl rfl rfl rfl rfl rfl ?_
 refine sx_guardF rfl rfl rfl rfl rfl rfl ?_
 refine sp rfl (px_pick rfl rfl) ?_
 refine wl_nil (q_n (k17 _ _ ?_))
 refine sx_condF rfl ?_
 refine sx_exit ?_
 refine q_e (q_e (q_bx (q_n (k14 _ _ ?_))))
 refine sx_seq fun K133 k133 => sx_region ?_
 refine mv rfl rfl (sx_call rfl rfl Tryd.call61 (c_sTextNat (by omega)) (fun v134 w134 p134 => ?_))
 obtain ⟨x134, rfl, ox_134, c134⟩ := p134
 have zw134 := c134.size
 refine mv rfl rfl (sp rfl (px_ex2 rfl rfl) ?_)
 refine sp rfl (px_ex2 rfl rfl) ?_
 refine av rfl rfl (av rfl rfl (wl_nil (q_n (k133 _ _ ?_))))
 refine sx_sub (Sub.c 0 rfl (.c 2 rfl (.c 3 rfl (.c 5 rfl (.c 7 rfl (.c 8 rfl .nil)))))) ?_
 refine sx_seq fun K135 k135 => sx_region ?_
 refine mv rfl rfl (sp rfl (px_lenS rfl Tryd.underlying9) ?_)
 refine sp rfl (px_gt rfl rfl) ?_
 refine mv rfl rfl ?_
 refine sx_tmpP (t := 56) rfl (fun h61 => ?_) (fun h61 => ?_)
 ·
  refine sx_guardT rfl rfl rfl ?_
  refine mv rfl rfl ?_
  refine sx_guardT rfl rfl rfl ?_
  refine sp rfl (px_indexS (j := 0) rfl rfl (by omega) Tryd.underlying9 (by omega)) ?_
  refine sx_guardT rfl rfl rfl ?_
  refine sp rfl (px_eq rfl rfl) ?_
  refine sp rfl (px_pick rfl rfl) ?_
  refine mv rfl rfl (sp rfl (px_build rfl (xbld24x0x1 rfl ox_134.one _)) ?_)
  refine mv rfl rfl (sx_call rfl rfl Tryd.call62 (c_l07DecN ox_134 (by have := tnV_len (spT s); omega) (by omega)) (fun v136 w136 p136 => ?_))
  obtain ⟨s136, rfl, os_136, c136⟩ := p136
  have zw136 := c136.size
  refine mv rfl rfl (sp rfl (px_ex2 rfl rfl) ?_)
  refine sp rfl (px_ex2 rfl rfl) ?_
  refine sx_alloc [.bool false, (.slice none 0 0), .int .i64 0] rfl Tryd.zeroValue33 rfl (fun b137 w138 eb137 sb137 fb137 cb137 => ?_)
  have zw138 := cb137.size
  have f140 := os_136.ext cb137
  refine sx_store (vs := [.bool ((decS (decide ((strB s 0 : Int) = 45)) (dg (tnV (spT s))) c).1), s136, .int .i64 ((decS (decide ((strB s 0 : Int) = 45)) (dg (tnV (spT s))) c).2.2.1)]) rfl rfl fb137 rfl Tryd.sizeOf33 (nbl rfl) (one_cons rfl (one_cons f140.one (o1 rfl))) (fun w139 sw139 fw139 cw139 => ?_)
  have zw139 := cw139.size
  have gw139 : Blk w139 b137 [.bool ((decS (decide ((strB s 0 : Int) = 45)) (dg (tnV (spT s))) c).1), s136, .int .i64 ((decS (decide ((strB s 0 : Int) = 45)) (dg (tnV (spT s))) c).2.2.1)] 33 := fw139
  refine av rfl rfl (wl_nil (q_n (k135 _ _ ?_)))
  refine sx_sub (Sub.c 0 rfl (.c 2 rfl (.c 3 rfl (.c 8 rfl (.c 9 rfl (.c 10 rfl .nil)))))) ?_
  refine sx_seq fun K141 k141 => ?_
  refine sx_seq fun K142 k142 => sx_region ?_
  refine mv rfl rfl (sp rfl (px_not rfl) ?_)
  refine mv rfl rfl ?_
  refine sx_tmpB (t := 69) rfl (fun h62 => ?_) (fun h62 => ?_)
  ·
   refine sx_guardF rfl rfl rfl rfl rfl rfl ?_
   refine sx_guardF rfl rfl rfl rfl rfl rfl ?_
   refine sp rfl (px_pick rfl rfl) ?_
   refine mv rfl rfl ?_
   refine sx_guardF rfl rfl rfl rfl rfl rfl ?_
   refine sx_guardF rfl rfl rfl rfl rfl rfl ?_
   refine sx_guardF rfl rfl rfl rfl rfl rfl ?_
   refine sx_guardF rfl rfl rfl rfl rfl rfl ?_
   refine sp rfl (px_pick rfl rfl) ?_
   refine wl_nil (q_n (k142 _ _ ?_))
   refine sx_sub (Sub.c 2 rfl (.c 3 rfl (.c 9 rfl (.c 78 rfl .nil)))) ?_
   refine sx_condT rfl ?_
   refine sx_seq fun K143 k143 => sx_region ?_
   refine sp rfl (px_build rfl (xbld33x  _)) ?_
   have f145 := fb2.ext cwl8
   have f146 := f145.ext cwl15
   have f149 := ((f146.ext c134).ext c136).ext cb137
   have f150 := f149.chg cw139 (by omega)
   refine sx_store (vs := [.bool false, (.slice none 0 0), .int .i64 0]) rfl rfl f150 rfl Tryd.sizeOf33 (nbl rfl) (o3 rfl rfl rfl) (fun w144 sw144 fw144 cw144 => ?_)
   have zw144 := cw144.size
   have gw144 : Blk w144 b2 [.bool false, (.slice none 0 0), .int .i64 0] 33 := fw144
   refine av rfl rfl (wl_nil (q_n (k143 _ _ ?_)))
   refine sx_retc ?_
   refine q_r (sx_ret2 Tryd.results28 ⟨_, rfl, gw144.loadA (vs := [.bool false, (.slice none 0 0), .int .i64 0]) (look_lit rfl) Tryd.isAgg33 Tryd.sizeOf33⟩ rfl ?_)
   have hB := rdD_bad (s := s) (n := (decide ((strB s 0 : Int) = 45))) (c := c) (by unfold sgK; first | exact decide_eq_decide.2 ⟨fun h => h.2, fun h => ⟨by omega, h⟩⟩ | exact decide_eq_false (fun h => by omega) | exact decide_eq_true ⟨by omega, by omega⟩) (by rw [hcc, show k = s.size by omega]) (by
    rintro ⟨a1, a2, a3⟩
    first
    | exact absurd a3 (by assumption)
    | exact absurd (by assumption : (!tnK (spT s)) = true) (by rw [a1]; decide)
    | exact absurd (by assumption : (!(decS (decide ((strB s 0 : Int) = 45)) (dg (tnV (spT s))) c).2.2.2) = true) (by rw [a2]; decide))
   rw [hB]
   have q151 := Chg.step (l := 0) (h := 0) (Chg.zero (l := 0) (h := 0) (((((cb2.t cwl8).t cwl15).t c134).t c136).t cb137)) cw139 (by omega)
   have q152 := Chg.step (l := 0) (h := 0) q151 cw144 (by omega)
   exact ⟨_, rfl, Own.nil _ _ _ _ _, by simp, q152⟩
  refine sx_guardT rfl rfl rfl ?_
  refine mv rfl rfl ?_
  refine sx_guardT rfl rfl rfl ?_
  refine sp rfl (px_not rfl) ?_
  refine sp rfl (px_pick rfl rfl) ?_
  refine mv rfl rfl ?_
  refine sx_tmpB (t := 73) rfl (fun h62x1 => ?_) (fun h62x1 => ?_)
  ·
   refine sx_guardF rfl rfl rfl rfl rfl rfl ?_
   refine sx_guardF rfl rfl rfl rfl rfl rfl ?_
   refine sx_guardF rfl rfl rfl rfl rfl rfl ?_
   refine sx_guardF rfl rfl rfl rfl rfl rfl ?_
   refine sp rfl (px_pick rfl rfl) ?_
   refine wl_nil (q_n (k142 _ _ ?_))
   refine sx_sub (Sub.c 2 rfl (.c 3 rfl (.c 9 rfl (.c 78 rfl .nil)))) ?_
   refine sx_condT rfl ?_
   refine sx_seq fun K153 k153 => sx_region ?_
   refine sp rfl (px_build rfl (xbld33x  _)) ?_
   have f155 := fb2.ext cwl8
   have f156 := f155.ext cwl15
   have f159 := ((f156.ext c134).ext c136).ext cb137
   have f160 := f159.chg cw139 (by omega)
   refine sx_store (vs := [.bool false, (.slice none 0 0), .int .i64 0]) rfl rfl f160 rfl Tryd.sizeOf33 (nbl rfl) (o3 rfl rfl rfl) (fun w154 sw154 fw154 cw154 => ?_)
   have zw154 := cw154.size
   have gw154 : Blk w154 b2 [.bool false, (.slice none 0 0), .int .i64 0] 33 := fw154
   refine av rfl rfl (wl_nil (q_n (k153 _ _ ?_)))
   refine sx_retc ?_
   refine q_r (sx_ret2 Tryd.results28 ⟨_, rfl, gw154.loadA (vs := [.bool false, (.slice none 0 0), .int .i64 0]) (look_lit rfl) Tryd.isAgg33 Tryd.sizeOf33⟩ rfl ?_)
   have hB := rdD_bad (s := s) (n := (decide ((strB s 0 : Int) = 45))) (c := c) (by unfold sgK; first | exact decide_eq_decide.2 ⟨fun h => h.2, fun h => ⟨by omega, h⟩⟩ | exact decide_eq_false (fun h => by omega) | exact decide_eq_true ⟨by omega, by omega⟩) (by rw [hcc, show k = s.size by omega]) (by
    rintro ⟨a1, a2, a3⟩
    first
    | exact absurd a3 (by assumption)
    | exact absurd (by assumption : (!tnK (spT s)) = true) (by rw [a1]; decide)
    | exact absurd (by assumption : (!(decS (decide ((strB s 0 : Int) = 45)) (dg (tnV (spT s))) c).2.2.2) = true) (by rw [a2]; decide))
   rw [hB]
   have q161 := Chg.step (l := 0) (h := 0) (Chg.zero (l := 0) (h := 0) (((((cb2.t cwl8).t cwl15).t c134).t c136).t cb137)) cw139 (by omega)
   have q162 := Chg.step (l := 0) (h := 0) q161 cw154 (by omega)
   exact ⟨_, rfl, Own.nil _ _ _ _ _, by simp, q162⟩
  refine sx_guardT rfl rfl rfl ?_
  refine sp rfl (px_load rfl (gw139.loadA (vs := [.bool ((decS (decide ((strB s 0 : Int) = 45)) (dg (tnV (spT s))) c).1), s136, .int .i64 ((decS (decide ((strB s 0 : Int) = 45)) (dg (tnV (spT s))) c).2.2.1)]) (look_lit rfl) Tryd.isAgg33 Tryd.sizeOf33)) ?_
  refine sx_guardT rfl rfl rfl ?_
  have f163 := f140.chg cw139 (by omega)
  refine sx_call rfl rfl Tryd.call63 (c_sDecText f163.sv (Nat.le_trans (decS_len _ _ _) (by decide))) (fun v164 w164 p164 => ?_)
  obtain ⟨rfl, hsz164, c164⟩ := p164
  have zw164 := c164.size
  refine sx_guardT rfl rfl rfl ?_
  refine mv rfl rfl ?_
  refine sx_guardT rfl rfl rfl ?_
  refine sp rfl (px_neS rfl rfl) ?_
  refine sp rfl (px_pick rfl rfl) ?_
  refine wl_nil (q_n (k142 _ _ ?_))
  refine sx_sub (Sub.c 2 rfl (.c 3 rfl (.c 9 rfl (.c 78 rfl .nil)))) ?_
  refine sx_condP rfl (fun h62x2 => ?_) (fun h62x2 => ?_)
  ·
   refine sx_seq fun K165 k165 => sx_region ?_
   refine sp rfl (px_build rfl (xbld33x  _)) ?_
   have f167 := fb2.ext cwl8
   have f168 := f167.ext cwl15
   have f171 := ((f168.ext c134).ext c136).ext cb137
   have f172 := f171.chg cw139 (by omega)
   have f173 := f172.ext c164
   refine sx_store (vs := [.bool false, (.slice none 0 0), .int .i64 0]) rfl rfl f173 rfl Tryd.sizeOf33 (nbl rfl) (o3 rfl rfl rfl) (fun w166 sw166 fw166 cw166 => ?_)
   have zw166 := cw166.size
   have gw166 : Blk w166 b2 [.bool false, (.slice none 0 0), .int .i64 0] 33 := fw166
   refine av rfl rfl (wl_nil (q_n (k165 _ _ ?_)))
   refine sx_retc ?_
   refine q_r (sx_ret2 Tryd.results28 ⟨_, rfl, gw166.loadA (vs := [.bool false, (.slice none 0 0), .int .i64 0]) (look_lit rfl) Tryd.isAgg33 Tryd.sizeOf33⟩ rfl ?_)
   have hB := rdD_bad (s := s) (n := (decide ((strB s 0 : Int) = 45))) (c := c) (by unfold sgK; first | exact decide_eq_decide.2 ⟨fun h => h.2, fun h => ⟨by omega, h⟩⟩ | exact decide_eq_false (fun h => by omega) | exact decide_eq_true ⟨by omega, by omega⟩) (by rw [hcc, show k = s.size by omega]) (by
    rintro ⟨a1, a2, a3⟩
    first
    | exact absurd a3 (by assumption)
    | exact absurd (by assumption : (!tnK (spT s)) = true) (by rw [a1]; decide)
    | exact absurd (by assumption : (!(decS (decide ((strB s 0 : Int) = 45)) (dg (tnV (spT s))) c).2.2.2) = true) (by rw [a2]; decide))
   rw [hB]
   have q174 := Chg.step (l := 0) (h := 0) (Chg.zero (l := 0) (h := 0) (((((cb2.t cwl8).t cwl15).t c134).t c136).t cb137)) cw139 (by omega)
   have q175 := Chg.step (l := 0) (h := 0) q174 c164 (by omega)
   have q176 := Chg.step (l := 0) (h := 0) q175 cw166 (by omega)
   exact ⟨_, rfl, Own.nil _ _ _ _ _, by simp, q176⟩
  refine sx_skip ?_
  refine q_n (k141 _ _ ?_)
  refine sx_seq fun K177 k177 => sx_region ?_
  have f178 := gw139.ext c164
  refine sp rfl (px_load rfl (f178.loadA (vs := [.bool ((decS (decide ((strB s 0 : Int) = 45)) (dg (tnV (spT s))) c).1), s136, .int .i64 ((decS (decide ((strB s 0 : Int) = 45)) (dg (tnV (spT s))) c).2.2.1)]) (look_lit rfl) Tryd.isAgg33 Tryd.sizeOf33)) ?_
  have f180 := fb2.ext cwl8
  have f181 := f180.ext cwl15
  have f184 := ((f181.ext c134).ext c136).ext cb137
  have f185 := f184.chg cw139 (by omega)
  have f186 := f185.ext c164
  have f187 := f163.ext c164
  refine sx_store (vs := [.bool ((decS (decide ((strB s 0 : Int) = 45)) (dg (tnV (spT s))) c).1), s136, .int .i64 ((decS (decide ((strB s 0 : Int) = 45)) (dg (tnV (spT s))) c).2.2.1)]) rfl rfl f186 rfl Tryd.sizeOf33 (nbl rfl) (one_cons rfl (one_cons f187.one (o1 rfl))) (fun w179 sw179 fw179 cw179 => ?_)
  have zw179 := cw179.size
  have gw179 : Blk w179 b2 [.bool ((decS (decide ((strB s 0 : Int) = 45)) (dg (tnV (spT s))) c).1), s136, .int .i64 ((decS (decide ((strB s 0 : Int) = 45)) (dg (tnV (spT s))) c).2.2.1)] 33 := fw179
  refine av rfl rfl (wl_nil (q_n (k177 _ _ ?_)))
  refine sx_retc ?_
  refine sx_ret2 Tryd.results28 ⟨_, rfl, gw179.loadA (vs := [.bool ((decS (decide ((strB s 0 : Int) = 45)) (dg (tnV (spT s))) c).1), s136, .int .i64 ((decS (decide ((strB s 0 : Int) = 45)) (dg (tnV (spT s))) c).2.2.1)]) (look_lit rfl) Tryd.isAgg33 Tryd.sizeOf33⟩ rfl ?_
  have hd1 : (decS (decide ((strB s 0 : Int) = 45)) (dg (tnV (spT s))) c).2.2.2 = true := by first | assumption | simpa using (by assumption : (!(decS (decide ((strB s 0 : Int) = 45)) (dg (tnV (spT s))) c).2.2.2) = false)
  have hd2 := rdD_dec (s := s) hd1 (by first | assumption | exact Decidable.not_not.1 (by assumption))
  rw [hd2, hd1]
  have q188 := Chg.step (l := 0) (h := 0) (Chg.zero (l := 0) (h := 0) (((((cb2.t cwl8).t cwl15).t c134).t c136).t cb137)) cw139 (by omega)
  have q189 := Chg.step (l := 0) (h := 0) q188 c164 (by omega)
  have q190 := Chg.step (l := 0) (h := 0) q189 cw179 (by omega)
  have f191 := f187.chg cw179 (by omega)
  exact ⟨_, rfl, (Own.mono f191 (by omega) (by omega)), decS_len _ _ _, q190⟩
 refine sx_guardF rfl rfl rfl rfl rfl rfl ?_
 refine sx_guardF rfl rfl rfl rfl rfl rfl ?_
 refine sx_guardF rfl rfl rfl rfl rfl rfl ?_
 refine sp rfl (px_pick rfl rfl) ?_
 refine mv rfl rfl (sp rfl (px_build rfl (xbld24x0x1 rfl ox_134.one _)) ?_)
 refine mv rfl rfl (sx_call rfl rfl Tryd.call62 (c_l07DecN ox_134 (by have := tnV_len (spT s); omega) (by omega)) (fun v192 w192 p192 => ?_))
 obtain ⟨s192, rfl, os_192, c192⟩ := p192
 have zw192 := c192.size
 refine mv rfl rfl (sp rfl (px_ex2 rfl rfl) ?_)
 refine sp rfl (px_ex2 rfl rfl) ?_
 refine sx_alloc [.bool false, (.slice none 0 0), .int .i64 0] rfl Tryd.zeroValue33 rfl (fun b193 w194 eb193 sb193 fb193 cb193 => ?_)
 have zw194 := cb193.size
 have f196 := os_192.ext cb193
 refine sx_store (vs := [.bool ((decS false (dg (tnV (spT s))) c).1), s192, .int .i64 ((decS false (dg (tnV (spT s))) c).2.2.1)]) rfl rfl fb193 rfl Tryd.sizeOf33 (nbl rfl) (one_cons rfl (one_cons f196.one (o1 rfl))) (fun w195 sw195 fw195 cw195 => ?_)
 have zw195 := cw195.size
 have gw195 : Blk w195 b193 [.bool ((decS false (dg (tnV (spT s))) c).1), s192, .int .i64 ((decS false (dg (tnV (spT s))) c).2.2.1)] 33 := fw195
 refine av rfl rfl (wl_nil (q_n (k135 _ _ ?_)))
 refine sx_sub (Sub.c 0 rfl (.c 2 rfl (.c 3 rfl (.c 8 rfl (.c 9 rfl (.c 10 rfl .nil)))))) ?_
 refine sx_seq fun K197 k197 => ?_
 refine sx_seq fun K198 k198 => sx_region ?_
 refine mv rfl rfl (sp rfl (px_not rfl) ?_)
 refine mv rfl rfl ?_
 refine sx_tmpB (t := 69) rfl (fun h62 => ?_) (fun h62 => ?_)
 ·
  refine sx_guardF rfl rfl rfl rfl rfl rfl ?_
  refine sx_guardF rfl rfl rfl rfl rfl rfl ?_
  refine sp rfl (px_pick rfl rfl) ?_
  refine mv rfl rfl ?_
  refine sx_guardF rfl rfl rfl rfl rfl rfl ?_
  refine sx_guardF rfl rfl rfl rfl rfl rfl ?_
  refine sx_guardF rfl rfl rfl rfl rfl rfl ?_
  refine sx_guardF rfl rfl rfl rfl rfl rfl ?_
  refine sp rfl (px_pick rfl rfl) ?_
  refine wl_nil (q_n (k198 _ _ ?_))
  refine sx_sub (Sub.c 2 rfl (.c 3 rfl (.c 9 rfl (.c 78 rfl .nil)))) ?_
  refine sx_condT rfl ?_
  refine sx_seq fun K199 k199 => sx_region ?_
  refine sp rfl (px_build rfl (xbld33x  _)) ?_
  have f201 := fb2.ext cwl8
  have f202 := f201.ext cwl15
  have f205 := ((f202.ext c134).ext c192).ext cb193
  have f206 := f205.chg cw195 (by omega)
  refine sx_store (vs := [.bool false, (.slice none 0 0), .int .i64 0]) rfl rfl f206 rfl Tryd.sizeOf33 (nbl rfl) (o3 rfl rfl rfl) (fun w200 sw200 fw200 cw200 => ?_)
  have zw200 := cw200.size
  have gw200 : Blk w200 b2 [.bool false, (.slice none 0 0), .int .i64 0] 33 := fw200
  refine av rfl rfl (wl_nil (q_n (k199 _ _ ?_)))
  refine sx_retc ?_
  refine q_r (sx_ret2 Tryd.results28 ⟨_, rfl, gw200.loadA (vs := [.bool false, (.slice none 0 0), .int .i64 0]) (look_lit rfl) Tryd.isAgg33 Tryd.sizeOf33⟩ rfl ?_)
  have hB := rdD_bad (s := s) (n := false) (c := c) (by unfold sgK; first | exact decide_eq_decide.2 ⟨fun h => h.2, fun h => ⟨by omega, h⟩⟩ | exact decide_eq_false (fun h => by omega) | exact decide_eq_true ⟨by omega, by omega⟩) (by rw [hcc, show k = s.size by omega]) (by
   rintro ⟨a1, a2, a3⟩
   first
   | exact absurd a3 (by assumption)
   | exact absurd (by assumption : (!tnK (spT s)) = true) (by rw [a1]; decide)
   | exact absurd (by assumption : (!(decS false (dg (tnV (spT s))) c).2.2.2) = true) (by rw [a2]; decide))
  rw [hB]
  have q207 := Chg.step (l := 0) (h := 0) (Chg.zero (l := 0) (h := 0) (((((cb2.t cwl8).t cwl15).t c134).t c192).t cb193)) cw195 (by omega)
  have q208 := Chg.step (l := 0) (h := 0) q207 cw200 (by omega)
  exact ⟨_, rfl, Own.nil _ _ _ _ _, by simp, q208⟩
 refine sx_guardT rfl rfl rfl ?_
 refine mv rfl rfl ?_
 refine sx_guardT rfl rfl rfl ?_
 refine sp rfl (px_not rfl) ?_
 refine sp rfl (px_pick rfl rfl) ?_
 refine mv rfl rfl ?_
 refine sx_tmpB (t := 73) rfl (fun h62x1 => ?_) (fun h62x1 => ?_)
 ·
  refine sx_guardF rfl rfl rfl rfl rfl rfl ?_
  refine sx_guardF rfl rfl rfl rfl rfl rfl ?_
  refine sx_guardF rfl rfl rfl rfl rfl rfl ?_
  refine sx_guardF rfl rfl rfl rfl rfl rfl ?_
  refine sp rfl (px_pick rfl rfl) ?_
  refine wl_nil (q_n (k198 _ _ ?_))
  refine sx_sub (Sub.c 2 rfl (.c 3 rfl (.c 9 rfl (.c 78 rfl .nil)))) ?_
  refine sx_condT rfl ?_
  refine sx_seq fun K209 k209 => sx_region ?_
  refine sp rfl (px_build rfl (xbld33x  _)) ?_
  have f211 := fb2.ext cwl8
  have f212 := f211.ext cwl15
  have f215 := ((f212.ext c134).ext c192).ext cb193
  have f216 := f215.chg cw195 (by omega)
  refine sx_store (vs := [.bool false, (.slice none 0 0), .int .i64 0]) rfl rfl f216 rfl Tryd.sizeOf33 (nbl rfl) (o3 rfl rfl rfl) (fun w210 sw210 fw210 cw210 => ?_)
  have zw210 := cw210.size
  have gw210 : Blk w210 b2 [.bool false, (.slice none 0 0), .int .i64 0] 33 := fw210
  refine av rfl rfl (wl_nil (q_n (k209 _ _ ?_)))
  refine sx_retc ?_
  refine q_r (sx_ret2 Tryd.results28 ⟨_, rfl, gw210.loadA (vs := [.bool false, (.slice none 0 0), .int .i64 0]) (look_lit rfl) Tryd.isAgg33 Tryd.sizeOf33⟩ rfl ?_)
  have hB := rdD_bad (s := s) (n := false) (c := c) (by unfold sgK; first | exact decide_eq_decide.2 ⟨fun h => h.2, fun h => ⟨by omega, h⟩⟩ | exact decide_eq_false (fun h => by omega) | exact decide_eq_true ⟨by omega, by omega⟩) (by rw [hcc, show k = s.size by omega]) (by
   rintro ⟨a1, a2, a3⟩
   first
   | exact absurd a3 (by assumption)
   | exact absurd (by assumption : (!tnK (spT s)) = true) (by rw [a1]; decide)
   | exact absurd (by assumption : (!(decS false (dg (tnV (spT s))) c).2.2.2) = true) (by rw [a2]; decide))
  rw [hB]
  have q217 := Chg.step (l := 0) (h := 0) (Chg.zero (l := 0) (h := 0) (((((cb2.t cwl8).t cwl15).t c134).t c192).t cb193)) cw195 (by omega)
  have q218 := Chg.step (l := 0) (h := 0) q217 cw210 (by omega)
  exact ⟨_, rfl, Own.nil _ _ _ _ _, by simp, q218⟩
 refine sx_guardT rfl rfl rfl ?_
 refine sp rfl (px_load rfl (gw195.loadA (vs := [.bool ((decS false (dg (tnV (spT s))) c).1), s192, .int .i64 ((decS false (dg (tnV (spT s))) c).2.2.1)]) (look_lit rfl) Tryd.isAgg33 Tryd.sizeOf33)) ?_
 refine sx_guardT rfl rfl rfl ?_
 have f219 := f196.chg cw195 (by omega)
 refine sx_call rfl rfl Tryd.call63 (c_sDecText f219.sv (Nat.le_trans (decS_len _ _ _) (by decide))) (fun v220 w220 p220 => ?_)
 obtain ⟨rfl, hsz220, c220⟩ := p220
 have zw220 := c220.size
 refine sx_guardT rfl rfl rfl ?_
 refine mv rfl rfl ?_
 refine sx_guardT rfl rfl rfl ?_
 refine sp rfl (px_neS rfl rfl) ?_
 refine sp rfl (px_pick rfl rfl) ?_
 refine wl_nil (q_n (k198 _ _ ?_))
 refine sx_sub (Sub.c 2 rfl (.c 3 rfl (.c 9 rfl (.c 78 rfl .nil)))) ?_
 refine sx_condP rfl (fun h62x2 => ?_) (fun h62x2 => ?_)
 ·
  refine sx_seq fun K221 k221 => sx_region ?_
  refine sp rfl (px_build rfl (xbld33x  _)) ?_
  have f223 := fb2.ext cwl8
  have f224 := f223.ext cwl15
  have f227 := ((f224.ext c134).ext c192).ext cb193
  have f228 := f227.chg cw195 (by omega)
  have f229 := f228.ext c220
  refine sx_store (vs := [.bool false, (.slice none 0 0), .int .i64 0]) rfl rfl f229 rfl Tryd.sizeOf33 (nbl rfl) (o3 rfl rfl rfl) (fun w222 sw222 fw222 cw222 => ?_)
  have zw222 := cw222.size
  have gw222 : Blk w222 b2 [.bool false, (.slice none 0 0), .int .i64 0] 33 := fw222
  refine av rfl rfl (wl_nil (q_n (k221 _ _ ?_)))
  refine sx_retc ?_
  refine q_r (sx_ret2 Tryd.results28 ⟨_, rfl, gw222.loadA (vs := [.bool false, (.slice none 0 0), .int .i64 0]) (look_lit rfl) Tryd.isAgg33 Tryd.sizeOf33⟩ rfl ?_)
  have hB := rdD_bad (s := s) (n := false) (c := c) (by unfold sgK; first | exact decide_eq_decide.2 ⟨fun h => h.2, fun h => ⟨by omega, h⟩⟩ | exact decide_eq_false (fun h => by omega) | exact decide_eq_true ⟨by omega, by omega⟩) (by rw [hcc, show k = s.size by omega]) (by
   rintro ⟨a1, a2, a3⟩
   first
   | exact absurd a3 (by assumption)
   | exact absurd (by assumption : (!tnK (spT s)) = true) (by rw [a1]; decide)
   | exact absurd (by assumption : (!(decS false (dg (tnV (spT s))) c).2.2.2) = true) (by rw [a2]; decide))
  rw [hB]
  have q230 := Chg.step (l := 0) (h := 0) (Chg.zero (l := 0) (h := 0) (((((cb2.t cwl8).t cwl15).t c134).t c192).t cb193)) cw195 (by omega)
  have q231 := Chg.step (l := 0) (h := 0) q230 c220 (by omega)
  have q232 := Chg.step (l := 0) (h := 0) q231 cw222 (by omega)
  exact ⟨_, rfl, Own.nil _ _ _ _ _, by simp, q232⟩
 refine sx_skip ?_
 refine q_n (k197 _ _ ?_)
 refine sx_seq fun K233 k233 => sx_region ?_
 have f234 := gw195.ext c220
 refine sp rfl (px_load rfl (f234.loadA (vs := [.bool ((decS false (dg (tnV (spT s))) c).1), s192, .int .i64 ((decS false (dg (tnV (spT s))) c).2.2.1)]) (look_lit rfl) Tryd.isAgg33 Tryd.sizeOf33)) ?_
 have f236 := fb2.ext cwl8
 have f237 := f236.ext cwl15
 have f240 := ((f237.ext c134).ext c192).ext cb193
 have f241 := f240.chg cw195 (by omega)
 have f242 := f241.ext c220
 have f243 := f219.ext c220
 refine sx_store (vs := [.bool ((decS false (dg (tnV (spT s))) c).1), s192, .int .i64 ((decS false (dg (tnV (spT s))) c).2.2.1)]) rfl rfl f242 rfl Tryd.sizeOf33 (nbl rfl) (one_cons rfl (one_cons f243.one (o1 rfl))) (fun w235 sw235 fw235 cw235 => ?_)
 have zw235 := cw235.size
 have gw235 : Blk w235 b2 [.bool ((decS false (dg (tnV (spT s))) c).1), s192, .int .i64 ((decS false (dg (tnV (spT s))) c).2.2.1)] 33 := fw235
 refine av rfl rfl (wl_nil (q_n (k233 _ _ ?_)))
 refine sx_retc ?_
 refine sx_ret2 Tryd.results28 ⟨_, rfl, gw235.loadA (vs := [.bool ((decS false (dg (tnV (spT s))) c).1), s192, .int .i64 ((decS false (dg (tnV (spT s))) c).2.2.1)]) (look_lit rfl) Tryd.isAgg33 Tryd.sizeOf33⟩ rfl ?_
 have hd1 : (decS false (dg (tnV (spT s))) c).2.2.2 = true := by first | assumption | simpa using (by assumption : (!(decS false (dg (tnV (spT s))) c).2.2.2) = false)
 have hd2 := rdD_dec (s := s) hd1 (by first | assumption | exact Decidable.not_not.1 (by assumption))
 rw [hd2, hd1]
 have q244 := Chg.step (l := 0) (h := 0) (Chg.zero (l := 0) (h := 0) (((((cb2.t cwl8).t cwl15).t c134).t c192).t cb193)) cw195 (by omega)
 have q245 := Chg.step (l := 0) (h := 0) q244 c220 (by omega)
 have q246 := Chg.step (l := 0) (h := 0) q245 cw235 (by omega)
 have f247 := f243.chg cw235 (by omega)
 exact ⟨_, rfl, (Own.mono f247 (by omega) (by omega)), decS_len _ _ _, q246⟩

theorem c_sTextDecX {w : World} {s : ByteArray} (hs : s.size ≤ 1048576) :
  Ret Tryd.prog 28 [.string s] w fun v w' => ∃ x, v = .tuple #[.agg #[.bool (ng (rdX s)), x, .int .i64 (rdP s)], .bool (rdK s)] ∧ OwnI w' w.heap.size w'.heap.size x intT (dg (rdX s).natAbs) ∧ ((dg (rdX s).natAbs).length ≤ 6) ∧ Chg 0 0 w w' := by
 have h := c_sTextDec (w := w) hs
 rw [(rdD_int s).1, (rdD_int s).2] at h
 exact h

end Go.Proofs.YtoeclobdbblohaaDoor
