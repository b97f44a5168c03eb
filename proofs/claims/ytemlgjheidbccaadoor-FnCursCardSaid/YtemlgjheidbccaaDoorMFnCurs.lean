/- Contracts of functions of the program: what each call returns, and that it changes nothing that was. Conditions: as each says. -/
import Derived.Test.YtemlgjheidbccaaDoorTy
import Derived.Test.YtemlgjheidbccaaDoorNatI
import Derived.Test.YtemlgjheidbccaaDoorNatO
import Derived.Test.YtemlgjheidbccaaDoorSxD
import Derived.Test.YtemlgjheidbccaaDoorNatS
import Derived.Test.YtemlgjheidbccaaDoorNatU
import Derived.Test.YtemlgjheidbccaaDoorLay
import Derived.Test.YtemlgjheidbccaaDoorSxW
import Derived.Test.YtemlgjheidbccaaDoorSxP
import Derived.Test.YtemlgjheidbccaaDoorL0
import Derived.Test.YtemlgjheidbccaaDoorL1
import Derived.Test.YtemlgjheidbccaaDoorL2
set_option linter.unusedVariables false
set_option linter.unusedSimpArgs false
namespace Go.Proofs.YtemlgjheidbccaaDoor
open Go Go.RowKit
set_option maxRecDepth 100000
set_option maxHeartbeats 1000000
theorem law_FnCurs {w : World} {vb : Value} {lvb uvb : Nat} {bs : List Int} (hG0 : Glob w) (hvb : SlB w lvb uvb vb (bs)) (hb8 : ∀ j, j < bs.length → 0 ≤ bs.getD j 0 ∧ bs.getD j 0 ≤ 255) (hbs : bs.length ≤ 9223372036854775807) :
  Ret Tryd.prog 4 [vb] w fun v w' => v = .bool (true) ∧ Chg 0 0 w w' := by
 have hvb0 := hvb.fit
 have hG0l : 0 < w.heap.size := by obtain ⟨T, fz, h1⟩ := hG0; rcases Nat.lt_or_ge 0 w.heap.size with h2 | h2; exact h2; simp [Array.getElem?_eq_none h2] at h1
 have hl20 : (tabS.map Cr.code).length = 20 := rfl
 refine sx_enter Tryd.func4 rfl Tryd.ntmps4 (nbl rfl) ?_
 refine sx_seq fun K1 k1 => sx_region ?_
 refine av rfl rfl (wl_nil (q_n (k1 _ _ ?_)))
 refine sx_seq fun K2 k2 => ?_
 refine sx_seq fun K3 k3 => sx_region ?_
 refine mv rfl rfl (sp rfl (px_len rfl Tryd.underlying27 hvb0) ?_)
 refine sp rfl (px_gt rfl rfl) ?_
 refine wl_nil (q_n (k3 _ _ ?_))
 refine sx_condP rfl (fun h439 => ?_) (fun h439 => ?_)
 ·
  refine sx_seq fun K4 k4 => sx_region ?_
  refine av rfl rfl (wl_nil (q_n (k4 _ _ ?_)))
  refine sx_retc ?_
  refine q_r (sx_ret1 Tryd.results4 rfl ?_)
  exact ⟨rfl, (Chg.refl 0 0 _)⟩
 refine sx_skip ?_
 refine q_n (k2 _ _ ?_)
 refine sx_seq fun K5 k5 => sx_region ?_
 refine sx_call rfl rfl Tryd.call6 (c_iCurs hG0) (fun v6 w6 p6 => ?_)
 obtain ⟨s6, rfl, os_6, c6⟩ := p6
 have zw6 := c6.size
 refine av rfl rfl (wl_nil (q_n (k5 _ _ ?_)))
 refine sx_seq fun K7 k7 => ?_
 refine sx_seq fun K8 k8 => sx_region ?_
 refine mv rfl rfl (sp rfl (px_len rfl Tryd.underlying22 os_6.sv) ?_)
 refine mv rfl rfl (wl_nil (q_n (k8 _ _ ?_)))
 refine sx_block ?_
 refine sx_loop (fun mm aa w' => ∃ (k : Nat), Agr 84 [(3, v6), (10, v6), (11, .int .i64 (↑((tabS.map Cr.code).length))), (12, .int .i64 ↑k)] aa ∧ Chg 0 0 w6 w' ∧ (mm = 20 - k) ∧ (k ≤ 20)) (_) (fun a ha => ⟨0, ha.sub (Sub.c 3 rfl (.c 10 rfl (.c 11 rfl (.c 12 (look_int (t := 12) rfl (by first | omega | simp)) .nil)))), Chg.refl _ _ _, rfl, by omega⟩) ?_
 rintro mm aa wl9 ⟨k, hAwl9, cwl9, hm, hk⟩
 refine (show cw Tryd.prog 84 _ _ _ wl9 from ?_) aa hAwl9
 clear hAwl9
 have zwl9 := cwl9.size
 have hl20 : (tabS.map Cr.code).length = 20 := rfl
 have hall := fun h : k < 20 => curs_all k h
 refine sx_seq fun K10 k10 => sx_region ?_
 refine sp rfl (px_lt rfl rfl) ?_
 refine wl_nil (q_n (k10 _ _ ?_))
 refine sx_seq fun K11 k11 => ?_
 refine sx_condP rfl (fun h443 => ?_) (fun h443 => ?_)
 ·
  have hkt : k < 20 := by omega
  have ha := hall hkt
  have lt1 : (dg (10 ^ (curOf ((tabS.map Cr.code).getD k ByteArray.empty)).places.toNat)).length ≤ 1 := places_len ha.2.2.1
  have lt2 : (dg ((10 ^ (curOf ((tabS.map Cr.code).getD k ByteArray.empty)).places.toNat : Nat) : Int).natAbs).length ≤ 1 := by rw [Int.natAbs_natCast]; exact lt1
  refine sx_skip ?_
  refine q_n (k11 _ _ ?_)
  refine sx_seq fun K12 k12 => ?_
  refine sx_block ?_
  refine sx_seq fun K13 k13 => sx_region ?_
  refine mv rfl rfl ?_
  have f14 := os_6.ext cwl9
  refine sp rfl (px_index1 (j := k) rfl rfl (by omega) Tryd.underlying22 Tryd.sizeOf9 f14.sv (by omega)) ?_
  refine sp rfl (px_load rfl (f14.sv.load1 (at_str (by omega)) Tryd.isAgg9)) ?_
  refine av rfl rfl (av rfl rfl (wl_nil (q_n (k13 _ _ ?_))))
  refine sx_seq fun K15 k15 => ?_
  refine sx_seq fun K16 k16 => sx_region ?_
  refine mv rfl rfl ?_
  have f18 := (hG0.ext c6).ext cwl9
  refine sx_call rfl rfl Tryd.call10 (c_iCurKnown f18) (fun v19 w19 p19 => ?_)
  obtain ⟨rfl, c19⟩ := p19
  have zw19 := c19.size
  refine sp rfl (px_notP rfl) ?_
  refine mv rfl rfl ?_
  have h444 : ¬ (¬ (Known ((tabS.map Cr.code).getD k ByteArray.empty))) := fun h => h ha.1
  refine sx_tmpPF (t := 20) rfl h444 ?_
  refine sx_guardT rfl rfl rfl ?_
  refine mv rfl rfl ?_
  refine sx_guardT rfl rfl rfl ?_
  refine sx_call rfl rfl Tryd.call11 (c_IsCode (by have := ha.2.2.2.2.2; omega)) (fun v20 w20 p20 => ?_)
  obtain ⟨rfl, c20⟩ := p20
  have zw20 := c20.size
  refine sx_guardT rfl rfl rfl ?_
  refine sp rfl (px_notP rfl) ?_
  refine sp rfl (px_pick rfl rfl) ?_
  refine mv rfl rfl ?_
  have h444x1 : ¬ (¬ (CodeP ((tabS.map Cr.code).getD k ByteArray.empty))) := fun h => h ha.2.2.2.2
  refine sx_tmpPF (t := 25) rfl h444x1 ?_
  refine sx_guardT rfl rfl rfl ?_
  refine mv rfl rfl ?_
  refine sx_guardT rfl rfl rfl ?_
  have f22 := (f18.ext c19).ext c20
  refine sx_call rfl rfl Tryd.call13 (c_iCurNumber f22) (fun v23 w23 p23 => ?_)
  obtain ⟨rfl, c23⟩ := p23
  have zw23 := c23.size
  refine sx_guardT rfl rfl rfl ?_
  have f24 := f22.ext c23
  refine sx_call rfl rfl Tryd.call12 (c_iCurOf f24) (fun v25 w25 p25 => ?_)
  obtain ⟨rfl, c25⟩ := p25
  have zw25 := c25.size
  refine sx_guardT rfl rfl rfl ?_
  refine mv rfl rfl ?_
  refine sx_guardT rfl rfl rfl ?_
  refine sp rfl (px_neS rfl rfl) ?_
  refine sp rfl (px_pick rfl rfl) ?_
  refine mv rfl rfl ?_
  have h444x2 : ¬ (numOf ((curOf ((tabS.map Cr.code).getD k ByteArray.empty)).number) ≠ (tabS.map Cr.code).getD k ByteArray.empty) := fun h => h ha.2.1
  refine sx_tmpPF (t := 32) rfl h444x2 ?_
  refine sx_guardT rfl rfl rfl ?_
  refine mv rfl rfl ?_
  refine sx_guardT rfl rfl rfl ?_
  have f26 := f24.ext c25
  refine sx_call rfl rfl Tryd.call14 (c_iCurPlaces f26) (fun v27 w27 p27 => ?_)
  obtain ⟨rfl, c27⟩ := p27
  have zw27 := c27.size
  refine sx_guardT rfl rfl rfl ?_
  refine sp rfl (px_lt rfl rfl) ?_
  refine sp rfl (px_pick rfl rfl) ?_
  refine mv rfl rfl ?_
  have h444x3 : ¬ (((curOf ((tabS.map Cr.code).getD k ByteArray.empty)).places : Int) < 0) := by have := ha.2.2.1; omega
  refine sx_tmpPF (t := 37) rfl h444x3 ?_
  refine sx_guardT rfl rfl rfl ?_
  refine mv rfl rfl ?_
  refine sx_guardT rfl rfl rfl ?_
  have f28 := f26.ext c27
  refine sx_call rfl rfl Tryd.call14 (c_iCurPlaces f28) (fun v29 w29 p29 => ?_)
  obtain ⟨rfl, c29⟩ := p29
  have zw29 := c29.size
  refine sx_guardT rfl rfl rfl ?_
  refine sp rfl (px_gt rfl rfl) ?_
  refine sp rfl (px_pick rfl rfl) ?_
  refine mv rfl rfl ?_
  have h444x4 : ¬ ((4 : Int) < (curOf ((tabS.map Cr.code).getD k ByteArray.empty)).places) := by have := ha.2.2.1; omega
  refine sx_tmpPF (t := 42) rfl h444x4 ?_
  refine sx_guardT rfl rfl rfl ?_
  refine mv rfl rfl ?_
  refine sx_guardT rfl rfl rfl ?_
  have f30 := f28.ext c29
  refine sx_call rfl rfl Tryd.call15 (c_iCurCash f30) (fun v31 w31 p31 => ?_)
  obtain ⟨rfl, c31⟩ := p31
  have zw31 := c31.size
  refine sx_guardT rfl rfl rfl ?_
  refine sp rfl (px_lt rfl rfl) ?_
  refine sp rfl (px_pick rfl rfl) ?_
  refine mv rfl rfl ?_
  have h444x5 : ¬ (((curOf ((tabS.map Cr.code).getD k ByteArray.empty)).cash : Int) < 1) := by have := ha.2.2.2.1; omega
  refine sx_tmpPF (t := 47) rfl h444x5 ?_
  refine sx_guardT rfl rfl rfl ?_
  refine mv rfl rfl ?_
  refine sx_guardT rfl rfl rfl ?_
  refine sp rfl (px_gt rfl rfl) ?_
  refine sx_guardT rfl rfl rfl ?_
  refine mv rfl rfl ?_
  refine sx_tmpP (t := 50) rfl (fun h444x6 => ?_) (fun h444x6 => ?_)
  ·
   refine sx_guardT rfl rfl rfl ?_
   refine mv rfl rfl ?_
   refine sx_guardT rfl rfl rfl ?_
   refine mv rfl rfl ?_
   refine sx_guardT rfl rfl rfl ?_
   refine sp rfl (px_sub rfl rfl (by omega)) ?_
   refine sx_guardT rfl rfl rfl ?_
   have f38 := ((((((f14.ext c19).ext c20).ext c23).ext c25).ext c27).ext c29).ext c31
   refine sp rfl (px_index1 (j := (k - 1)) rfl rfl (by omega) Tryd.underlying22 Tryd.sizeOf9 f38.sv (by omega)) ?_
   refine sx_guardT rfl rfl rfl ?_
   refine sp rfl (px_load rfl (f38.sv.load1 (at_str (by omega)) Tryd.isAgg9)) ?_
   refine sx_guardT rfl rfl rfl ?_
   refine mv rfl rfl ?_
   refine sx_guardT rfl rfl rfl ?_
   refine sp rfl (px_geS rfl rfl) ?_
   refine sx_guardT rfl rfl rfl ?_
   refine sp rfl (px_pick rfl rfl) ?_
   refine sp rfl (px_pick rfl rfl) ?_
   refine wl_nil (q_n (k16 _ _ ?_))
   refine sx_sub (Sub.c 3 rfl (.c 5 rfl (.c 10 rfl (.c 11 rfl (.c 12 rfl (.c 59 rfl .nil)))))) ?_
   have h444x7 : (!Op.bytesLess ((tabS.map Cr.code).getD (k - 1) ByteArray.empty).toList ((tabS.map Cr.code).getD k ByteArray.empty).toList) = false := curs_order hkt (by omega)
   refine sx_condBF rfl h444x7 ?_
   refine sx_skip ?_
   refine q_n (k15 _ _ ?_)
   refine sx_seq fun K39 k39 => sx_region ?_
   refine mv rfl rfl ?_
   have f40 := f30.ext c31
   refine sx_call rfl rfl Tryd.call17 (c_iCurUnitK f40 (ha.1)) (fun v41 w41 p41 => ?_)
   obtain ⟨s41, t41, ls41, us41, lt41, ut41, rfl, os_41, ot_41, hd41, c41⟩ := p41
   have zw41 := c41.size
   refine mv rfl rfl ?_
   have f42 := f40.ext c41
   refine sx_call rfl rfl Tryd.call14 (c_iCurPlaces f42) (fun v43 w43 p43 => ?_)
   obtain ⟨rfl, c43⟩ := p43
   have zw43 := c43.size
   refine sx_call rfl rfl Tryd.call20 (c_iNatTenK (ha.2.2.1)) (fun v44 w44 p44 => ?_)
   obtain ⟨s44, rfl, os_44, c44⟩ := p44
   have zw44 := c44.size
   refine sp rfl (px_build rfl (xbld34x1 os_44.one _)) ?_
   refine sx_call rfl rfl Tryd.call19 (c_iRatIntN os_44.sv (rfl) (by omega)) (fun v45 w45 p45 => ?_)
   obtain ⟨s45, t45, ls45, us45, lt45, ut45, rfl, os_45, ot_45, hd45, hK45, c45⟩ := p45
   have zw45 := c45.size
   refine sp rfl (px_ex2 rfl rfl) ?_
   refine sp rfl (px_ex2 rfl rfl) ?_
   refine sx_call rfl rfl Tryd.call18 (c_must os_45.sv ot_45.sv) (fun v46 w46 p46 => ?_)
   obtain ⟨rfl, c46⟩ := p46
   have zw46 := c46.size
   have f50 := (((os_41.ext c43).ext c44).ext c45).ext c46
   have f54 := (((ot_41.ext c43).ext c44).ext c45).ext c46
   have f55 := os_45.ext c46
   have f56 := ot_45.ext c46
   refine sx_call rfl rfl Tryd.call16 (c_iRatCmpK f50.sv f54.sv f55.sv f56.sv (ROk_whole (by omega)) (ROk_whole (by omega))) (fun v57 w57 p57 => ?_)
   obtain ⟨rfl, c57⟩ := p57
   have zw57 := c57.size
   refine sp rfl (px_ne rfl rfl) ?_
   refine wl_nil (q_n (k39 _ _ ?_))
   refine sx_sub (Sub.c 3 rfl (.c 10 rfl (.c 11 rfl (.c 12 rfl (.c 71 rfl .nil))))) ?_
   have h447 : ¬ ((cmpI ((((10 ^ (curOf ((tabS.map Cr.code).getD k ByteArray.empty)).places.toNat : Nat) : Int)) * ((1 : Nat) : Int)) (((((10 ^ (((curOf ((tabS.map Cr.code).getD k ByteArray.empty)).places)).toNat) : Nat) : Int)) * ((1 : Nat) : Int)) : Int) ≠ 0) := Decidable.not_not.2 (cmpI_eq0 rfl)
   refine sx_condPF rfl h447 ?_
   refine sx_skip ?_
   refine q_bn (q_n (k12 _ _ ?_))
   refine sx_region ?_
   refine sp rfl (px_add rfl rfl (by omega)) ?_
   refine mv rfl rfl (wl_nil ?_)
   exact fun a ha => ⟨_, by omega, (k + 1), ha.sub (Sub.c 3 rfl (.c 10 rfl (.c 11 rfl (.c 12 (look_int (t := 12) rfl (by first | omega | simp)) .nil)))), (((((((((((((cwl9.t c19).t c20).t c23).t c25).t c27).t c29).t c31).t c41).t c43).t c44).t c45).t c46).t c57), rfl, by omega⟩
  refine sx_guardF rfl rfl rfl rfl rfl rfl ?_
  refine sx_guardF rfl rfl rfl rfl rfl rfl ?_
  refine sx_guardF rfl rfl rfl rfl rfl rfl ?_
  refine sx_guardF rfl rfl rfl rfl rfl rfl ?_
  refine sx_guardF rfl rfl rfl rfl rfl rfl ?_
  refine sx_guardF rfl rfl rfl rfl rfl rfl ?_
  refine sx_guardF rfl rfl rfl rfl rfl rfl ?_
  refine sx_guardT rfl rfl rfl ?_
  refine sp rfl (px_pick rfl rfl) ?_
  refine sp rfl (px_pick rfl rfl) ?_
  refine wl_nil (q_n (k16 _ _ ?_))
  refine sx_sub (Sub.c 3 rfl (.c 5 rfl (.c 10 rfl (.c 11 rfl (.c 12 rfl (.c 59 rfl .nil)))))) ?_
  refine sx_condF rfl ?_
  refine sx_skip ?_
  refine q_n (k15 _ _ ?_)
  refine sx_seq fun K58 k58 => sx_region ?_
  refine mv rfl rfl ?_
  have f59 := f30.ext c31
  refine sx_call rfl rfl Tryd.call17 (c_iCurUnitK f59 (ha.1)) (fun v60 w60 p60 => ?_)
  obtain ⟨s60, t60, ls60, us60, lt60, ut60, rfl, os_60, ot_60, hd60, c60⟩ := p60
  have zw60 := c60.size
  refine mv rfl rfl ?_
  have f61 := f59.ext c60
  refine sx_call rfl rfl Tryd.call14 (c_iCurPlaces f61) (fun v62 w62 p62 => ?_)
  obtain ⟨rfl, c62⟩ := p62
  have zw62 := c62.size
  refine sx_call rfl rfl Tryd.call20 (c_iNatTenK (ha.2.2.1)) (fun v63 w63 p63 => ?_)
  obtain ⟨s63, rfl, os_63, c63⟩ := p63
  have zw63 := c63.size
  refine sp rfl (px_build rfl (xbld34x1 os_63.one _)) ?_
  refine sx_call rfl rfl Tryd.call19 (c_iRatIntN os_63.sv (rfl) (by omega)) (fun v64 w64 p64 => ?_)
  obtain ⟨s64, t64, ls64, us64, lt64, ut64, rfl, os_64, ot_64, hd64, hK64, c64⟩ := p64
  have zw64 := c64.size
  refine sp rfl (px_ex2 rfl rfl) ?_
  refine sp rfl (px_ex2 rfl rfl) ?_
  refine sx_call rfl rfl Tryd.call18 (c_must os_64.sv ot_64.sv) (fun v65 w65 p65 => ?_)
  obtain ⟨rfl, c65⟩ := p65
  have zw65 := c65.size
  have f69 := (((os_60.ext c62).ext c63).ext c64).ext c65
  have f73 := (((ot_60.ext c62).ext c63).ext c64).ext c65
  have f74 := os_64.ext c65
  have f75 := ot_64.ext c65
  refine sx_call rfl rfl Tryd.call16 (c_iRatCmpK f69.sv f73.sv f74.sv f75.sv (ROk_whole (by omega)) (ROk_whole (by omega))) (fun v76 w76 p76 => ?_)
  obtain ⟨rfl, c76⟩ := p76
  have zw76 := c76.size
  refine sp rfl (px_ne rfl rfl) ?_
  refine wl_nil (q_n (k58 _ _ ?_))
  refine sx_sub (Sub.c 3 rfl (.c 10 rfl (.c 11 rfl (.c 12 rfl (.c 71 rfl .nil))))) ?_
  have h447 : ¬ ((cmpI ((((10 ^ (curOf ((tabS.map Cr.code).getD k ByteArray.empty)).places.toNat : Nat) : Int)) * ((1 : Nat) : Int)) (((((10 ^ (((curOf ((tabS.map Cr.code).getD k ByteArray.empty)).places)).toNat) : Nat) : Int)) * ((1 : Nat) : Int)) : Int) ≠ 0) := Decidable.not_not.2 (cmpI_eq0 rfl)
  refine sx_condPF rfl h447 ?_
  refine sx_skip ?_
  refine q_bn (q_n (k12 _ _ ?_))
  refine sx_region ?_
  refine sp rfl (px_add rfl rfl (by omega)) ?_
  refine mv rfl rfl (wl_nil ?_)
  exact fun a ha => ⟨_, by omega, (k + 1), ha.sub (Sub.c 3 rfl (.c 10 rfl (.c 11 rfl (.c 12 (look_int (t := 12) rfl (by first | omega | simp)) .nil)))), (((((((((((((cwl9.t c19).t c20).t c23).t c25).t c27).t c29).t c31).t c60).t c62).t c63).t c64).t c65).t c76), rfl, by omega⟩
 refine sx_exit ?_
 refine q_e (q_e (q_bx (q_n (k7 _ _ ?_))))
 refine sx_seq fun K77 k77 => sx_region ?_
 refine mv rfl rfl ?_
 have f78 := os_6.ext cwl9
 refine sp rfl (px_len rfl Tryd.underlying22 f78.sv) ?_
 refine sp rfl (px_eq rfl rfl) ?_
 refine mv rfl rfl ?_
 have h451 : (↑((tabS.map Cr.code).length) : Int) = 20 := rfl
 refine sx_tmpPT (t := 76) rfl h451 ?_
 refine sx_guardT rfl rfl rfl ?_
 have f80 := (hG0.ext c6).ext cwl9
 refine sx_call rfl rfl Tryd.call10 (c_iCurKnown f80) (fun v81 w81 p81 => ?_)
 obtain ⟨rfl, c81⟩ := p81
 have zw81 := c81.size
 refine sx_guardT rfl rfl rfl ?_
 refine sp rfl (px_notP rfl) ?_
 refine sp rfl (px_pick rfl rfl) ?_
 refine mv rfl rfl ?_
 have h451x1 : ¬ (Known (⟨#[]⟩)) := by decide
 refine sx_tmpPT (t := 80) rfl h451x1 ?_
 refine sx_guardT rfl rfl rfl ?_
 have f82 := f80.ext c81
 refine sx_call rfl rfl Tryd.call12 (c_iCurOf f82) (fun v83 w83 p83 => ?_)
 obtain ⟨rfl, c83⟩ := p83
 have zw83 := c83.size
 refine sx_guardT rfl rfl rfl ?_
 refine sp rfl (px_eqS rfl rfl) ?_
 refine sp rfl (px_pick rfl rfl) ?_
 refine av rfl rfl (wl_nil (q_n (k77 _ _ ?_)))
 refine sx_sub (Sub.c 2 rfl .nil) ?_
 refine sx_retc ?_
 refine sx_ret1 Tryd.results4 rfl ?_
 exact ⟨(by first | rfl | exact (bTrue (by decide +kernel)).symm), (((c6.t cwl9).t c81).t c83)⟩

end Go.Proofs.YtemlgjheidbccaaDoor
