/- Contracts of functions of the program: what each call returns, and that it changes nothing that was. Conditions: as each says. -/
import Derived.Test.YtemlgjheidbccaaDoorTy
import Derived.Test.YtemlgjheidbccaaDoorNatI
import Derived.Test.YtemlgjheidbccaaDoorNatO
import Derived.Test.YtemlgjheidbccaaDoorSxD
import Derived.Test.YtemlgjheidbccaaDoorNatS
import Derived.Test.YtemlgjheidbccaaDoorNatU
import Derived.Test.YtemlgjheidbccaaDoorLay
import Derived.Test.YtemlgjheidbccaaDoorSxP
import Derived.Test.YtemlgjheidbccaaDoorL0
set_option linter.unusedVariables false
set_option linter.unusedSimpArgs false
namespace Go.Proofs.YtemlgjheidbccaaDoor
open Go Go.RowKit
set_option maxRecDepth 100000
set_option maxHeartbeats 1000000
theorem law_Curs {w : World} (hG0 : Glob w) :
  Ret Tryd.prog 3 [] w fun v w' => v = .bool (true) ∧ Chg 0 0 w w' := by
 have hG0l : 0 < w.heap.size := by obtain ⟨T, fz, h1⟩ := hG0; rcases Nat.lt_or_ge 0 w.heap.size with h2 | h2; exact h2; simp [Array.getElem?_eq_none h2] at h1
 refine sx_enter Tryd.func3 rfl Tryd.ntmps3 (nbl rfl) ?_
 refine sx_seq fun K1 k1 => sx_region ?_
 refine av rfl rfl (wl_nil (q_n (k1 _ _ ?_)))
 refine sx_seq fun K2 k2 => sx_region ?_
 refine sx_call rfl rfl Tryd.call5 (c_sCurs) (fun v3 w3 p3 => ?_)
 obtain ⟨s3, rfl, os_3, c3⟩ := p3
 have zw3 := c3.size
 refine av rfl rfl (wl_nil (q_n (k2 _ _ ?_)))
 refine sx_seq fun K4 k4 => sx_region ?_
 have f5 := hG0.ext c3
 refine sx_call rfl rfl Tryd.call6 (c_iCurs f5) (fun v6 w6 p6 => ?_)
 obtain ⟨s6, rfl, os_6, c6⟩ := p6
 have zw6 := c6.size
 refine av rfl rfl (wl_nil (q_n (k4 _ _ ?_)))
 refine sx_seq fun K7 k7 => ?_
 refine sx_seq fun K8 k8 => sx_region ?_
 refine mv rfl rfl (mv rfl rfl ?_)
 have f9 := os_3.ext c6
 refine sx_call rfl rfl Tryd.call7 (c_eqStringS os_6.sv f9.sv (by constructor <;> decide)) (fun v10 w10 p10 => ?_)
 obtain ⟨rfl, c10⟩ := p10
 have zw10 := c10.size
 refine sp rfl (px_notP rfl) ?_
 refine wl_nil (q_n (k8 _ _ ?_))
 have h4814 : ¬ (¬ ((tabS.map Cr.code) = (tabS.map Cr.code))) := by simp [mk_length]
 refine sx_condPF rfl h4814 ?_
 refine sx_skip ?_
 refine q_n (k7 _ _ ?_)
 refine sx_seq fun K11 k11 => sx_region ?_
 refine av rfl rfl (wl_nil (q_n (k11 _ _ ?_)))
 refine sx_seq fun K12 k12 => sx_region ?_
 refine mv rfl rfl (mv rfl rfl ?_)
 have f13 := os_6.ext c10
 refine sx_call rfl rfl Tryd.call8 (c_markStringS f13 (by decide) (by first | omega | (simp only [mkS_length]; omega))) (fun v14 w14 p14 => ?_)
 obtain ⟨rfl, ova_14, c14⟩ := p14
 have zw14 := c14.size
 refine av rfl rfl (wl_nil (q_n (k12 _ _ ?_)))
 refine sx_seq fun K15 k15 => sx_region ?_
 refine av rfl rfl (wl_nil (q_n (k15 _ _ ?_)))
 refine sx_seq fun K16 k16 => sx_region ?_
 refine mv rfl rfl (mv rfl rfl (sx_call rfl rfl Tryd.call9 (c_heldStringS ova_14.sv (by rw [mkS_length]; decide) (by first | omega | (simp only [mkS_length]; omega)) (by first | assumption | simp [mkS_length])) (fun v17 w17 p17 => ?_)))
 obtain ⟨rfl, c17⟩ := p17
 have zw17 := c17.size
 refine av rfl rfl (wl_nil (q_n (k16 _ _ ?_)))
 refine sx_sub (Sub.c 0 rfl (.c 1 rfl (.c 2 rfl (.c 3 rfl (.c 4 rfl .nil))))) ?_
 refine sx_seq fun K18 k18 => ?_
 refine sx_seq fun K19 k19 => sx_region ?_
 refine mv rfl rfl (sp rfl (px_lt rfl rfl) ?_)
 refine wl_nil (q_n (k19 _ _ ?_))
 have h4821 : ¬ (((1 : Int) + ↑((mkS (1 : Int) ((tabS.map Cr.code)).length)).length : Int) < 0) := by omega
 refine sx_condPF rfl h4821 ?_
 refine sx_skip ?_
 refine q_n (k18 _ _ ?_)
 refine sx_seq fun K20 k20 => ?_
 refine sx_seq fun K21 k21 => sx_region ?_
 refine mv rfl rfl (mv rfl rfl (sp rfl (px_ne rfl rfl) ?_))
 refine wl_nil (q_n (k21 _ _ ?_))
 have h4824 : ¬ (((1 : Int) + ↑((mkS (1 : Int) ((tabS.map Cr.code)).length)).length : Int) ≠ (1 : Int) + ↑((tabS.map Cr.code)).length) := by simp [mkS_length]
 refine sx_condPF rfl h4824 ?_
 refine sx_skip ?_
 refine q_n (k20 _ _ ?_)
 refine sx_seq fun K22 k22 => sx_region ?_
 have f26 := (((f5.ext c6).ext c10).chg c14 (by omega)).ext c17
 refine sx_call rfl rfl Tryd.call6 (c_iCurs f26) (fun v27 w27 p27 => ?_)
 obtain ⟨s27, rfl, os_27, c27⟩ := p27
 have zw27 := c27.size
 refine av rfl rfl (wl_nil (q_n (k22 _ _ ?_)))
 refine sx_seq fun K28 k28 => ?_
 refine sx_seq fun K29 k29 => sx_region ?_
 refine mv rfl rfl (mv rfl rfl ?_)
 have f33 := (((f9.ext c10).chg c14 (by omega)).ext c17).ext c27
 refine sx_call rfl rfl Tryd.call7 (c_eqStringS os_27.sv f33.sv (by constructor <;> decide)) (fun v34 w34 p34 => ?_)
 obtain ⟨rfl, c34⟩ := p34
 have zw34 := c34.size
 refine sp rfl (px_notP rfl) ?_
 refine wl_nil (q_n (k29 _ _ ?_))
 refine sx_sub (Sub.c 0 rfl (.c 2 rfl (.c 3 rfl (.c 4 rfl (.c 27 rfl .nil))))) ?_
 have h4828 : ¬ (¬ ((tabS.map Cr.code) = (tabS.map Cr.code))) := by simp [mk_length]
 refine sx_condPF rfl h4828 ?_
 refine sx_skip ?_
 refine q_n (k28 _ _ ?_)
 refine sx_seq fun K35 k35 => sx_region ?_
 refine av rfl rfl (wl_nil (q_n (k35 _ _ ?_)))
 refine sx_seq fun K36 k36 => sx_region ?_
 refine mv rfl rfl (mv rfl rfl ?_)
 have f39 := ((ova_14.ext c17).ext c27).ext c34
 refine sx_call rfl rfl Tryd.call9 (c_heldStringS f39.sv (by rw [mkS_length]; decide) (by first | omega | (simp only [mkS_length]; omega)) (by first | assumption | simp [mkS_length])) (fun v40 w40 p40 => ?_)
 obtain ⟨rfl, c40⟩ := p40
 have zw40 := c40.size
 refine av rfl rfl (wl_nil (q_n (k36 _ _ ?_)))
 refine sx_seq fun K41 k41 => ?_
 refine sx_seq fun K42 k42 => sx_region ?_
 refine mv rfl rfl (sp rfl (px_lt rfl rfl) ?_)
 refine wl_nil (q_n (k42 _ _ ?_))
 have h4833 : ¬ (((1 : Int) + ↑((mkS (1 : Int) ((tabS.map Cr.code)).length)).length : Int) < 0) := by omega
 refine sx_condPF rfl h4833 ?_
 refine sx_skip ?_
 refine q_n (k41 _ _ ?_)
 refine sx_seq fun K43 k43 => ?_
 refine sx_seq fun K44 k44 => sx_region ?_
 refine mv rfl rfl (mv rfl rfl (sp rfl (px_ne rfl rfl) ?_))
 refine wl_nil (q_n (k44 _ _ ?_))
 have h4836 : ¬ (((1 : Int) + ↑((mkS (1 : Int) ((tabS.map Cr.code)).length)).length : Int) ≠ (1 : Int) + ↑((tabS.map Cr.code)).length) := by simp [mkS_length]
 refine sx_condPF rfl h4836 ?_
 refine sx_skip ?_
 refine q_n (k43 _ _ ?_)
 refine sx_seq fun K45 k45 => sx_region ?_
 refine av rfl rfl (wl_nil (q_n (k45 _ _ ?_)))
 refine sx_retc ?_
 refine sx_ret1 Tryd.results3 rfl ?_
 have q46 := Chg.step (l := 0) (h := 0) (Chg.zero (l := 0) (h := 0) ((c3.t c6).t c10)) c14 (by omega)
 have q47 := Chg.step (l := 0) (h := 0) q46 (((c17.t c27).t c34).t c40) (by omega)
 exact ⟨rfl, q47⟩

end Go.Proofs.YtemlgjheidbccaaDoor
