/- Contracts of functions of the program: what each call returns, and that it changes nothing that was. Conditions: as each says. -/
import Derived.Test.YtjkeefmpjocilaaTy
import Derived.Test.YtjkeefmpjocilaaNatI
import Derived.Test.YtjkeefmpjocilaaSxW
import Derived.Test.YtjkeefmpjocilaaSxQ
import Derived.Test.YtjkeefmpjocilaaSxR
import Derived.Test.YtjkeefmpjocilaaSxP
import Derived.Test.YtjkeefmpjocilaaRm
import Derived.Test.YtjkeefmpjocilaaL0
import Derived.Test.YtjkeefmpjocilaaNatY
set_option linter.unusedVariables false
set_option linter.unusedSimpArgs false
namespace Go.Proofs.Ytjkeefmpjocilaa
open Go Go.RowKit
set_option maxRecDepth 100000
theorem c_symMergeE3 {w : World} {vd : Value} {lvd uvd tvd : Nat} {ix : List Nat} {ps : List Value} {r : Nat → Nat} {ia : Int} {im : Int} {ib : Int} (hvd : PtO w lvd uvd tvd vd 66 ix ps r) (ha : 0 ≤ ia ∧ ia < im ∧ im < ib ∧ ib ≤ (ix.length : Int) ∧ ix.length ≤ 1000) (hw : ib - ia ≤ 16) (hS : SortTo r ix ix.length) (hr : ∀ i, (dg (r i)).length ≤ 100) :
  Ret Try.prog 103 [vd, .int .i64 ia, .int .i64 im, .int .i64 ib, .func (.func 33) #[] #[]] w fun v w' => v = .tuple #[] ∧ Chg 0 0 w w' := by
 refine sx_enter Try.func103 rfl Try.ntmps103 (nbl rfl) ?_
 refine sx_seq fun K1 k1 => ?_
 refine sx_seq fun K2 k2 => sx_region ?_
 refine mv rfl rfl (mv rfl rfl (sp rfl (px_sub rfl rfl (by omega)) ?_))
 refine sp rfl (px_eq rfl rfl) ?_
 refine wl_nil (q_n (k2 _ _ ?_))
 refine sx_condP rfl (fun h382 => ?_) (fun h382 => ?_)
 ·
  refine sx_seq fun K3 k3 => sx_region ?_
  refine mv rfl rfl (av rfl rfl (wl_nil (q_n (k3 _ _ ?_))))
  refine sx_seq fun K4 k4 => sx_region ?_
  refine mv rfl rfl (av rfl rfl (wl_nil (q_n (k4 _ _ ?_))))
  refine sx_seq fun K5 k5 => ?_
  refine sx_block ?_
  refine sx_loop (fun mm aa w' => ∃ (j : Int), Agr 220 [(0, vd), (1, .int .i64 ia), (2, .int .i64 im), (3, .int .i64 ib), (4, .func (.func 33) #[] #[]), (10, .int .i64 im), (11, .int .i64 j)] aa ∧ Chg 0 0 w w' ∧ (mm = (j - im).toNat) ∧ (im ≤ j ∧ j ≤ ib)) (_) (fun a ha => ⟨ib, ha.sub (Sub.c 0 rfl (.c 1 rfl (.c 2 rfl (.c 3 rfl (.c 4 rfl (.c 10 rfl (.c 11 (look_int (t := 11) rfl (by first | omega | simp)) .nil))))))), Chg.refl _ _ _, rfl, by omega⟩) ?_
  rintro mm aa wl6 ⟨j, hAwl6, cwl6, hm, hj⟩
  refine (show cw Try.prog 220 _ _ _ wl6 from ?_) aa hAwl6
  clear hAwl6
  have zwl6 := cwl6.size
  refine sx_seq fun K7 k7 => ?_
  refine sx_seq fun K8 k8 => sx_region ?_
  refine mv rfl rfl (mv rfl rfl (sp rfl (px_lt rfl rfl) ?_))
  refine wl_nil (q_n (k8 _ _ ?_))
  refine sx_condP rfl (fun h388 => ?_) (fun h388 => ?_)
  ·
   refine sx_skip ?_
   refine q_n (k7 _ _ ?_)
   refine sx_block ?_
   refine sx_seq fun K9 k9 => sx_region ?_
   refine mv rfl rfl (mv rfl rfl (sp rfl (px_add rfl rfl (by omega)) ?_))
   refine sp rfl (px_convU Try.underlying3 Try.underlying108 rfl (by omega)) ?_
   refine sp rfl (px_shrU1 rfl rfl) ?_
   refine sp rfl (px_convI Try.underlying108 Try.underlying3 rfl (by omega)) ?_
   refine av rfl rfl (wl_nil (q_n (k9 _ _ ?_)))
   refine sx_sub (Sub.c 0 rfl (.c 1 rfl (.c 2 rfl (.c 3 rfl (.c 4 rfl (.c 10 rfl (.c 11 rfl (.c 12 rfl .nil)))))))) ?_
   refine sx_seq fun K10 k10 => ?_
   have f11 := hvd.ext cwl6
   refine dx_region (fun w' => Chg 0 0 wl6 w') (by kernel_rfl) (Chg.zero (Chg.drew _)) ?_
   have d12 := Chg.drew wl6
   have s12 : Chg 0 0 wl6 (World.drew wl6) := Chg.zero (Chg.drew _)
   have y12 : (World.drew wl6).heap.size = wl6.heap.size := rfl
   generalize World.drew wl6 = w12 at *
   have zw12 := d12.size
   refine dt 0 rfl rfl rfl rfl s12 (fun _ hS => px_move rfl) ?_
   refine dt 1 rfl rfl rfl rfl s12 (fun _ hS => px_move rfl) ?_
   refine dt 2 rfl rfl rfl rfl s12 (fun _ hS => px_move rfl) ?_
   refine dt 3 rfl rfl rfl rfl s12 (fun _ hS => px_indexK (j := ((im + j) / 2).toNat) rfl rfl (by omega) Try.underlying61 Try.sizeOf66 ((f11.sv).chg hS (by omega)) (by omega)) ?_
   refine dt 4 rfl rfl rfl rfl s12 (fun _ hS => px_load rfl (((f11.sv).chg hS (by omega)).loadA (pt_look (by first | omega | (simp only [List.length_set]; omega))) Try.isAgg66 Try.sizeOf66)) ?_
   refine dt 5 rfl rfl rfl rfl s12 (fun _ hS => px_move rfl) ?_
   refine dt 6 rfl rfl rfl rfl s12 (fun _ hS => px_move rfl) ?_
   refine dt 7 rfl rfl rfl rfl s12 (fun _ hS => px_indexK (j := ia.toNat) rfl rfl (by omega) Try.underlying61 Try.sizeOf66 ((f11.sv).chg hS (by omega)) (by omega)) ?_
   refine dt 8 rfl rfl rfl rfl s12 (fun _ hS => px_load rfl (((f11.sv).chg hS (by omega)).loadA (pt_look (by first | omega | (simp only [List.length_set]; omega))) Try.isAgg66 Try.sizeOf66)) ?_
   refine dx_eff 9 rfl (by kernel_rfl) ?_
   have f13 := (f11.rest (j := ((im + j) / 2).toNat) (by first | omega | (simp only [List.length_set]; omega))).ext d12
   have f14 := (f11.rest (j := ia.toNat) (by first | omega | (simp only [List.length_set]; omega))).ext d12
   refine sx_callV rfl rfl rfl Try.call33 (c_before f13 f14 (⟨hr _, hr _⟩)) (fun v15 w15 p15 => ?_)
   obtain ⟨rfl, c15⟩ := p15
   have zw15 := c15.size
   have s16 : Chg 0 0 wl6 w15 := (d12.t c15)
   refine wl_nil ?_
   refine dx_next s16 ?_
   refine dt 10 rfl rfl rfl rfl s16 (fun _ hS => px_lt rfl rfl) ?_
   refine dx_done (by kernel_rfl) ?_
   refine q_n (k10 _ _ ?_)
   refine sx_sub (Sub.c 0 rfl (.c 1 rfl (.c 2 rfl (.c 3 rfl (.c 4 rfl (.c 10 rfl (.c 11 rfl (.c 12 rfl (.c 50 rfl .nil))))))))) ?_
   have h390 : ¬ ((orC (r (ix.getD (((im + j) / 2).toNat) 0)) (r (ix.getD ia.toNat 0)) (((ix.getD (((im + j) / 2).toNat) 0) : Nat) : Int) (((ix.getD ia.toNat 0) : Nat) : Int) : Int) < 0) := fun hb => bef_asymm (hS _ _ (by omega) (by omega)) (orC_neg.1 hb)
   refine sx_condPF rfl h390 ?_
   refine sx_region ?_
   refine mv rfl rfl (av rfl rfl (wl_nil ?_))
   exact q_bn (fun a ha => ⟨_, by omega, ((im + j) / 2), ha.sub (Sub.c 0 rfl (.c 1 rfl (.c 2 rfl (.c 3 rfl (.c 4 rfl (.c 10 rfl (.c 11 (look_int (t := 11) rfl (by first | omega | simp)) .nil))))))), ((cwl6.t d12).t c15), rfl, by omega⟩)
  refine sx_exit ?_
  refine q_e (q_e (q_bx (q_n (k5 _ _ ?_))))
  refine sx_seq fun K17 k17 => ?_
  refine sx_seq fun K18 k18 => sx_region ?_
  refine mv rfl rfl (av rfl rfl (wl_nil (q_n (k18 _ _ ?_))))
  refine sx_block ?_
  refine sx_loop (fun mm aa w' => Agr 220 [(0, vd), (1, .int .i64 ia), (2, .int .i64 im), (3, .int .i64 ib), (4, .func (.func 33) #[] #[]), (10, .int .i64 im), (13, .int .i64 ia)] aa ∧ Chg 0 0 wl6 w' ∧ (mm = 0)) (_) (fun a ha => ⟨ha.sub (Sub.c 0 rfl (.c 1 rfl (.c 2 rfl (.c 3 rfl (.c 4 rfl (.c 10 rfl (.c 13 rfl .nil))))))), Chg.refl _ _ _, rfl⟩) ?_
  rintro mm aa wl19 ⟨hAwl19, cwl19, hm⟩
  refine (show cw Try.prog 220 _ _ _ wl19 from ?_) aa hAwl19
  clear hAwl19
  have zwl19 := cwl19.size
  refine sx_seq fun K20 k20 => ?_
  refine sx_seq fun K21 k21 => sx_region ?_
  refine mv rfl rfl (mv rfl rfl (sp rfl (px_sub rfl rfl (by omega)) ?_))
  refine sp rfl (px_lt rfl rfl) ?_
  refine wl_nil (q_n (k21 _ _ ?_))
  have h397 : ¬ ((ia : Int) < im - 1) := by omega
  refine sx_condPF rfl h397 ?_
  refine sx_exit ?_
  refine q_e (q_e (q_bx (q_n (k17 _ _ ?_))))
  refine sx_retc ?_
  refine q_r (sx_ret0 rfl ?_)
  exact ⟨rfl, (cwl6.t cwl19)⟩
 refine sx_skip ?_
 refine q_n (k1 _ _ ?_)
 refine sx_seq fun K22 k22 => ?_
 refine sx_seq fun K23 k23 => sx_region ?_
 refine mv rfl rfl (mv rfl rfl (sp rfl (px_sub rfl rfl (by omega)) ?_))
 refine sp rfl (px_eq rfl rfl) ?_
 refine wl_nil (q_n (k23 _ _ ?_))
 refine sx_condP rfl (fun h406 => ?_) (fun h406 => ?_)
 ·
  refine sx_seq fun K24 k24 => sx_region ?_
  refine mv rfl rfl (av rfl rfl (wl_nil (q_n (k24 _ _ ?_))))
  refine sx_sub (Sub.c 0 rfl (.c 1 rfl (.c 2 rfl (.c 3 rfl (.c 4 rfl (.c 14 rfl .nil)))))) ?_
  refine sx_seq fun K25 k25 => sx_region ?_
  refine mv rfl rfl (av rfl rfl (wl_nil (q_n (k25 _ _ ?_))))
  refine sx_seq fun K26 k26 => ?_
  refine sx_block ?_
  refine sx_loop (fun mm aa w' => ∃ (i : Int), Agr 220 [(0, vd), (1, .int .i64 ia), (2, .int .i64 im), (3, .int .i64 ib), (4, .func (.func 33) #[] #[]), (14, .int .i64 i), (15, .int .i64 im)] aa ∧ Chg 0 0 w w' ∧ (mm = (im - i).toNat) ∧ (ia ≤ i ∧ i ≤ im)) (_) (fun a ha => ⟨ia, ha.sub (Sub.c 0 rfl (.c 1 rfl (.c 2 rfl (.c 3 rfl (.c 4 rfl (.c 14 (look_int (t := 14) rfl (by first | omega | simp)) (.c 15 rfl .nil))))))), Chg.refl _ _ _, rfl, by omega⟩) ?_
  rintro mm aa wl27 ⟨i, hAwl27, cwl27, hm, hi⟩
  refine (show cw Try.prog 220 _ _ _ wl27 from ?_) aa hAwl27
  clear hAwl27
  have zwl27 := cwl27.size
  refine sx_seq fun K28 k28 => ?_
  refine sx_seq fun K29 k29 => sx_region ?_
  refine mv rfl rfl (mv rfl rfl (sp rfl (px_lt rfl rfl) ?_))
  refine wl_nil (q_n (k29 _ _ ?_))
  refine sx_condP rfl (fun h412 => ?_) (fun h412 => ?_)
  ·
   refine sx_skip ?_
   refine q_n (k28 _ _ ?_)
   refine sx_block ?_
   refine sx_seq fun K30 k30 => sx_region ?_
   refine mv rfl rfl (mv rfl rfl (sp rfl (px_add rfl rfl (by omega)) ?_))
   refine sp rfl (px_convU Try.underlying3 Try.underlying108 rfl (by omega)) ?_
   refine sp rfl (px_shrU1 rfl rfl) ?_
   refine sp rfl (px_convI Try.underlying108 Try.underlying3 rfl (by omega)) ?_
   refine av rfl rfl (wl_nil (q_n (k30 _ _ ?_)))
   refine sx_sub (Sub.c 0 rfl (.c 1 rfl (.c 2 rfl (.c 3 rfl (.c 4 rfl (.c 14 rfl (.c 15 rfl (.c 16 rfl .nil)))))))) ?_
   refine sx_seq fun K31 k31 => ?_
   have f32 := hvd.ext cwl27
   refine dx_region (fun w' => Chg 0 0 wl27 w') (by kernel_rfl) (Chg.zero (Chg.drew _)) ?_
   have d33 := Chg.drew wl27
   have s33 : Chg 0 0 wl27 (World.drew wl27) := Chg.zero (Chg.drew _)
   have y33 : (World.drew wl27).heap.size = wl27.heap.size := rfl
   generalize World.drew wl27 = w33 at *
   have zw33 := d33.size
   refine dt 0 rfl rfl rfl rfl s33 (fun _ hS => px_move rfl) ?_
   refine dt 1 rfl rfl rfl rfl s33 (fun _ hS => px_move rfl) ?_
   refine dt 2 rfl rfl rfl rfl s33 (fun _ hS => px_move rfl) ?_
   refine dt 3 rfl rfl rfl rfl s33 (fun _ hS => px_indexK (j := im.toNat) rfl rfl (by omega) Try.underlying61 Try.sizeOf66 ((f32.sv).chg hS (by omega)) (by omega)) ?_
   refine dt 4 rfl rfl rfl rfl s33 (fun _ hS => px_load rfl (((f32.sv).chg hS (by omega)).loadA (pt_look (by first | omega | (simp only [List.length_set]; omega))) Try.isAgg66 Try.sizeOf66)) ?_
   refine dt 5 rfl rfl rfl rfl s33 (fun _ hS => px_move rfl) ?_
   refine dt 6 rfl rfl rfl rfl s33 (fun _ hS => px_move rfl) ?_
   refine dt 7 rfl rfl rfl rfl s33 (fun _ hS => px_indexK (j := ((i + im) / 2).toNat) rfl rfl (by omega) Try.underlying61 Try.sizeOf66 ((f32.sv).chg hS (by omega)) (by omega)) ?_
   refine dt 8 rfl rfl rfl rfl s33 (fun _ hS => px_load rfl (((f32.sv).chg hS (by omega)).loadA (pt_look (by first | omega | (simp only [List.length_set]; omega))) Try.isAgg66 Try.sizeOf66)) ?_
   refine dx_eff 9 rfl (by kernel_rfl) ?_
   have f34 := (f32.rest (j := im.toNat) (by first | omega | (simp only [List.length_set]; omega))).ext d33
   have f35 := (f32.rest (j := ((i + im) / 2).toNat) (by first | omega | (simp only [List.length_set]; omega))).ext d33
   refine sx_callV rfl rfl rfl Try.call33 (c_before f34 f35 (⟨hr _, hr _⟩)) (fun v36 w36 p36 => ?_)
   obtain ⟨rfl, c36⟩ := p36
   have zw36 := c36.size
   have s37 : Chg 0 0 wl27 w36 := (d33.t c36)
   refine wl_nil ?_
   refine dx_next s37 ?_
   refine dt 10 rfl rfl rfl rfl s37 (fun _ hS => px_lt rfl rfl) ?_
   refine dt 11 rfl rfl rfl rfl s37 (fun _ hS => px_notP rfl) ?_
   refine dx_done (by kernel_rfl) ?_
   refine q_n (k31 _ _ ?_)
   refine sx_sub (Sub.c 0 rfl (.c 1 rfl (.c 2 rfl (.c 3 rfl (.c 4 rfl (.c 14 rfl (.c 15 rfl (.c 16 rfl (.c 103 rfl .nil))))))))) ?_
   have h414 : ¬ ((orC (r (ix.getD im.toNat 0)) (r (ix.getD (((i + im) / 2).toNat) 0)) (((ix.getD im.toNat 0) : Nat) : Int) (((ix.getD (((i + im) / 2).toNat) 0) : Nat) : Int) : Int) < 0) := fun hb => bef_asymm (hS _ _ (by omega) (by omega)) (orC_neg.1 hb)
   refine sx_condPT rfl h414 ?_
   refine sx_region ?_
   refine mv rfl rfl (sp rfl (px_add rfl rfl (by omega)) ?_)
   refine av rfl rfl (wl_nil ?_)
   exact q_bn (fun a ha => ⟨_, by omega, (((i + im) / 2) + 1), ha.sub (Sub.c 0 rfl (.c 1 rfl (.c 2 rfl (.c 3 rfl (.c 4 rfl (.c 14 (look_int (t := 14) rfl (by first | omega | simp)) (.c 15 rfl .nil))))))), ((cwl27.t d33).t c36), rfl, by omega⟩)
  refine sx_exit ?_
  refine q_e (q_e (q_bx (q_n (k26 _ _ ?_))))
  refine sx_seq fun K38 k38 => ?_
  refine sx_seq fun K39 k39 => sx_region ?_
  refine mv rfl rfl (av rfl rfl (wl_nil (q_n (k39 _ _ ?_))))
  refine sx_block ?_
  refine sx_loop (fun mm aa w' => Agr 220 [(0, vd), (1, .int .i64 ia), (2, .int .i64 im), (3, .int .i64 ib), (4, .func (.func 33) #[] #[]), (14, .int .i64 i), (17, .int .i64 im)] aa ∧ Chg 0 0 wl27 w' ∧ (mm = 0)) (_) (fun a ha => ⟨ha.sub (Sub.c 0 rfl (.c 1 rfl (.c 2 rfl (.c 3 rfl (.c 4 rfl (.c 14 rfl (.c 17 rfl .nil))))))), Chg.refl _ _ _, rfl⟩) ?_
  rintro mm aa wl40 ⟨hAwl40, cwl40, hm⟩
  refine (show cw Try.prog 220 _ _ _ wl40 from ?_) aa hAwl40
  clear hAwl40
  have zwl40 := cwl40.size
  refine sx_seq fun K41 k41 => ?_
  refine sx_seq fun K42 k42 => sx_region ?_
  refine mv rfl rfl (mv rfl rfl (sp rfl (px_gt rfl rfl) ?_))
  refine wl_nil (q_n (k42 _ _ ?_))
  have h421 : ¬ ((i : Int) < im) := by omega
  refine sx_condPF rfl h421 ?_
  refine sx_exit ?_
  refine q_e (q_e (q_bx (q_n (k38 _ _ ?_))))
  refine sx_retc ?_
  refine q_r (sx_ret0 rfl ?_)
  exact ⟨rfl, (cwl27.t cwl40)⟩
 refine sx_skip ?_
 refine q_n (k22 _ _ ?_)
 refine sx_seq fun K43 k43 => sx_region ?_
 refine mv rfl rfl (mv rfl rfl (sp rfl (px_add rfl rfl (by omega)) ?_))
 refine sp rfl (px_convU Try.underlying3 Try.underlying108 rfl (by omega)) ?_
 refine sp rfl (px_shrU1 rfl rfl) ?_
 refine sp rfl (px_convI Try.underlying108 Try.underlying3 rfl (by omega)) ?_
 refine av rfl rfl (wl_nil (q_n (k43 _ _ ?_)))
 refine sx_sub (Sub.c 0 rfl (.c 1 rfl (.c 2 rfl (.c 3 rfl (.c 4 rfl (.c 18 rfl .nil)))))) ?_
 refine sx_seq fun K44 k44 => sx_region ?_
 refine mv rfl rfl (mv rfl rfl (sp rfl (px_add rfl rfl (by omega)) ?_))
 refine av rfl rfl (wl_nil (q_n (k44 _ _ ?_)))
 refine sx_seq fun K45 k45 => sx_region ?_
 refine av rfl rfl (av rfl rfl (wl_nil (q_n (k45 _ _ ?_))))
 refine sx_seq fun K46 k46 => ?_
 refine sx_seq fun K47 k47 => sx_region ?_
 refine mv rfl rfl (mv rfl rfl (sp rfl (px_gt rfl rfl) ?_))
 refine wl_nil (q_n (k47 _ _ ?_))
 refine sx_sub (Sub.c 0 rfl (.c 1 rfl (.c 2 rfl (.c 3 rfl (.c 4 rfl (.c 18 rfl (.c 19 rfl (.c 20 rfl (.c 21 rfl (.c 140 rfl .nil)))))))))) ?_
 refine sx_condP rfl (fun h430 => ?_) (fun h430 => ?_)
 ·
  refine sx_seq fun K48 k48 => sx_region ?_
  refine mv rfl rfl (mv rfl rfl (sp rfl (px_sub rfl rfl (by omega)) ?_))
  refine av rfl rfl (wl_nil (q_n (k48 _ _ ?_)))
  refine sx_region ?_
  refine mv rfl rfl (av rfl rfl (wl_nil (q_n (k46 _ _ ?_))))
  refine sx_seq fun K49 k49 => sx_region ?_
  refine mv rfl rfl (sp rfl (px_sub rfl rfl (by omega)) ?_)
  refine av rfl rfl (wl_nil (q_n (k49 _ _ ?_)))
  refine sx_sub (Sub.c 0 rfl (.c 1 rfl (.c 2 rfl (.c 3 rfl (.c 4 rfl (.c 18 rfl (.c 19 rfl (.c 20 rfl (.c 21 rfl (.c 22 rfl .nil)))))))))) ?_
  refine sx_seq fun K50 k50 => ?_
  refine sx_block ?_
  refine sx_loop (fun mm aa w' => ∃ (s : Int), Agr 220 [(0, vd), (1, .int .i64 ia), (2, .int .i64 im), (3, .int .i64 ib), (4, .func (.func 33) #[] #[]), (18, .int .i64 ((ia + ib) / 2)), (19, .int .i64 (((ia + ib) / 2) + im)), (20, .int .i64 s), (21, .int .i64 ((ia + ib) / 2)), (22, .int .i64 ((((ia + ib) / 2) + im) - 1))] aa ∧ Chg 0 0 w w' ∧ (mm = (((ia + ib) / 2) - s).toNat) ∧ ((((ia + ib) / 2) + im) - ib ≤ s ∧ s ≤ (ia + ib) / 2)) (_) (fun a ha => ⟨((((ia + ib) / 2) + im) - ib), ha.sub (Sub.c 0 rfl (.c 1 rfl (.c 2 rfl (.c 3 rfl (.c 4 rfl (.c 18 rfl (.c 19 rfl (.c 20 (look_int (t := 20) rfl (by first | omega | simp)) (.c 21 rfl (.c 22 rfl .nil)))))))))), Chg.refl _ _ _, rfl, by omega⟩) ?_
  rintro mm aa wl51 ⟨s, hAwl51, cwl51, hm, hs⟩
  refine (show cw Try.prog 220 _ _ _ wl51 from ?_) aa hAwl51
  clear hAwl51
  have zwl51 := cwl51.size
  refine sx_seq fun K52 k52 => ?_
  refine sx_seq fun K53 k53 => sx_region ?_
  refine mv rfl rfl (mv rfl rfl (sp rfl (px_lt rfl rfl) ?_))
  refine wl_nil (q_n (k53 _ _ ?_))
  refine sx_condP rfl (fun h439 => ?_) (fun h439 => ?_)
  ·
   refine sx_skip ?_
   refine q_n (k52 _ _ ?_)
   refine sx_block ?_
   refine sx_seq fun K54 k54 => sx_region ?_
   refine mv rfl rfl (mv rfl rfl (sp rfl (px_add rfl rfl (by omega)) ?_))
   refine sp rfl (px_convU Try.underlying3 Try.underlying108 rfl (by omega)) ?_
   refine sp rfl (px_shrU1 rfl rfl) ?_
   refine sp rfl (px_convI Try.underlying108 Try.underlying3 rfl (by omega)) ?_
   refine av rfl rfl (wl_nil (q_n (k54 _ _ ?_)))
   refine sx_sub (Sub.c 0 rfl (.c 1 rfl (.c 2 rfl (.c 3 rfl (.c 4 rfl (.c 18 rfl (.c 19 rfl (.c 20 rfl (.c 21 rfl (.c 22 rfl (.c 23 rfl .nil))))))))))) ?_
   refine sx_seq fun K55 k55 => ?_
   have f56 := hvd.ext cwl51
   refine dx_region (fun w' => Chg 0 0 wl51 w') (by kernel_rfl) (Chg.zero (Chg.drew _)) ?_
   have d57 := Chg.drew wl51
   have s57 : Chg 0 0 wl51 (World.drew wl51) := Chg.zero (Chg.drew _)
   have y57 : (World.drew wl51).heap.size = wl51.heap.size := rfl
   generalize World.drew wl51 = w57 at *
   have zw57 := d57.size
   refine dt 0 rfl rfl rfl rfl s57 (fun _ hS => px_move rfl) ?_
   refine dt 1 rfl rfl rfl rfl s57 (fun _ hS => px_move rfl) ?_
   refine dt 2 rfl rfl rfl rfl s57 (fun _ hS => px_move rfl) ?_
   refine dt 3 rfl rfl rfl rfl s57 (fun _ hS => px_move rfl) ?_
   refine dt 4 rfl rfl rfl rfl s57 (fun _ hS => px_sub rfl rfl (by omega)) ?_
   refine dt 5 rfl rfl rfl rfl s57 (fun _ hS => px_indexK (j := (((((ia + ib) / 2) + im) - 1).toNat - ((s + ((ia + ib) / 2)) / 2).toNat)) rfl rfl (by omega) Try.underlying61 Try.sizeOf66 ((f56.sv).chg hS (by omega)) (by omega)) ?_
   refine dt 6 rfl rfl rfl rfl s57 (fun _ hS => px_load rfl (((f56.sv).chg hS (by omega)).loadA (pt_look (by first | omega | (simp only [List.length_set]; omega))) Try.isAgg66 Try.sizeOf66)) ?_
   refine dt 7 rfl rfl rfl rfl s57 (fun _ hS => px_move rfl) ?_
   refine dt 8 rfl rfl rfl rfl s57 (fun _ hS => px_move rfl) ?_
   refine dt 9 rfl rfl rfl rfl s57 (fun _ hS => px_indexK (j := ((s + ((ia + ib) / 2)) / 2).toNat) rfl rfl (by omega) Try.underlying61 Try.sizeOf66 ((f56.sv).chg hS (by omega)) (by omega)) ?_
   refine dt 10 rfl rfl rfl rfl s57 (fun _ hS => px_load rfl (((f56.sv).chg hS (by omega)).loadA (pt_look (by first | omega | (simp only [List.length_set]; omega))) Try.isAgg66 Try.sizeOf66)) ?_
   refine dx_eff 11 rfl (by kernel_rfl) ?_
   have f58 := (f56.rest (j := ((((ia + ib) / 2) + im) - 1).toNat - ((s + ((ia + ib) / 2)) / 2).toNat) (by first | omega | (simp only [List.length_set]; omega))).ext d57
   have f59 := (f56.rest (j := ((s + ((ia + ib) / 2)) / 2).toNat) (by first | omega | (simp only [List.length_set]; omega))).ext d57
   refine sx_callV rfl rfl rfl Try.call33 (c_before f58 f59 (⟨hr _, hr _⟩)) (fun v60 w60 p60 => ?_)
   obtain ⟨rfl, c60⟩ := p60
   have zw60 := c60.size
   have s61 : Chg 0 0 wl51 w60 := (d57.t c60)
   refine wl_nil ?_
   refine dx_next s61 ?_
   refine dt 12 rfl rfl rfl rfl s61 (fun _ hS => px_lt rfl rfl) ?_
   refine dt 13 rfl rfl rfl rfl s61 (fun _ hS => px_notP rfl) ?_
   refine dx_done (by kernel_rfl) ?_
   refine q_n (k55 _ _ ?_)
   refine sx_sub (Sub.c 0 rfl (.c 1 rfl (.c 2 rfl (.c 3 rfl (.c 4 rfl (.c 18 rfl (.c 19 rfl (.c 20 rfl (.c 21 rfl (.c 22 rfl (.c 23 rfl (.c 171 rfl .nil)))))))))))) ?_
   have h441 : ¬ ((orC (r (ix.getD (((((ia + ib) / 2) + im) - 1).toNat - ((s + ((ia + ib) / 2)) / 2).toNat) 0)) (r (ix.getD (((s + ((ia + ib) / 2)) / 2).toNat) 0)) (((ix.getD (((((ia + ib) / 2) + im) - 1).toNat - ((s + ((ia + ib) / 2)) / 2).toNat) 0) : Nat) : Int) (((ix.getD (((s + ((ia + ib) / 2)) / 2).toNat) 0) : Nat) : Int) : Int) < 0) := fun hb => bef_asymm (hS _ _ (by omega) (by omega)) (orC_neg.1 hb)
   refine sx_condPT rfl h441 ?_
   refine sx_region ?_
   refine mv rfl rfl (sp rfl (px_add rfl rfl (by omega)) ?_)
   refine av rfl rfl (wl_nil ?_)
   exact q_bn (fun a ha => ⟨_, by omega, (((s + ((ia + ib) / 2)) / 2) + 1), ha.sub (Sub.c 0 rfl (.c 1 rfl (.c 2 rfl (.c 3 rfl (.c 4 rfl (.c 18 rfl (.c 19 rfl (.c 20 (look_int (t := 20) rfl (by first | omega | simp)) (.c 21 rfl (.c 22 rfl .nil)))))))))), ((cwl51.t d57).t c60), rfl, by omega⟩)
  refine sx_exit ?_
  refine q_e (q_e (q_bx (q_n (k50 _ _ ?_))))
  refine sx_seq fun K62 k62 => sx_region ?_
  refine mv rfl rfl (mv rfl rfl (sp rfl (px_sub rfl rfl (by omega)) ?_))
  refine av rfl rfl (wl_nil (q_n (k62 _ _ ?_)))
  refine sx_sub (Sub.c 0 rfl (.c 1 rfl (.c 2 rfl (.c 3 rfl (.c 4 rfl (.c 18 rfl (.c 20 rfl (.c 24 rfl .nil)))))))) ?_
  refine sx_seq fun K63 k63 => ?_
  refine sx_seq fun K64 k64 => sx_region ?_
  refine mv rfl rfl (mv rfl rfl (sp rfl (px_lt rfl rfl) ?_))
  refine mv rfl rfl ?_
  refine sx_tmpP (t := 181) rfl (fun h449 => ?_) (fun h449 => ?_)
  ·
   refine sx_guardT rfl rfl rfl ?_
   refine mv rfl rfl ?_
   refine sx_guardT rfl rfl rfl ?_
   refine mv rfl rfl ?_
   refine sx_guardT rfl rfl rfl ?_
   refine sp rfl (px_lt rfl rfl) ?_
   refine sp rfl (px_pick rfl rfl) ?_
   refine wl_nil (q_n (k64 _ _ ?_))
   refine sx_sub (Sub.c 0 rfl (.c 1 rfl (.c 2 rfl (.c 3 rfl (.c 4 rfl (.c 18 rfl (.c 20 rfl (.c 24 rfl (.c 185 rfl .nil))))))))) ?_
   refine sx_condP rfl (fun h449x1 => ?_) (fun h449x1 => ?_)
   ·
    refine sx_region ?_
    refine mv rfl rfl (mv rfl rfl (mv rfl rfl (mv rfl rfl (mv rfl rfl ?_))))
    have f65 := hvd.ext cwl51
    refine sx_call rfl rfl Try.call104 (c_rotNone f65 (by omega)) (fun v66 w66 p66 => ?_)
    obtain ⟨rfl, c66⟩ := p66
    have zw66 := c66.size
    refine wl_nil (q_n (k63 _ _ ?_))
    refine sx_sub (Sub.c 0 rfl (.c 1 rfl (.c 3 rfl (.c 4 rfl (.c 18 rfl (.c 20 rfl (.c 24 rfl .nil))))))) ?_
    refine sx_seq fun K67 k67 => ?_
    refine sx_seq fun K68 k68 => sx_region ?_
    refine mv rfl rfl (mv rfl rfl (sp rfl (px_lt rfl rfl) ?_))
    refine mv rfl rfl ?_
    refine sx_tmpP (t := 195) rfl (fun h452 => ?_) (fun h452 => ?_)
    ·
     refine sx_guardT rfl rfl rfl ?_
     refine mv rfl rfl ?_
     refine sx_guardT rfl rfl rfl ?_
     refine mv rfl rfl ?_
     refine sx_guardT rfl rfl rfl ?_
     refine sp rfl (px_lt rfl rfl) ?_
     refine sp rfl (px_pick rfl rfl) ?_
     refine wl_nil (q_n (k68 _ _ ?_))
     refine sx_sub (Sub.c 0 rfl (.c 1 rfl (.c 3 rfl (.c 4 rfl (.c 18 rfl (.c 20 rfl (.c 24 rfl (.c 199 rfl .nil)))))))) ?_
     refine sx_condP rfl (fun h452x1 => ?_) (fun h452x1 => ?_)
     ·
      refine sx_region ?_
      refine mv rfl rfl (mv rfl rfl (mv rfl rfl (mv rfl rfl (mv rfl rfl ?_))))
      have f69 := f65.ext c66
      refine sx_call rfl rfl Try.call103 (c_symMergeE2 f69 (by omega) (by omega) (by assumption) (by assumption)) (fun v70 w70 p70 => ?_)
      obtain ⟨rfl, c70⟩ := p70
      have zw70 := c70.size
      refine wl_nil (q_n (k67 _ _ ?_))
      refine sx_seq fun K71 k71 => sx_region ?_
      refine mv rfl rfl (mv rfl rfl (sp rfl (px_lt rfl rfl) ?_))
      refine mv rfl rfl ?_
      refine sx_tmpP (t := 209) rfl (fun h455 => ?_) (fun h455 => ?_)
      ·
       refine sx_guardT rfl rfl rfl ?_
       refine mv rfl rfl ?_
       refine sx_guardT rfl rfl rfl ?_
       refine mv rfl rfl ?_
       refine sx_guardT rfl rfl rfl ?_
       refine sp rfl (px_lt rfl rfl) ?_
       refine sp rfl (px_pick rfl rfl) ?_
       refine wl_nil (q_n (k71 _ _ ?_))
       refine sx_sub (Sub.c 0 rfl (.c 3 rfl (.c 4 rfl (.c 18 rfl (.c 24 rfl (.c 213 rfl .nil)))))) ?_
       refine sx_condP rfl (fun h455x1 => ?_) (fun h455x1 => ?_)
       ·
        refine sx_region ?_
        refine mv rfl rfl (mv rfl rfl (mv rfl rfl (mv rfl rfl (mv rfl rfl ?_))))
        have f72 := f69.ext c70
        refine sx_call rfl rfl Try.call103 (c_symMergeE2 f72 (by omega) (by omega) (by assumption) (by assumption)) (fun v73 w73 p73 => ?_)
        obtain ⟨rfl, c73⟩ := p73
        have zw73 := c73.size
        refine wl_nil ?_
        refine sx_end0 rfl ?_
        exact ⟨rfl, (((cwl51.t c66).t c70).t c73)⟩
       refine sx_skip ?_
       refine sx_end0 rfl ?_
       exact ⟨rfl, ((cwl51.t c66).t c70)⟩
      refine sx_guardF rfl rfl rfl rfl rfl rfl ?_
      refine sx_guardF rfl rfl rfl rfl rfl rfl ?_
      refine sx_guardF rfl rfl rfl rfl rfl rfl ?_
      refine sp rfl (px_pick rfl rfl) ?_
      refine wl_nil (q_n (k71 _ _ ?_))
      refine sx_sub (Sub.c 0 rfl (.c 3 rfl (.c 4 rfl (.c 18 rfl (.c 24 rfl (.c 213 rfl .nil)))))) ?_
      refine sx_condF rfl ?_
      refine sx_skip ?_
      refine sx_end0 rfl ?_
      exact ⟨rfl, ((cwl51.t c66).t c70)⟩
     refine sx_skip ?_
     refine q_n (k67 _ _ ?_)
     refine sx_seq fun K74 k74 => sx_region ?_
     refine mv rfl rfl (mv rfl rfl (sp rfl (px_lt rfl rfl) ?_))
     refine mv rfl rfl ?_
     refine sx_tmpP (t := 209) rfl (fun h455 => ?_) (fun h455 => ?_)
     ·
      refine sx_guardT rfl rfl rfl ?_
      refine mv rfl rfl ?_
      refine sx_guardT rfl rfl rfl ?_
      refine mv rfl rfl ?_
      refine sx_guardT rfl rfl rfl ?_
      refine sp rfl (px_lt rfl rfl) ?_
      refine sp rfl (px_pick rfl rfl) ?_
      refine wl_nil (q_n (k74 _ _ ?_))
      refine sx_sub (Sub.c 0 rfl (.c 3 rfl (.c 4 rfl (.c 18 rfl (.c 24 rfl (.c 213 rfl .nil)))))) ?_
      refine sx_condP rfl (fun h455x1 => ?_) (fun h455x1 => ?_)
      ·
       refine sx_region ?_
       refine mv rfl rfl (mv rfl rfl (mv rfl rfl (mv rfl rfl (mv rfl rfl ?_))))
       have f75 := f65.ext c66
       refine sx_call rfl rfl Try.call103 (c_symMergeE2 f75 (by omega) (by omega) (by assumption) (by assumption)) (fun v76 w76 p76 => ?_)
       obtain ⟨rfl, c76⟩ := p76
       have zw76 := c76.size
       refine wl_nil ?_
       refine sx_end0 rfl ?_
       exact ⟨rfl, ((cwl51.t c66).t c76)⟩
      refine sx_skip ?_
      refine sx_end0 rfl ?_
      exact ⟨rfl, (cwl51.t c66)⟩
     refine sx_guardF rfl rfl rfl rfl rfl rfl ?_
     refine sx_guardF rfl rfl rfl rfl rfl rfl ?_
     refine sx_guardF rfl rfl rfl rfl rfl rfl ?_
     refine sp rfl (px_pick rfl rfl) ?_
     refine wl_nil (q_n (k74 _ _ ?_))
     refine sx_sub (Sub.c 0 rfl (.c 3 rfl (.c 4 rfl (.c 18 rfl (.c 24 rfl (.c 213 rfl .nil)))))) ?_
     refine sx_condF rfl ?_
     refine sx_skip ?_
     refine sx_end0 rfl ?_
     exact ⟨rfl, (cwl51.t c66)⟩
    refine sx_guardF rfl rfl rfl rfl rfl rfl ?_
    refine sx_guardF rfl rfl rfl rfl rfl rfl ?_
    refine sx_guardF rfl rfl rfl rfl rfl rfl ?_
    refine sp rfl (px_pick rfl rfl) ?_
    refine wl_nil (q_n (k68 _ _ ?_))
    refine sx_sub (Sub.c 0 rfl (.c 1 rfl (.c 3 rfl (.c 4 rfl (.c 18 rfl (.c 20 rfl (.c 24 rfl (.c 199 rfl .nil)))))))) ?_
    refine sx_condF rfl ?_
    refine sx_skip ?_
    refine q_n (k67 _ _ ?_)
    refine sx_seq fun K77 k77 => sx_region ?_
    refine mv rfl rfl (mv rfl rfl (sp rfl (px_lt rfl rfl) ?_))
    refine mv rfl rfl ?_
    refine sx_tmpP (t := 209) rfl (fun h455 => ?_) (fun h455 => ?_)
    ·
     refine sx_guardT rfl rfl rfl ?_
     refine mv rfl rfl ?_
     refine sx_guardT rfl rfl rfl ?_
     refine mv rfl rfl ?_
     refine sx_guardT rfl rfl rfl ?_
     refine sp rfl (px_lt rfl rfl) ?_
     refine sp rfl (px_pick rfl rfl) ?_
     refine wl_nil (q_n (k77 _ _ ?_))
     refine sx_sub (Sub.c 0 rfl (.c 3 rfl (.c 4 rfl (.c 18 rfl (.c 24 rfl (.c 213 rfl .nil)))))) ?_
     refine sx_condP rfl (fun h455x1 => ?_) (fun h455x1 => ?_)
     ·
      refine sx_region ?_
      refine mv rfl rfl (mv rfl rfl (mv rfl rfl (mv rfl rfl (mv rfl rfl ?_))))
      have f78 := f65.ext c66
      refine sx_call rfl rfl Try.call103 (c_symMergeE2 f78 (by omega) (by omega) (by assumption) (by assumption)) (fun v79 w79 p79 => ?_)
      obtain ⟨rfl, c79⟩ := p79
      have zw79 := c79.size
      refine wl_nil ?_
      refine sx_end0 rfl ?_
      exact ⟨rfl, ((cwl51.t c66).t c79)⟩
     refine sx_skip ?_
     refine sx_end0 rfl ?_
     exact ⟨rfl, (cwl51.t c66)⟩
    refine sx_guardF rfl rfl rfl rfl rfl rfl ?_
    refine sx_guardF rfl rfl rfl rfl rfl rfl ?_
    refine sx_guardF rfl rfl rfl rfl rfl rfl ?_
    refine sp rfl (px_pick rfl rfl) ?_
    refine wl_nil (q_n (k77 _ _ ?_))
    refine sx_sub (Sub.c 0 rfl (.c 3 rfl (.c 4 rfl (.c 18 rfl (.c 24 rfl (.c 213 rfl .nil)))))) ?_
    refine sx_condF rfl ?_
    refine sx_skip ?_
    refine sx_end0 rfl ?_
    exact ⟨rfl, (cwl51.t c66)⟩
   refine sx_skip ?_
   refine q_n (k63 _ _ ?_)
   refine sx_seq fun K80 k80 => ?_
   refine sx_seq fun K81 k81 => sx_region ?_
   refine mv rfl rfl (mv rfl rfl (sp rfl (px_lt rfl rfl) ?_))
   refine mv rfl rfl ?_
   refine sx_tmpP (t := 195) rfl (fun h452 => ?_) (fun h452 => ?_)
   ·
    refine sx_guardT rfl rfl rfl ?_
    refine mv rfl rfl ?_
    refine sx_guardT rfl rfl rfl ?_
    refine mv rfl rfl ?_
    refine sx_guardT rfl rfl rfl ?_
    refine sp rfl (px_lt rfl rfl) ?_
    refine sp rfl (px_pick rfl rfl) ?_
    refine wl_nil (q_n (k81 _ _ ?_))
    refine sx_sub (Sub.c 0 rfl (.c 1 rfl (.c 3 rfl (.c 4 rfl (.c 18 rfl (.c 20 rfl (.c 24 rfl (.c 199 rfl .nil)))))))) ?_
    refine sx_condP rfl (fun h452x1 => ?_) (fun h452x1 => ?_)
    ·
     refine sx_region ?_
     refine mv rfl rfl (mv rfl rfl (mv rfl rfl (mv rfl rfl (mv rfl rfl ?_))))
     have f82 := hvd.ext cwl51
     refine sx_call rfl rfl Try.call103 (c_symMergeE2 f82 (by omega) (by omega) (by assumption) (by assumption)) (fun v83 w83 p83 => ?_)
     obtain ⟨rfl, c83⟩ := p83
     have zw83 := c83.size
     refine wl_nil (q_n (k80 _ _ ?_))
     refine sx_seq fun K84 k84 => sx_region ?_
     refine mv rfl rfl (mv rfl rfl (sp rfl (px_lt rfl rfl) ?_))
     refine mv rfl rfl ?_
     refine sx_tmpP (t := 209) rfl (fun h455 => ?_) (fun h455 => ?_)
     ·
      refine sx_guardT rfl rfl rfl ?_
      refine mv rfl rfl ?_
      refine sx_guardT rfl rfl rfl ?_
      refine mv rfl rfl ?_
      refine sx_guardT rfl rfl rfl ?_
      refine sp rfl (px_lt rfl rfl) ?_
      refine sp rfl (px_pick rfl rfl) ?_
      refine wl_nil (q_n (k84 _ _ ?_))
      refine sx_sub (Sub.c 0 rfl (.c 3 rfl (.c 4 rfl (.c 18 rfl (.c 24 rfl (.c 213 rfl .nil)))))) ?_
      refine sx_condP rfl (fun h455x1 => ?_) (fun h455x1 => ?_)
      ·
       refine sx_region ?_
       refine mv rfl rfl (mv rfl rfl (mv rfl rfl (mv rfl rfl (mv rfl rfl ?_))))
       have f85 := f82.ext c83
       refine sx_call rfl rfl Try.call103 (c_symMergeE2 f85 (by omega) (by omega) (by assumption) (by assumption)) (fun v86 w86 p86 => ?_)
       obtain ⟨rfl, c86⟩ := p86
       have zw86 := c86.size
       refine wl_nil ?_
       refine sx_end0 rfl ?_
       exact ⟨rfl, ((cwl51.t c83).t c86)⟩
      refine sx_skip ?_
      refine sx_end0 rfl ?_
      exact ⟨rfl, (cwl51.t c83)⟩
     refine sx_guardF rfl rfl rfl rfl rfl rfl ?_
     refine sx_guardF rfl rfl rfl rfl rfl rfl ?_
     refine sx_guardF rfl rfl rfl rfl rfl rfl ?_
     refine sp rfl (px_pick rfl rfl) ?_
     refine wl_nil (q_n (k84 _ _ ?_))
     refine sx_sub (Sub.c 0 rfl (.c 3 rfl (.c 4 rfl (.c 18 rfl (.c 24 rfl (.c 213 rfl .nil)))))) ?_
     refine sx_condF rfl ?_
     refine sx_skip ?_
     refine sx_end0 rfl ?_
     exact ⟨rfl, (cwl51.t c83)⟩
    refine sx_skip ?_
    refine q_n (k80 _ _ ?_)
    refine sx_seq fun K87 k87 => sx_region ?_
    refine mv rfl rfl (mv rfl rfl (sp rfl (px_lt rfl rfl) ?_))
    refine mv rfl rfl ?_
    refine sx_tmpP (t := 209) rfl (fun h455 => ?_) (fun h455 => ?_)
    ·
     refine sx_guardT rfl rfl rfl ?_
     refine mv rfl rfl ?_
     refine sx_guardT rfl rfl rfl ?_
     refine mv rfl rfl ?_
     refine sx_guardT rfl rfl rfl ?_
     refine sp rfl (px_lt rfl rfl) ?_
     refine sp rfl (px_pick rfl rfl) ?_
     refine wl_nil (q_n (k87 _ _ ?_))
     refine sx_sub (Sub.c 0 rfl (.c 3 rfl (.c 4 rfl (.c 18 rfl (.c 24 rfl (.c 213 rfl .nil)))))) ?_
     refine sx_condP rfl (fun h455x1 => ?_) (fun h455x1 => ?_)
     ·
      refine sx_region ?_
      refine mv rfl rfl (mv rfl rfl (mv rfl rfl (mv rfl rfl (mv rfl rfl ?_))))
      have f88 := hvd.ext cwl51
      refine sx_call rfl rfl Try.call103 (c_symMergeE2 f88 (by omega) (by omega) (by assumption) (by assumption)) (fun v89 w89 p89 => ?_)
      obtain ⟨rfl, c89⟩ := p89
      have zw89 := c89.size
      refine wl_nil ?_
      refine sx_end0 rfl ?_
      exact ⟨rfl, (cwl51.t c89)⟩
     refine sx_skip ?_
     refine sx_end0 rfl ?_
     exact ⟨rfl, cwl51⟩
    refine sx_guardF rfl rfl rfl rfl rfl rfl ?_
    refine sx_guardF rfl rfl rfl rfl rfl rfl ?_
    refine sx_guardF rfl rfl rfl rfl rfl rfl ?_
    refine sp rfl (px_pick rfl rfl) ?_
    refine wl_nil (q_n (k87 _ _ ?_))
    refine sx_sub (Sub.c 0 rfl (.c 3 rfl (.c 4 rfl (.c 18 rfl (.c 24 rfl (.c 213 rfl .nil)))))) ?_
    refine sx_condF rfl ?_
    refine sx_skip ?_
    refine sx_end0 rfl ?_
    exact ⟨rfl, cwl51⟩
   refine sx_guardF rfl rfl rfl rfl rfl rfl ?_
   refine sx_guardF rfl rfl rfl rfl rfl rfl ?_
   refine sx_guardF rfl rfl rfl rfl rfl rfl ?_
   refine sp rfl (px_pick rfl rfl) ?_
   refine wl_nil (q_n (k81 _ _ ?_))
   refine sx_sub (Sub.c 0 rfl (.c 1 rfl (.c 3 rfl (.c 4 rfl (.c 18 rfl (.c 20 rfl (.c 24 rfl (.c 199 rfl .nil)))))))) ?_
   refine sx_condF rfl ?_
   refine sx_skip ?_
   refine q_n (k80 _ _ ?_)
   refine sx_seq fun K90 k90 => sx_region ?_
   refine mv rfl rfl (mv rfl rfl (sp rfl (px_lt rfl rfl) ?_))
   refine mv rfl rfl ?_
   refine sx_tmpP (t := 209) rfl (fun h455 => ?_) (fun h455 => ?_)
   ·
    refine sx_guardT rfl rfl rfl ?_
    refine mv rfl rfl ?_
    refine sx_guardT rfl rfl rfl ?_
    refine mv rfl rfl ?_
    refine sx_guardT rfl rfl rfl ?_
    refine sp rfl (px_lt rfl rfl) ?_
    refine sp rfl (px_pick rfl rfl) ?_
    refine wl_nil (q_n (k90 _ _ ?_))
    refine sx_sub (Sub.c 0 rfl (.c 3 rfl (.c 4 rfl (.c 18 rfl (.c 24 rfl (.c 213 rfl .nil)))))) ?_
    refine sx_condP rfl (fun h455x1 => ?_) (fun h455x1 => ?_)
    ·
     refine sx_region ?_
     refine mv rfl rfl (mv rfl rfl (mv rfl rfl (mv rfl rfl (mv rfl rfl ?_))))
     have f91 := hvd.ext cwl51
     refine sx_call rfl rfl Try.call103 (c_symMergeE2 f91 (by omega) (by omega) (by assumption) (by assumption)) (fun v92 w92 p92 => ?_)
     obtain ⟨rfl, c92⟩ := p92
     have zw92 := c92.size
     refine wl_nil ?_
     refine sx_end0 rfl ?_
     exact ⟨rfl, (cwl51.t c92)⟩
    refine sx_skip ?_
    refine sx_end0 rfl ?_
    exact ⟨rfl, cwl51⟩
   refine sx_guardF rfl rfl rfl rfl rfl rfl ?_
   refine sx_guardF rfl rfl rfl rfl rfl rfl ?_
   refine sx_guardF rfl rfl rfl rfl rfl rfl ?_
   refine sp rfl (px_pick rfl rfl) ?_
   refine wl_nil (q_n (k90 _ _ ?_))
   refine sx_sub (Sub.c 0 rfl (.c 3 rfl (.c 4 rfl (.c 18 rfl (.c 24 rfl (.c 213 rfl .nil)))))) ?_
   refine sx_condF rfl ?_
   refine sx_skip ?_
   refine sx_end0 rfl ?_
   exact ⟨rfl, cwl51⟩
  refine sx_guardF rfl rfl rfl rfl rfl rfl ?_
  refine sx_guardF rfl rfl rfl rfl rfl rfl ?_
  refine sx_guardF rfl rfl rfl rfl rfl rfl ?_
  refine sp rfl (px_pick rfl rfl) ?_
  refine wl_nil (q_n (k64 _ _ ?_))
  refine sx_sub (Sub.c 0 rfl (.c 1 rfl (.c 2 rfl (.c 3 rfl (.c 4 rfl (.c 18 rfl (.c 20 rfl (.c 24 rfl (.c 185 rfl .nil))))))))) ?_
  refine sx_condF rfl ?_
  refine sx_skip ?_
  refine q_n (k63 _ _ ?_)
  refine sx_seq fun K93 k93 => ?_
  refine sx_seq fun K94 k94 => sx_region ?_
  refine mv rfl rfl (mv rfl rfl (sp rfl (px_lt rfl rfl) ?_))
  refine mv rfl rfl ?_
  refine sx_tmpP (t := 195) rfl (fun h452 => ?_) (fun h452 => ?_)
  ·
   refine sx_guardT rfl rfl rfl ?_
   refine mv rfl rfl ?_
   refine sx_guardT rfl rfl rfl ?_
   refine mv rfl rfl ?_
   refine sx_guardT rfl rfl rfl ?_
   refine sp rfl (px_lt rfl rfl) ?_
   refine sp rfl (px_pick rfl rfl) ?_
   refine wl_nil (q_n (k94 _ _ ?_))
   refine sx_sub (Sub.c 0 rfl (.c 1 rfl (.c 3 rfl (.c 4 rfl (.c 18 rfl (.c 20 rfl (.c 24 rfl (.c 199 rfl .nil)))))))) ?_
   refine sx_condP rfl (fun h452x1 => ?_) (fun h452x1 => ?_)
   ·
    refine sx_region ?_
    refine mv rfl rfl (mv rfl rfl (mv rfl rfl (mv rfl rfl (mv rfl rfl ?_))))
    have f95 := hvd.ext cwl51
    refine sx_call rfl rfl Try.call103 (c_symMergeE2 f95 (by omega) (by omega) (by assumption) (by assumption)) (fun v96 w96 p96 => ?_)
    obtain ⟨rfl, c96⟩ := p96
    have zw96 := c96.size
    refine wl_nil (q_n (k93 _ _ ?_))
    refine sx_seq fun K97 k97 => sx_region ?_
    refine mv rfl rfl (mv rfl rfl (sp rfl (px_lt rfl rfl) ?_))
    refine mv rfl rfl ?_
    refine sx_tmpP (t := 209) rfl (fun h455 => ?_) (fun h455 => ?_)
    ·
     refine sx_guardT rfl rfl rfl ?_
     refine mv rfl rfl ?_
     refine sx_guardT rfl rfl rfl ?_
     refine mv rfl rfl ?_
     refine sx_guardT rfl rfl rfl ?_
     refine sp rfl (px_lt rfl rfl) ?_
     refine sp rfl (px_pick rfl rfl) ?_
     refine wl_nil (q_n (k97 _ _ ?_))
     refine sx_sub (Sub.c 0 rfl (.c 3 rfl (.c 4 rfl (.c 18 rfl (.c 24 rfl (.c 213 rfl .nil)))))) ?_
     refine sx_condP rfl (fun h455x1 => ?_) (fun h455x1 => ?_)
     ·
      refine sx_region ?_
      refine mv rfl rfl (mv rfl rfl (mv rfl rfl (mv rfl rfl (mv rfl rfl ?_))))
      have f98 := f95.ext c96
      refine sx_call rfl rfl Try.call103 (c_symMergeE2 f98 (by omega) (by omega) (by assumption) (by assumption)) (fun v99 w99 p99 => ?_)
      obtain ⟨rfl, c99⟩ := p99
      have zw99 := c99.size
      refine wl_nil ?_
      refine sx_end0 rfl ?_
      exact ⟨rfl, ((cwl51.t c96).t c99)⟩
     refine sx_skip ?_
     refine sx_end0 rfl ?_
     exact ⟨rfl, (cwl51.t c96)⟩
    refine sx_guardF rfl rfl rfl rfl rfl rfl ?_
    refine sx_guardF rfl rfl rfl rfl rfl rfl ?_
    refine sx_guardF rfl rfl rfl rfl rfl rfl ?_
    refine sp rfl (px_pick rfl rfl) ?_
    refine wl_nil (q_n (k97 _ _ ?_))
    refine sx_sub (Sub.c 0 rfl (.c 3 rfl (.c 4 rfl (.c 18 rfl (.c 24 rfl (.c 213 rfl .nil)))))) ?_
    refine sx_condF rfl ?_
    refine sx_skip ?_
    refine sx_end0 rfl ?_
    exact ⟨rfl, (cwl51.t c96)⟩
   refine sx_skip ?_
   refine q_n (k93 _ _ ?_)
   refine sx_seq fun K100 k100 => sx_region ?_
   refine mv rfl rfl (mv rfl rfl (sp rfl (px_lt rfl rfl) ?_))
   refine mv rfl rfl ?_
   refine sx_tmpP (t := 209) rfl (fun h455 => ?_) (fun h455 => ?_)
   ·
    refine sx_guardT rfl rfl rfl ?_
    refine mv rfl rfl ?_
    refine sx_guardT rfl rfl rfl ?_
    refine mv rfl rfl ?_
    refine sx_guardT rfl rfl rfl ?_
    refine sp rfl (px_lt rfl rfl) ?_
    refine sp rfl (px_pick rfl rfl) ?_
    refine wl_nil (q_n (k100 _ _ ?_))
    refine sx_sub (Sub.c 0 rfl (.c 3 rfl (.c 4 rfl (.c 18 rfl (.c 24 rfl (.c 213 rfl .nil)))))) ?_
    refine sx_condP rfl (fun h455x1 => ?_) (fun h455x1 => ?_)
    ·
     refine sx_region ?_
     refine mv rfl rfl (mv rfl rfl (mv rfl rfl (mv rfl rfl (mv rfl rfl ?_))))
     have f101 := hvd.ext cwl51
     refine sx_call rfl rfl Try.call103 (c_symMergeE2 f101 (by omega) (by omega) (by assumption) (by assumption)) (fun v102 w102 p102 => ?_)
     obtain ⟨rfl, c102⟩ := p102
     have zw102 := c102.size
     refine wl_nil ?_
     refine sx_end0 rfl ?_
     exact ⟨rfl, (cwl51.t c102)⟩
    refine sx_skip ?_
    refine sx_end0 rfl ?_
    exact ⟨rfl, cwl51⟩
   refine sx_guardF rfl rfl rfl rfl rfl rfl ?_
   refine sx_guardF rfl rfl rfl rfl rfl rfl ?_
   refine sx_guardF rfl rfl rfl rfl rfl rfl ?_
   refine sp rfl (px_pick rfl rfl) ?_
   refine wl_nil (q_n (k100 _ _ ?_))
   refine sx_sub (Sub.c 0 rfl (.c 3 rfl (.c 4 rfl (.c 18 rfl (.c 24 rfl (.c 213 rfl .nil)))))) ?_
   refine sx_condF rfl ?_
   refine sx_skip ?_
   refine sx_end0 rfl ?_
   exact ⟨rfl, cwl51⟩
  refine sx_guardF rfl rfl rfl rfl rfl rfl ?_
  refine sx_guardF rfl rfl rfl rfl rfl rfl ?_
  refine sx_guardF rfl rfl rfl rfl rfl rfl ?_
  refine sp rfl (px_pick rfl rfl) ?_
  refine wl_nil (q_n (k94 _ _ ?_))
  refine sx_sub (Sub.c 0 rfl (.c 1 rfl (.c 3 rfl (.c 4 rfl (.c 18 rfl (.c 20 rfl (.c 24 rfl (.c 199 rfl .nil)))))))) ?_
  refine sx_condF rfl ?_
  refine sx_skip ?_
  refine q_n (k93 _ _ ?_)
  refine sx_seq fun K103 k103 => sx_region ?_
  refine mv rfl rfl (mv rfl rfl (sp rfl (px_lt rfl rfl) ?_))
  refine mv rfl rfl ?_
  refine sx_tmpP (t := 209) rfl (fun h455 => ?_) (fun h455 => ?_)
  ·
   refine sx_guardT rfl rfl rfl ?_
   refine mv rfl rfl ?_
   refine sx_guardT rfl rfl rfl ?_
   refine mv rfl rfl ?_
   refine sx_guardT rfl rfl rfl ?_
   refine sp rfl (px_lt rfl rfl) ?_
   refine sp rfl (px_pick rfl rfl) ?_
   refine wl_nil (q_n (k103 _ _ ?_))
   refine sx_sub (Sub.c 0 rfl (.c 3 rfl (.c 4 rfl (.c 18 rfl (.c 24 rfl (.c 213 rfl .nil)))))) ?_
   refine sx_condP rfl (fun h455x1 => ?_) (fun h455x1 => ?_)
   ·
    refine sx_region ?_
    refine mv rfl rfl (mv rfl rfl (mv rfl rfl (mv rfl rfl (mv rfl rfl ?_))))
    have f104 := hvd.ext cwl51
    refine sx_call rfl rfl Try.call103 (c_symMergeE2 f104 (by omega) (by omega) (by assumption) (by assumption)) (fun v105 w105 p105 => ?_)
    obtain ⟨rfl, c105⟩ := p105
    have zw105 := c105.size
    refine wl_nil ?_
    refine sx_end0 rfl ?_
    exact ⟨rfl, (cwl51.t c105)⟩
   refine sx_skip ?_
   refine sx_end0 rfl ?_
   exact ⟨rfl, cwl51⟩
  refine sx_guardF rfl rfl rfl rfl rfl rfl ?_
  refine sx_guardF rfl rfl rfl rfl rfl rfl ?_
  refine sx_guardF rfl rfl rfl rfl rfl rfl ?_
  refine sp rfl (px_pick rfl rfl) ?_
  refine wl_nil (q_n (k103 _ _ ?_))
  refine sx_sub (Sub.c 0 rfl (.c 3 rfl (.c 4 rfl (.c 18 rfl (.c 24 rfl (.c 213 rfl .nil)))))) ?_
  refine sx_condF rfl ?_
  refine sx_skip ?_
  refine sx_end0 rfl ?_
  exact ⟨rfl, cwl51⟩
 refine sx_seq fun K106 k106 => sx_region ?_
 refine mv rfl rfl (av rfl rfl (wl_nil (q_n (k106 _ _ ?_))))
 refine sx_region ?_
 refine mv rfl rfl (av rfl rfl (wl_nil (q_n (k46 _ _ ?_))))
 refine sx_seq fun K107 k107 => sx_region ?_
 refine mv rfl rfl (sp rfl (px_sub rfl rfl (by omega)) ?_)
 refine av rfl rfl (wl_nil (q_n (k107 _ _ ?_)))
 refine sx_sub (Sub.c 0 rfl (.c 1 rfl (.c 2 rfl (.c 3 rfl (.c 4 rfl (.c 18 rfl (.c 19 rfl (.c 20 rfl (.c 21 rfl (.c 22 rfl .nil)))))))))) ?_
 refine sx_seq fun K108 k108 => ?_
 refine sx_block ?_
 refine sx_loop (fun mm aa w' => ∃ (s : Int), Agr 220 [(0, vd), (1, .int .i64 ia), (2, .int .i64 im), (3, .int .i64 ib), (4, .func (.func 33) #[] #[]), (18, .int .i64 ((ia + ib) / 2)), (19, .int .i64 (((ia + ib) / 2) + im)), (20, .int .i64 s), (21, .int .i64 im), (22, .int .i64 ((((ia + ib) / 2) + im) - 1))] aa ∧ Chg 0 0 w w' ∧ (mm = (im - s).toNat) ∧ (ia ≤ s ∧ s ≤ im)) (_) (fun a ha => ⟨ia, ha.sub (Sub.c 0 rfl (.c 1 rfl (.c 2 rfl (.c 3 rfl (.c 4 rfl (.c 18 rfl (.c 19 rfl (.c 20 (look_int (t := 20) rfl (by first | omega | simp)) (.c 21 rfl (.c 22 rfl .nil)))))))))), Chg.refl _ _ _, rfl, by omega⟩) ?_
 rintro mm aa wl109 ⟨s, hAwl109, cwl109, hm, hs⟩
 refine (show cw Try.prog 220 _ _ _ wl109 from ?_) aa hAwl109
 clear hAwl109
 have zwl109 := cwl109.size
 refine sx_seq fun K110 k110 => ?_
 refine sx_seq fun K111 k111 => sx_region ?_
 refine mv rfl rfl (mv rfl rfl (sp rfl (px_lt rfl rfl) ?_))
 refine wl_nil (q_n (k111 _ _ ?_))
 refine sx_condP rfl (fun h439 => ?_) (fun h439 => ?_)
 ·
  refine sx_skip ?_
  refine q_n (k110 _ _ ?_)
  refine sx_block ?_
  refine sx_seq fun K112 k112 => sx_region ?_
  refine mv rfl rfl (mv rfl rfl (sp rfl (px_add rfl rfl (by omega)) ?_))
  refine sp rfl (px_convU Try.underlying3 Try.underlying108 rfl (by omega)) ?_
  refine sp rfl (px_shrU1 rfl rfl) ?_
  refine sp rfl (px_convI Try.underlying108 Try.underlying3 rfl (by omega)) ?_
  refine av rfl rfl (wl_nil (q_n (k112 _ _ ?_)))
  refine sx_sub (Sub.c 0 rfl (.c 1 rfl (.c 2 rfl (.c 3 rfl (.c 4 rfl (.c 18 rfl (.c 19 rfl (.c 20 rfl (.c 21 rfl (.c 22 rfl (.c 23 rfl .nil))))))))))) ?_
  refine sx_seq fun K113 k113 => ?_
  have f114 := hvd.ext cwl109
  refine dx_region (fun w' => Chg 0 0 wl109 w') (by kernel_rfl) (Chg.zero (Chg.drew _)) ?_
  have d115 := Chg.drew wl109
  have s115 : Chg 0 0 wl109 (World.drew wl109) := Chg.zero (Chg.drew _)
  have y115 : (World.drew wl109).heap.size = wl109.heap.size := rfl
  generalize World.drew wl109 = w115 at *
  have zw115 := d115.size
  refine dt 0 rfl rfl rfl rfl s115 (fun _ hS => px_move rfl) ?_
  refine dt 1 rfl rfl rfl rfl s115 (fun _ hS => px_move rfl) ?_
  refine dt 2 rfl rfl rfl rfl s115 (fun _ hS => px_move rfl) ?_
  refine dt 3 rfl rfl rfl rfl s115 (fun _ hS => px_move rfl) ?_
  refine dt 4 rfl rfl rfl rfl s115 (fun _ hS => px_sub rfl rfl (by omega)) ?_
  refine dt 5 rfl rfl rfl rfl s115 (fun _ hS => px_indexK (j := (((((ia + ib) / 2) + im) - 1).toNat - ((s + im) / 2).toNat)) rfl rfl (by omega) Try.underlying61 Try.sizeOf66 ((f114.sv).chg hS (by omega)) (by omega)) ?_
  refine dt 6 rfl rfl rfl rfl s115 (fun _ hS => px_load rfl (((f114.sv).chg hS (by omega)).loadA (pt_look (by first | omega | (simp only [List.length_set]; omega))) Try.isAgg66 Try.sizeOf66)) ?_
  refine dt 7 rfl rfl rfl rfl s115 (fun _ hS => px_move rfl) ?_
  refine dt 8 rfl rfl rfl rfl s115 (fun _ hS => px_move rfl) ?_
  refine dt 9 rfl rfl rfl rfl s115 (fun _ hS => px_indexK (j := ((s + im) / 2).toNat) rfl rfl (by omega) Try.underlying61 Try.sizeOf66 ((f114.sv).chg hS (by omega)) (by omega)) ?_
  refine dt 10 rfl rfl rfl rfl s115 (fun _ hS => px_load rfl (((f114.sv).chg hS (by omega)).loadA (pt_look (by first | omega | (simp only [List.length_set]; omega))) Try.isAgg66 Try.sizeOf66)) ?_
  refine dx_eff 11 rfl (by kernel_rfl) ?_
  have f116 := (f114.rest (j := ((((ia + ib) / 2) + im) - 1).toNat - ((s + im) / 2).toNat) (by first | omega | (simp only [List.length_set]; omega))).ext d115
  have f117 := (f114.rest (j := ((s + im) / 2).toNat) (by first | omega | (simp only [List.length_set]; omega))).ext d115
  refine sx_callV rfl rfl rfl Try.call33 (c_before f116 f117 (⟨hr _, hr _⟩)) (fun v118 w118 p118 => ?_)
  obtain ⟨rfl, c118⟩ := p118
  have zw118 := c118.size
  have s119 : Chg 0 0 wl109 w118 := (d115.t c118)
  refine wl_nil ?_
  refine dx_next s119 ?_
  refine dt 12 rfl rfl rfl rfl s119 (fun _ hS => px_lt rfl rfl) ?_
  refine dt 13 rfl rfl rfl rfl s119 (fun _ hS => px_notP rfl) ?_
  refine dx_done (by kernel_rfl) ?_
  refine q_n (k113 _ _ ?_)
  refine sx_sub (Sub.c 0 rfl (.c 1 rfl (.c 2 rfl (.c 3 rfl (.c 4 rfl (.c 18 rfl (.c 19 rfl (.c 20 rfl (.c 21 rfl (.c 22 rfl (.c 23 rfl (.c 171 rfl .nil)))))))))))) ?_
  have h441 : ¬ ((orC (r (ix.getD (((((ia + ib) / 2) + im) - 1).toNat - ((s + im) / 2).toNat) 0)) (r (ix.getD (((s + im) / 2).toNat) 0)) (((ix.getD (((((ia + ib) / 2) + im) - 1).toNat - ((s + im) / 2).toNat) 0) : Nat) : Int) (((ix.getD (((s + im) / 2).toNat) 0) : Nat) : Int) : Int) < 0) := fun hb => bef_asymm (hS _ _ (by omega) (by omega)) (orC_neg.1 hb)
  refine sx_condPT rfl h441 ?_
  refine sx_region ?_
  refine mv rfl rfl (sp rfl (px_add rfl rfl (by omega)) ?_)
  refine av rfl rfl (wl_nil ?_)
  exact q_bn (fun a ha => ⟨_, by omega, (((s + im) / 2) + 1), ha.sub (Sub.c 0 rfl (.c 1 rfl (.c 2 rfl (.c 3 rfl (.c 4 rfl (.c 18 rfl (.c 19 rfl (.c 20 (look_int (t := 20) rfl (by first | omega | simp)) (.c 21 rfl (.c 22 rfl .nil)))))))))), ((cwl109.t d115).t c118), rfl, by omega⟩)
 refine sx_exit ?_
 refine q_e (q_e (q_bx (q_n (k108 _ _ ?_))))
 refine sx_seq fun K120 k120 => sx_region ?_
 refine mv rfl rfl (mv rfl rfl (sp rfl (px_sub rfl rfl (by omega)) ?_))
 refine av rfl rfl (wl_nil (q_n (k120 _ _ ?_)))
 refine sx_sub (Sub.c 0 rfl (.c 1 rfl (.c 2 rfl (.c 3 rfl (.c 4 rfl (.c 18 rfl (.c 20 rfl (.c 24 rfl .nil)))))))) ?_
 refine sx_seq fun K121 k121 => ?_
 refine sx_seq fun K122 k122 => sx_region ?_
 refine mv rfl rfl (mv rfl rfl (sp rfl (px_lt rfl rfl) ?_))
 refine mv rfl rfl ?_
 refine sx_tmpP (t := 181) rfl (fun h449 => ?_) (fun h449 => ?_)
 ·
  refine sx_guardT rfl rfl rfl ?_
  refine mv rfl rfl ?_
  refine sx_guardT rfl rfl rfl ?_
  refine mv rfl rfl ?_
  refine sx_guardT rfl rfl rfl ?_
  refine sp rfl (px_lt rfl rfl) ?_
  refine sp rfl (px_pick rfl rfl) ?_
  refine wl_nil (q_n (k122 _ _ ?_))
  refine sx_sub (Sub.c 0 rfl (.c 1 rfl (.c 2 rfl (.c 3 rfl (.c 4 rfl (.c 18 rfl (.c 20 rfl (.c 24 rfl (.c 185 rfl .nil))))))))) ?_
  refine sx_condP rfl (fun h449x1 => ?_) (fun h449x1 => ?_)
  ·
   refine sx_region ?_
   refine mv rfl rfl (mv rfl rfl (mv rfl rfl (mv rfl rfl (mv rfl rfl ?_))))
   have f123 := hvd.ext cwl109
   refine sx_call rfl rfl Try.call104 (c_rotNone f123 (by omega)) (fun v124 w124 p124 => ?_)
   obtain ⟨rfl, c124⟩ := p124
   have zw124 := c124.size
   refine wl_nil (q_n (k121 _ _ ?_))
   refine sx_sub (Sub.c 0 rfl (.c 1 rfl (.c 3 rfl (.c 4 rfl (.c 18 rfl (.c 20 rfl (.c 24 rfl .nil))))))) ?_
   refine sx_seq fun K125 k125 => ?_
   refine sx_seq fun K126 k126 => sx_region ?_
   refine mv rfl rfl (mv rfl rfl (sp rfl (px_lt rfl rfl) ?_))
   refine mv rfl rfl ?_
   refine sx_tmpP (t := 195) rfl (fun h452 => ?_) (fun h452 => ?_)
   ·
    refine sx_guardT rfl rfl rfl ?_
    refine mv rfl rfl ?_
    refine sx_guardT rfl rfl rfl ?_
    refine mv rfl rfl ?_
    refine sx_guardT rfl rfl rfl ?_
    refine sp rfl (px_lt rfl rfl) ?_
    refine sp rfl (px_pick rfl rfl) ?_
    refine wl_nil (q_n (k126 _ _ ?_))
    refine sx_sub (Sub.c 0 rfl (.c 1 rfl (.c 3 rfl (.c 4 rfl (.c 18 rfl (.c 20 rfl (.c 24 rfl (.c 199 rfl .nil)))))))) ?_
    refine sx_condP rfl (fun h452x1 => ?_) (fun h452x1 => ?_)
    ·
     refine sx_region ?_
     refine mv rfl rfl (mv rfl rfl (mv rfl rfl (mv rfl rfl (mv rfl rfl ?_))))
     have f127 := f123.ext c124
     refine sx_call rfl rfl Try.call103 (c_symMergeE2 f127 (by omega) (by omega) (by assumption) (by assumption)) (fun v128 w128 p128 => ?_)
     obtain ⟨rfl, c128⟩ := p128
     have zw128 := c128.size
     refine wl_nil (q_n (k125 _ _ ?_))
     refine sx_seq fun K129 k129 => sx_region ?_
     refine mv rfl rfl (mv rfl rfl (sp rfl (px_lt rfl rfl) ?_))
     refine mv rfl rfl ?_
     refine sx_tmpP (t := 209) rfl (fun h455 => ?_) (fun h455 => ?_)
     ·
      refine sx_guardT rfl rfl rfl ?_
      refine mv rfl rfl ?_
      refine sx_guardT rfl rfl rfl ?_
      refine mv rfl rfl ?_
      refine sx_guardT rfl rfl rfl ?_
      refine sp rfl (px_lt rfl rfl) ?_
      refine sp rfl (px_pick rfl rfl) ?_
      refine wl_nil (q_n (k129 _ _ ?_))
      refine sx_sub (Sub.c 0 rfl (.c 3 rfl (.c 4 rfl (.c 18 rfl (.c 24 rfl (.c 213 rfl .nil)))))) ?_
      refine sx_condP rfl (fun h455x1 => ?_) (fun h455x1 => ?_)
      ·
       refine sx_region ?_
       refine mv rfl rfl (mv rfl rfl (mv rfl rfl (mv rfl rfl (mv rfl rfl ?_))))
       have f130 := f127.ext c128
       refine sx_call rfl rfl Try.call103 (c_symMergeE2 f130 (by omega) (by omega) (by assumption) (by assumption)) (fun v131 w131 p131 => ?_)
       obtain ⟨rfl, c131⟩ := p131
       have zw131 := c131.size
       refine wl_nil ?_
       refine sx_end0 rfl ?_
       exact ⟨rfl, (((cwl109.t c124).t c128).t c131)⟩
      refine sx_skip ?_
      refine sx_end0 rfl ?_
      exact ⟨rfl, ((cwl109.t c124).t c128)⟩
     refine sx_guardF rfl rfl rfl rfl rfl rfl ?_
     refine sx_guardF rfl rfl rfl rfl rfl rfl ?_
     refine sx_guardF rfl rfl rfl rfl rfl rfl ?_
     refine sp rfl (px_pick rfl rfl) ?_
     refine wl_nil (q_n (k129 _ _ ?_))
     refine sx_sub (Sub.c 0 rfl (.c 3 rfl (.c 4 rfl (.c 18 rfl (.c 24 rfl (.c 213 rfl .nil)))))) ?_
     refine sx_condF rfl ?_
     refine sx_skip ?_
     refine sx_end0 rfl ?_
     exact ⟨rfl, ((cwl109.t c124).t c128)⟩
    refine sx_skip ?_
    refine q_n (k125 _ _ ?_)
    refine sx_seq fun K132 k132 => sx_region ?_
    refine mv rfl rfl (mv rfl rfl (sp rfl (px_lt rfl rfl) ?_))
    refine mv rfl rfl ?_
    refine sx_tmpP (t := 209) rfl (fun h455 => ?_) (fun h455 => ?_)
    ·
     refine sx_guardT rfl rfl rfl ?_
     refine mv rfl rfl ?_
     refine sx_guardT rfl rfl rfl ?_
     refine mv rfl rfl ?_
     refine sx_guardT rfl rfl rfl ?_
     refine sp rfl (px_lt rfl rfl) ?_
     refine sp rfl (px_pick rfl rfl) ?_
     refine wl_nil (q_n (k132 _ _ ?_))
     refine sx_sub (Sub.c 0 rfl (.c 3 rfl (.c 4 rfl (.c 18 rfl (.c 24 rfl (.c 213 rfl .nil)))))) ?_
     refine sx_condP rfl (fun h455x1 => ?_) (fun h455x1 => ?_)
     ·
      refine sx_region ?_
      refine mv rfl rfl (mv rfl rfl (mv rfl rfl (mv rfl rfl (mv rfl rfl ?_))))
      have f133 := f123.ext c124
      refine sx_call rfl rfl Try.call103 (c_symMergeE2 f133 (by omega) (by omega) (by assumption) (by assumption)) (fun v134 w134 p134 => ?_)
      obtain ⟨rfl, c134⟩ := p134
      have zw134 := c134.size
      refine wl_nil ?_
      refine sx_end0 rfl ?_
      exact ⟨rfl, ((cwl109.t c124).t c134)⟩
     refine sx_skip ?_
     refine sx_end0 rfl ?_
     exact ⟨rfl, (cwl109.t c124)⟩
    refine sx_guardF rfl rfl rfl rfl rfl rfl ?_
    refine sx_guardF rfl rfl rfl rfl rfl rfl ?_
    refine sx_guardF rfl rfl rfl rfl rfl rfl ?_
    refine sp rfl (px_pick rfl rfl) ?_
    refine wl_nil (q_n (k132 _ _ ?_))
    refine sx_sub (Sub.c 0 rfl (.c 3 rfl (.c 4 rfl (.c 18 rfl (.c 24 rfl (.c 213 rfl .nil)))))) ?_
    refine sx_condF rfl ?_
    refine sx_skip ?_
    refine sx_end0 rfl ?_
    exact ⟨rfl, (cwl109.t c124)⟩
   refine sx_guardF rfl rfl rfl rfl rfl rfl ?_
   refine sx_guardF rfl rfl rfl rfl rfl rfl ?_
   refine sx_guardF rfl rfl rfl rfl rfl rfl ?_
   refine sp rfl (px_pick rfl rfl) ?_
   refine wl_nil (q_n (k126 _ _ ?_))
   refine sx_sub (Sub.c 0 rfl (.c 1 rfl (.c 3 rfl (.c 4 rfl (.c 18 rfl (.c 20 rfl (.c 24 rfl (.c 199 rfl .nil)))))))) ?_
   refine sx_condF rfl ?_
   refine sx_skip ?_
   refine q_n (k125 _ _ ?_)
   refine sx_seq fun K135 k135 => sx_region ?_
   refine mv rfl rfl (mv rfl rfl (sp rfl (px_lt rfl rfl) ?_))
   refine mv rfl rfl ?_
   refine sx_tmpP (t := 209) rfl (fun h455 => ?_) (fun h455 => ?_)
   ·
    refine sx_guardT rfl rfl rfl ?_
    refine mv rfl rfl ?_
    refine sx_guardT rfl rfl rfl ?_
    refine mv rfl rfl ?_
    refine sx_guardT rfl rfl rfl ?_
    refine sp rfl (px_lt rfl rfl) ?_
    refine sp rfl (px_pick rfl rfl) ?_
    refine wl_nil (q_n (k135 _ _ ?_))
    refine sx_sub (Sub.c 0 rfl (.c 3 rfl (.c 4 rfl (.c 18 rfl (.c 24 rfl (.c 213 rfl .nil)))))) ?_
    refine sx_condP rfl (fun h455x1 => ?_) (fun h455x1 => ?_)
    ·
     refine sx_region ?_
     refine mv rfl rfl (mv rfl rfl (mv rfl rfl (mv rfl rfl (mv rfl rfl ?_))))
     have f136 := f123.ext c124
     refine sx_call rfl rfl Try.call103 (c_symMergeE2 f136 (by omega) (by omega) (by assumption) (by assumption)) (fun v137 w137 p137 => ?_)
     obtain ⟨rfl, c137⟩ := p137
     have zw137 := c137.size
     refine wl_nil ?_
     refine sx_end0 rfl ?_
     exact ⟨rfl, ((cwl109.t c124).t c137)⟩
    refine sx_skip ?_
    refine sx_end0 rfl ?_
    exact ⟨rfl, (cwl109.t c124)⟩
   refine sx_guardF rfl rfl rfl rfl rfl rfl ?_
   refine sx_guardF rfl rfl rfl rfl rfl rfl ?_
   refine sx_guardF rfl rfl rfl rfl rfl rfl ?_
   refine sp rfl (px_pick rfl rfl) ?_
   refine wl_nil (q_n (k135 _ _ ?_))
   refine sx_sub (Sub.c 0 rfl (.c 3 rfl (.c 4 rfl (.c 18 rfl (.c 24 rfl (.c 213 rfl .nil)))))) ?_
   refine sx_condF rfl ?_
   refine sx_skip ?_
   refine sx_end0 rfl ?_
   exact ⟨rfl, (cwl109.t c124)⟩
  refine sx_skip ?_
  refine q_n (k121 _ _ ?_)
  refine sx_seq fun K138 k138 => ?_
  refine sx_seq fun K139 k139 => sx_region ?_
  refine mv rfl rfl (mv rfl rfl (sp rfl (px_lt rfl rfl) ?_))
  refine mv rfl rfl ?_
  refine sx_tmpP (t := 195) rfl (fun h452 => ?_) (fun h452 => ?_)
  ·
   refine sx_guardT rfl rfl rfl ?_
   refine mv rfl rfl ?_
   refine sx_guardT rfl rfl rfl ?_
   refine mv rfl rfl ?_
   refine sx_guardT rfl rfl rfl ?_
   refine sp rfl (px_lt rfl rfl) ?_
   refine sp rfl (px_pick rfl rfl) ?_
   refine wl_nil (q_n (k139 _ _ ?_))
   refine sx_sub (Sub.c 0 rfl (.c 1 rfl (.c 3 rfl (.c 4 rfl (.c 18 rfl (.c 20 rfl (.c 24 rfl (.c 199 rfl .nil)))))))) ?_
   refine sx_condP rfl (fun h452x1 => ?_) (fun h452x1 => ?_)
   ·
    refine sx_region ?_
    refine mv rfl rfl (mv rfl rfl (mv rfl rfl (mv rfl rfl (mv rfl rfl ?_))))
    have f140 := hvd.ext cwl109
    refine sx_call rfl rfl Try.call103 (c_symMergeE2 f140 (by omega) (by omega) (by assumption) (by assumption)) (fun v141 w141 p141 => ?_)
    obtain ⟨rfl, c141⟩ := p141
    have zw141 := c141.size
    refine wl_nil (q_n (k138 _ _ ?_))
    refine sx_seq fun K142 k142 => sx_region ?_
    refine mv rfl rfl (mv rfl rfl (sp rfl (px_lt rfl rfl) ?_))
    refine mv rfl rfl ?_
    refine sx_tmpP (t := 209) rfl (fun h455 => ?_) (fun h455 => ?_)
    ·
     refine sx_guardT rfl rfl rfl ?_
     refine mv rfl rfl ?_
     refine sx_guardT rfl rfl rfl ?_
     refine mv rfl rfl ?_
     refine sx_guardT rfl rfl rfl ?_
     refine sp rfl (px_lt rfl rfl) ?_
     refine sp rfl (px_pick rfl rfl) ?_
     refine wl_nil (q_n (k142 _ _ ?_))
     refine sx_sub (Sub.c 0 rfl (.c 3 rfl (.c 4 rfl (.c 18 rfl (.c 24 rfl (.c 213 rfl .nil)))))) ?_
     refine sx_condP rfl (fun h455x1 => ?_) (fun h455x1 => ?_)
     ·
      refine sx_region ?_
      refine mv rfl rfl (mv rfl rfl (mv rfl rfl (mv rfl rfl (mv rfl rfl ?_))))
      have f143 := f140.ext c141
      refine sx_call rfl rfl Try.call103 (c_symMergeE2 f143 (by omega) (by omega) (by assumption) (by assumption)) (fun v144 w144 p144 => ?_)
      obtain ⟨rfl, c144⟩ := p144
      have zw144 := c144.size
      refine wl_nil ?_
      refine sx_end0 rfl ?_
      exact ⟨rfl, ((cwl109.t c141).t c144)⟩
     refine sx_skip ?_
     refine sx_end0 rfl ?_
     exact ⟨rfl, (cwl109.t c141)⟩
    refine sx_guardF rfl rfl rfl rfl rfl rfl ?_
    refine sx_guardF rfl rfl rfl rfl rfl rfl ?_
    refine sx_guardF rfl rfl rfl rfl rfl rfl ?_
    refine sp rfl (px_pick rfl rfl) ?_
    refine wl_nil (q_n (k142 _ _ ?_))
    refine sx_sub (Sub.c 0 rfl (.c 3 rfl (.c 4 rfl (.c 18 rfl (.c 24 rfl (.c 213 rfl .nil)))))) ?_
    refine sx_condF rfl ?_
    refine sx_skip ?_
    refine sx_end0 rfl ?_
    exact ⟨rfl, (cwl109.t c141)⟩
   refine sx_skip ?_
   refine q_n (k138 _ _ ?_)
   refine sx_seq fun K145 k145 => sx_region ?_
   refine mv rfl rfl (mv rfl rfl (sp rfl (px_lt rfl rfl) ?_))
   refine mv rfl rfl ?_
   refine sx_tmpP (t := 209) rfl (fun h455 => ?_) (fun h455 => ?_)
   ·
    refine sx_guardT rfl rfl rfl ?_
    refine mv rfl rfl ?_
    refine sx_guardT rfl rfl rfl ?_
    refine mv rfl rfl ?_
    refine sx_guardT rfl rfl rfl ?_
    refine sp rfl (px_lt rfl rfl) ?_
    refine sp rfl (px_pick rfl rfl) ?_
    refine wl_nil (q_n (k145 _ _ ?_))
    refine sx_sub (Sub.c 0 rfl (.c 3 rfl (.c 4 rfl (.c 18 rfl (.c 24 rfl (.c 213 rfl .nil)))))) ?_
    refine sx_condP rfl (fun h455x1 => ?_) (fun h455x1 => ?_)
    ·
     refine sx_region ?_
     refine mv rfl rfl (mv rfl rfl (mv rfl rfl (mv rfl rfl (mv rfl rfl ?_))))
     have f146 := hvd.ext cwl109
     refine sx_call rfl rfl Try.call103 (c_symMergeE2 f146 (by omega) (by omega) (by assumption) (by assumption)) (fun v147 w147 p147 => ?_)
     obtain ⟨rfl, c147⟩ := p147
     have zw147 := c147.size
     refine wl_nil ?_
     refine sx_end0 rfl ?_
     exact ⟨rfl, (cwl109.t c147)⟩
    refine sx_skip ?_
    refine sx_end0 rfl ?_
    exact ⟨rfl, cwl109⟩
   refine sx_guardF rfl rfl rfl rfl rfl rfl ?_
   refine sx_guardF rfl rfl rfl rfl rfl rfl ?_
   refine sx_guardF rfl rfl rfl rfl rfl rfl ?_
   refine sp rfl (px_pick rfl rfl) ?_
   refine wl_nil (q_n (k145 _ _ ?_))
   refine sx_sub (Sub.c 0 rfl (.c 3 rfl (.c 4 rfl (.c 18 rfl (.c 24 rfl (.c 213 rfl .nil)))))) ?_
   refine sx_condF rfl ?_
   refine sx_skip ?_
   refine sx_end0 rfl ?_
   exact ⟨rfl, cwl109⟩
  refine sx_guardF rfl rfl rfl rfl rfl rfl ?_
  refine sx_guardF rfl rfl rfl rfl rfl rfl ?_
  refine sx_guardF rfl rfl rfl rfl rfl rfl ?_
  refine sp rfl (px_pick rfl rfl) ?_
  refine wl_nil (q_n (k139 _ _ ?_))
  refine sx_sub (Sub.c 0 rfl (.c 1 rfl (.c 3 rfl (.c 4 rfl (.c 18 rfl (.c 20 rfl (.c 24 rfl (.c 199 rfl .nil)))))))) ?_
  refine sx_condF rfl ?_
  refine sx_skip ?_
  refine q_n (k138 _ _ ?_)
  refine sx_seq fun K148 k148 => sx_region ?_
  refine mv rfl rfl (mv rfl rfl (sp rfl (px_lt rfl rfl) ?_))
  refine mv rfl rfl ?_
  refine sx_tmpP (t := 209) rfl (fun h455 => ?_) (fun h455 => ?_)
  ·
   refine sx_guardT rfl rfl rfl ?_
   refine mv rfl rfl ?_
   refine sx_guardT rfl rfl rfl ?_
   refine mv rfl rfl ?_
   refine sx_guardT rfl rfl rfl ?_
   refine sp rfl (px_lt rfl rfl) ?_
   refine sp rfl (px_pick rfl rfl) ?_
   refine wl_nil (q_n (k148 _ _ ?_))
   refine sx_sub (Sub.c 0 rfl (.c 3 rfl (.c 4 rfl (.c 18 rfl (.c 24 rfl (.c 213 rfl .nil)))))) ?_
   refine sx_condP rfl (fun h455x1 => ?_) (fun h455x1 => ?_)
   ·
    refine sx_region ?_
    refine mv rfl rfl (mv rfl rfl (mv rfl rfl (mv rfl rfl (mv rfl rfl ?_))))
    have f149 := hvd.ext cwl109
    refine sx_call rfl rfl Try.call103 (c_symMergeE2 f149 (by omega) (by omega) (by assumption) (by assumption)) (fun v150 w150 p150 => ?_)
    obtain ⟨rfl, c150⟩ := p150
    have zw150 := c150.size
    refine wl_nil ?_
    refine sx_end0 rfl ?_
    exact ⟨rfl, (cwl109.t c150)⟩
   refine sx_skip ?_
   refine sx_end0 rfl ?_
   exact ⟨rfl, cwl109⟩
  refine sx_guardF rfl rfl rfl rfl rfl rfl ?_
  refine sx_guardF rfl rfl rfl rfl rfl rfl ?_
  refine sx_guardF rfl rfl rfl rfl rfl rfl ?_
  refine sp rfl (px_pick rfl rfl) ?_
  refine wl_nil (q_n (k148 _ _ ?_))
  refine sx_sub (Sub.c 0 rfl (.c 3 rfl (.c 4 rfl (.c 18 rfl (.c 24 rfl (.c 213 rfl .nil)))))) ?_
  refine sx_condF rfl ?_
  refine sx_skip ?_
  refine sx_end0 rfl ?_
  exact ⟨rfl, cwl109⟩
 refine sx_guardF rfl rfl rfl rfl rfl rfl ?_
 refine sx_guardF rfl rfl rfl rfl rfl rfl ?_
 refine sx_guardF rfl rfl rfl rfl rfl rfl ?_
 refine sp rfl (px_pick rfl rfl) ?_
 refine wl_nil (q_n (k122 _ _ ?_))
 refine sx_sub (Sub.c 0 rfl (.c 1 rfl (.c 2 rfl (.c 3 rfl (.c 4 rfl (.c 18 rfl (.c 20 rfl (.c 24 rfl (.c 185 rfl .nil))))))))) ?_
 refine sx_condF rfl ?_
 refine sx_skip ?_
 refine q_n (k121 _ _ ?_)
 refine sx_seq fun K151 k151 => ?_
 refine sx_seq fun K152 k152 => sx_region ?_
 refine mv rfl rfl (mv rfl rfl (sp rfl (px_lt rfl rfl) ?_))
 refine mv rfl rfl ?_
 refine sx_tmpP (t := 195) rfl (fun h452 => ?_) (fun h452 => ?_)
 ·
  refine sx_guardT rfl rfl rfl ?_
  refine mv rfl rfl ?_
  refine sx_guardT rfl rfl rfl ?_
  refine mv rfl rfl ?_
  refine sx_guardT rfl rfl rfl ?_
  refine sp rfl (px_lt rfl rfl) ?_
  refine sp rfl (px_pick rfl rfl) ?_
  refine wl_nil (q_n (k152 _ _ ?_))
  refine sx_sub (Sub.c 0 rfl (.c 1 rfl (.c 3 rfl (.c 4 rfl (.c 18 rfl (.c 20 rfl (.c 24 rfl (.c 199 rfl .nil)))))))) ?_
  refine sx_condP rfl (fun h452x1 => ?_) (fun h452x1 => ?_)
  ·
   refine sx_region ?_
   refine mv rfl rfl (mv rfl rfl (mv rfl rfl (mv rfl rfl (mv rfl rfl ?_))))
   have f153 := hvd.ext cwl109
   refine sx_call rfl rfl Try.call103 (c_symMergeE2 f153 (by omega) (by omega) (by assumption) (by assumption)) (fun v154 w154 p154 => ?_)
   obtain ⟨rfl, c154⟩ := p154
   have zw154 := c154.size
   refine wl_nil (q_n (k151 _ _ ?_))
   refine sx_seq fun K155 k155 => sx_region ?_
   refine mv rfl rfl (mv rfl rfl (sp rfl (px_lt rfl rfl) ?_))
   refine mv rfl rfl ?_
   refine sx_tmpP (t := 209) rfl (fun h455 => ?_) (fun h455 => ?_)
   ·
    refine sx_guardT rfl rfl rfl ?_
    refine mv rfl rfl ?_
    refine sx_guardT rfl rfl rfl ?_
    refine mv rfl rfl ?_
    refine sx_guardT rfl rfl rfl ?_
    refine sp rfl (px_lt rfl rfl) ?_
    refine sp rfl (px_pick rfl rfl) ?_
    refine wl_nil (q_n (k155 _ _ ?_))
    refine sx_sub (Sub.c 0 rfl (.c 3 rfl (.c 4 rfl (.c 18 rfl (.c 24 rfl (.c 213 rfl .nil)))))) ?_
    refine sx_condP rfl (fun h455x1 => ?_) (fun h455x1 => ?_)
    ·
     refine sx_region ?_
     refine mv rfl rfl (mv rfl rfl (mv rfl rfl (mv rfl rfl (mv rfl rfl ?_))))
     have f156 := f153.ext c154
     refine sx_call rfl rfl Try.call103 (c_symMergeE2 f156 (by omega) (by omega) (by assumption) (by assumption)) (fun v157 w157 p157 => ?_)
     obtain ⟨rfl, c157⟩ := p157
     have zw157 := c157.size
     refine wl_nil ?_
     refine sx_end0 rfl ?_
     exact ⟨rfl, ((cwl109.t c154).t c157)⟩
    refine sx_skip ?_
    refine sx_end0 rfl ?_
    exact ⟨rfl, (cwl109.t c154)⟩
   refine sx_guardF rfl rfl rfl rfl rfl rfl ?_
   refine sx_guardF rfl rfl rfl rfl rfl rfl ?_
   refine sx_guardF rfl rfl rfl rfl rfl rfl ?_
   refine sp rfl (px_pick rfl rfl) ?_
   refine wl_nil (q_n (k155 _ _ ?_))
   refine sx_sub (Sub.c 0 rfl (.c 3 rfl (.c 4 rfl (.c 18 rfl (.c 24 rfl (.c 213 rfl .nil)))))) ?_
   refine sx_condF rfl ?_
   refine sx_skip ?_
   refine sx_end0 rfl ?_
   exact ⟨rfl, (cwl109.t c154)⟩
  refine sx_skip ?_
  refine q_n (k151 _ _ ?_)
  refine sx_seq fun K158 k158 => sx_region ?_
  refine mv rfl rfl (mv rfl rfl (sp rfl (px_lt rfl rfl) ?_))
  refine mv rfl rfl ?_
  refine sx_tmpP (t := 209) rfl (fun h455 => ?_) (fun h455 => ?_)
  ·
   refine sx_guardT rfl rfl rfl ?_
   refine mv rfl rfl ?_
   refine sx_guardT rfl rfl rfl ?_
   refine mv rfl rfl ?_
   refine sx_guardT rfl rfl rfl ?_
   refine sp rfl (px_lt rfl rfl) ?_
   refine sp rfl (px_pick rfl rfl) ?_
   refine wl_nil (q_n (k158 _ _ ?_))
   refine sx_sub (Sub.c 0 rfl (.c 3 rfl (.c 4 rfl (.c 18 rfl (.c 24 rfl (.c 213 rfl .nil)))))) ?_
   refine sx_condP rfl (fun h455x1 => ?_) (fun h455x1 => ?_)
   ·
    refine sx_region ?_
    refine mv rfl rfl (mv rfl rfl (mv rfl rfl (mv rfl rfl (mv rfl rfl ?_))))
    have f159 := hvd.ext cwl109
    refine sx_call rfl rfl Try.call103 (c_symMergeE2 f159 (by omega) (by omega) (by assumption) (by assumption)) (fun v160 w160 p160 => ?_)
    obtain ⟨rfl, c160⟩ := p160
    have zw160 := c160.size
    refine wl_nil ?_
    refine sx_end0 rfl ?_
    exact ⟨rfl, (cwl109.t c160)⟩
   refine sx_skip ?_
   refine sx_end0 rfl ?_
   exact ⟨rfl, cwl109⟩
  refine sx_guardF rfl rfl rfl rfl rfl rfl ?_
  refine sx_guardF rfl rfl rfl rfl rfl rfl ?_
  refine sx_guardF rfl rfl rfl rfl rfl rfl ?_
  refine sp rfl (px_pick rfl rfl) ?_
  refine wl_nil (q_n (k158 _ _ ?_))
  refine sx_sub (Sub.c 0 rfl (.c 3 rfl (.c 4 rfl (.c 18 rfl (.c 24 rfl (.c 213 rfl .nil)))))) ?_
  refine sx_condF rfl ?_
  refine sx_skip ?_
  refine sx_end0 rfl ?_
  exact ⟨rfl, cwl109⟩
 refine sx_guardF rfl rfl rfl rfl rfl rfl ?_
 refine sx_guardF rfl rfl rfl rfl rfl rfl ?_
 refine sx_guardF rfl rfl rfl rfl rfl rfl ?_
 refine sp rfl (px_pick rfl rfl) ?_
 refine wl_nil (q_n (k152 _ _ ?_))
 refine sx_sub (Sub.c 0 rfl (.c 1 rfl (.c 3 rfl (.c 4 rfl (.c 18 rfl (.c 20 rfl (.c 24 rfl (.c 199 rfl .nil)))))))) ?_
 refine sx_condF rfl ?_
 refine sx_skip ?_
 refine q_n (k151 _ _ ?_)
 refine sx_seq fun K161 k161 => sx_region ?_
 refine mv rfl rfl (mv rfl rfl (sp rfl (px_lt rfl rfl) ?_))
 refine mv rfl rfl ?_
 refine sx_tmpP (t := 209) rfl (fun h455 => ?_) (fun h455 => ?_)
 ·
  refine sx_guardT rfl rfl rfl ?_
  refine mv rfl rfl ?_
  refine sx_guardT rfl rfl rfl ?_
  refine mv rfl rfl ?_
  refine sx_guardT rfl rfl rfl ?_
  refine sp rfl (px_lt rfl rfl) ?_
  refine sp rfl (px_pick rfl rfl) ?_
  refine wl_nil (q_n (k161 _ _ ?_))
  refine sx_sub (Sub.c 0 rfl (.c 3 rfl (.c 4 rfl (.c 18 rfl (.c 24 rfl (.c 213 rfl .nil)))))) ?_
  refine sx_condP rfl (fun h455x1 => ?_) (fun h455x1 => ?_)
  ·
   refine sx_region ?_
   refine mv rfl rfl (mv rfl rfl (mv rfl rfl (mv rfl rfl (mv rfl rfl ?_))))
   have f162 := hvd.ext cwl109
   refine sx_call rfl rfl Try.call103 (c_symMergeE2 f162 (by omega) (by omega) (by assumption) (by assumption)) (fun v163 w163 p163 => ?_)
   obtain ⟨rfl, c163⟩ := p163
   have zw163 := c163.size
   refine wl_nil ?_
   refine sx_end0 rfl ?_
   exact ⟨rfl, (cwl109.t c163)⟩
  refine sx_skip ?_
  refine sx_end0 rfl ?_
  exact ⟨rfl, cwl109⟩
 refine sx_guardF rfl rfl rfl rfl rfl rfl ?_
 refine sx_guardF rfl rfl rfl rfl rfl rfl ?_
 refine sx_guardF rfl rfl rfl rfl rfl rfl ?_
 refine sp rfl (px_pick rfl rfl) ?_
 refine wl_nil (q_n (k161 _ _ ?_))
 refine sx_sub (Sub.c 0 rfl (.c 3 rfl (.c 4 rfl (.c 18 rfl (.c 24 rfl (.c 213 rfl .nil)))))) ?_
 refine sx_condF rfl ?_
 refine sx_skip ?_
 refine sx_end0 rfl ?_
 exact ⟨rfl, cwl109⟩

theorem c_symMergeE4 {w : World} {vd : Value} {lvd uvd tvd : Nat} {ix : List Nat} {ps : List Value} {r : Nat → Nat} {ia : Int} {im : Int} {ib : Int} (hvd : PtO w lvd uvd tvd vd 66 ix ps r) (ha : 0 ≤ ia ∧ ia < im ∧ im < ib ∧ ib ≤ (ix.length : Int) ∧ ix.length ≤ 1000) (hw : ib - ia ≤ 32) (hS : SortTo r ix ix.length) (hr : ∀ i, (dg (r i)).length ≤ 100) :
  Ret Try.prog 103 [vd, .int .i64 ia, .int .i64 im, .int .i64 ib, .func (.func 33) #[] #[]] w fun v w' => v = .tuple #[] ∧ Chg 0 0 w w' := by
 refine sx_enter Try.func103 rfl Try.ntmps103 (nbl rfl) ?_
 refine sx_seq fun K1 k1 => ?_
 refine sx_seq fun K2 k2 => sx_region ?_
 refine mv rfl rfl (mv rfl rfl (sp rfl (px_sub rfl rfl (by omega)) ?_))
 refine sp rfl (px_eq rfl rfl) ?_
 refine wl_nil (q_n (k2 _ _ ?_))
 refine sx_condP rfl (fun h382 => ?_) (fun h382 => ?_)
 ·
  refine sx_seq fun K3 k3 => sx_region ?_
  refine mv rfl rfl (av rfl rfl (wl_nil (q_n (k3 _ _ ?_))))
  refine sx_seq fun K4 k4 => sx_region ?_
  refine mv rfl rfl (av rfl rfl (wl_nil (q_n (k4 _ _ ?_))))
  refine sx_seq fun K5 k5 => ?_
  refine sx_block ?_
  refine sx_loop (fun mm aa w' => ∃ (j : Int), Agr 220 [(0, vd), (1, .int .i64 ia), (2, .int .i64 im), (3, .int .i64 ib), (4, .func (.func 33) #[] #[]), (10, .int .i64 im), (11, .int .i64 j)] aa ∧ Chg 0 0 w w' ∧ (mm = (j - im).toNat) ∧ (im ≤ j ∧ j ≤ ib)) (_) (fun a ha => ⟨ib, ha.sub (Sub.c 0 rfl (.c 1 rfl (.c 2 rfl (.c 3 rfl (.c 4 rfl (.c 10 rfl (.c 11 (look_int (t := 11) rfl (by first | omega | simp)) .nil))))))), Chg.refl _ _ _, rfl, by omega⟩) ?_
  rintro mm aa wl6 ⟨j, hAwl6, cwl6, hm, hj⟩
  refine (show cw Try.prog 220 _ _ _ wl6 from ?_) aa hAwl6
  clear hAwl6
  have zwl6 := cwl6.size
  refine sx_seq fun K7 k7 => ?_
  refine sx_seq fun K8 k8 => sx_region ?_
  refine mv rfl rfl (mv rfl rfl (sp rfl (px_lt rfl rfl) ?_))
  refine wl_nil (q_n (k8 _ _ ?_))
  refine sx_condP rfl (fun h388 => ?_) (fun h388 => ?_)
  ·
   refine sx_skip ?_
   refine q_n (k7 _ _ ?_)
   refine sx_block ?_
   refine sx_seq fun K9 k9 => sx_region ?_
   refine mv rfl rfl (mv rfl rfl (sp rfl (px_add rfl rfl (by omega)) ?_))
   refine sp rfl (px_convU Try.underlying3 Try.underlying108 rfl (by omega)) ?_
   refine sp rfl (px_shrU1 rfl rfl) ?_
   refine sp rfl (px_convI Try.underlying108 Try.underlying3 rfl (by omega)) ?_
   refine av rfl rfl (wl_nil (q_n (k9 _ _ ?_)))
   refine sx_sub (Sub.c 0 rfl (.c 1 rfl (.c 2 rfl (.c 3 rfl (.c 4 rfl (.c 10 rfl (.c 11 rfl (.c 12 rfl .nil)))))))) ?_
   refine sx_seq fun K10 k10 => ?_
   have f11 := hvd.ext cwl6
   refine dx_region (fun w' => Chg 0 0 wl6 w') (by kernel_rfl) (Chg.zero (Chg.drew _)) ?_
   have d12 := Chg.drew wl6
   have s12 : Chg 0 0 wl6 (World.drew wl6) := Chg.zero (Chg.drew _)
   have y12 : (World.drew wl6).heap.size = wl6.heap.size := rfl
   generalize World.drew wl6 = w12 at *
   have zw12 := d12.size
   refine dt 0 rfl rfl rfl rfl s12 (fun _ hS => px_move rfl) ?_
   refine dt 1 rfl rfl rfl rfl s12 (fun _ hS => px_move rfl) ?_
   refine dt 2 rfl rfl rfl rfl s12 (fun _ hS => px_move rfl) ?_
   refine dt 3 rfl rfl rfl rfl s12 (fun _ hS => px_indexK (j := ((im + j) / 2).toNat) rfl rfl (by omega) Try.underlying61 Try.sizeOf66 ((f11.sv).chg hS (by omega)) (by omega)) ?_
   refine dt 4 rfl rfl rfl rfl s12 (fun _ hS => px_load rfl (((f11.sv).chg hS (by omega)).loadA (pt_look (by first | omega | (simp only [List.length_set]; omega))) Try.isAgg66 Try.sizeOf66)) ?_
   refine dt 5 rfl rfl rfl rfl s12 (fun _ hS => px_move rfl) ?_
   refine dt 6 rfl rfl rfl rfl s12 (fun _ hS => px_move rfl) ?_
   refine dt 7 rfl rfl rfl rfl s12 (fun _ hS => px_indexK (j := ia.toNat) rfl rfl (by omega) Try.underlying61 Try.sizeOf66 ((f11.sv).chg hS (by omega)) (by omega)) ?_
   refine dt 8 rfl rfl rfl rfl s12 (fun _ hS => px_load rfl (((f11.sv).chg hS (by omega)).loadA (pt_look (by first | omega | (simp only [List.length_set]; omega))) Try.isAgg66 Try.sizeOf66)) ?_
   refine dx_eff 9 rfl (by kernel_rfl) ?_
   have f13 := (f11.rest (j := ((im + j) / 2).toNat) (by first | omega | (simp only [List.length_set]; omega))).ext d12
   have f14 := (f11.rest (j := ia.toNat) (by first | omega | (simp only [List.length_set]; omega))).ext d12
   refine sx_callV rfl rfl rfl Try.call33 (c_before f13 f14 (⟨hr _, hr _⟩)) (fun v15 w15 p15 => ?_)
   obtain ⟨rfl, c15⟩ := p15
   have zw15 := c15.size
   have s16 : Chg 0 0 wl6 w15 := (d12.t c15)
   refine wl_nil ?_
   refine dx_next s16 ?_
   refine dt 10 rfl rfl rfl rfl s16 (fun _ hS => px_lt rfl rfl) ?_
   refine dx_done (by kernel_rfl) ?_
   refine q_n (k10 _ _ ?_)
   refine sx_sub (Sub.c 0 rfl (.c 1 rfl (.c 2 rfl (.c 3 rfl (.c 4 rfl (.c 10 rfl (.c 11 rfl (.c 12 rfl (.c 50 rfl .nil))))))))) ?_
   have h390 : ¬ ((orC (r (ix.getD (((im + j) / 2).toNat) 0)) (r (ix.getD ia.toNat 0)) (((ix.getD (((im + j) / 2).toNat) 0) : Nat) : Int) (((ix.getD ia.toNat 0) : Nat) : Int) : Int) < 0) := fun hb => bef_asymm (hS _ _ (by omega) (by omega)) (orC_neg.1 hb)
   refine sx_condPF rfl h390 ?_
   refine sx_region ?_
   refine mv rfl rfl (av rfl rfl (wl_nil ?_))
   exact q_bn (fun a ha => ⟨_, by omega, ((im + j) / 2), ha.sub (Sub.c 0 rfl (.c 1 rfl (.c 2 rfl (.c 3 rfl (.c 4 rfl (.c 10 rfl (.c 11 (look_int (t := 11) rfl (by first | omega | simp)) .nil))))))), ((cwl6.t d12).t c15), rfl, by omega⟩)
  refine sx_exit ?_
  refine q_e (q_e (q_bx (q_n (k5 _ _ ?_))))
  refine sx_seq fun K17 k17 => ?_
  refine sx_seq fun K18 k18 => sx_region ?_
  refine mv rfl rfl (av rfl rfl (wl_nil (q_n (k18 _ _ ?_))))
  refine sx_block ?_
  refine sx_loop (fun mm aa w' => Agr 220 [(0, vd), (1, .int .i64 ia), (2, .int .i64 im), (3, .int .i64 ib), (4, .func (.func 33) #[] #[]), (10, .int .i64 im), (13, .int .i64 ia)] aa ∧ Chg 0 0 wl6 w' ∧ (mm = 0)) (_) (fun a ha => ⟨ha.sub (Sub.c 0 rfl (.c 1 rfl (.c 2 rfl (.c 3 rfl (.c 4 rfl (.c 10 rfl (.c 13 rfl .nil))))))), Chg.refl _ _ _, rfl⟩) ?_
  rintro mm aa wl19 ⟨hAwl19, cwl19, hm⟩
  refine (show cw Try.prog 220 _ _ _ wl19 from ?_) aa hAwl19
  clear hAwl19
  have zwl19 := cwl19.size
  refine sx_seq fun K20 k20 => ?_
  refine sx_seq fun K21 k21 => sx_region ?_
  refine mv rfl rfl (mv rfl rfl (sp rfl (px_sub rfl rfl (by omega)) ?_))
  refine sp rfl (px_lt rfl rfl) ?_
  refine wl_nil (q_n (k21 _ _ ?_))
  have h397 : ¬ ((ia : Int) < im - 1) := by omega
  refine sx_condPF rfl h397 ?_
  refine sx_exit ?_
  refine q_e (q_e (q_bx (q_n (k17 _ _ ?_))))
  refine sx_retc ?_
  refine q_r (sx_ret0 rfl ?_)
  exact ⟨rfl, (cwl6.t cwl19)⟩
 refine sx_skip ?_
 refine q_n (k1 _ _ ?_)
 refine sx_seq fun K22 k22 => ?_
 refine sx_seq fun K23 k23 => sx_region ?_
 refine mv rfl rfl (mv rfl rfl (sp rfl (px_sub rfl rfl (by omega)) ?_))
 refine sp rfl (px_eq rfl rfl) ?_
 refine wl_nil (q_n (k23 _ _ ?_))
 refine sx_condP rfl (fun h406 => ?_) (fun h406 => ?_)
 ·
  refine sx_seq fun K24 k24 => sx_region ?_
  refine mv rfl rfl (av rfl rfl (wl_nil (q_n (k24 _ _ ?_))))
  refine sx_sub (Sub.c 0 rfl (.c 1 rfl (.c 2 rfl (.c 3 rfl (.c 4 rfl (.c 14 rfl .nil)))))) ?_
  refine sx_seq fun K25 k25 => sx_region ?_
  refine mv rfl rfl (av rfl rfl (wl_nil (q_n (k25 _ _ ?_))))
  refine sx_seq fun K26 k26 => ?_
  refine sx_block ?_
  refine sx_loop (fun mm aa w' => ∃ (i : Int), Agr 220 [(0, vd), (1, .int .i64 ia), (2, .int .i64 im), (3, .int .i64 ib), (4, .func (.func 33) #[] #[]), (14, .int .i64 i), (15, .int .i64 im)] aa ∧ Chg 0 0 w w' ∧ (mm = (im - i).toNat) ∧ (ia ≤ i ∧ i ≤ im)) (_) (fun a ha => ⟨ia, ha.sub (Sub.c 0 rfl (.c 1 rfl (.c 2 rfl (.c 3 rfl (.c 4 rfl (.c 14 (look_int (t := 14) rfl (by first | omega | simp)) (.c 15 rfl .nil))))))), Chg.refl _ _ _, rfl, by omega⟩) ?_
  rintro mm aa wl27 ⟨i, hAwl27, cwl27, hm, hi⟩
  refine (show cw Try.prog 220 _ _ _ wl27 from ?_) aa hAwl27
  clear hAwl27
  have zwl27 := cwl27.size
  refine sx_seq fun K28 k28 => ?_
  refine sx_seq fun K29 k29 => sx_region ?_
  refine mv rfl rfl (mv rfl rfl (sp rfl (px_lt rfl rfl) ?_))
  refine wl_nil (q_n (k29 _ _ ?_))
  refine sx_condP rfl (fun h412 => ?_) (fun h412 => ?_)
  ·
   refine sx_skip ?_
   refine q_n (k28 _ _ ?_)
   refine sx_block ?_
   refine sx_seq fun K30 k30 => sx_region ?_
   refine mv rfl rfl (mv rfl rfl (sp rfl (px_add rfl rfl (by omega)) ?_))
   refine sp rfl (px_convU Try.underlying3 Try.underlying108 rfl (by omega)) ?_
   refine sp rfl (px_shrU1 rfl rfl) ?_
   refine sp rfl (px_convI Try.underlying108 Try.underlying3 rfl (by omega)) ?_
   refine av rfl rfl (wl_nil (q_n (k30 _ _ ?_)))
   refine sx_sub (Sub.c 0 rfl (.c 1 rfl (.c 2 rfl (.c 3 rfl (.c 4 rfl (.c 14 rfl (.c 15 rfl (.c 16 rfl .nil)))))))) ?_
   refine sx_seq fun K31 k31 => ?_
   have f32 := hvd.ext cwl27
   refine dx_region (fun w' => Chg 0 0 wl27 w') (by kernel_rfl) (Chg.zero (Chg.drew _)) ?_
   have d33 := Chg.drew wl27
   have s33 : Chg 0 0 wl27 (World.drew wl27) := Chg.zero (Chg.drew _)
   have y33 : (World.drew wl27).heap.size = wl27.heap.size := rfl
   generalize World.drew wl27 = w33 at *
   have zw33 := d33.size
   refine dt 0 rfl rfl rfl rfl s33 (fun _ hS => px_move rfl) ?_
   refine dt 1 rfl rfl rfl rfl s33 (fun _ hS => px_move rfl) ?_
   refine dt 2 rfl rfl rfl rfl s33 (fun _ hS => px_move rfl) ?_
   refine dt 3 rfl rfl rfl rfl s33 (fun _ hS => px_indexK (j := im.toNat) rfl rfl (by omega) Try.underlying61 Try.sizeOf66 ((f32.sv).chg hS (by omega)) (by omega)) ?_
   refine dt 4 rfl rfl rfl rfl s33 (fun _ hS => px_load rfl (((f32.sv).chg hS (by omega)).loadA (pt_look (by first | omega | (simp only [List.length_set]; omega))) Try.isAgg66 Try.sizeOf66)) ?_
   refine dt 5 rfl rfl rfl rfl s33 (fun _ hS => px_move rfl) ?_
   refine dt 6 rfl rfl rfl rfl s33 (fun _ hS => px_move rfl) ?_
   refine dt 7 rfl rfl rfl rfl s33 (fun _ hS => px_indexK (j := ((i + im) / 2).toNat) rfl rfl (by omega) Try.underlying61 Try.sizeOf66 ((f32.sv).chg hS (by omega)) (by omega)) ?_
   refine dt 8 rfl rfl rfl rfl s33 (fun _ hS => px_load rfl (((f32.sv).chg hS (by omega)).loadA (pt_look (by first | omega | (simp only [List.length_set]; omega))) Try.isAgg66 Try.sizeOf66)) ?_
   refine dx_eff 9 rfl (by kernel_rfl) ?_
   have f34 := (f32.rest (j := im.toNat) (by first | omega | (simp only [List.length_set]; omega))).ext d33
   have f35 := (f32.rest (j := ((i + im) / 2).toNat) (by first | omega | (simp only [List.length_set]; omega))).ext d33
   refine sx_callV rfl rfl rfl Try.call33 (c_before f34 f35 (⟨hr _, hr _⟩)) (fun v36 w36 p36 => ?_)
   obtain ⟨rfl, c36⟩ := p36
   have zw36 := c36.size
   have s37 : Chg 0 0 wl27 w36 := (d33.t c36)
   refine wl_nil ?_
   refine dx_next s37 ?_
   refine dt 10 rfl rfl rfl rfl s37 (fun _ hS => px_lt rfl rfl) ?_
   refine dt 11 rfl rfl rfl rfl s37 (fun _ hS => px_notP rfl) ?_
   refine dx_done (by kernel_rfl) ?_
   refine q_n (k31 _ _ ?_)
   refine sx_sub (Sub.c 0 rfl (.c 1 rfl (.c 2 rfl (.c 3 rfl (.c 4 rfl (.c 14 rfl (.c 15 rfl (.c 16 rfl (.c 103 rfl .nil))))))))) ?_
   have h414 : ¬ ((orC (r (ix.getD im.toNat 0)) (r (ix.getD (((i + im) / 2).toNat) 0)) (((ix.getD im.toNat 0) : Nat) : Int) (((ix.getD (((i + im) / 2).toNat) 0) : Nat) : Int) : Int) < 0) := fun hb => bef_asymm (hS _ _ (by omega) (by omega)) (orC_neg.1 hb)
   refine sx_condPT rfl h414 ?_
   refine sx_region ?_
   refine mv rfl rfl (sp rfl (px_add rfl rfl (by omega)) ?_)
   refine av rfl rfl (wl_nil ?_)
   exact q_bn (fun a ha => ⟨_, by omega, (((i + im) / 2) + 1), ha.sub (Sub.c 0 rfl (.c 1 rfl (.c 2 rfl (.c 3 rfl (.c 4 rfl (.c 14 (look_int (t := 14) rfl (by first | omega | simp)) (.c 15 rfl .nil))))))), ((cwl27.t d33).t c36), rfl, by omega⟩)
  refine sx_exit ?_
  refine q_e (q_e (q_bx (q_n (k26 _ _ ?_))))
  refine sx_seq fun K38 k38 => ?_
  refine sx_seq fun K39 k39 => sx_region ?_
  refine mv rfl rfl (av rfl rfl (wl_nil (q_n (k39 _ _ ?_))))
  refine sx_block ?_
  refine sx_loop (fun mm aa w' => Agr 220 [(0, vd), (1, .int .i64 ia), (2, .int .i64 im), (3, .int .i64 ib), (4, .func (.func 33) #[] #[]), (14, .int .i64 i), (17, .int .i64 im)] aa ∧ Chg 0 0 wl27 w' ∧ (mm = 0)) (_) (fun a ha => ⟨ha.sub (Sub.c 0 rfl (.c 1 rfl (.c 2 rfl (.c 3 rfl (.c 4 rfl (.c 14 rfl (.c 17 rfl .nil))))))), Chg.refl _ _ _, rfl⟩) ?_
  rintro mm aa wl40 ⟨hAwl40, cwl40, hm⟩
  refine (show cw Try.prog 220 _ _ _ wl40 from ?_) aa hAwl40
  clear hAwl40
  have zwl40 := cwl40.size
  refine sx_seq fun K41 k41 => ?_
  refine sx_seq fun K42 k42 => sx_region ?_
  refine mv rfl rfl (mv rfl rfl (sp rfl (px_gt rfl rfl) ?_))
  refine wl_nil (q_n (k42 _ _ ?_))
  have h421 : ¬ ((i : Int) < im) := by omega
  refine sx_condPF rfl h421 ?_
  refine sx_exit ?_
  refine q_e (q_e (q_bx (q_n (k38 _ _ ?_))))
  refine sx_retc ?_
  refine q_r (sx_ret0 rfl ?_)
  exact ⟨rfl, (cwl27.t cwl40)⟩
 refine sx_skip ?_
 refine q_n (k22 _ _ ?_)
 refine sx_seq fun K43 k43 => sx_region ?_
 refine mv rfl rfl (mv rfl rfl (sp rfl (px_add rfl rfl (by omega)) ?_))
 refine sp rfl (px_convU Try.underlying3 Try.underlying108 rfl (by omega)) ?_
 refine sp rfl (px_shrU1 rfl rfl) ?_
 refine sp rfl (px_convI Try.underlying108 Try.underlying3 rfl (by omega)) ?_
 refine av rfl rfl (wl_nil (q_n (k43 _ _ ?_)))
 refine sx_sub (Sub.c 0 rfl (.c 1 rfl (.c 2 rfl (.c 3 rfl (.c 4 rfl (.c 18 rfl .nil)))))) ?_
 refine sx_seq fun K44 k44 => sx_region ?_
 refine mv rfl rfl (mv rfl rfl (sp rfl (px_add rfl rfl (by omega)) ?_))
 refine av rfl rfl (wl_nil (q_n (k44 _ _ ?_)))
 refine sx_seq fun K45 k45 => sx_region ?_
 refine av rfl rfl (av rfl rfl (wl_nil (q_n (k45 _ _ ?_))))
 refine sx_seq fun K46 k46 => ?_
 refine sx_seq fun K47 k47 => sx_region ?_
 refine mv rfl rfl (mv rfl rfl (sp rfl (px_gt rfl rfl) ?_))
 refine wl_nil (q_n (k47 _ _ ?_))
 refine sx_sub (Sub.c 0 rfl (.c 1 rfl (.c 2 rfl (.c 3 rfl (.c 4 rfl (.c 18 rfl (.c 19 rfl (.c 20 rfl (.c 21 rfl (.c 140 rfl .nil)))))))))) ?_
 refine sx_condP rfl (fun h430 => ?_) (fun h430 => ?_)
 ·
  refine sx_seq fun K48 k48 => sx_region ?_
  refine mv rfl rfl (mv rfl rfl (sp rfl (px_sub rfl rfl (by omega)) ?_))
  refine av rfl rfl (wl_nil (q_n (k48 _ _ ?_)))
  refine sx_region ?_
  refine mv rfl rfl (av rfl rfl (wl_nil (q_n (k46 _ _ ?_))))
  refine sx_seq fun K49 k49 => sx_region ?_
  refine mv rfl rfl (sp rfl (px_sub rfl rfl (by omega)) ?_)
  refine av rfl rfl (wl_nil (q_n (k49 _ _ ?_)))
  refine sx_sub (Sub.c 0 rfl (.c 1 rfl (.c 2 rfl (.c 3 rfl (.c 4 rfl (.c 18 rfl (.c 19 rfl (.c 20 rfl (.c 21 rfl (.c 22 rfl .nil)))))))))) ?_
  refine sx_seq fun K50 k50 => ?_
  refine sx_block ?_
  refine sx_loop (fun mm aa w' => ∃ (s : Int), Agr 220 [(0, vd), (1, .int .i64 ia), (2, .int .i64 im), (3, .int .i64 ib), (4, .func (.func 33) #[] #[]), (18, .int .i64 ((ia + ib) / 2)), (19, .int .i64 (((ia + ib) / 2) + im)), (20, .int .i64 s), (21, .int .i64 ((ia + ib) / 2)), (22, .int .i64 ((((ia + ib) / 2) + im) - 1))] aa ∧ Chg 0 0 w w' ∧ (mm = (((ia + ib) / 2) - s).toNat) ∧ ((((ia + ib) / 2) + im) - ib ≤ s ∧ s ≤ (ia + ib) / 2)) (_) (fun a ha => ⟨((((ia + ib) / 2) + im) - ib), ha.sub (Sub.c 0 rfl (.c 1 rfl (.c 2 rfl (.c 3 rfl (.c 4 rfl (.c 18 rfl (.c 19 rfl (.c 20 (look_int (t := 20) rfl (by first | omega | simp)) (.c 21 rfl (.c 22 rfl .nil)))))))))), Chg.refl _ _ _, rfl, by omega⟩) ?_
  rintro mm aa wl51 ⟨s, hAwl51, cwl51, hm, hs⟩
  refine (show cw Try.prog 220 _ _ _ wl51 from ?_) aa hAwl51
  clear hAwl51
  have zwl51 := cwl51.size
  refine sx_seq fun K52 k52 => ?_
  refine sx_seq fun K53 k53 => sx_region ?_
  refine mv rfl rfl (mv rfl rfl (sp rfl (px_lt rfl rfl) ?_))
  refine wl_nil (q_n (k53 _ _ ?_))
  refine sx_condP rfl (fun h439 => ?_) (fun h439 => ?_)
  ·
   refine sx_skip ?_
   refine q_n (k52 _ _ ?_)
   refine sx_block ?_
   refine sx_seq fun K54 k54 => sx_region ?_
   refine mv rfl rfl (mv rfl rfl (sp rfl (px_add rfl rfl (by omega)) ?_))
   refine sp rfl (px_convU Try.underlying3 Try.underlying108 rfl (by omega)) ?_
   refine sp rfl (px_shrU1 rfl rfl) ?_
   refine sp rfl (px_convI Try.underlying108 Try.underlying3 rfl (by omega)) ?_
   refine av rfl rfl (wl_nil (q_n (k54 _ _ ?_)))
   refine sx_sub (Sub.c 0 rfl (.c 1 rfl (.c 2 rfl (.c 3 rfl (.c 4 rfl (.c 18 rfl (.c 19 rfl (.c 20 rfl (.c 21 rfl (.c 22 rfl (.c 23 rfl .nil))))))))))) ?_
   refine sx_seq fun K55 k55 => ?_
   have f56 := hvd.ext cwl51
   refine dx_region (fun w' => Chg 0 0 wl51 w') (by kernel_rfl) (Chg.zero (Chg.drew _)) ?_
   have d57 := Chg.drew wl51
   have s57 : Chg 0 0 wl51 (World.drew wl51) := Chg.zero (Chg.drew _)
   have y57 : (World.drew wl51).heap.size = wl51.heap.size := rfl
   generalize World.drew wl51 = w57 at *
   have zw57 := d57.size
   refine dt 0 rfl rfl rfl rfl s57 (fun _ hS => px_move rfl) ?_
   refine dt 1 rfl rfl rfl rfl s57 (fun _ hS => px_move rfl) ?_
   refine dt 2 rfl rfl rfl rfl s57 (fun _ hS => px_move rfl) ?_
   refine dt 3 rfl rfl rfl rfl s57 (fun _ hS => px_move rfl) ?_
   refine dt 4 rfl rfl rfl rfl s57 (fun _ hS => px_sub rfl rfl (by omega)) ?_
   refine dt 5 rfl rfl rfl rfl s57 (fun _ hS => px_indexK (j := (((((ia + ib) / 2) + im) - 1).toNat - ((s + ((ia + ib) / 2)) / 2).toNat)) rfl rfl (by omega) Try.underlying61 Try.sizeOf66 ((f56.sv).chg hS (by omega)) (by omega)) ?_
   refine dt 6 rfl rfl rfl rfl s57 (fun _ hS => px_load rfl (((f56.sv).chg hS (by omega)).loadA (pt_look (by first | omega | (simp only [List.length_set]; omega))) Try.isAgg66 Try.sizeOf66)) ?_
   refine dt 7 rfl rfl rfl rfl s57 (fun _ hS => px_move rfl) ?_
   refine dt 8 rfl rfl rfl rfl s57 (fun _ hS => px_move rfl) ?_
   refine dt 9 rfl rfl rfl rfl s57 (fun _ hS => px_indexK (j := ((s + ((ia + ib) / 2)) / 2).toNat) rfl rfl (by omega) Try.underlying61 Try.sizeOf66 ((f56.sv).chg hS (by omega)) (by omega)) ?_
   refine dt 10 rfl rfl rfl rfl s57 (fun _ hS => px_load rfl (((f56.sv).chg hS (by omega)).loadA (pt_look (by first | omega | (simp only [List.length_set]; omega))) Try.isAgg66 Try.sizeOf66)) ?_
   refine dx_eff 11 rfl (by kernel_rfl) ?_
   have f58 := (f56.rest (j := ((((ia + ib) / 2) + im) - 1).toNat - ((s + ((ia + ib) / 2)) / 2).toNat) (by first | omega | (simp only [List.length_set]; omega))).ext d57
   have f59 := (f56.rest (j := ((s + ((ia + ib) / 2)) / 2).toNat) (by first | omega | (simp only [List.length_set]; omega))).ext d57
   refine sx_callV rfl rfl rfl Try.call33 (c_before f58 f59 (⟨hr _, hr _⟩)) (fun v60 w60 p60 => ?_)
   obtain ⟨rfl, c60⟩ := p60
   have zw60 := c60.size
   have s61 : Chg 0 0 wl51 w60 := (d57.t c60)
   refine wl_nil ?_
   refine dx_next s61 ?_
   refine dt 12 rfl rfl rfl rfl s61 (fun _ hS => px_lt rfl rfl) ?_
   refine dt 13 rfl rfl rfl rfl s61 (fun _ hS => px_notP rfl) ?_
   refine dx_done (by kernel_rfl) ?_
   refine q_n (k55 _ _ ?_)
   refine sx_sub (Sub.c 0 rfl (.c 1 rfl (.c 2 rfl (.c 3 rfl (.c 4 rfl (.c 18 rfl (.c 19 rfl (.c 20 rfl (.c 21 rfl (.c 22 rfl (.c 23 rfl (.c 171 rfl .nil)))))))))))) ?_
   have h441 : ¬ ((orC (r (ix.getD (((((ia + ib) / 2) + im) - 1).toNat - ((s + ((ia + ib) / 2)) / 2).toNat) 0)) (r (ix.getD (((s + ((ia + ib) / 2)) / 2).toNat) 0)) (((ix.getD (((((ia + ib) / 2) + im) - 1).toNat - ((s + ((ia + ib) / 2)) / 2).toNat) 0) : Nat) : Int) (((ix.getD (((s + ((ia + ib) / 2)) / 2).toNat) 0) : Nat) : Int) : Int) < 0) := fun hb => bef_asymm (hS _ _ (by omega) (by omega)) (orC_neg.1 hb)
   refine sx_condPT rfl h441 ?_
   refine sx_region ?_
   refine mv rfl rfl (sp rfl (px_add rfl rfl (by omega)) ?_)
   refine av rfl rfl (wl_nil ?_)
   exact q_bn (fun a ha => ⟨_, by omega, (((s + ((ia + ib) / 2)) / 2) + 1), ha.sub (Sub.c 0 rfl (.c 1 rfl (.c 2 rfl (.c 3 rfl (.c 4 rfl (.c 18 rfl (.c 19 rfl (.c 20 (look_int (t := 20) rfl (by first | omega | simp)) (.c 21 rfl (.c 22 rfl .nil)))))))))), ((cwl51.t d57).t c60), rfl, by omega⟩)
  refine sx_exit ?_
  refine q_e (q_e (q_bx (q_n (k50 _ _ ?_))))
  refine sx_seq fun K62 k62 => sx_region ?_
  refine mv rfl rfl (mv rfl rfl (sp rfl (px_sub rfl rfl (by omega)) ?_))
  refine av rfl rfl (wl_nil (q_n (k62 _ _ ?_)))
  refine sx_sub (Sub.c 0 rfl (.c 1 rfl (.c 2 rfl (.c 3 rfl (.c 4 rfl (.c 18 rfl (.c 20 rfl (.c 24 rfl .nil)))))))) ?_
  refine sx_seq fun K63 k63 => ?_
  refine sx_seq fun K64 k64 => sx_region ?_
  refine mv rfl rfl (mv rfl rfl (sp rfl (px_lt rfl rfl) ?_))
  refine mv rfl rfl ?_
  refine sx_tmpP (t := 181) rfl (fun h449 => ?_) (fun h449 => ?_)
  ·
   refine sx_guardT rfl rfl rfl ?_
   refine mv rfl rfl ?_
   refine sx_guardT rfl rfl rfl ?_
   refine mv rfl rfl ?_
   refine sx_guardT rfl rfl rfl ?_
   refine sp rfl (px_lt rfl rfl) ?_
   refine sp rfl (px_pick rfl rfl) ?_
   refine wl_nil (q_n (k64 _ _ ?_))
   refine sx_sub (Sub.c 0 rfl (.c 1 rfl (.c 2 rfl (.c 3 rfl (.c 4 rfl (.c 18 rfl (.c 20 rfl (.c 24 rfl (.c 185 rfl .nil))))))))) ?_
   refine sx_condP rfl (fun h449x1 => ?_) (fun h449x1 => ?_)
   ·
    refine sx_region ?_
    refine mv rfl rfl (mv rfl rfl (mv rfl rfl (mv rfl rfl (mv rfl rfl ?_))))
    have f65 := hvd.ext cwl51
    refine sx_call rfl rfl Try.call104 (c_rotNone f65 (by omega)) (fun v66 w66 p66 => ?_)
    obtain ⟨rfl, c66⟩ := p66
    have zw66 := c66.size
    refine wl_nil (q_n (k63 _ _ ?_))
    refine sx_sub (Sub.c 0 rfl (.c 1 rfl (.c 3 rfl (.c 4 rfl (.c 18 rfl (.c 20 rfl (.c 24 rfl .nil))))))) ?_
    refine sx_seq fun K67 k67 => ?_
    refine sx_seq fun K68 k68 => sx_region ?_
    refine mv rfl rfl (mv rfl rfl (sp rfl (px_lt rfl rfl) ?_))
    refine mv rfl rfl ?_
    refine sx_tmpP (t := 195) rfl (fun h452 => ?_) (fun h452 => ?_)
    ·
     refine sx_guardT rfl rfl rfl ?_
     refine mv rfl rfl ?_
     refine sx_guardT rfl rfl rfl ?_
     refine mv rfl rfl ?_
     refine sx_guardT rfl rfl rfl ?_
     refine sp rfl (px_lt rfl rfl) ?_
     refine sp rfl (px_pick rfl rfl) ?_
     refine wl_nil (q_n (k68 _ _ ?_))
     refine sx_sub (Sub.c 0 rfl (.c 1 rfl (.c 3 rfl (.c 4 rfl (.c 18 rfl (.c 20 rfl (.c 24 rfl (.c 199 rfl .nil)))))))) ?_
     refine sx_condP rfl (fun h452x1 => ?_) (fun h452x1 => ?_)
     ·
      refine sx_region ?_
      refine mv rfl rfl (mv rfl rfl (mv rfl rfl (mv rfl rfl (mv rfl rfl ?_))))
      have f69 := f65.ext c66
      refine sx_call rfl rfl Try.call103 (c_symMergeE3 f69 (by omega) (by omega) (by assumption) (by assumption)) (fun v70 w70 p70 => ?_)
      obtain ⟨rfl, c70⟩ := p70
      have zw70 := c70.size
      refine wl_nil (q_n (k67 _ _ ?_))
      refine sx_seq fun K71 k71 => sx_region ?_
      refine mv rfl rfl (mv rfl rfl (sp rfl (px_lt rfl rfl) ?_))
      refine mv rfl rfl ?_
      refine sx_tmpP (t := 209) rfl (fun h455 => ?_) (fun h455 => ?_)
      ·
       refine sx_guardT rfl rfl rfl ?_
       refine mv rfl rfl ?_
       refine sx_guardT rfl rfl rfl ?_
       refine mv rfl rfl ?_
       refine sx_guardT rfl rfl rfl ?_
       refine sp rfl (px_lt rfl rfl) ?_
       refine sp rfl (px_pick rfl rfl) ?_
       refine wl_nil (q_n (k71 _ _ ?_))
       refine sx_sub (Sub.c 0 rfl (.c 3 rfl (.c 4 rfl (.c 18 rfl (.c 24 rfl (.c 213 rfl .nil)))))) ?_
       refine sx_condP rfl (fun h455x1 => ?_) (fun h455x1 => ?_)
       ·
        refine sx_region ?_
        refine mv rfl rfl (mv rfl rfl (mv rfl rfl (mv rfl rfl (mv rfl rfl ?_))))
        have f72 := f69.ext c70
        refine sx_call rfl rfl Try.call103 (c_symMergeE3 f72 (by omega) (by omega) (by assumption) (by assumption)) (fun v73 w73 p73 => ?_)
        obtain ⟨rfl, c73⟩ := p73
        have zw73 := c73.size
        refine wl_nil ?_
        refine sx_end0 rfl ?_
        exact ⟨rfl, (((cwl51.t c66).t c70).t c73)⟩
       refine sx_skip ?_
       refine sx_end0 rfl ?_
       exact ⟨rfl, ((cwl51.t c66).t c70)⟩
      refine sx_guardF rfl rfl rfl rfl rfl rfl ?_
      refine sx_guardF rfl rfl rfl rfl rfl rfl ?_
      refine sx_guardF rfl rfl rfl rfl rfl rfl ?_
      refine sp rfl (px_pick rfl rfl) ?_
      refine wl_nil (q_n (k71 _ _ ?_))
      refine sx_sub (Sub.c 0 rfl (.c 3 rfl (.c 4 rfl (.c 18 rfl (.c 24 rfl (.c 213 rfl .nil)))))) ?_
      refine sx_condF rfl ?_
      refine sx_skip ?_
      refine sx_end0 rfl ?_
      exact ⟨rfl, ((cwl51.t c66).t c70)⟩
     refine sx_skip ?_
     refine q_n (k67 _ _ ?_)
     refine sx_seq fun K74 k74 => sx_region ?_
     refine mv rfl rfl (mv rfl rfl (sp rfl (px_lt rfl rfl) ?_))
     refine mv rfl rfl ?_
     refine sx_tmpP (t := 209) rfl (fun h455 => ?_) (fun h455 => ?_)
     ·
      refine sx_guardT rfl rfl rfl ?_
      refine mv rfl rfl ?_
      refine sx_guardT rfl rfl rfl ?_
      refine mv rfl rfl ?_
      refine sx_guardT rfl rfl rfl ?_
      refine sp rfl (px_lt rfl rfl) ?_
      refine sp rfl (px_pick rfl rfl) ?_
      refine wl_nil (q_n (k74 _ _ ?_))
      refine sx_sub (Sub.c 0 rfl (.c 3 rfl (.c 4 rfl (.c 18 rfl (.c 24 rfl (.c 213 rfl .nil)))))) ?_
      refine sx_condP rfl (fun h455x1 => ?_) (fun h455x1 => ?_)
      ·
       refine sx_region ?_
       refine mv rfl rfl (mv rfl rfl (mv rfl rfl (mv rfl rfl (mv rfl rfl ?_))))
       have f75 := f65.ext c66
       refine sx_call rfl rfl Try.call103 (c_symMergeE3 f75 (by omega) (by omega) (by assumption) (by assumption)) (fun v76 w76 p76 => ?_)
       obtain ⟨rfl, c76⟩ := p76
       have zw76 := c76.size
       refine wl_nil ?_
       refine sx_end0 rfl ?_
       exact ⟨rfl, ((cwl51.t c66).t c76)⟩
      refine sx_skip ?_
      refine sx_end0 rfl ?_
      exact ⟨rfl, (cwl51.t c66)⟩
     refine sx_guardF rfl rfl rfl rfl rfl rfl ?_
     refine sx_guardF rfl rfl rfl rfl rfl rfl ?_
     refine sx_guardF rfl rfl rfl rfl rfl rfl ?_
     refine sp rfl (px_pick rfl rfl) ?_
     refine wl_nil (q_n (k74 _ _ ?_))
     refine sx_sub (Sub.c 0 rfl (.c 3 rfl (.c 4 rfl (.c 18 rfl (.c 24 rfl (.c 213 rfl .nil)))))) ?_
     refine sx_condF rfl ?_
     refine sx_skip ?_
     refine sx_end0 rfl ?_
     exact ⟨rfl, (cwl51.t c66)⟩
    refine sx_guardF rfl rfl rfl rfl rfl rfl ?_
    refine sx_guardF rfl rfl rfl rfl rfl rfl ?_
    refine sx_guardF rfl rfl rfl rfl rfl rfl ?_
    refine sp rfl (px_pick rfl rfl) ?_
    refine wl_nil (q_n (k68 _ _ ?_))
    refine sx_sub (Sub.c 0 rfl (.c 1 rfl (.c 3 rfl (.c 4 rfl (.c 18 rfl (.c 20 rfl (.c 24 rfl (.c 199 rfl .nil)))))))) ?_
    refine sx_condF rfl ?_
    refine sx_skip ?_
    refine q_n (k67 _ _ ?_)
    refine sx_seq fun K77 k77 => sx_region ?_
    refine mv rfl rfl (mv rfl rfl (sp rfl (px_lt rfl rfl) ?_))
    refine mv rfl rfl ?_
    refine sx_tmpP (t := 209) rfl (fun h455 => ?_) (fun h455 => ?_)
    ·
     refine sx_guardT rfl rfl rfl ?_
     refine mv rfl rfl ?_
     refine sx_guardT rfl rfl rfl ?_
     refine mv rfl rfl ?_
     refine sx_guardT rfl rfl rfl ?_
     refine sp rfl (px_lt rfl rfl) ?_
     refine sp rfl (px_pick rfl rfl) ?_
     refine wl_nil (q_n (k77 _ _ ?_))
     refine sx_sub (Sub.c 0 rfl (.c 3 rfl (.c 4 rfl (.c 18 rfl (.c 24 rfl (.c 213 rfl .nil)))))) ?_
     refine sx_condP rfl (fun h455x1 => ?_) (fun h455x1 => ?_)
     ·
      refine sx_region ?_
      refine mv rfl rfl (mv rfl rfl (mv rfl rfl (mv rfl rfl (mv rfl rfl ?_))))
      have f78 := f65.ext c66
      refine sx_call rfl rfl Try.call103 (c_symMergeE3 f78 (by omega) (by omega) (by assumption) (by assumption)) (fun v79 w79 p79 => ?_)
      obtain ⟨rfl, c79⟩ := p79
      have zw79 := c79.size
      refine wl_nil ?_
      refine sx_end0 rfl ?_
      exact ⟨rfl, ((cwl51.t c66).t c79)⟩
     refine sx_skip ?_
     refine sx_end0 rfl ?_
     exact ⟨rfl, (cwl51.t c66)⟩
    refine sx_guardF rfl rfl rfl rfl rfl rfl ?_
    refine sx_guardF rfl rfl rfl rfl rfl rfl ?_
    refine sx_guardF rfl rfl rfl rfl rfl rfl ?_
    refine sp rfl (px_pick rfl rfl) ?_
    refine wl_nil (q_n (k77 _ _ ?_))
    refine sx_sub (Sub.c 0 rfl (.c 3 rfl (.c 4 rfl (.c 18 rfl (.c 24 rfl (.c 213 rfl .nil)))))) ?_
    refine sx_condF rfl ?_
    refine sx_skip ?_
    refine sx_end0 rfl ?_
    exact ⟨rfl, (cwl51.t c66)⟩
   refine sx_skip ?_
   refine q_n (k63 _ _ ?_)
   refine sx_seq fun K80 k80 => ?_
   refine sx_seq fun K81 k81 => sx_region ?_
   refine mv rfl rfl (mv rfl rfl (sp rfl (px_lt rfl rfl) ?_))
   refine mv rfl rfl ?_
   refine sx_tmpP (t := 195) rfl (fun h452 => ?_) (fun h452 => ?_)
   ·
    refine sx_guardT rfl rfl rfl ?_
    refine mv rfl rfl ?_
    refine sx_guardT rfl rfl rfl ?_
    refine mv rfl rfl ?_
    refine sx_guardT rfl rfl rfl ?_
    refine sp rfl (px_lt rfl rfl) ?_
    refine sp rfl (px_pick rfl rfl) ?_
    refine wl_nil (q_n (k81 _ _ ?_))
    refine sx_sub (Sub.c 0 rfl (.c 1 rfl (.c 3 rfl (.c 4 rfl (.c 18 rfl (.c 20 rfl (.c 24 rfl (.c 199 rfl .nil)))))))) ?_
    refine sx_condP rfl (fun h452x1 => ?_) (fun h452x1 => ?_)
    ·
     refine sx_region ?_
     refine mv rfl rfl (mv rfl rfl (mv rfl rfl (mv rfl rfl (mv rfl rfl ?_))))
     have f82 := hvd.ext cwl51
     refine sx_call rfl rfl Try.call103 (c_symMergeE3 f82 (by omega) (by omega) (by assumption) (by assumption)) (fun v83 w83 p83 => ?_)
     obtain ⟨rfl, c83⟩ := p83
     have zw83 := c83.size
     refine wl_nil (q_n (k80 _ _ ?_))
     refine sx_seq fun K84 k84 => sx_region ?_
     refine mv rfl rfl (mv rfl rfl (sp rfl (px_lt rfl rfl) ?_))
     refine mv rfl rfl ?_
     refine sx_tmpP (t := 209) rfl (fun h455 => ?_) (fun h455 => ?_)
     ·
      refine sx_guardT rfl rfl rfl ?_
      refine mv rfl rfl ?_
      refine sx_guardT rfl rfl rfl ?_
      refine mv rfl rfl ?_
      refine sx_guardT rfl rfl rfl ?_
      refine sp rfl (px_lt rfl rfl) ?_
      refine sp rfl (px_pick rfl rfl) ?_
      refine wl_nil (q_n (k84 _ _ ?_))
      refine sx_sub (Sub.c 0 rfl (.c 3 rfl (.c 4 rfl (.c 18 rfl (.c 24 rfl (.c 213 rfl .nil)))))) ?_
      refine sx_condP rfl (fun h455x1 => ?_) (fun h455x1 => ?_)
      ·
       refine sx_region ?_
       refine mv rfl rfl (mv rfl rfl (mv rfl rfl (mv rfl rfl (mv rfl rfl ?_))))
       have f85 := f82.ext c83
       refine sx_call rfl rfl Try.call103 (c_symMergeE3 f85 (by omega) (by omega) (by assumption) (by assumption)) (fun v86 w86 p86 => ?_)
       obtain ⟨rfl, c86⟩ := p86
       have zw86 := c86.size
       refine wl_nil ?_
       refine sx_end0 rfl ?_
       exact ⟨rfl, ((cwl51.t c83).t c86)⟩
      refine sx_skip ?_
      refine sx_end0 rfl ?_
      exact ⟨rfl, (cwl51.t c83)⟩
     refine sx_guardF rfl rfl rfl rfl rfl rfl ?_
     refine sx_guardF rfl rfl rfl rfl rfl rfl ?_
     refine sx_guardF rfl rfl rfl rfl rfl rfl ?_
     refine sp rfl (px_pick rfl rfl) ?_
     refine wl_nil (q_n (k84 _ _ ?_))
     refine sx_sub (Sub.c 0 rfl (.c 3 rfl (.c 4 rfl (.c 18 rfl (.c 24 rfl (.c 213 rfl .nil)))))) ?_
     refine sx_condF rfl ?_
     refine sx_skip ?_
     refine sx_end0 rfl ?_
     exact ⟨rfl, (cwl51.t c83)⟩
    refine sx_skip ?_
    refine q_n (k80 _ _ ?_)
    refine sx_seq fun K87 k87 => sx_region ?_
    refine mv rfl rfl (mv rfl rfl (sp rfl (px_lt rfl rfl) ?_))
    refine mv rfl rfl ?_
    refine sx_tmpP (t := 209) rfl (fun h455 => ?_) (fun h455 => ?_)
    ·
     refine sx_guardT rfl rfl rfl ?_
     refine mv rfl rfl ?_
     refine sx_guardT rfl rfl rfl ?_
     refine mv rfl rfl ?_
     refine sx_guardT rfl rfl rfl ?_
     refine sp rfl (px_lt rfl rfl) ?_
     refine sp rfl (px_pick rfl rfl) ?_
     refine wl_nil (q_n (k87 _ _ ?_))
     refine sx_sub (Sub.c 0 rfl (.c 3 rfl (.c 4 rfl (.c 18 rfl (.c 24 rfl (.c 213 rfl .nil)))))) ?_
     refine sx_condP rfl (fun h455x1 => ?_) (fun h455x1 => ?_)
     ·
      refine sx_region ?_
      refine mv rfl rfl (mv rfl rfl (mv rfl rfl (mv rfl rfl (mv rfl rfl ?_))))
      have f88 := hvd.ext cwl51
      refine sx_call rfl rfl Try.call103 (c_symMergeE3 f88 (by omega) (by omega) (by assumption) (by assumption)) (fun v89 w89 p89 => ?_)
      obtain ⟨rfl, c89⟩ := p89
      have zw89 := c89.size
      refine wl_nil ?_
      refine sx_end0 rfl ?_
      exact ⟨rfl, (cwl51.t c89)⟩
     refine sx_skip ?_
     refine sx_end0 rfl ?_
     exact ⟨rfl, cwl51⟩
    refine sx_guardF rfl rfl rfl rfl rfl rfl ?_
    refine sx_guardF rfl rfl rfl rfl rfl rfl ?_
    refine sx_guardF rfl rfl rfl rfl rfl rfl ?_
    refine sp rfl (px_pick rfl rfl) ?_
    refine wl_nil (q_n (k87 _ _ ?_))
    refine sx_sub (Sub.c 0 rfl (.c 3 rfl (.c 4 rfl (.c 18 rfl (.c 24 rfl (.c 213 rfl .nil)))))) ?_
    refine sx_condF rfl ?_
    refine sx_skip ?_
    refine sx_end0 rfl ?_
    exact ⟨rfl, cwl51⟩
   refine sx_guardF rfl rfl rfl rfl rfl rfl ?_
   refine sx_guardF rfl rfl rfl rfl rfl rfl ?_
   refine sx_guardF rfl rfl rfl rfl rfl rfl ?_
   refine sp rfl (px_pick rfl rfl) ?_
   refine wl_nil (q_n (k81 _ _ ?_))
   refine sx_sub (Sub.c 0 rfl (.c 1 rfl (.c 3 rfl (.c 4 rfl (.c 18 rfl (.c 20 rfl (.c 24 rfl (.c 199 rfl .nil)))))))) ?_
   refine sx_condF rfl ?_
   refine sx_skip ?_
   refine q_n (k80 _ _ ?_)
   refine sx_seq fun K90 k90 => sx_region ?_
   refine mv rfl rfl (mv rfl rfl (sp rfl (px_lt rfl rfl) ?_))
   refine mv rfl rfl ?_
   refine sx_tmpP (t := 209) rfl (fun h455 => ?_) (fun h455 => ?_)
   ·
    refine sx_guardT rfl rfl rfl ?_
    refine mv rfl rfl ?_
    refine sx_guardT rfl rfl rfl ?_
    refine mv rfl rfl ?_
    refine sx_guardT rfl rfl rfl ?_
    refine sp rfl (px_lt rfl rfl) ?_
    refine sp rfl (px_pick rfl rfl) ?_
    refine wl_nil (q_n (k90 _ _ ?_))
    refine sx_sub (Sub.c 0 rfl (.c 3 rfl (.c 4 rfl (.c 18 rfl (.c 24 rfl (.c 213 rfl .nil)))))) ?_
    refine sx_condP rfl (fun h455x1 => ?_) (fun h455x1 => ?_)
    ·
     refine sx_region ?_
     refine mv rfl rfl (mv rfl rfl (mv rfl rfl (mv rfl rfl (mv rfl rfl ?_))))
     have f91 := hvd.ext cwl51
     refine sx_call rfl rfl Try.call103 (c_symMergeE3 f91 (by omega) (by omega) (by assumption) (by assumption)) (fun v92 w92 p92 => ?_)
     obtain ⟨rfl, c92⟩ := p92
     have zw92 := c92.size
     refine wl_nil ?_
     refine sx_end0 rfl ?_
     exact ⟨rfl, (cwl51.t c92)⟩
    refine sx_skip ?_
    refine sx_end0 rfl ?_
    exact ⟨rfl, cwl51⟩
   refine sx_guardF rfl rfl rfl rfl rfl rfl ?_
   refine sx_guardF rfl rfl rfl rfl rfl rfl ?_
   refine sx_guardF rfl rfl rfl rfl rfl rfl ?_
   refine sp rfl (px_pick rfl rfl) ?_
   refine wl_nil (q_n (k90 _ _ ?_))
   refine sx_sub (Sub.c 0 rfl (.c 3 rfl (.c 4 rfl (.c 18 rfl (.c 24 rfl (.c 213 rfl .nil)))))) ?_
   refine sx_condF rfl ?_
   refine sx_skip ?_
   refine sx_end0 rfl ?_
   exact ⟨rfl, cwl51⟩
  refine sx_guardF rfl rfl rfl rfl rfl rfl ?_
  refine sx_guardF rfl rfl rfl rfl rfl rfl ?_
  refine sx_guardF rfl rfl rfl rfl rfl rfl ?_
  refine sp rfl (px_pick rfl rfl) ?_
  refine wl_nil (q_n (k64 _ _ ?_))
  refine sx_sub (Sub.c 0 rfl (.c 1 rfl (.c 2 rfl (.c 3 rfl (.c 4 rfl (.c 18 rfl (.c 20 rfl (.c 24 rfl (.c 185 rfl .nil))))))))) ?_
  refine sx_condF rfl ?_
  refine sx_skip ?_
  refine q_n (k63 _ _ ?_)
  refine sx_seq fun K93 k93 => ?_
  refine sx_seq fun K94 k94 => sx_region ?_
  refine mv rfl rfl (mv rfl rfl (sp rfl (px_lt rfl rfl) ?_))
  refine mv rfl rfl ?_
  refine sx_tmpP (t := 195) rfl (fun h452 => ?_) (fun h452 => ?_)
  ·
   refine sx_guardT rfl rfl rfl ?_
   refine mv rfl rfl ?_
   refine sx_guardT rfl rfl rfl ?_
   refine mv rfl rfl ?_
   refine sx_guardT rfl rfl rfl ?_
   refine sp rfl (px_lt rfl rfl) ?_
   refine sp rfl (px_pick rfl rfl) ?_
   refine wl_nil (q_n (k94 _ _ ?_))
   refine sx_sub (Sub.c 0 rfl (.c 1 rfl (.c 3 rfl (.c 4 rfl (.c 18 rfl (.c 20 rfl (.c 24 rfl (.c 199 rfl .nil)))))))) ?_
   refine sx_condP rfl (fun h452x1 => ?_) (fun h452x1 => ?_)
   ·
    refine sx_region ?_
    refine mv rfl rfl (mv rfl rfl (mv rfl rfl (mv rfl rfl (mv rfl rfl ?_))))
    have f95 := hvd.ext cwl51
    refine sx_call rfl rfl Try.call103 (c_symMergeE3 f95 (by omega) (by omega) (by assumption) (by assumption)) (fun v96 w96 p96 => ?_)
    obtain ⟨rfl, c96⟩ := p96
    have zw96 := c96.size
    refine wl_nil (q_n (k93 _ _ ?_))
    refine sx_seq fun K97 k97 => sx_region ?_
    refine mv rfl rfl (mv rfl rfl (sp rfl (px_lt rfl rfl) ?_))
    refine mv rfl rfl ?_
    refine sx_tmpP (t := 209) rfl (fun h455 => ?_) (fun h455 => ?_)
    ·
     refine sx_guardT rfl rfl rfl ?_
     refine mv rfl rfl ?_
     refine sx_guardT rfl rfl rfl ?_
     refine mv rfl rfl ?_
     refine sx_guardT rfl rfl rfl ?_
     refine sp rfl (px_lt rfl rfl) ?_
     refine sp rfl (px_pick rfl rfl) ?_
     refine wl_nil (q_n (k97 _ _ ?_))
     refine sx_sub (Sub.c 0 rfl (.c 3 rfl (.c 4 rfl (.c 18 rfl (.c 24 rfl (.c 213 rfl .nil)))))) ?_
     refine sx_condP rfl (fun h455x1 => ?_) (fun h455x1 => ?_)
     ·
      refine sx_region ?_
      refine mv rfl rfl (mv rfl rfl (mv rfl rfl (mv rfl rfl (mv rfl rfl ?_))))
      have f98 := f95.ext c96
      refine sx_call rfl rfl Try.call103 (c_symMergeE3 f98 (by omega) (by omega) (by assumption) (by assumption)) (fun v99 w99 p99 => ?_)
      obtain ⟨rfl, c99⟩ := p99
      have zw99 := c99.size
      refine wl_nil ?_
      refine sx_end0 rfl ?_
      exact ⟨rfl, ((cwl51.t c96).t c99)⟩
     refine sx_skip ?_
     refine sx_end0 rfl ?_
     exact ⟨rfl, (cwl51.t c96)⟩
    refine sx_guardF rfl rfl rfl rfl rfl rfl ?_
    refine sx_guardF rfl rfl rfl rfl rfl rfl ?_
    refine sx_guardF rfl rfl rfl rfl rfl rfl ?_
    refine sp rfl (px_pick rfl rfl) ?_
    refine wl_nil (q_n (k97 _ _ ?_))
    refine sx_sub (Sub.c 0 rfl (.c 3 rfl (.c 4 rfl (.c 18 rfl (.c 24 rfl (.c 213 rfl .nil)))))) ?_
    refine sx_condF rfl ?_
    refine sx_skip ?_
    refine sx_end0 rfl ?_
    exact ⟨rfl, (cwl51.t c96)⟩
   refine sx_skip ?_
   refine q_n (k93 _ _ ?_)
   refine sx_seq fun K100 k100 => sx_region ?_
   refine mv rfl rfl (mv rfl rfl (sp rfl (px_lt rfl rfl) ?_))
   refine mv rfl rfl ?_
   refine sx_tmpP (t := 209) rfl (fun h455 => ?_) (fun h455 => ?_)
   ·
    refine sx_guardT rfl rfl rfl ?_
    refine mv rfl rfl ?_
    refine sx_guardT rfl rfl rfl ?_
    refine mv rfl rfl ?_
    refine sx_guardT rfl rfl rfl ?_
    refine sp rfl (px_lt rfl rfl) ?_
    refine sp rfl (px_pick rfl rfl) ?_
    refine wl_nil (q_n (k100 _ _ ?_))
    refine sx_sub (Sub.c 0 rfl (.c 3 rfl (.c 4 rfl (.c 18 rfl (.c 24 rfl (.c 213 rfl .nil)))))) ?_
    refine sx_condP rfl (fun h455x1 => ?_) (fun h455x1 => ?_)
    ·
     refine sx_region ?_
     refine mv rfl rfl (mv rfl rfl (mv rfl rfl (mv rfl rfl (mv rfl rfl ?_))))
     have f101 := hvd.ext cwl51
     refine sx_call rfl rfl Try.call103 (c_symMergeE3 f101 (by omega) (by omega) (by assumption) (by assumption)) (fun v102 w102 p102 => ?_)
     obtain ⟨rfl, c102⟩ := p102
     have zw102 := c102.size
     refine wl_nil ?_
     refine sx_end0 rfl ?_
     exact ⟨rfl, (cwl51.t c102)⟩
    refine sx_skip ?_
    refine sx_end0 rfl ?_
    exact ⟨rfl, cwl51⟩
   refine sx_guardF rfl rfl rfl rfl rfl rfl ?_
   refine sx_guardF rfl rfl rfl rfl rfl rfl ?_
   refine sx_guardF rfl rfl rfl rfl rfl rfl ?_
   refine sp rfl (px_pick rfl rfl) ?_
   refine wl_nil (q_n (k100 _ _ ?_))
   refine sx_sub (Sub.c 0 rfl (.c 3 rfl (.c 4 rfl (.c 18 rfl (.c 24 rfl (.c 213 rfl .nil)))))) ?_
   refine sx_condF rfl ?_
   refine sx_skip ?_
   refine sx_end0 rfl ?_
   exact ⟨rfl, cwl51⟩
  refine sx_guardF rfl rfl rfl rfl rfl rfl ?_
  refine sx_guardF rfl rfl rfl rfl rfl rfl ?_
  refine sx_guardF rfl rfl rfl rfl rfl rfl ?_
  refine sp rfl (px_pick rfl rfl) ?_
  refine wl_nil (q_n (k94 _ _ ?_))
  refine sx_sub (Sub.c 0 rfl (.c 1 rfl (.c 3 rfl (.c 4 rfl (.c 18 rfl (.c 20 rfl (.c 24 rfl (.c 199 rfl .nil)))))))) ?_
  refine sx_condF rfl ?_
  refine sx_skip ?_
  refine q_n (k93 _ _ ?_)
  refine sx_seq fun K103 k103 => sx_region ?_
  refine mv rfl rfl (mv rfl rfl (sp rfl (px_lt rfl rfl) ?_))
  refine mv rfl rfl ?_
  refine sx_tmpP (t := 209) rfl (fun h455 => ?_) (fun h455 => ?_)
  ·
   refine sx_guardT rfl rfl rfl ?_
   refine mv rfl rfl ?_
   refine sx_guardT rfl rfl rfl ?_
   refine mv rfl rfl ?_
   refine sx_guardT rfl rfl rfl ?_
   refine sp rfl (px_lt rfl rfl) ?_
   refine sp rfl (px_pick rfl rfl) ?_
   refine wl_nil (q_n (k103 _ _ ?_))
   refine sx_sub (Sub.c 0 rfl (.c 3 rfl (.c 4 rfl (.c 18 rfl (.c 24 rfl (.c 213 rfl .nil)))))) ?_
   refine sx_condP rfl (fun h455x1 => ?_) (fun h455x1 => ?_)
   ·
    refine sx_region ?_
    refine mv rfl rfl (mv rfl rfl (mv rfl rfl (mv rfl rfl (mv rfl rfl ?_))))
    have f104 := hvd.ext cwl51
    refine sx_call rfl rfl Try.call103 (c_symMergeE3 f104 (by omega) (by omega) (by assumption) (by assumption)) (fun v105 w105 p105 => ?_)
    obtain ⟨rfl, c105⟩ := p105
    have zw105 := c105.size
    refine wl_nil ?_
    refine sx_end0 rfl ?_
    exact ⟨rfl, (cwl51.t c105)⟩
   refine sx_skip ?_
   refine sx_end0 rfl ?_
   exact ⟨rfl, cwl51⟩
  refine sx_guardF rfl rfl rfl rfl rfl rfl ?_
  refine sx_guardF rfl rfl rfl rfl rfl rfl ?_
  refine sx_guardF rfl rfl rfl rfl rfl rfl ?_
  refine sp rfl (px_pick rfl rfl) ?_
  refine wl_nil (q_n (k103 _ _ ?_))
  refine sx_sub (Sub.c 0 rfl (.c 3 rfl (.c 4 rfl (.c 18 rfl (.c 24 rfl (.c 213 rfl .nil)))))) ?_
  refine sx_condF rfl ?_
  refine sx_skip ?_
  refine sx_end0 rfl ?_
  exact ⟨rfl, cwl51⟩
 refine sx_seq fun K106 k106 => sx_region ?_
 refine mv rfl rfl (av rfl rfl (wl_nil (q_n (k106 _ _ ?_))))
 refine sx_region ?_
 refine mv rfl rfl (av rfl rfl (wl_nil (q_n (k46 _ _ ?_))))
 refine sx_seq fun K107 k107 => sx_region ?_
 refine mv rfl rfl (sp rfl (px_sub rfl rfl (by omega)) ?_)
 refine av rfl rfl (wl_nil (q_n (k107 _ _ ?_)))
 refine sx_sub (Sub.c 0 rfl (.c 1 rfl (.c 2 rfl (.c 3 rfl (.c 4 rfl (.c 18 rfl (.c 19 rfl (.c 20 rfl (.c 21 rfl (.c 22 rfl .nil)))))))))) ?_
 refine sx_seq fun K108 k108 => ?_
 refine sx_block ?_
 refine sx_loop (fun mm aa w' => ∃ (s : Int), Agr 220 [(0, vd), (1, .int .i64 ia), (2, .int .i64 im), (3, .int .i64 ib), (4, .func (.func 33) #[] #[]), (18, .int .i64 ((ia + ib) / 2)), (19, .int .i64 (((ia + ib) / 2) + im)), (20, .int .i64 s), (21, .int .i64 im), (22, .int .i64 ((((ia + ib) / 2) + im) - 1))] aa ∧ Chg 0 0 w w' ∧ (mm = (im - s).toNat) ∧ (ia ≤ s ∧ s ≤ im)) (_) (fun a ha => ⟨ia, ha.sub (Sub.c 0 rfl (.c 1 rfl (.c 2 rfl (.c 3 rfl (.c 4 rfl (.c 18 rfl (.c 19 rfl (.c 20 (look_int (t := 20) rfl (by first | omega | simp)) (.c 21 rfl (.c 22 rfl .nil)))))))))), Chg.refl _ _ _, rfl, by omega⟩) ?_
 rintro mm aa wl109 ⟨s, hAwl109, cwl109, hm, hs⟩
 refine (show cw Try.prog 220 _ _ _ wl109 from ?_) aa hAwl109
 clear hAwl109
 have zwl109 := cwl109.size
 refine sx_seq fun K110 k110 => ?_
 refine sx_seq fun K111 k111 => sx_region ?_
 refine mv rfl rfl (mv rfl rfl (sp rfl (px_lt rfl rfl) ?_))
 refine wl_nil (q_n (k111 _ _ ?_))
 refine sx_condP rfl (fun h439 => ?_) (fun h439 => ?_)
 ·
  refine sx_skip ?_
  refine q_n (k110 _ _ ?_)
  refine sx_block ?_
  refine sx_seq fun K112 k112 => sx_region ?_
  refine mv rfl rfl (mv rfl rfl (sp rfl (px_add rfl rfl (by omega)) ?_))
  refine sp rfl (px_convU Try.underlying3 Try.underlying108 rfl (by omega)) ?_
  refine sp rfl (px_shrU1 rfl rfl) ?_
  refine sp rfl (px_convI Try.underlying108 Try.underlying3 rfl (by omega)) ?_
  refine av rfl rfl (wl_nil (q_n (k112 _ _ ?_)))
  refine sx_sub (Sub.c 0 rfl (.c 1 rfl (.c 2 rfl (.c 3 rfl (.c 4 rfl (.c 18 rfl (.c 19 rfl (.c 20 rfl (.c 21 rfl (.c 22 rfl (.c 23 rfl .nil))))))))))) ?_
  refine sx_seq fun K113 k113 => ?_
  have f114 := hvd.ext cwl109
  refine dx_region (fun w' => Chg 0 0 wl109 w') (by kernel_rfl) (Chg.zero (Chg.drew _)) ?_
  have d115 := Chg.drew wl109
  have s115 : Chg 0 0 wl109 (World.drew wl109) := Chg.zero (Chg.drew _)
  have y115 : (World.drew wl109).heap.size = wl109.heap.size := rfl
  generalize World.drew wl109 = w115 at *
  have zw115 := d115.size
  refine dt 0 rfl rfl rfl rfl s115 (fun _ hS => px_move rfl) ?_
  refine dt 1 rfl rfl rfl rfl s115 (fun _ hS => px_move rfl) ?_
  refine dt 2 rfl rfl rfl rfl s115 (fun _ hS => px_move rfl) ?_
  refine dt 3 rfl rfl rfl rfl s115 (fun _ hS => px_move rfl) ?_
  refine dt 4 rfl rfl rfl rfl s115 (fun _ hS => px_sub rfl rfl (by omega)) ?_
  refine dt 5 rfl rfl rfl rfl s115 (fun _ hS => px_indexK (j := (((((ia + ib) / 2) + im) - 1).toNat - ((s + im) / 2).toNat)) rfl rfl (by omega) Try.underlying61 Try.sizeOf66 ((f114.sv).chg hS (by omega)) (by omega)) ?_
  refine dt 6 rfl rfl rfl rfl s115 (fun _ hS => px_load rfl (((f114.sv).chg hS (by omega)).loadA (pt_look (by first | omega | (simp only [List.length_set]; omega))) Try.isAgg66 Try.sizeOf66)) ?_
  refine dt 7 rfl rfl rfl rfl s115 (fun _ hS => px_move rfl) ?_
  refine dt 8 rfl rfl rfl rfl s115 (fun _ hS => px_move rfl) ?_
  refine dt 9 rfl rfl rfl rfl s115 (fun _ hS => px_indexK (j := ((s + im) / 2).toNat) rfl rfl (by omega) Try.underlying61 Try.sizeOf66 ((f114.sv).chg hS (by omega)) (by omega)) ?_
  refine dt 10 rfl rfl rfl rfl s115 (fun _ hS => px_load rfl (((f114.sv).chg hS (by omega)).loadA (pt_look (by first | omega | (simp only [List.length_set]; omega))) Try.isAgg66 Try.sizeOf66)) ?_
  refine dx_eff 11 rfl (by kernel_rfl) ?_
  have f116 := (f114.rest (j := ((((ia + ib) / 2) + im) - 1).toNat - ((s + im) / 2).toNat) (by first | omega | (simp only [List.length_set]; omega))).ext d115
  have f117 := (f114.rest (j := ((s + im) / 2).toNat) (by first | omega | (simp only [List.length_set]; omega))).ext d115
  refine sx_callV rfl rfl rfl Try.call33 (c_before f116 f117 (⟨hr _, hr _⟩)) (fun v118 w118 p118 => ?_)
  obtain ⟨rfl, c118⟩ := p118
  have zw118 := c118.size
  have s119 : Chg 0 0 wl109 w118 := (d115.t c118)
  refine wl_nil ?_
  refine dx_next s119 ?_
  refine dt 12 rfl rfl rfl rfl s119 (fun _ hS => px_lt rfl rfl) ?_
  refine dt 13 rfl rfl rfl rfl s119 (fun _ hS => px_notP rfl) ?_
  refine dx_done (by kernel_rfl) ?_
  refine q_n (k113 _ _ ?_)
  refine sx_sub (Sub.c 0 rfl (.c 1 rfl (.c 2 rfl (.c 3 rfl (.c 4 rfl (.c 18 rfl (.c 19 rfl (.c 20 rfl (.c 21 rfl (.c 22 rfl (.c 23 rfl (.c 171 rfl .nil)))))))))))) ?_
  have h441 : ¬ ((orC (r (ix.getD (((((ia + ib) / 2) + im) - 1).toNat - ((s + im) / 2).toNat) 0)) (r (ix.getD (((s + im) / 2).toNat) 0)) (((ix.getD (((((ia + ib) / 2) + im) - 1).toNat - ((s + im) / 2).toNat) 0) : Nat) : Int) (((ix.getD (((s + im) / 2).toNat) 0) : Nat) : Int) : Int) < 0) := fun hb => bef_asymm (hS _ _ (by omega) (by omega)) (orC_neg.1 hb)
  refine sx_condPT rfl h441 ?_
  refine sx_region ?_
  refine mv rfl rfl (sp rfl (px_add rfl rfl (by omega)) ?_)
  refine av rfl rfl (wl_nil ?_)
  exact q_bn (fun a ha => ⟨_, by omega, (((s + im) / 2) + 1), ha.sub (Sub.c 0 rfl (.c 1 rfl (.c 2 rfl (.c 3 rfl (.c 4 rfl (.c 18 rfl (.c 19 rfl (.c 20 (look_int (t := 20) rfl (by first | omega | simp)) (.c 21 rfl (.c 22 rfl .nil)))))))))), ((cwl109.t d115).t c118), rfl, by omega⟩)
 refine sx_exit ?_
 refine q_e (q_e (q_bx (q_n (k108 _ _ ?_))))
 refine sx_seq fun K120 k120 => sx_region ?_
 refine mv rfl rfl (mv rfl rfl (sp rfl (px_sub rfl rfl (by omega)) ?_))
 refine av rfl rfl (wl_nil (q_n (k120 _ _ ?_)))
 refine sx_sub (Sub.c 0 rfl (.c 1 rfl (.c 2 rfl (.c 3 rfl (.c 4 rfl (.c 18 rfl (.c 20 rfl (.c 24 rfl .nil)))))))) ?_
 refine sx_seq fun K121 k121 => ?_
 refine sx_seq fun K122 k122 => sx_region ?_
 refine mv rfl rfl (mv rfl rfl (sp rfl (px_lt rfl rfl) ?_))
 refine mv rfl rfl ?_
 refine sx_tmpP (t := 181) rfl (fun h449 => ?_) (fun h449 => ?_)
 ·
  refine sx_guardT rfl rfl rfl ?_
  refine mv rfl rfl ?_
  refine sx_guardT rfl rfl rfl ?_
  refine mv rfl rfl ?_
  refine sx_guardT rfl rfl rfl ?_
  refine sp rfl (px_lt rfl rfl) ?_
  refine sp rfl (px_pick rfl rfl) ?_
  refine wl_nil (q_n (k122 _ _ ?_))
  refine sx_sub (Sub.c 0 rfl (.c 1 rfl (.c 2 rfl (.c 3 rfl (.c 4 rfl (.c 18 rfl (.c 20 rfl (.c 24 rfl (.c 185 rfl .nil))))))))) ?_
  refine sx_condP rfl (fun h449x1 => ?_) (fun h449x1 => ?_)
  ·
   refine sx_region ?_
   refine mv rfl rfl (mv rfl rfl (mv rfl rfl (mv rfl rfl (mv rfl rfl ?_))))
   have f123 := hvd.ext cwl109
   refine sx_call rfl rfl Try.call104 (c_rotNone f123 (by omega)) (fun v124 w124 p124 => ?_)
   obtain ⟨rfl, c124⟩ := p124
   have zw124 := c124.size
   refine wl_nil (q_n (k121 _ _ ?_))
   refine sx_sub (Sub.c 0 rfl (.c 1 rfl (.c 3 rfl (.c 4 rfl (.c 18 rfl (.c 20 rfl (.c 24 rfl .nil))))))) ?_
   refine sx_seq fun K125 k125 => ?_
   refine sx_seq fun K126 k126 => sx_region ?_
   refine mv rfl rfl (mv rfl rfl (sp rfl (px_lt rfl rfl) ?_))
   refine mv rfl rfl ?_
   refine sx_tmpP (t := 195) rfl (fun h452 => ?_) (fun h452 => ?_)
   ·
    refine sx_guardT rfl rfl rfl ?_
    refine mv rfl rfl ?_
    refine sx_guardT rfl rfl rfl ?_
    refine mv rfl rfl ?_
    refine sx_guardT rfl rfl rfl ?_
    refine sp rfl (px_lt rfl rfl) ?_
    refine sp rfl (px_pick rfl rfl) ?_
    refine wl_nil (q_n (k126 _ _ ?_))
    refine sx_sub (Sub.c 0 rfl (.c 1 rfl (.c 3 rfl (.c 4 rfl (.c 18 rfl (.c 20 rfl (.c 24 rfl (.c 199 rfl .nil)))))))) ?_
    refine sx_condP rfl (fun h452x1 => ?_) (fun h452x1 => ?_)
    ·
     refine sx_region ?_
     refine mv rfl rfl (mv rfl rfl (mv rfl rfl (mv rfl rfl (mv rfl rfl ?_))))
     have f127 := f123.ext c124
     refine sx_call rfl rfl Try.call103 (c_symMergeE3 f127 (by omega) (by omega) (by assumption) (by assumption)) (fun v128 w128 p128 => ?_)
     obtain ⟨rfl, c128⟩ := p128
     have zw128 := c128.size
     refine wl_nil (q_n (k125 _ _ ?_))
     refine sx_seq fun K129 k129 => sx_region ?_
     refine mv rfl rfl (mv rfl rfl (sp rfl (px_lt rfl rfl) ?_))
     refine mv rfl rfl ?_
     refine sx_tmpP (t := 209) rfl (fun h455 => ?_) (fun h455 => ?_)
     ·
      refine sx_guardT rfl rfl rfl ?_
      refine mv rfl rfl ?_
      refine sx_guardT rfl rfl rfl ?_
      refine mv rfl rfl ?_
      refine sx_guardT rfl rfl rfl ?_
      refine sp rfl (px_lt rfl rfl) ?_
      refine sp rfl (px_pick rfl rfl) ?_
      refine wl_nil (q_n (k129 _ _ ?_))
      refine sx_sub (Sub.c 0 rfl (.c 3 rfl (.c 4 rfl (.c 18 rfl (.c 24 rfl (.c 213 rfl .nil)))))) ?_
      refine sx_condP rfl (fun h455x1 => ?_) (fun h455x1 => ?_)
      ·
       refine sx_region ?_
       refine mv rfl rfl (mv rfl rfl (mv rfl rfl (mv rfl rfl (mv rfl rfl ?_))))
       have f130 := f127.ext c128
       refine sx_call rfl rfl Try.call103 (c_symMergeE3 f130 (by omega) (by omega) (by assumption) (by assumption)) (fun v131 w131 p131 => ?_)
       obtain ⟨rfl, c131⟩ := p131
       have zw131 := c131.size
       refine wl_nil ?_
       refine sx_end0 rfl ?_
       exact ⟨rfl, (((cwl109.t c124).t c128).t c131)⟩
      refine sx_skip ?_
      refine sx_end0 rfl ?_
      exact ⟨rfl, ((cwl109.t c124).t c128)⟩
     refine sx_guardF rfl rfl rfl rfl rfl rfl ?_
     refine sx_guardF rfl rfl rfl rfl rfl rfl ?_
     refine sx_guardF rfl rfl rfl rfl rfl rfl ?_
     refine sp rfl (px_pick rfl rfl) ?_
     refine wl_nil (q_n (k129 _ _ ?_))
     refine sx_sub (Sub.c 0 rfl (.c 3 rfl (.c 4 rfl (.c 18 rfl (.c 24 rfl (.c 213 rfl .nil)))))) ?_
     refine sx_condF rfl ?_
     refine sx_skip ?_
     refine sx_end0 rfl ?_
     exact ⟨rfl, ((cwl109.t c124).t c128)⟩
    refine sx_skip ?_
    refine q_n (k125 _ _ ?_)
    refine sx_seq fun K132 k132 => sx_region ?_
    refine mv rfl rfl (mv rfl rfl (sp rfl (px_lt rfl rfl) ?_))
    refine mv rfl rfl ?_
    refine sx_tmpP (t := 209) rfl (fun h455 => ?_) (fun h455 => ?_)
    ·
     refine sx_guardT rfl rfl rfl ?_
     refine mv rfl rfl ?_
     refine sx_guardT rfl rfl rfl ?_
     refine mv rfl rfl ?_
     refine sx_guardT rfl rfl rfl ?_
     refine sp rfl (px_lt rfl rfl) ?_
     refine sp rfl (px_pick rfl rfl) ?_
     refine wl_nil (q_n (k132 _ _ ?_))
     refine sx_sub (Sub.c 0 rfl (.c 3 rfl (.c 4 rfl (.c 18 rfl (.c 24 rfl (.c 213 rfl .nil)))))) ?_
     refine sx_condP rfl (fun h455x1 => ?_) (fun h455x1 => ?_)
     ·
      refine sx_region ?_
      refine mv rfl rfl (mv rfl rfl (mv rfl rfl (mv rfl rfl (mv rfl rfl ?_))))
      have f133 := f123.ext c124
      refine sx_call rfl rfl Try.call103 (c_symMergeE3 f133 (by omega) (by omega) (by assumption) (by assumption)) (fun v134 w134 p134 => ?_)
      obtain ⟨rfl, c134⟩ := p134
      have zw134 := c134.size
      refine wl_nil ?_
      refine sx_end0 rfl ?_
      exact ⟨rfl, ((cwl109.t c124).t c134)⟩
     refine sx_skip ?_
     refine sx_end0 rfl ?_
     exact ⟨rfl, (cwl109.t c124)⟩
    refine sx_guardF rfl rfl rfl rfl rfl rfl ?_
    refine sx_guardF rfl rfl rfl rfl rfl rfl ?_
    refine sx_guardF rfl rfl rfl rfl rfl rfl ?_
    refine sp rfl (px_pick rfl rfl) ?_
    refine wl_nil (q_n (k132 _ _ ?_))
    refine sx_sub (Sub.c 0 rfl (.c 3 rfl (.c 4 rfl (.c 18 rfl (.c 24 rfl (.c 213 rfl .nil)))))) ?_
    refine sx_condF rfl ?_
    refine sx_skip ?_
    refine sx_end0 rfl ?_
    exact ⟨rfl, (cwl109.t c124)⟩
   refine sx_guardF rfl rfl rfl rfl rfl rfl ?_
   refine sx_guardF rfl rfl rfl rfl rfl rfl ?_
   refine sx_guardF rfl rfl rfl rfl rfl rfl ?_
   refine sp rfl (px_pick rfl rfl) ?_
   refine wl_nil (q_n (k126 _ _ ?_))
   refine sx_sub (Sub.c 0 rfl (.c 1 rfl (.c 3 rfl (.c 4 rfl (.c 18 rfl (.c 20 rfl (.c 24 rfl (.c 199 rfl .nil)))))))) ?_
   refine sx_condF rfl ?_
   refine sx_skip ?_
   refine q_n (k125 _ _ ?_)
   refine sx_seq fun K135 k135 => sx_region ?_
   refine mv rfl rfl (mv rfl rfl (sp rfl (px_lt rfl rfl) ?_))
   refine mv rfl rfl ?_
   refine sx_tmpP (t := 209) rfl (fun h455 => ?_) (fun h455 => ?_)
   ·
    refine sx_guardT rfl rfl rfl ?_
    refine mv rfl rfl ?_
    refine sx_guardT rfl rfl rfl ?_
    refine mv rfl rfl ?_
    refine sx_guardT rfl rfl rfl ?_
    refine sp rfl (px_lt rfl rfl) ?_
    refine sp rfl (px_pick rfl rfl) ?_
    refine wl_nil (q_n (k135 _ _ ?_))
    refine sx_sub (Sub.c 0 rfl (.c 3 rfl (.c 4 rfl (.c 18 rfl (.c 24 rfl (.c 213 rfl .nil)))))) ?_
    refine sx_condP rfl (fun h455x1 => ?_) (fun h455x1 => ?_)
    ·
     refine sx_region ?_
     refine mv rfl rfl (mv rfl rfl (mv rfl rfl (mv rfl rfl (mv rfl rfl ?_))))
     have f136 := f123.ext c124
     refine sx_call rfl rfl Try.call103 (c_symMergeE3 f136 (by omega) (by omega) (by assumption) (by assumption)) (fun v137 w137 p137 => ?_)
     obtain ⟨rfl, c137⟩ := p137
     have zw137 := c137.size
     refine wl_nil ?_
     refine sx_end0 rfl ?_
     exact ⟨rfl, ((cwl109.t c124).t c137)⟩
    refine sx_skip ?_
    refine sx_end0 rfl ?_
    exact ⟨rfl, (cwl109.t c124)⟩
   refine sx_guardF rfl rfl rfl rfl rfl rfl ?_
   refine sx_guardF rfl rfl rfl rfl rfl rfl ?_
   refine sx_guardF rfl rfl rfl rfl rfl rfl ?_
   refine sp rfl (px_pick rfl rfl) ?_
   refine wl_nil (q_n (k135 _ _ ?_))
   refine sx_sub (Sub.c 0 rfl (.c 3 rfl (.c 4 rfl (.c 18 rfl (.c 24 rfl (.c 213 rfl .nil)))))) ?_
   refine sx_condF rfl ?_
   refine sx_skip ?_
   refine sx_end0 rfl ?_
   exact ⟨rfl, (cwl109.t c124)⟩
  refine sx_skip ?_
  refine q_n (k121 _ _ ?_)
  refine sx_seq fun K138 k138 => ?_
  refine sx_seq fun K139 k139 => sx_region ?_
  refine mv rfl rfl (mv rfl rfl (sp rfl (px_lt rfl rfl) ?_))
  refine mv rfl rfl ?_
  refine sx_tmpP (t := 195) rfl (fun h452 => ?_) (fun h452 => ?_)
  ·
   refine sx_guardT rfl rfl rfl ?_
   refine mv rfl rfl ?_
   refine sx_guardT rfl rfl rfl ?_
   refine mv rfl rfl ?_
   refine sx_guardT rfl rfl rfl ?_
   refine sp rfl (px_lt rfl rfl) ?_
   refine sp rfl (px_pick rfl rfl) ?_
   refine wl_nil (q_n (k139 _ _ ?_))
   refine sx_sub (Sub.c 0 rfl (.c 1 rfl (.c 3 rfl (.c 4 rfl (.c 18 rfl (.c 20 rfl (.c 24 rfl (.c 199 rfl .nil)))))))) ?_
   refine sx_condP rfl (fun h452x1 => ?_) (fun h452x1 => ?_)
   ·
    refine sx_region ?_
    refine mv rfl rfl (mv rfl rfl (mv rfl rfl (mv rfl rfl (mv rfl rfl ?_))))
    have f140 := hvd.ext cwl109
    refine sx_call rfl rfl Try.call103 (c_symMergeE3 f140 (by omega) (by omega) (by assumption) (by assumption)) (fun v141 w141 p141 => ?_)
    obtain ⟨rfl, c141⟩ := p141
    have zw141 := c141.size
    refine wl_nil (q_n (k138 _ _ ?_))
    refine sx_seq fun K142 k142 => sx_region ?_
    refine mv rfl rfl (mv rfl rfl (sp rfl (px_lt rfl rfl) ?_))
    refine mv rfl rfl ?_
    refine sx_tmpP (t := 209) rfl (fun h455 => ?_) (fun h455 => ?_)
    ·
     refine sx_guardT rfl rfl rfl ?_
     refine mv rfl rfl ?_
     refine sx_guardT rfl rfl rfl ?_
     refine mv rfl rfl ?_
     refine sx_guardT rfl rfl rfl ?_
     refine sp rfl (px_lt rfl rfl) ?_
     refine sp rfl (px_pick rfl rfl) ?_
     refine wl_nil (q_n (k142 _ _ ?_))
     refine sx_sub (Sub.c 0 rfl (.c 3 rfl (.c 4 rfl (.c 18 rfl (.c 24 rfl (.c 213 rfl .nil)))))) ?_
     refine sx_condP rfl (fun h455x1 => ?_) (fun h455x1 => ?_)
     ·
      refine sx_region ?_
      refine mv rfl rfl (mv rfl rfl (mv rfl rfl (mv rfl rfl (mv rfl rfl ?_))))
      have f143 := f140.ext c141
      refine sx_call rfl rfl Try.call103 (c_symMergeE3 f143 (by omega) (by omega) (by assumption) (by assumption)) (fun v144 w144 p144 => ?_)
      obtain ⟨rfl, c144⟩ := p144
      have zw144 := c144.size
      refine wl_nil ?_
      refine sx_end0 rfl ?_
      exact ⟨rfl, ((cwl109.t c141).t c144)⟩
     refine sx_skip ?_
     refine sx_end0 rfl ?_
     exact ⟨rfl, (cwl109.t c141)⟩
    refine sx_guardF rfl rfl rfl rfl rfl rfl ?_
    refine sx_guardF rfl rfl rfl rfl rfl rfl ?_
    refine sx_guardF rfl rfl rfl rfl rfl rfl ?_
    refine sp rfl (px_pick rfl rfl) ?_
    refine wl_nil (q_n (k142 _ _ ?_))
    refine sx_sub (Sub.c 0 rfl (.c 3 rfl (.c 4 rfl (.c 18 rfl (.c 24 rfl (.c 213 rfl .nil)))))) ?_
    refine sx_condF rfl ?_
    refine sx_skip ?_
    refine sx_end0 rfl ?_
    exact ⟨rfl, (cwl109.t c141)⟩
   refine sx_skip ?_
   refine q_n (k138 _ _ ?_)
   refine sx_seq fun K145 k145 => sx_region ?_
   refine mv rfl rfl (mv rfl rfl (sp rfl (px_lt rfl rfl) ?_))
   refine mv rfl rfl ?_
   refine sx_tmpP (t := 209) rfl (fun h455 => ?_) (fun h455 => ?_)
   ·
    refine sx_guardT rfl rfl rfl ?_
    refine mv rfl rfl ?_
    refine sx_guardT rfl rfl rfl ?_
    refine mv rfl rfl ?_
    refine sx_guardT rfl rfl rfl ?_
    refine sp rfl (px_lt rfl rfl) ?_
    refine sp rfl (px_pick rfl rfl) ?_
    refine wl_nil (q_n (k145 _ _ ?_))
    refine sx_sub (Sub.c 0 rfl (.c 3 rfl (.c 4 rfl (.c 18 rfl (.c 24 rfl (.c 213 rfl .nil)))))) ?_
    refine sx_condP rfl (fun h455x1 => ?_) (fun h455x1 => ?_)
    ·
     refine sx_region ?_
     refine mv rfl rfl (mv rfl rfl (mv rfl rfl (mv rfl rfl (mv rfl rfl ?_))))
     have f146 := hvd.ext cwl109
     refine sx_call rfl rfl Try.call103 (c_symMergeE3 f146 (by omega) (by omega) (by assumption) (by assumption)) (fun v147 w147 p147 => ?_)
     obtain ⟨rfl, c147⟩ := p147
     have zw147 := c147.size
     refine wl_nil ?_
     refine sx_end0 rfl ?_
     exact ⟨rfl, (cwl109.t c147)⟩
    refine sx_skip ?_
    refine sx_end0 rfl ?_
    exact ⟨rfl, cwl109⟩
   refine sx_guardF rfl rfl rfl rfl rfl rfl ?_
   refine sx_guardF rfl rfl rfl rfl rfl rfl ?_
   refine sx_guardF rfl rfl rfl rfl rfl rfl ?_
   refine sp rfl (px_pick rfl rfl) ?_
   refine wl_nil (q_n (k145 _ _ ?_))
   refine sx_sub (Sub.c 0 rfl (.c 3 rfl (.c 4 rfl (.c 18 rfl (.c 24 rfl (.c 213 rfl .nil)))))) ?_
   refine sx_condF rfl ?_
   refine sx_skip ?_
   refine sx_end0 rfl ?_
   exact ⟨rfl, cwl109⟩
  refine sx_guardF rfl rfl rfl rfl rfl rfl ?_
  refine sx_guardF rfl rfl rfl rfl rfl rfl ?_
  refine sx_guardF rfl rfl rfl rfl rfl rfl ?_
  refine sp rfl (px_pick rfl rfl) ?_
  refine wl_nil (q_n (k139 _ _ ?_))
  refine sx_sub (Sub.c 0 rfl (.c 1 rfl (.c 3 rfl (.c 4 rfl (.c 18 rfl (.c 20 rfl (.c 24 rfl (.c 199 rfl .nil)))))))) ?_
  refine sx_condF rfl ?_
  refine sx_skip ?_
  refine q_n (k138 _ _ ?_)
  refine sx_seq fun K148 k148 => sx_region ?_
  refine mv rfl rfl (mv rfl rfl (sp rfl (px_lt rfl rfl) ?_))
  refine mv rfl rfl ?_
  refine sx_tmpP (t := 209) rfl (fun h455 => ?_) (fun h455 => ?_)
  ·
   refine sx_guardT rfl rfl rfl ?_
   refine mv rfl rfl ?_
   refine sx_guardT rfl rfl rfl ?_
   refine mv rfl rfl ?_
   refine sx_guardT rfl rfl rfl ?_
   refine sp rfl (px_lt rfl rfl) ?_
   refine sp rfl (px_pick rfl rfl) ?_
   refine wl_nil (q_n (k148 _ _ ?_))
   refine sx_sub (Sub.c 0 rfl (.c 3 rfl (.c 4 rfl (.c 18 rfl (.c 24 rfl (.c 213 rfl .nil)))))) ?_
   refine sx_condP rfl (fun h455x1 => ?_) (fun h455x1 => ?_)
   ·
    refine sx_region ?_
    refine mv rfl rfl (mv rfl rfl (mv rfl rfl (mv rfl rfl (mv rfl rfl ?_))))
    have f149 := hvd.ext cwl109
    refine sx_call rfl rfl Try.call103 (c_symMergeE3 f149 (by omega) (by omega) (by assumption) (by assumption)) (fun v150 w150 p150 => ?_)
    obtain ⟨rfl, c150⟩ := p150
    have zw150 := c150.size
    refine wl_nil ?_
    refine sx_end0 rfl ?_
    exact ⟨rfl, (cwl109.t c150)⟩
   refine sx_skip ?_
   refine sx_end0 rfl ?_
   exact ⟨rfl, cwl109⟩
  refine sx_guardF rfl rfl rfl rfl rfl rfl ?_
  refine sx_guardF rfl rfl rfl rfl rfl rfl ?_
  refine sx_guardF rfl rfl rfl rfl rfl rfl ?_
  refine sp rfl (px_pick rfl rfl) ?_
  refine wl_nil (q_n (k148 _ _ ?_))
  refine sx_sub (Sub.c 0 rfl (.c 3 rfl (.c 4 rfl (.c 18 rfl (.c 24 rfl (.c 213 rfl .nil)))))) ?_
  refine sx_condF rfl ?_
  refine sx_skip ?_
  refine sx_end0 rfl ?_
  exact ⟨rfl, cwl109⟩
 refine sx_guardF rfl rfl rfl rfl rfl rfl ?_
 refine sx_guardF rfl rfl rfl rfl rfl rfl ?_
 refine sx_guardF rfl rfl rfl rfl rfl rfl ?_
 refine sp rfl (px_pick rfl rfl) ?_
 refine wl_nil (q_n (k122 _ _ ?_))
 refine sx_sub (Sub.c 0 rfl (.c 1 rfl (.c 2 rfl (.c 3 rfl (.c 4 rfl (.c 18 rfl (.c 20 rfl (.c 24 rfl (.c 185 rfl .nil))))))))) ?_
 refine sx_condF rfl ?_
 refine sx_skip ?_
 refine q_n (k121 _ _ ?_)
 refine sx_seq fun K151 k151 => ?_
 refine sx_seq fun K152 k152 => sx_region ?_
 refine mv rfl rfl (mv rfl rfl (sp rfl (px_lt rfl rfl) ?_))
 refine mv rfl rfl ?_
 refine sx_tmpP (t := 195) rfl (fun h452 => ?_) (fun h452 => ?_)
 ·
  refine sx_guardT rfl rfl rfl ?_
  refine mv rfl rfl ?_
  refine sx_guardT rfl rfl rfl ?_
  refine mv rfl rfl ?_
  refine sx_guardT rfl rfl rfl ?_
  refine sp rfl (px_lt rfl rfl) ?_
  refine sp rfl (px_pick rfl rfl) ?_
  refine wl_nil (q_n (k152 _ _ ?_))
  refine sx_sub (Sub.c 0 rfl (.c 1 rfl (.c 3 rfl (.c 4 rfl (.c 18 rfl (.c 20 rfl (.c 24 rfl (.c 199 rfl .nil)))))))) ?_
  refine sx_condP rfl (fun h452x1 => ?_) (fun h452x1 => ?_)
  ·
   refine sx_region ?_
   refine mv rfl rfl (mv rfl rfl (mv rfl rfl (mv rfl rfl (mv rfl rfl ?_))))
   have f153 := hvd.ext cwl109
   refine sx_call rfl rfl Try.call103 (c_symMergeE3 f153 (by omega) (by omega) (by assumption) (by assumption)) (fun v154 w154 p154 => ?_)
   obtain ⟨rfl, c154⟩ := p154
   have zw154 := c154.size
   refine wl_nil (q_n (k151 _ _ ?_))
   refine sx_seq fun K155 k155 => sx_region ?_
   refine mv rfl rfl (mv rfl rfl (sp rfl (px_lt rfl rfl) ?_))
   refine mv rfl rfl ?_
   refine sx_tmpP (t := 209) rfl (fun h455 => ?_) (fun h455 => ?_)
   ·
    refine sx_guardT rfl rfl rfl ?_
    refine mv rfl rfl ?_
    refine sx_guardT rfl rfl rfl ?_
    refine mv rfl rfl ?_
    refine sx_guardT rfl rfl rfl ?_
    refine sp rfl (px_lt rfl rfl) ?_
    refine sp rfl (px_pick rfl rfl) ?_
    refine wl_nil (q_n (k155 _ _ ?_))
    refine sx_sub (Sub.c 0 rfl (.c 3 rfl (.c 4 rfl (.c 18 rfl (.c 24 rfl (.c 213 rfl .nil)))))) ?_
    refine sx_condP rfl (fun h455x1 => ?_) (fun h455x1 => ?_)
    ·
     refine sx_region ?_
     refine mv rfl rfl (mv rfl rfl (mv rfl rfl (mv rfl rfl (mv rfl rfl ?_))))
     have f156 := f153.ext c154
     refine sx_call rfl rfl Try.call103 (c_symMergeE3 f156 (by omega) (by omega) (by assumption) (by assumption)) (fun v157 w157 p157 => ?_)
     obtain ⟨rfl, c157⟩ := p157
     have zw157 := c157.size
     refine wl_nil ?_
     refine sx_end0 rfl ?_
     exact ⟨rfl, ((cwl109.t c154).t c157)⟩
    refine sx_skip ?_
    refine sx_end0 rfl ?_
    exact ⟨rfl, (cwl109.t c154)⟩
   refine sx_guardF rfl rfl rfl rfl rfl rfl ?_
   refine sx_guardF rfl rfl rfl rfl rfl rfl ?_
   refine sx_guardF rfl rfl rfl rfl rfl rfl ?_
   refine sp rfl (px_pick rfl rfl) ?_
   refine wl_nil (q_n (k155 _ _ ?_))
   refine sx_sub (Sub.c 0 rfl (.c 3 rfl (.c 4 rfl (.c 18 rfl (.c 24 rfl (.c 213 rfl .nil)))))) ?_
   refine sx_condF rfl ?_
   refine sx_skip ?_
   refine sx_end0 rfl ?_
   exact ⟨rfl, (cwl109.t c154)⟩
  refine sx_skip ?_
  refine q_n (k151 _ _ ?_)
  refine sx_seq fun K158 k158 => sx_region ?_
  refine mv rfl rfl (mv rfl rfl (sp rfl (px_lt rfl rfl) ?_))
  refine mv rfl rfl ?_
  refine sx_tmpP (t := 209) rfl (fun h455 => ?_) (fun h455 => ?_)
  ·
   refine sx_guardT rfl rfl rfl ?_
   refine mv rfl rfl ?_
   refine sx_guardT rfl rfl rfl ?_
   refine mv rfl rfl ?_
   refine sx_guardT rfl rfl rfl ?_
   refine sp rfl (px_lt rfl rfl) ?_
   refine sp rfl (px_pick rfl rfl) ?_
   refine wl_nil (q_n (k158 _ _ ?_))
   refine sx_sub (Sub.c 0 rfl (.c 3 rfl (.c 4 rfl (.c 18 rfl (.c 24 rfl (.c 213 rfl .nil)))))) ?_
   refine sx_condP rfl (fun h455x1 => ?_) (fun h455x1 => ?_)
   ·
    refine sx_region ?_
    refine mv rfl rfl (mv rfl rfl (mv rfl rfl (mv rfl rfl (mv rfl rfl ?_))))
    have f159 := hvd.ext cwl109
    refine sx_call rfl rfl Try.call103 (c_symMergeE3 f159 (by omega) (by omega) (by assumption) (by assumption)) (fun v160 w160 p160 => ?_)
    obtain ⟨rfl, c160⟩ := p160
    have zw160 := c160.size
    refine wl_nil ?_
    refine sx_end0 rfl ?_
    exact ⟨rfl, (cwl109.t c160)⟩
   refine sx_skip ?_
   refine sx_end0 rfl ?_
   exact ⟨rfl, cwl109⟩
  refine sx_guardF rfl rfl rfl rfl rfl rfl ?_
  refine sx_guardF rfl rfl rfl rfl rfl rfl ?_
  refine sx_guardF rfl rfl rfl rfl rfl rfl ?_
  refine sp rfl (px_pick rfl rfl) ?_
  refine wl_nil (q_n (k158 _ _ ?_))
  refine sx_sub (Sub.c 0 rfl (.c 3 rfl (.c 4 rfl (.c 18 rfl (.c 24 rfl (.c 213 rfl .nil)))))) ?_
  refine sx_condF rfl ?_
  refine sx_skip ?_
  refine sx_end0 rfl ?_
  exact ⟨rfl, cwl109⟩
 refine sx_guardF rfl rfl rfl rfl rfl rfl ?_
 refine sx_guardF rfl rfl rfl rfl rfl rfl ?_
 refine sx_guardF rfl rfl rfl rfl rfl rfl ?_
 refine sp rfl (px_pick rfl rfl) ?_
 refine wl_nil (q_n (k152 _ _ ?_))
 refine sx_sub (Sub.c 0 rfl (.c 1 rfl (.c 3 rfl (.c 4 rfl (.c 18 rfl (.c 20 rfl (.c 24 rfl (.c 199 rfl .nil)))))))) ?_
 refine sx_condF rfl ?_
 refine sx_skip ?_
 refine q_n (k151 _ _ ?_)
 refine sx_seq fun K161 k161 => sx_region ?_
 refine mv rfl rfl (mv rfl rfl (sp rfl (px_lt rfl rfl) ?_))
 refine mv rfl rfl ?_
 refine sx_tmpP (t := 209) rfl (fun h455 => ?_) (fun h455 => ?_)
 ·
  refine sx_guardT rfl rfl rfl ?_
  refine mv rfl rfl ?_
  refine sx_guardT rfl rfl rfl ?_
  refine mv rfl rfl ?_
  refine sx_guardT rfl rfl rfl ?_
  refine sp rfl (px_lt rfl rfl) ?_
  refine sp rfl (px_pick rfl rfl) ?_
  refine wl_nil (q_n (k161 _ _ ?_))
  refine sx_sub (Sub.c 0 rfl (.c 3 rfl (.c 4 rfl (.c 18 rfl (.c 24 rfl (.c 213 rfl .nil)))))) ?_
  refine sx_condP rfl (fun h455x1 => ?_) (fun h455x1 => ?_)
  ·
   refine sx_region ?_
   refine mv rfl rfl (mv rfl rfl (mv rfl rfl (mv rfl rfl (mv rfl rfl ?_))))
   have f162 := hvd.ext cwl109
   refine sx_call rfl rfl Try.call103 (c_symMergeE3 f162 (by omega) (by omega) (by assumption) (by assumption)) (fun v163 w163 p163 => ?_)
   obtain ⟨rfl, c163⟩ := p163
   have zw163 := c163.size
   refine wl_nil ?_
   refine sx_end0 rfl ?_
   exact ⟨rfl, (cwl109.t c163)⟩
  refine sx_skip ?_
  refine sx_end0 rfl ?_
  exact ⟨rfl, cwl109⟩
 refine sx_guardF rfl rfl rfl rfl rfl rfl ?_
 refine sx_guardF rfl rfl rfl rfl rfl rfl ?_
 refine sx_guardF rfl rfl rfl rfl rfl rfl ?_
 refine sp rfl (px_pick rfl rfl) ?_
 refine wl_nil (q_n (k161 _ _ ?_))
 refine sx_sub (Sub.c 0 rfl (.c 3 rfl (.c 4 rfl (.c 18 rfl (.c 24 rfl (.c 213 rfl .nil)))))) ?_
 refine sx_condF rfl ?_
 refine sx_skip ?_
 refine sx_end0 rfl ?_
 exact ⟨rfl, cwl109⟩

theorem c_stable {w : World} {vd : Value} {lvd uvd tvd : Nat} {ix : List Nat} {ps : List Value} {r : Nat → Nat} {n : Int} (hvd : PtO w lvd uvd tvd vd 66 ix ps r) (hn : n = (ix.length : Int) ∧ 1 ≤ ix.length ∧ ix.length ≤ 19) (hP : ix.Perm (List.range ix.length)) (hr : ∀ i, (dg (r i)).length ≤ 100) :
  Ret Try.prog 89 [vd, .int .i64 n, .func (.func 33) #[] #[]] w fun v w' => ∃ ix2, v = .tuple #[] ∧ PtO w' (lvd) (uvd) (tvd) vd 66 (ix2) ps r ∧ ((ix2).Perm (List.range (ix).length)) ∧ (SortTo r ix2 (ix).length) ∧ Chg lvd uvd w w' := by
 refine sx_enter Try.func89 rfl Try.ntmps89 (nbl rfl) ?_
 refine sx_seq fun K1 k1 => sx_region ?_
 refine av rfl rfl (wl_nil (q_n (k1 _ _ ?_)))
 refine sx_seq fun K2 k2 => sx_region ?_
 refine mv rfl rfl (av rfl rfl (av rfl rfl (wl_nil (q_n (k2 _ _ ?_)))))
 refine sx_seq fun K3 k3 => ?_
 refine sx_block ?_
 refine sx_loop (fun mm aa w' => Agr 63 [(0, vd), (1, .int .i64 n), (2, .func (.func 33) #[] #[]), (6, .int .i64 20), (7, .int .i64 0), (8, .int .i64 20)] aa ∧ Chg 0 0 w w' ∧ (mm = 0)) (_) (fun a ha => ⟨ha.sub (Sub.c 0 rfl (.c 1 rfl (.c 2 rfl (.c 6 rfl (.c 7 rfl (.c 8 rfl .nil)))))), Chg.refl _ _ _, rfl⟩) ?_
 rintro mm aa wl4 ⟨hAwl4, cwl4, hm⟩
 refine (show cw Try.prog 63 _ _ _ wl4 from ?_) aa hAwl4
 clear hAwl4
 have zwl4 := cwl4.size
 refine sx_seq fun K5 k5 => ?_
 refine sx_seq fun K6 k6 => sx_region ?_
 refine mv rfl rfl (mv rfl rfl (sp rfl (px_le rfl rfl) ?_))
 refine wl_nil (q_n (k6 _ _ ?_))
 have h338 : ¬ ((20 : Int) ≤ n) := by omega
 refine sx_condPF rfl h338 ?_
 refine sx_exit ?_
 refine q_e (q_e (q_bx (q_n (k3 _ _ ?_))))
 refine sx_seq fun K7 k7 => sx_region ?_
 refine mv rfl rfl (mv rfl rfl (mv rfl rfl (mv rfl rfl ?_)))
 have f8 := hvd.ext cwl4
 refine sx_call rfl rfl Try.call102 (c_insSort f8 (by omega) (by assumption) (by assumption)) (fun v9 w9 p9 => ?_)
 obtain ⟨ix29, rfl, ovd_9, hP29, hS29, c9⟩ := p9
 have zw9 := c9.size
 refine wl_nil (q_n (k7 _ _ ?_))
 refine sx_block ?_
 refine sx_loop (fun mm aa w' => Agr 63 [(0, vd), (1, .int .i64 n), (2, .func (.func 33) #[] #[]), (6, .int .i64 20), (7, .int .i64 0)] aa ∧ Chg 0 0 w9 w' ∧ (mm = 0)) (_) (fun a ha => ⟨ha.sub (Sub.c 0 rfl (.c 1 rfl (.c 2 rfl (.c 6 rfl (.c 7 rfl .nil))))), Chg.refl _ _ _, rfl⟩) ?_
 rintro mm aa wl10 ⟨hAwl10, cwl10, hm⟩
 refine (show cw Try.prog 63 _ _ _ wl10 from ?_) aa hAwl10
 clear hAwl10
 have zwl10 := cwl10.size
 refine sx_seq fun K11 k11 => ?_
 refine sx_seq fun K12 k12 => sx_region ?_
 refine mv rfl rfl (mv rfl rfl (sp rfl (px_lt rfl rfl) ?_))
 refine wl_nil (q_n (k12 _ _ ?_))
 have h345 : ¬ ((20 : Int) < n) := by omega
 refine sx_condPF rfl h345 ?_
 refine sx_exit ?_
 refine q_e (q_e (q_bx (sx_end0 rfl ?_)))
 have f13 := ovd_9.ext cwl10
 have q14 := Chg.step (l := lvd) (h := uvd) (Chg.zero (l := lvd) (h := uvd) cwl4) c9 (by omega)
 have q15 := Chg.step (l := lvd) (h := uvd) q14 cwl10 (by omega)
 exact ⟨_, rfl, f13, hP29, hS29, q15⟩

theorem c_stableE {w : World} {vd : Value} {lvd uvd tvd : Nat} {ix : List Nat} {ps : List Value} {r : Nat → Nat} {n : Int} (hvd : PtO w lvd uvd tvd vd 66 ix ps r) (hn : n = (ix.length : Int) ∧ 1 ≤ ix.length ∧ ix.length ≤ 30) (hS : SortTo r ix ix.length) (hr : ∀ i, (dg (r i)).length ≤ 100) :
  Ret Try.prog 89 [vd, .int .i64 n, .func (.func 33) #[] #[]] w fun v w' => v = .tuple #[] ∧ Chg 0 0 w w' := by
 refine sx_enter Try.func89 rfl Try.ntmps89 (nbl rfl) ?_
 refine sx_seq fun K1 k1 => sx_region ?_
 refine av rfl rfl (wl_nil (q_n (k1 _ _ ?_)))
 refine sx_seq fun K2 k2 => sx_region ?_
 refine mv rfl rfl (av rfl rfl (av rfl rfl (wl_nil (q_n (k2 _ _ ?_)))))
 refine sx_seq fun K3 k3 => ?_
 refine sx_block ?_
 refine sx_loop (fun mm aa w' => ∃ (x : Int), Agr 63 [(0, vd), (1, .int .i64 n), (2, .func (.func 33) #[] #[]), (6, .int .i64 20), (7, .int .i64 x), (8, .int .i64 (x + 20))] aa ∧ Chg 0 0 w w' ∧ (mm = (n + 40 - x).toNat) ∧ (0 ≤ x ∧ x ≤ n)) (_) (fun a ha => ⟨0, ha.sub (Sub.c 0 rfl (.c 1 rfl (.c 2 rfl (.c 6 rfl (.c 7 (look_int (t := 7) rfl (by first | omega | simp)) (.c 8 (look_int (t := 8) rfl (by first | omega | simp)) .nil)))))), Chg.refl _ _ _, rfl, by omega⟩) ?_
 rintro mm aa wl4 ⟨x, hAwl4, cwl4, hm, hx⟩
 refine (show cw Try.prog 63 _ _ _ wl4 from ?_) aa hAwl4
 clear hAwl4
 have zwl4 := cwl4.size
 refine sx_seq fun K5 k5 => ?_
 refine sx_seq fun K6 k6 => sx_region ?_
 refine mv rfl rfl (mv rfl rfl (sp rfl (px_le rfl rfl) ?_))
 refine wl_nil (q_n (k6 _ _ ?_))
 refine sx_condP rfl (fun h338 => ?_) (fun h338 => ?_)
 ·
  refine sx_skip ?_
  refine q_n (k5 _ _ ?_)
  refine sx_block ?_
  refine sx_seq fun K7 k7 => sx_region ?_
  refine mv rfl rfl (mv rfl rfl (mv rfl rfl (mv rfl rfl ?_)))
  have f8 := hvd.ext cwl4
  refine sx_call rfl rfl Try.call102 (c_insSortE f8 (by omega) (by assumption) (by assumption)) (fun v9 w9 p9 => ?_)
  obtain ⟨rfl, c9⟩ := p9
  have zw9 := c9.size
  refine wl_nil (q_n (k7 _ _ ?_))
  refine sx_seq fun K10 k10 => sx_region ?_
  refine mv rfl rfl (av rfl rfl (wl_nil (q_n (k10 _ _ ?_))))
  refine sx_sub (Sub.c 0 rfl (.c 1 rfl (.c 2 rfl (.c 6 rfl (.c 7 rfl (.c 8 rfl .nil)))))) ?_
  refine sx_region ?_
  refine mv rfl rfl (mv rfl rfl (sp rfl (px_add rfl rfl (by omega)) ?_))
  refine av rfl rfl (wl_nil ?_)
  exact q_bn (fun a ha => ⟨_, by omega, (x + 20), ha.sub (Sub.c 0 rfl (.c 1 rfl (.c 2 rfl (.c 6 rfl (.c 7 (look_int (t := 7) rfl (by first | omega | simp)) (.c 8 (look_int (t := 8) rfl (by first | omega | simp)) .nil)))))), (cwl4.t c9), rfl, by omega⟩)
 refine sx_exit ?_
 refine q_e (q_e (q_bx (q_n (k3 _ _ ?_))))
 refine sx_seq fun K11 k11 => sx_region ?_
 refine mv rfl rfl (mv rfl rfl (mv rfl rfl (mv rfl rfl ?_)))
 have f12 := hvd.ext cwl4
 refine sx_call rfl rfl Try.call102 (c_insSortE f12 (by omega) (by assumption) (by assumption)) (fun v13 w13 p13 => ?_)
 obtain ⟨rfl, c13⟩ := p13
 have zw13 := c13.size
 refine wl_nil (q_n (k11 _ _ ?_))
 refine sx_block ?_
 refine sx_loop (fun mm aa w' => ∃ (bs : Int) (x2 : Int), Agr 63 [(0, vd), (1, .int .i64 n), (2, .func (.func 33) #[] #[]), (6, .int .i64 bs), (7, .int .i64 x2)] aa ∧ Chg 0 0 w13 w' ∧ (mm = (80 - bs).toNat) ∧ (bs = 20 ∨ bs = 40)) (_) (fun a ha => ⟨20, x, ha.sub (Sub.c 0 rfl (.c 1 rfl (.c 2 rfl (.c 6 (look_int (t := 6) rfl (by first | omega | simp)) (.c 7 (look_int (t := 7) rfl (by first | omega | simp)) .nil))))), Chg.refl _ _ _, rfl, by omega⟩) ?_
 rintro mm aa wl14 ⟨bs, x2, hAwl14, cwl14, hm, hbs⟩
 refine (show cw Try.prog 63 _ _ _ wl14 from ?_) aa hAwl14
 clear hAwl14
 have zwl14 := cwl14.size
 refine sx_seq fun K15 k15 => ?_
 refine sx_seq fun K16 k16 => sx_region ?_
 refine mv rfl rfl (mv rfl rfl (sp rfl (px_lt rfl rfl) ?_))
 refine wl_nil (q_n (k16 _ _ ?_))
 refine sx_condP rfl (fun h345 => ?_) (fun h345 => ?_)
 ·
  refine sx_skip ?_
  refine q_n (k15 _ _ ?_)
  refine sx_block ?_
  refine sx_seq fun K17 k17 => sx_region ?_
  refine mv rfl rfl (sp rfl (px_mul rfl rfl (by omega)) ?_)
  refine av rfl rfl (av rfl rfl (wl_nil (q_n (k17 _ _ ?_))))
  refine sx_seq fun K18 k18 => ?_
  refine sx_block ?_
  refine sx_loop (fun mm aa w' => Agr 63 [(0, vd), (1, .int .i64 n), (2, .func (.func 33) #[] #[]), (6, .int .i64 bs), (7, .int .i64 0), (8, .int .i64 (2 * bs))] aa ∧ Chg 0 0 wl14 w' ∧ (mm = 0)) (_) (fun a ha => ⟨ha.sub (Sub.c 0 rfl (.c 1 rfl (.c 2 rfl (.c 6 rfl (.c 7 rfl (.c 8 rfl .nil)))))), Chg.refl _ _ _, rfl⟩) ?_
  rintro mm aa wl19 ⟨hAwl19, cwl19, hm⟩
  refine (show cw Try.prog 63 _ _ _ wl19 from ?_) aa hAwl19
  clear hAwl19
  have zwl19 := cwl19.size
  refine sx_seq fun K20 k20 => ?_
  refine sx_seq fun K21 k21 => sx_region ?_
  refine mv rfl rfl (mv rfl rfl (sp rfl (px_le rfl rfl) ?_))
  refine wl_nil (q_n (k21 _ _ ?_))
  have h347 : ¬ ((2 * bs : Int) ≤ n) := by omega
  refine sx_condPF rfl h347 ?_
  refine sx_exit ?_
  refine q_e (q_e (q_bx (q_n (k18 _ _ ?_))))
  refine sx_seq fun K22 k22 => ?_
  refine sx_seq fun K23 k23 => sx_region ?_
  refine mv rfl rfl (mv rfl rfl (sp rfl (px_add rfl rfl (by omega)) ?_))
  refine av rfl rfl (wl_nil (q_n (k23 _ _ ?_)))
  refine sx_seq fun K24 k24 => sx_region ?_
  refine mv rfl rfl (mv rfl rfl (sp rfl (px_lt rfl rfl) ?_))
  refine wl_nil (q_n (k24 _ _ ?_))
  refine sx_sub (Sub.c 0 rfl (.c 1 rfl (.c 2 rfl (.c 6 rfl (.c 7 rfl (.c 9 rfl (.c 54 rfl .nil))))))) ?_
  have h352 : (0 + bs : Int) < n := by omega
  refine sx_condPT rfl h352 ?_
  refine sx_region ?_
  refine mv rfl rfl (mv rfl rfl (mv rfl rfl (mv rfl rfl (mv rfl rfl ?_))))
  have f26 := (f12.ext c13).ext cwl14
  have f27 := f26.ext cwl19
  refine sx_call rfl rfl Try.call103 (c_symMergeE4 f27 (by omega) (by omega) (by assumption) (by assumption)) (fun v28 w28 p28 => ?_)
  obtain ⟨rfl, c28⟩ := p28
  have zw28 := c28.size
  refine wl_nil (q_n (k22 _ _ ?_))
  refine sx_region ?_
  refine mv rfl rfl (sp rfl (px_mul rfl rfl (by omega)) ?_)
  refine av rfl rfl (wl_nil ?_)
  exact q_bn (fun a ha => ⟨_, by omega, (bs * 2), 0, ha.sub (Sub.c 0 rfl (.c 1 rfl (.c 2 rfl (.c 6 (look_int (t := 6) rfl (by first | omega | simp)) (.c 7 (look_int (t := 7) rfl (by first | omega | simp)) .nil))))), ((cwl14.t cwl19).t c28), rfl, by omega⟩)
 refine sx_exit ?_
 refine q_e (q_e (q_bx (sx_end0 rfl ?_)))
 exact ⟨rfl, ((cwl4.t c13).t cwl14)⟩

theorem c_sortStable {w : World} {vd : Value} {lvd uvd tvd : Nat} {ix : List Nat} {ps : List Value} {r : Nat → Nat} (hvd : PtO w lvd uvd tvd vd 66 ix ps r) (hn : 1 ≤ ix.length ∧ ix.length ≤ 19) (hP : ix.Perm (List.range ix.length)) (hr : ∀ i, (dg (r i)).length ≤ 100) :
  Ret Try.prog 70 [vd, .func (.func 33) #[] #[]] w fun v w' => ∃ ix2, v = .tuple #[] ∧ PtO w' (lvd) (uvd) (tvd) vd 66 (ix2) ps r ∧ ((ix2).Perm (List.range (ix).length)) ∧ (SortTo r ix2 (ix).length) ∧ Chg lvd uvd w w' := by
 refine sx_enter Try.func70 rfl Try.ntmps70 (nbl rfl) ?_
 refine sx_region ?_
 refine mv rfl rfl (mv rfl rfl (sp rfl (px_len rfl Try.underlying61 hvd.sv) ?_))
 refine mv rfl rfl (sx_call rfl rfl Try.call89 (c_stable hvd (by omega) (by assumption) (by assumption)) (fun v1 w1 p1 => ?_))
 obtain ⟨ix21, rfl, ovd_1, hP21, hS21, c1⟩ := p1
 have zw1 := c1.size
 refine wl_nil ?_
 refine sx_end0 rfl ?_
 exact ⟨_, rfl, ovd_1, hP21, hS21, c1⟩

theorem c_sortStableE {w : World} {vd : Value} {lvd uvd tvd : Nat} {ix : List Nat} {ps : List Value} {r : Nat → Nat} (hvd : PtO w lvd uvd tvd vd 66 ix ps r) (hn : 1 ≤ ix.length ∧ ix.length ≤ 30) (hS : SortTo r ix ix.length) (hr : ∀ i, (dg (r i)).length ≤ 100) :
  Ret Try.prog 70 [vd, .func (.func 33) #[] #[]] w fun v w' => v = .tuple #[] ∧ Chg 0 0 w w' := by
 refine sx_enter Try.func70 rfl Try.ntmps70 (nbl rfl) ?_
 refine sx_region ?_
 refine mv rfl rfl (mv rfl rfl (sp rfl (px_len rfl Try.underlying61 hvd.sv) ?_))
 refine mv rfl rfl (sx_call rfl rfl Try.call89 (c_stableE hvd (by omega) (by assumption) (by assumption)) (fun v1 w1 p1 => ?_))
 obtain ⟨rfl, c1⟩ := p1
 have zw1 := c1.size
 refine wl_nil ?_
 refine sx_end0 rfl ?_
 exact ⟨rfl, c1⟩

theorem c_sortByG {w : World} {vd : Value} {lvd uvd tvd : Nat} {ix : List Nat} {ps : List Value} {r : Nat → Nat} (hvd : PtO w lvd uvd tvd vd 66 ix ps r) (hn : 1 ≤ ix.length ∧ ix.length ≤ 19) (hP : ix.Perm (List.range ix.length)) (hr : ∀ i, (dg (r i)).length ≤ 100) :
  Ret Try.prog 32 [vd, .func (.func 33) #[] #[]] w fun v w' => ∃ v2 ix2, v = v2 ∧ PtO w' (w.heap.size) (w'.heap.size) (w.heap.size) v2 66 (ix2) ps r ∧ ((ix2).Perm (List.range (ix).length)) ∧ (SortTo r ix2 (ix).length) ∧ Chg 0 0 w w' := by
 refine sx_enter Try.func32 rfl Try.ntmps32 (nbl rfl) ?_
 refine sx_seq fun K1 k1 => sx_region ?_
 refine av rfl rfl (wl_nil (q_n (k1 _ _ ?_)))
 refine sx_seq fun K2 k2 => sx_region ?_
 refine mv rfl rfl (sx_call rfl rfl Try.call69 (c_clone hvd (by omega)) (fun v3 w3 p3 => ?_))
 obtain ⟨v23, rfl, ov2_3, c3⟩ := p3
 have zw3 := c3.size
 refine av rfl rfl (wl_nil (q_n (k2 _ _ ?_)))
 refine sx_seq fun K4 k4 => sx_region ?_
 refine mv rfl rfl (mv rfl rfl (sx_call rfl rfl Try.call70 (c_sortStable ov2_3 (by omega) (by assumption) (by assumption)) (fun v5 w5 p5 => ?_)))
 obtain ⟨ix25, rfl, ovd_5, hP25, hS25, c5⟩ := p5
 have zw5 := c5.size
 refine wl_nil (q_n (k4 _ _ ?_))
 refine sx_seq fun K6 k6 => sx_region ?_
 refine mv rfl rfl (av rfl rfl (wl_nil (q_n (k6 _ _ ?_))))
 refine sx_retc ?_
 refine sx_ret1 Try.results32 rfl ?_
 have q7 := Chg.step (l := 0) (h := 0) (Chg.zero (l := 0) (h := 0) c3) c5 (by omega)
 exact ⟨_, _, rfl, (ovd_5).wide (by omega) (by omega) (Nat.le_refl _), hP25, hS25, q7⟩

theorem c_sortByE {w : World} {vd : Value} {lvd uvd tvd : Nat} {ix : List Nat} {ps : List Value} {r : Nat → Nat} (hvd : PtO w lvd uvd tvd vd 66 ix ps r) (hn : 1 ≤ ix.length ∧ ix.length ≤ 30) (hP : ix.Perm (List.range ix.length)) (hS : SortTo r ix ix.length) (hr : ∀ i, (dg (r i)).length ≤ 100) :
  Ret Try.prog 32 [vd, .func (.func 33) #[] #[]] w fun v w' => ∃ v2 ix2, v = v2 ∧ PtO w' (w.heap.size) (w'.heap.size) (w.heap.size) v2 66 (ix2) ps r ∧ ((ix2).Perm (List.range (ix).length)) ∧ (SortTo r ix2 (ix).length) ∧ Chg 0 0 w w' := by
 refine sx_enter Try.func32 rfl Try.ntmps32 (nbl rfl) ?_
 refine sx_seq fun K1 k1 => sx_region ?_
 refine av rfl rfl (wl_nil (q_n (k1 _ _ ?_)))
 refine sx_seq fun K2 k2 => sx_region ?_
 refine mv rfl rfl (sx_call rfl rfl Try.call69 (c_clone hvd (by omega)) (fun v3 w3 p3 => ?_))
 obtain ⟨v23, rfl, ov2_3, c3⟩ := p3
 have zw3 := c3.size
 refine av rfl rfl (wl_nil (q_n (k2 _ _ ?_)))
 refine sx_seq fun K4 k4 => sx_region ?_
 refine mv rfl rfl (mv rfl rfl (sx_call rfl rfl Try.call70 (c_sortStableE ov2_3 (by omega) (by assumption) (by assumption)) (fun v5 w5 p5 => ?_)))
 obtain ⟨rfl, c5⟩ := p5
 have zw5 := c5.size
 refine wl_nil (q_n (k4 _ _ ?_))
 refine sx_seq fun K6 k6 => sx_region ?_
 refine mv rfl rfl (av rfl rfl (wl_nil (q_n (k6 _ _ ?_))))
 refine sx_retc ?_
 refine sx_ret1 Try.results32 rfl ?_
 have f7 := ov2_3.ext c5
 exact ⟨_, _, rfl, (f7).wide (by omega) (by omega) (Nat.le_refl _), hP, hS, (c3.t c5)⟩

theorem c_sortBy {w : World} {vd : Value} {lvd uvd tvd : Nat} {ix : List Nat} {ps : List Value} {r : Nat → Nat} (hvd : PtO w lvd uvd tvd vd 66 ix ps r) (hn : 1 ≤ ix.length ∧ ix.length ≤ 30) (hor : ix.length ≤ 19 ∨ SortTo r ix ix.length) (hP : ix.Perm (List.range ix.length)) (hr : ∀ i, (dg (r i)).length ≤ 100) :
  Ret Try.prog 32 [vd, .func (.func 33) #[] #[]] w fun v w' => ∃ v2 ix2, v = v2 ∧ PtO w' (w.heap.size) (w'.heap.size) (w.heap.size) v2 66 (ix2) ps r ∧ ((ix2).Perm (List.range (ix).length)) ∧ (SortTo r ix2 (ix).length) ∧ Chg 0 0 w w' := by
 rcases hor with h | h
 · exact c_sortByG hvd ⟨hn.1, h⟩ hP hr
 · exact c_sortByE hvd hn hP h hr

end Go.Proofs.Ytjkeefmpjocilaa
