/- Contracts of functions of the program: what each call returns, and that it changes nothing that was. Conditions: as each says. -/
import Derived.Test.YtoeclobdbblohaaGreatDoorTy
import Derived.Test.YtoeclobdbblohaaGreatDoorNatJ
import Derived.Test.YtoeclobdbblohaaGreatDoorSxB
import Derived.Test.YtoeclobdbblohaaGreatDoorPair
import Derived.Test.YtoeclobdbblohaaGreatDoorSxW
import Derived.Test.YtoeclobdbblohaaGreatDoorNatI
import Derived.Test.YtoeclobdbblohaaGreatDoorTab
import Derived.Test.YtoeclobdbblohaaGreatDoorLay
import Derived.Test.YtoeclobdbblohaaGreatDoorLayB
import Derived.Test.YtoeclobdbblohaaGreatDoorNatX
import Derived.Test.YtoeclobdbblohaaGreatDoorSxP
import Derived.Test.YtoeclobdbblohaaGreatDoorP1
import Derived.Test.YtoeclobdbblohaaGreatDoorNatDx
set_option linter.unusedVariables false
set_option linter.unusedSimpArgs false
namespace Go.Proofs.YtoeclobdbblohaaGreatDoor
open Go Go.RowKit
set_option maxRecDepth 100000
theorem c_iDecText {w : World} {n1 : Bool} {v1 : Value} {lv1 uv1 : Nat} {z1 : List Int} {p1 : Int} (hGT : GlobP w) (hv1 : Sl w lv1 uv1 v1 (z1)) (h63 : z1.length ≤ 4611686018427387904) :
  Ret Tryz.prog 7 [.agg #[.bool n1, v1, .int .i64 p1]] w fun v w' => v = .string (decT n1 z1 p1) ∧ ((decT n1 z1 p1).size ≤ 200) ∧ Chg 0 0 w w' := by
 have hGTl := hGT.lt
 have hv10 := hv1.fit
 refine sx_enter Tryz.func7 rfl Tryz.ntmps7 (nbl rfl) ?_
 refine sx_seq fun K1 k1 => sx_region ?_
 refine sx_box [.bool n1, v1, .int .i64 p1] rfl rfl rfl (fun b2 w3 eb2 sb2 fb2 cb2 => ?_)
 have zw3 := cb2.size
 refine av rfl rfl (wl_nil (q_n (k1 _ _ ?_)))
 refine sx_seq fun K4 k4 => ?_
 refine sx_seq fun K5 k5 => sx_region ?_
 refine sp rfl (px_load rfl (fb2.loadA (vs := [.bool n1, v1, .int .i64 p1]) (look_lit rfl) Tryz.isAgg27 Tryz.sizeOf27)) ?_
 have f6 := hv10.ext cb2
 refine sx_call rfl rfl Tryz.call34 (c_iDecOk f6 (by omega)) (fun v7 w7 p7 => ?_)
 obtain ⟨rfl, c7⟩ := p7
 have zw7 := c7.size
 refine sp rfl (px_notP rfl) ?_
 refine wl_nil (q_n (k5 _ _ ?_))
 refine sx_condP rfl (fun h39 => ?_) (fun h39 => ?_)
 ·
  refine sx_seq fun K8 k8 => sx_region ?_
  refine av rfl rfl (wl_nil (q_n (k8 _ _ ?_)))
  refine sx_retc ?_
  refine q_r (sx_ret1 Tryz.results7 rfl ?_)
  rw [decT_no h39]
  exact ⟨rfl, by decide, (cb2.t c7)⟩
 have hD := Decidable.not_not.1 h39
 have hz := hD.1.1.1
 have hl6 := hD.2.1
 have hp30 := hD.2.2
 have hns := natT_size hz
 have hps := padT_size (s := natT z1) (n := p1 + 1) (by omega)
 refine sx_skip ?_
 refine q_n (k4 _ _ ?_)
 refine sx_seq fun K9 k9 => ?_
 have f10 := hGT.ext cb2
 have f12 := fb2.ext c7
 refine dx_region (fun w' => Chg 0 0 w7 w') (by kernel_rfl) (Chg.zero (Chg.drew _)) ?_
 have d14 := Chg.drew w7
 have s14 : Chg 0 0 w7 (World.drew w7) := Chg.zero (Chg.drew _)
 have y14 : (World.drew w7).heap.size = w7.heap.size := rfl
 generalize World.drew w7 = w14 at *
 have zw14 := d14.size
 refine dt 0 rfl rfl rfl rfl s14 (fun _ hS => px_field rfl xfld27x0) ?_
 refine dt 1 rfl rfl rfl rfl s14 (fun _ hS => px_field rfl xfld25x1) ?_
 refine dt 2 rfl rfl rfl rfl s14 (fun _ hS => px_load rfl ((f12.chg hS (by omega)).load1 rfl Tryz.isAgg23)) ?_
 refine dt 4 rfl rfl rfl rfl s14 (fun _ hS => px_field rfl xfld27x1) ?_
 refine dt 5 rfl rfl rfl rfl s14 (fun _ hS => px_load rfl ((f12.chg hS (by omega)).load1 rfl Tryz.isAgg3)) ?_
 refine dt 6 rfl rfl rfl rfl s14 (fun _ hS => px_add rfl rfl (by omega)) ?_
 refine dx_eff 3 rfl (by kernel_rfl) ?_
 have f15 := (f10.ext c7).ext d14
 have f16 := (f6.ext c7).ext d14
 refine sx_call rfl rfl Tryz.call36 (c_natText f15 f16 (by omega) (by omega)) (fun v17 w17 p17 => ?_)
 obtain ⟨rfl, c17⟩ := p17
 have zw17 := c17.size
 have s18 : Chg 0 0 w7 w17 := (d14.t c17)
 refine wl_nil ?_
 refine dx_next s18 ?_
 refine dx_eff 7 rfl (by kernel_rfl) ?_
 refine sx_call rfl rfl Tryz.call35 (c_iPad (by omega) (by omega)) (fun v19 w19 p19 => ?_)
 obtain ⟨rfl, c19⟩ := p19
 have zw19 := c19.size
 have s20 : Chg 0 0 w7 w19 := ((d14.t c17).t c19)
 refine wl_nil ?_
 refine dx_next s20 ?_
 refine dt 8 rfl rfl rfl rfl s20 (fun _ hS => px_assign rfl) ?_
 refine dx_done (by kernel_rfl) ?_
 refine q_n (k9 _ _ ?_)
 refine sx_sub (Sub.c 1 rfl (.c 2 rfl (.c 3 rfl .nil))) ?_
 refine sx_seq fun K21 k21 => ?_
 refine sx_seq fun K22 k22 => sx_region ?_
 refine sp rfl (px_field rfl xfld27x1) ?_
 have f25 := ((f12.ext d14).ext c17).ext c19
 refine sp rfl (px_load rfl (f25.load1 rfl Tryz.isAgg3)) ?_
 refine sp rfl (px_gt rfl rfl) ?_
 refine wl_nil (q_n (k22 _ _ ?_))
 refine sx_condP rfl (fun h43 => ?_) (fun h43 => ?_)
 ·
  refine sx_seq fun K26 k26 => sx_region ?_
  refine mv rfl rfl (sp rfl (px_lenS rfl Tryz.underlying9) ?_)
  refine sp rfl (px_field rfl xfld27x1) ?_
  refine sp rfl (px_load rfl (f25.load1 rfl Tryz.isAgg3)) ?_
  refine sp rfl (px_sub rfl rfl (by omega)) ?_
  refine av rfl rfl (wl_nil (q_n (k26 _ _ ?_)))
  have f28 := (f15.ext c17).ext c19
  have f30 := (f16.ext c17).ext c19
  refine dx_region (fun w' => Chg 0 0 w19 w') (by kernel_rfl) (Chg.zero (Chg.drew _)) ?_
  have d31 := Chg.drew w19
  have s31 : Chg 0 0 w19 (World.drew w19) := Chg.zero (Chg.drew _)
  have y31 : (World.drew w19).heap.size = w19.heap.size := rfl
  generalize World.drew w19 = w31 at *
  have zw31 := d31.size
  refine dt 0 rfl rfl rfl rfl s31 (fun _ hS => px_move rfl) ?_
  refine dt 1 rfl rfl rfl rfl s31 (fun _ hS => px_move rfl) ?_
  refine dt 2 rfl rfl rfl rfl s31 (fun _ hS => px_strTo (h := ((padT (natT z1) (p1 + 1)).size - p1.toNat)) rfl rfl (by omega) Tryz.underlying9 (by omega)) ?_
  refine dt 3 rfl rfl rfl rfl s31 (fun _ hS => px_cat rfl rfl (by (have e45 : (⟨#[45]⟩ : ByteArray).size = 1 := rfl); (have e46 : (⟨#[46]⟩ : ByteArray).size = 1 := rfl); (try simp only [ByteArray.size_append, ByteArray.size_extract]); omega)) ?_
  refine dt 4 rfl rfl rfl rfl s31 (fun _ hS => px_move rfl) ?_
  refine dt 5 rfl rfl rfl rfl s31 (fun _ hS => px_move rfl) ?_
  refine dt 6 rfl rfl rfl rfl s31 (fun _ hS => px_strFrom (l := ((padT (natT z1) (p1 + 1)).size - p1.toNat)) rfl rfl (by omega) Tryz.underlying9 (by omega)) ?_
  refine dt 7 rfl rfl rfl rfl s31 (fun _ hS => px_cat rfl rfl (by (have e45 : (⟨#[45]⟩ : ByteArray).size = 1 := rfl); (have e46 : (⟨#[46]⟩ : ByteArray).size = 1 := rfl); (try simp only [ByteArray.size_append, ByteArray.size_extract]); omega)) ?_
  refine dt 8 rfl rfl rfl rfl s31 (fun _ hS => px_assign rfl) ?_
  refine dx_done (by kernel_rfl) ?_
  refine q_n (k21 _ _ ?_)
  refine sx_sub (Sub.c 1 rfl (.c 2 rfl (.c 3 rfl .nil))) ?_
  refine sx_seq fun K32 k32 => ?_
  refine sx_seq fun K33 k33 => sx_region ?_
  refine sp rfl (px_field rfl xfld27x0) ?_
  refine sp rfl (px_field rfl xfld25x0) ?_
  have f34 := f25.ext d31
  refine sp rfl (px_load rfl (f34.load1 rfl Tryz.isAgg4)) ?_
  refine wl_nil (q_n (k33 _ _ ?_))
  refine sx_condB rfl (fun h47 => ?_) (fun h47 => ?_)
  ·
   refine sx_region ?_
   refine mv rfl rfl (sp rfl (px_cat rfl rfl (by (have e45 : (⟨#[45]⟩ : ByteArray).size = 1 := rfl); (have e46 : (⟨#[46]⟩ : ByteArray).size = 1 := rfl); (try simp only [ByteArray.size_append, ByteArray.size_extract]); omega)) ?_)
   refine av rfl rfl (wl_nil (q_n (k32 _ _ ?_)))
   refine sx_seq fun K35 k35 => sx_region ?_
   refine mv rfl rfl (av rfl rfl (wl_nil (q_n (k35 _ _ ?_))))
   refine sx_retc ?_
   refine sx_ret1 Tryz.results7 rfl ?_
   have e : (⟨#[45]⟩) ++ ((((padT (natT z1) (p1 + 1)).extract 0 ((padT (natT z1) (p1 + 1)).size - p1.toNat)) ++ (⟨#[46]⟩)) ++ ((padT (natT z1) (p1 + 1)).extract ((padT (natT z1) (p1 + 1)).size - p1.toNat) (padT (natT z1) (p1 + 1)).size)) = decT n1 z1 p1 := by unfold decT sgT ptT; rw [if_pos hD]; simp [h43, h47]
   exact ⟨congrArg Value.string e, by rw [← e]; (try simp only [ByteArray.size_append, ByteArray.size_extract]); (try have e45 : (⟨#[45]⟩ : ByteArray).size = 1 := rfl); (try have e46 : (⟨#[46]⟩ : ByteArray).size = 1 := rfl); omega, (((((cb2.t c7).t d14).t c17).t c19).t d31)⟩
  refine sx_skip ?_
  refine q_n (k32 _ _ ?_)
  refine sx_seq fun K36 k36 => sx_region ?_
  refine mv rfl rfl (av rfl rfl (wl_nil (q_n (k36 _ _ ?_))))
  refine sx_retc ?_
  refine sx_ret1 Tryz.results7 rfl ?_
  have e : (((padT (natT z1) (p1 + 1)).extract 0 ((padT (natT z1) (p1 + 1)).size - p1.toNat)) ++ (⟨#[46]⟩)) ++ ((padT (natT z1) (p1 + 1)).extract ((padT (natT z1) (p1 + 1)).size - p1.toNat) (padT (natT z1) (p1 + 1)).size) = decT n1 z1 p1 := by unfold decT sgT ptT; rw [if_pos hD]; simp [h43, h47]
  exact ⟨congrArg Value.string e, by rw [← e]; (try simp only [ByteArray.size_append, ByteArray.size_extract]); (try have e45 : (⟨#[45]⟩ : ByteArray).size = 1 := rfl); (try have e46 : (⟨#[46]⟩ : ByteArray).size = 1 := rfl); omega, (((((cb2.t c7).t d14).t c17).t c19).t d31)⟩
 refine sx_skip ?_
 refine q_n (k21 _ _ ?_)
 refine sx_seq fun K37 k37 => ?_
 refine sx_seq fun K38 k38 => sx_region ?_
 refine sp rfl (px_field rfl xfld27x0) ?_
 refine sp rfl (px_field rfl xfld25x0) ?_
 refine sp rfl (px_load rfl (f25.load1 rfl Tryz.isAgg4)) ?_
 refine wl_nil (q_n (k38 _ _ ?_))
 refine sx_condB rfl (fun h47 => ?_) (fun h47 => ?_)
 ·
  refine sx_region ?_
  refine mv rfl rfl (sp rfl (px_cat rfl rfl (by (have e45 : (⟨#[45]⟩ : ByteArray).size = 1 := rfl); (have e46 : (⟨#[46]⟩ : ByteArray).size = 1 := rfl); (try simp only [ByteArray.size_append, ByteArray.size_extract]); omega)) ?_)
  refine av rfl rfl (wl_nil (q_n (k37 _ _ ?_)))
  refine sx_seq fun K39 k39 => sx_region ?_
  refine mv rfl rfl (av rfl rfl (wl_nil (q_n (k39 _ _ ?_))))
  refine sx_retc ?_
  refine sx_ret1 Tryz.results7 rfl ?_
  have e : (⟨#[45]⟩) ++ (padT (natT z1) (p1 + 1)) = decT n1 z1 p1 := by unfold decT sgT ptT; rw [if_pos hD]; simp [h43, h47]
  exact ⟨congrArg Value.string e, by rw [← e]; (try simp only [ByteArray.size_append, ByteArray.size_extract]); (try have e45 : (⟨#[45]⟩ : ByteArray).size = 1 := rfl); (try have e46 : (⟨#[46]⟩ : ByteArray).size = 1 := rfl); omega, ((((cb2.t c7).t d14).t c17).t c19)⟩
 refine sx_skip ?_
 refine q_n (k37 _ _ ?_)
 refine sx_seq fun K40 k40 => sx_region ?_
 refine mv rfl rfl (av rfl rfl (wl_nil (q_n (k40 _ _ ?_))))
 refine sx_retc ?_
 refine sx_ret1 Tryz.results7 rfl ?_
 have e : padT (natT z1) (p1 + 1) = decT n1 z1 p1 := by unfold decT sgT ptT; rw [if_pos hD]; simp [h43, h47]
 exact ⟨congrArg Value.string e, by rw [← e]; (try simp only [ByteArray.size_append, ByteArray.size_extract]); (try have e45 : (⟨#[45]⟩ : ByteArray).size = 1 := rfl); (try have e46 : (⟨#[46]⟩ : ByteArray).size = 1 := rfl); omega, ((((cb2.t c7).t d14).t c17).t c19)⟩

theorem c_iRateText {w : World} {f1 : ByteArray} {t1 : ByteArray} {n1 : Bool} {v1 : Value} {lv1 uv1 : Nat} {z1 : List Int} {p1 : Int} (hG0 : Glob w) (hGT : GlobP w) (hv1 : Sl w lv1 uv1 v1 (z1)) (h63 : z1.length ≤ 4611686018427387904) :
  Ret Tryz.prog 25 [.agg #[.string f1, .string t1, .bool n1, v1, .int .i64 p1]] w fun v w' => v = .string (ratT f1 t1 n1 z1 p1) ∧ Chg 0 0 w w' := by
 have hGTl := hGT.lt
 have hv10 := hv1.fit
 refine sx_enter Tryz.func25 rfl Tryz.ntmps25 (nbl rfl) ?_
 refine sx_seq fun K1 k1 => sx_region ?_
 refine sx_box [.string f1, .string t1, .bool n1, v1, .int .i64 p1] rfl rfl rfl (fun b2 w3 eb2 sb2 fb2 cb2 => ?_)
 have zw3 := cb2.size
 refine av rfl rfl (wl_nil (q_n (k1 _ _ ?_)))
 refine sx_seq fun K4 k4 => ?_
 refine sx_seq fun K5 k5 => sx_region ?_
 refine sp rfl (px_load rfl (fb2.loadA (vs := [.string f1, .string t1, .bool n1, v1, .int .i64 p1]) (look_lit rfl) Tryz.isAgg54 Tryz.sizeOf54)) ?_
 have f6 := hG0.ext cb2
 have f7 := hv10.ext cb2
 refine sx_call rfl rfl Tryz.call55 (c_iRateOk f6 f7 (by omega)) (fun v8 w8 p8 => ?_)
 obtain ⟨rfl, c8⟩ := p8
 have zw8 := c8.size
 refine sp rfl (px_notP rfl) ?_
 refine wl_nil (q_n (k5 _ _ ?_))
 refine sx_condP rfl (fun h158 => ?_) (fun h158 => ?_)
 ·
  refine sx_seq fun K9 k9 => sx_region ?_
  refine av rfl rfl (wl_nil (q_n (k9 _ _ ?_)))
  refine sx_retc ?_
  refine q_r (sx_ret1 Tryz.results25 rfl ?_)
  rw [ratT_no h158]
  exact ⟨rfl, (cb2.t c8)⟩
 have hM := Decidable.not_not.1 h158
 have hks := known_size hM.1
 have hks2 := known_size hM.2.1
 refine sx_skip ?_
 refine q_n (k4 _ _ ?_)
 refine sx_seq fun K10 k10 => ?_
 have f11 := f6.ext c8
 have f12 := hGT.ext cb2
 have f14 := fb2.ext c8
 refine dx_region (fun w' => Chg 0 0 w8 w') (by kernel_rfl) (Chg.zero (Chg.drew _)) ?_
 have d16 := Chg.drew w8
 have s16 : Chg 0 0 w8 (World.drew w8) := Chg.zero (Chg.drew _)
 have y16 : (World.drew w8).heap.size = w8.heap.size := rfl
 generalize World.drew w8 = w16 at *
 have zw16 := d16.size
 refine dt 0 rfl rfl rfl rfl s16 (fun _ hS => px_field rfl xfld54x0) ?_
 refine dt 1 rfl rfl rfl rfl s16 (fun _ hS => px_load rfl ((f14.chg hS (by omega)).load1 rfl Tryz.isAgg9)) ?_
 refine dt 2 rfl rfl rfl rfl s16 (fun _ hS => px_cat rfl rfl (by (have e32 : (⟨#[32]⟩ : ByteArray).size = 1 := rfl); (try simp only [ByteArray.size_append]); omega)) ?_
 refine dt 3 rfl rfl rfl rfl s16 (fun _ hS => px_field rfl xfld54x1) ?_
 refine dt 4 rfl rfl rfl rfl s16 (fun _ hS => px_load rfl ((f14.chg hS (by omega)).load1 rfl Tryz.isAgg9)) ?_
 refine dt 5 rfl rfl rfl rfl s16 (fun _ hS => px_cat rfl rfl (by (have e32 : (⟨#[32]⟩ : ByteArray).size = 1 := rfl); (try simp only [ByteArray.size_append]); omega)) ?_
 refine dt 6 rfl rfl rfl rfl s16 (fun _ hS => px_cat rfl rfl (by (have e32 : (⟨#[32]⟩ : ByteArray).size = 1 := rfl); (try simp only [ByteArray.size_append]); omega)) ?_
 refine dt 7 rfl rfl rfl rfl s16 (fun _ hS => px_field rfl xfld54x2) ?_
 refine dt 8 rfl rfl rfl rfl s16 (fun _ hS => px_load rfl ((f14.chg hS (by omega)).loadA (vs := [.bool n1, v1, .int .i64 p1]) (look_lit rfl) Tryz.isAgg27 Tryz.sizeOf27)) ?_
 refine dx_eff 9 rfl (by kernel_rfl) ?_
 have f17 := (f12.ext c8).ext d16
 have f18 := (f7.ext c8).ext d16
 refine sx_call rfl rfl Tryz.call7 (c_iDecText f17 f18 (by omega)) (fun v19 w19 p19 => ?_)
 obtain ⟨rfl, hsz19, c19⟩ := p19
 have zw19 := c19.size
 have s20 : Chg 0 0 w8 w19 := (d16.t c19)
 refine wl_nil ?_
 refine dx_next s20 ?_
 refine dt 10 rfl rfl rfl rfl s20 (fun _ hS => px_cat rfl rfl (by (have e32 : (⟨#[32]⟩ : ByteArray).size = 1 := rfl); (try simp only [ByteArray.size_append]); omega)) ?_
 refine dt 11 rfl rfl rfl rfl s20 (fun _ hS => px_assign rfl) ?_
 refine dx_done (by kernel_rfl) ?_
 refine q_n (k10 _ _ ?_)
 refine sx_sub (Sub.c 2 rfl .nil) ?_
 refine sx_retc ?_
 refine sx_ret1 Tryz.results25 rfl ?_
 rw [ratT_ok hM]
 exact ⟨rfl, (((cb2.t c8).t d16).t c19)⟩

theorem c_IndexByte {w : World} {t : ByteArray} {c : Int} :
  Ret Tryz.prog 66 [.string t, .int .u8 c] w fun v w' => v = .int .i64 (Lib.indexByte (t).data.toList (c).toNat.toUInt8) ∧ Chg 0 0 w w' := by
 have h := Any.strings_IndexByte lays137 t c w
 exact Calls.mono h fun e w' ⟨he, hw⟩ => ⟨_, he, rfl, hw ▸ Chg.refl _ _ _⟩

theorem c_iCutAtP {w : World} {s : ByteArray} {bb : ByteArray} (hs : s.size ≤ 1048576) (hbb : bb = ⟨#[46]⟩) :
  Ret Tryz.prog 30 [.string s, .string bb] w fun v w' => ∃ x, v = x ∧ OwnS w' w.heap.size w'.heap.size x strT (cutT 46 s) ∧ Chg 0 0 w w' := by
 refine sx_enter Tryz.func30 rfl Tryz.ntmps30 (nbl rfl) ?_
 refine sx_seq fun K1 k1 => sx_region ?_
 refine av rfl rfl (wl_nil (q_n (k1 _ _ ?_)))
 refine sx_seq fun K2 k2 => sx_region ?_
 refine sx_lit0 rfl xelt65 (fun s3 ws3 ss3 fs3 cs3 => ?_)
 have zws3 := cs3.size
 refine av rfl rfl (wl_nil (q_n (k2 _ _ ?_)))
 refine sx_seq fun K4 k4 => sx_region ?_
 refine av rfl rfl (wl_nil (q_n (k4 _ _ ?_)))
 refine sx_seq fun K5 k5 => ?_
 refine sx_seq fun K6 k6 => sx_region ?_
 refine av rfl rfl (wl_nil (q_n (k6 _ _ ?_)))
 refine sx_block ?_
 refine sx_loop (fun mm aa w' => ∃ (s1 : Value) (os : List ByteArray) (k : Nat) (f : Nat), Agr 36 [(0, .string s), (1, .string bb), (5, s1), (6, .int .i64 ↑f), (7, .int .i64 ↑k)] aa ∧ Chg w.heap.size ws3.heap.size ws3 w' ∧ Own w' w.heap.size w'.heap.size s1 strT os.length 1 (os.map Value.string) ∧ (mm = s.size - k) ∧ (k ≤ s.size ∧ f ≤ k) ∧ (os = (cutGo 46 s k).1) ∧ (f = (cutGo 46 s k).2) ∧ (os.length ≤ k)) (_) (fun a ha => ⟨s3, [], 0, 0, ha.sub (Sub.c 0 rfl (.c 1 rfl (.c 5 rfl (.c 6 (look_int (t := 6) rfl (by first | omega | simp)) (.c 7 (look_int (t := 7) rfl (by first | omega | simp)) .nil))))), Chg.refl _ _ _, (fs3.mono (by omega) (by omega)), rfl, by omega, rfl, rfl, Nat.le_refl _⟩) ?_
 rintro mm aa wl7 ⟨s1, os, k, f, hAwl7, cwl7, hs_s1, hm, hk, hos, hf, hol⟩
 refine (show cw Tryz.prog 36 _ _ _ wl7 from ?_) aa hAwl7
 clear hAwl7
 have zwl7 := cwl7.size
 refine sx_seq fun K8 k8 => ?_
 refine sx_seq fun K9 k9 => sx_region ?_
 refine mv rfl rfl (mv rfl rfl (sp rfl (px_lenS rfl Tryz.underlying9) ?_))
 refine sp rfl (px_lt rfl rfl) ?_
 refine wl_nil (q_n (k9 _ _ ?_))
 refine sx_condP rfl (fun h72 => ?_) (fun h72 => ?_)
 ·
  refine sx_skip ?_
  refine q_n (k8 _ _ ?_)
  refine sx_seq fun K10 k10 => ?_
  refine sx_block ?_
  refine sx_seq fun K11 k11 => sx_region ?_
  refine mv rfl rfl (mv rfl rfl (mv rfl rfl (sp rfl (px_indexS (j := k) rfl rfl (by omega) Tryz.underlying9 (by omega)) ?_)))
  refine sx_call rfl rfl Tryz.call66 (c_IndexByte) (fun v12 w12 p12 => ?_)
  obtain ⟨rfl, c12⟩ := p12
  have zw12 := c12.size
  refine sp rfl (px_ge rfl rfl) ?_
  refine wl_nil (q_n (k11 _ _ ?_))
  refine sx_sub (Sub.c 0 rfl (.c 1 rfl (.c 5 rfl (.c 6 rfl (.c 7 rfl (.c 20 rfl .nil)))))) ?_
  refine sx_condP rfl (fun h73 => ?_) (fun h73 => ?_)
  ·
   have hc : strB s k = 46 := (idx_str hbb s k).1 h73
   refine sx_seq fun K13 k13 => sx_region ?_
   refine mv rfl rfl (mv rfl rfl (mv rfl rfl (mv rfl rfl (sp rfl (px_strMid (l := f) (h := k) rfl rfl rfl (by omega) (by omega) Tryz.underlying9 (by omega) (by omega)) ?_))))
   refine sx_lit1 rfl xelt65 rfl rfl (fun s14 ws14 ss14 fs14 cs14 => ?_)
   have ns14 := Own.norm (f := Value.string) (zs := [s.extract f k]) fs14
   have zws14 := cs14.size
   have f17 := (hs_s1.ext c12).ext cs14
   refine sx_append rfl xelt65 rfl rfl f17 ns14.sv one_str (by omega) (by simp only [List.length_cons, List.length_nil]; omega) (by unfold maxLen; simp only [List.length_cons, List.length_nil]; omega) (fun a15 w15 fw15 cw15 => ?_)
   have nw15 := Own.app (f := Value.string) (a := os) (b := [s.extract f k]) fw15
   have zw15 := cw15.size
   refine av rfl rfl (wl_nil (q_n (k13 _ _ ?_)))
   refine sx_region ?_
   refine mv rfl rfl (sp rfl (px_add rfl rfl (by omega)) ?_)
   refine av rfl rfl (wl_nil ?_)
   refine q_bn (q_n (k10 _ _ ?_))
   refine sx_sub (Sub.c 0 rfl (.c 1 rfl (.c 5 rfl (.c 6 rfl (.c 7 rfl .nil))))) ?_
   refine sx_region ?_
   refine mv rfl rfl (sp rfl (px_add rfl rfl (by omega)) ?_)
   refine av rfl rfl (wl_nil ?_)
   have q18 := Chg.step (l := w.heap.size) (h := ws3.heap.size) cwl7 (c12.t cs14) (by omega)
   have q19 := Chg.step (l := w.heap.size) (h := ws3.heap.size) q18 cw15 (by omega)
   exact fun a ha => ⟨_, by omega, a15, (os ++ ([s.extract f k])), (k + 1), (k + 1), ha.sub (Sub.c 0 rfl (.c 1 rfl (.c 5 rfl (.c 6 (look_int (t := 6) rfl (by first | omega | simp)) (.c 7 (look_int (t := 7) rfl (by first | omega | simp)) .nil))))), q19, (nw15.mono (by omega) (by omega)), rfl, by omega, by first | (rw [cutGo_yes (by omega), hos, hf]) | (rw [cutGo_no (by omega)]; exact hos), by first | (rw [cutGo_yes (by omega)]) | (rw [cutGo_no (by omega)]; exact hf), by first | omega | (simp only [List.length_append, List.length_singleton]; omega)⟩
  have hc : ¬ strB s k = 46 := fun e => h73 ((idx_str hbb s k).2 e)
  refine sx_skip ?_
  refine q_bn (q_n (k10 _ _ ?_))
  refine sx_region ?_
  refine mv rfl rfl (sp rfl (px_add rfl rfl (by omega)) ?_)
  refine av rfl rfl (wl_nil ?_)
  have q20 := Chg.step (l := w.heap.size) (h := ws3.heap.size) cwl7 c12 (by omega)
  have f21 := hs_s1.ext c12
  exact fun a ha => ⟨_, by omega, s1, os, (k + 1), f, ha.sub (Sub.c 0 rfl (.c 1 rfl (.c 5 rfl (.c 6 rfl (.c 7 (look_int (t := 7) rfl (by first | omega | simp)) .nil))))), q20, (f21.mono (by omega) (by omega)), rfl, by omega, by first | (rw [cutGo_yes (by omega), hos, hf]) | (rw [cutGo_no (by omega)]; exact hos), by first | (rw [cutGo_yes (by omega)]) | (rw [cutGo_no (by omega)]; exact hf), by first | omega | (simp only [List.length_append, List.length_singleton]; omega)⟩
 refine sx_exit ?_
 refine q_e (q_e (q_bx (q_n (k5 _ _ ?_))))
 refine sx_seq fun K22 k22 => sx_region ?_
 refine mv rfl rfl (mv rfl rfl (mv rfl rfl (sp rfl (px_strFrom (l := f) rfl rfl (by omega) Tryz.underlying9 (by omega)) ?_)))
 refine sx_lit1 rfl xelt65 rfl rfl (fun s23 ws23 ss23 fs23 cs23 => ?_)
 have ns23 := Own.norm (f := Value.string) (zs := [s.extract f s.size]) fs23
 have zws23 := cs23.size
 have f25 := hs_s1.ext cs23
 refine sx_append rfl xelt65 rfl rfl f25 ns23.sv one_str (by omega) (by simp only [List.length_cons, List.length_nil]; omega) (by unfold maxLen; simp only [List.length_cons, List.length_nil]; omega) (fun a24 w24 fw24 cw24 => ?_)
 have nw24 := Own.app (f := Value.string) (a := os) (b := [s.extract f s.size]) fw24
 have zw24 := cw24.size
 refine av rfl rfl (wl_nil (q_n (k22 _ _ ?_)))
 refine sx_sub (Sub.c 4 rfl .nil) ?_
 refine sx_retc ?_
 refine sx_ret1 Tryz.results30 rfl ?_
 have ek : k = s.size := by omega
 subst ek
 have e : os ++ [s.extract f s.size] = cutT 46 s := by unfold cutT; rw [hos, hf]
 have hs := nw24
 rw [e] at hs
 have q26 := Chg.step (l := 0) (h := 0) (Chg.zero (l := 0) (h := 0) cs3) cwl7 (by omega)
 have q27 := Chg.step (l := 0) (h := 0) q26 cs23 (by omega)
 have q28 := Chg.step (l := 0) (h := 0) q27 cw24 (by omega)
 exact ⟨_, rfl, hs.mono (by omega) (by omega), q28⟩

theorem c_iCutAtB {w : World} {s : ByteArray} {bb : ByteArray} (hs : s.size ≤ 1048576) (hbb : bb = ⟨#[32]⟩) :
  Ret Tryz.prog 30 [.string s, .string bb] w fun v w' => ∃ x, v = x ∧ OwnS w' w.heap.size w'.heap.size x strT (cutT 32 s) ∧ Chg 0 0 w w' := by
 refine sx_enter Tryz.func30 rfl Tryz.ntmps30 (nbl rfl) ?_
 refine sx_seq fun K1 k1 => sx_region ?_
 refine av rfl rfl (wl_nil (q_n (k1 _ _ ?_)))
 refine sx_seq fun K2 k2 => sx_region ?_
 refine sx_lit0 rfl xelt65 (fun s3 ws3 ss3 fs3 cs3 => ?_)
 have zws3 := cs3.size
 refine av rfl rfl (wl_nil (q_n (k2 _ _ ?_)))
 refine sx_seq fun K4 k4 => sx_region ?_
 refine av rfl rfl (wl_nil (q_n (k4 _ _ ?_)))
 refine sx_seq fun K5 k5 => ?_
 refine sx_seq fun K6 k6 => sx_region ?_
 refine av rfl rfl (wl_nil (q_n (k6 _ _ ?_)))
 refine sx_block ?_
 refine sx_loop (fun mm aa w' => ∃ (s1 : Value) (os : List ByteArray) (k : Nat) (f : Nat), Agr 36 [(0, .string s), (1, .string bb), (5, s1), (6, .int .i64 ↑f), (7, .int .i64 ↑k)] aa ∧ Chg w.heap.size ws3.heap.size ws3 w' ∧ Own w' w.heap.size w'.heap.size s1 strT os.length 1 (os.map Value.string) ∧ (mm = s.size - k) ∧ (k ≤ s.size ∧ f ≤ k) ∧ (os = (cutGo 32 s k).1) ∧ (f = (cutGo 32 s k).2) ∧ (os.length ≤ k)) (_) (fun a ha => ⟨s3, [], 0, 0, ha.sub (Sub.c 0 rfl (.c 1 rfl (.c 5 rfl (.c 6 (look_int (t := 6) rfl (by first | omega | simp)) (.c 7 (look_int (t := 7) rfl (by first | omega | simp)) .nil))))), Chg.refl _ _ _, (fs3.mono (by omega) (by omega)), rfl, by omega, rfl, rfl, Nat.le_refl _⟩) ?_
 rintro mm aa wl7 ⟨s1, os, k, f, hAwl7, cwl7, hs_s1, hm, hk, hos, hf, hol⟩
 refine (show cw Tryz.prog 36 _ _ _ wl7 from ?_) aa hAwl7
 clear hAwl7
 have zwl7 := cwl7.size
 refine sx_seq fun K8 k8 => ?_
 refine sx_seq fun K9 k9 => sx_region ?_
 refine mv rfl rfl (mv rfl rfl (sp rfl (px_lenS rfl Tryz.underlying9) ?_))
 refine sp rfl (px_lt rfl rfl) ?_
 refine wl_nil (q_n (k9 _ _ ?_))
 refine sx_condP rfl (fun h72 => ?_) (fun h72 => ?_)
 ·
  refine sx_skip ?_
  refine q_n (k8 _ _ ?_)
  refine sx_seq fun K10 k10 => ?_
  refine sx_block ?_
  refine sx_seq fun K11 k11 => sx_region ?_
  refine mv rfl rfl (mv rfl rfl (mv rfl rfl (sp rfl (px_indexS (j := k) rfl rfl (by omega) Tryz.underlying9 (by omega)) ?_)))
  refine sx_call rfl rfl Tryz.call66 (c_IndexByte) (fun v12 w12 p12 => ?_)
  obtain ⟨rfl, c12⟩ := p12
  have zw12 := c12.size
  refine sp rfl (px_ge rfl rfl) ?_
  refine wl_nil (q_n (k11 _ _ ?_))
  refine sx_sub (Sub.c 0 rfl (.c 1 rfl (.c 5 rfl (.c 6 rfl (.c 7 rfl (.c 20 rfl .nil)))))) ?_
  refine sx_condP rfl (fun h73 => ?_) (fun h73 => ?_)
  ·
   have hc : strB s k = 32 := (idx_str hbb s k).1 h73
   refine sx_seq fun K13 k13 => sx_region ?_
   refine mv rfl rfl (mv rfl rfl (mv rfl rfl (mv rfl rfl (sp rfl (px_strMid (l := f) (h := k) rfl rfl rfl (by omega) (by omega) Tryz.underlying9 (by omega) (by omega)) ?_))))
   refine sx_lit1 rfl xelt65 rfl rfl (fun s14 ws14 ss14 fs14 cs14 => ?_)
   have ns14 := Own.norm (f := Value.string) (zs := [s.extract f k]) fs14
   have zws14 := cs14.size
   have f17 := (hs_s1.ext c12).ext cs14
   refine sx_append rfl xelt65 rfl rfl f17 ns14.sv one_str (by omega) (by simp only [List.length_cons, List.length_nil]; omega) (by unfold maxLen; simp only [List.length_cons, List.length_nil]; omega) (fun a15 w15 fw15 cw15 => ?_)
   have nw15 := Own.app (f := Value.string) (a := os) (b := [s.extract f k]) fw15
   have zw15 := cw15.size
   refine av rfl rfl (wl_nil (q_n (k13 _ _ ?_)))
   refine sx_region ?_
   refine mv rfl rfl (sp rfl (px_add rfl rfl (by omega)) ?_)
   refine av rfl rfl (wl_nil ?_)
   refine q_bn (q_n (k10 _ _ ?_))
   refine sx_sub (Sub.c 0 rfl (.c 1 rfl (.c 5 rfl (.c 6 rfl (.c 7 rfl .nil))))) ?_
   refine sx_region ?_
   refine mv rfl rfl (sp rfl (px_add rfl rfl (by omega)) ?_)
   refine av rfl rfl (wl_nil ?_)
   have q18 := Chg.step (l := w.heap.size) (h := ws3.heap.size) cwl7 (c12.t cs14) (by omega)
   have q19 := Chg.step (l := w.heap.size) (h := ws3.heap.size) q18 cw15 (by omega)
   exact fun a ha => ⟨_, by omega, a15, (os ++ ([s.extract f k])), (k + 1), (k + 1), ha.sub (Sub.c 0 rfl (.c 1 rfl (.c 5 rfl (.c 6 (look_int (t := 6) rfl (by first | omega | simp)) (.c 7 (look_int (t := 7) rfl (by first | omega | simp)) .nil))))), q19, (nw15.mono (by omega) (by omega)), rfl, by omega, by first | (rw [cutGo_yes hc, hos, hf]) | (rw [cutGo_no hc]; exact hos), by first | (rw [cutGo_yes hc]) | (rw [cutGo_no hc]; exact hf), by first | omega | (simp only [List.length_append, List.length_singleton]; omega)⟩
  have hc : ¬ strB s k = 32 := fun e => h73 ((idx_str hbb s k).2 e)
  refine sx_skip ?_
  refine q_bn (q_n (k10 _ _ ?_))
  refine sx_region ?_
  refine mv rfl rfl (sp rfl (px_add rfl rfl (by omega)) ?_)
  refine av rfl rfl (wl_nil ?_)
  have q20 := Chg.step (l := w.heap.size) (h := ws3.heap.size) cwl7 c12 (by omega)
  have f21 := hs_s1.ext c12
  exact fun a ha => ⟨_, by omega, s1, os, (k + 1), f, ha.sub (Sub.c 0 rfl (.c 1 rfl (.c 5 rfl (.c 6 rfl (.c 7 (look_int (t := 7) rfl (by first | omega | simp)) .nil))))), q20, (f21.mono (by omega) (by omega)), rfl, by omega, by first | (rw [cutGo_yes hc, hos, hf]) | (rw [cutGo_no hc]; exact hos), by first | (rw [cutGo_yes hc]) | (rw [cutGo_no hc]; exact hf), by first | omega | (simp only [List.length_append, List.length_singleton]; omega)⟩
 refine sx_exit ?_
 refine q_e (q_e (q_bx (q_n (k5 _ _ ?_))))
 refine sx_seq fun K22 k22 => sx_region ?_
 refine mv rfl rfl (mv rfl rfl (mv rfl rfl (sp rfl (px_strFrom (l := f) rfl rfl (by omega) Tryz.underlying9 (by omega)) ?_)))
 refine sx_lit1 rfl xelt65 rfl rfl (fun s23 ws23 ss23 fs23 cs23 => ?_)
 have ns23 := Own.norm (f := Value.string) (zs := [s.extract f s.size]) fs23
 have zws23 := cs23.size
 have f25 := hs_s1.ext cs23
 refine sx_append rfl xelt65 rfl rfl f25 ns23.sv one_str (by omega) (by simp only [List.length_cons, List.length_nil]; omega) (by unfold maxLen; simp only [List.length_cons, List.length_nil]; omega) (fun a24 w24 fw24 cw24 => ?_)
 have nw24 := Own.app (f := Value.string) (a := os) (b := [s.extract f s.size]) fw24
 have zw24 := cw24.size
 refine av rfl rfl (wl_nil (q_n (k22 _ _ ?_)))
 refine sx_sub (Sub.c 4 rfl .nil) ?_
 refine sx_retc ?_
 refine sx_ret1 Tryz.results30 rfl ?_
 have ek : k = s.size := by omega
 subst ek
 have e : os ++ [s.extract f s.size] = cutT 32 s := by unfold cutT; rw [hos, hf]
 have hs := nw24
 rw [e] at hs
 have q26 := Chg.step (l := 0) (h := 0) (Chg.zero (l := 0) (h := 0) cs3) cwl7 (by omega)
 have q27 := Chg.step (l := 0) (h := 0) q26 cs23 (by omega)
 have q28 := Chg.step (l := 0) (h := 0) q27 cw24 (by omega)
 exact ⟨_, rfl, hs.mono (by omega) (by omega), q28⟩

theorem c_iCut {w : World} {s : ByteArray} (hs : s.size ≤ 1048576) :
  Ret Tryz.prog 58 [.string s] w fun v w' => ∃ x, v = x ∧ OwnS w' w.heap.size w'.heap.size x strT (cutT 32 s) ∧ Chg 0 0 w w' := by
 refine sx_enter Tryz.func58 rfl Tryz.ntmps58 (nbl rfl) ?_
 refine sx_seq fun K1 k1 => sx_region ?_
 refine av rfl rfl (wl_nil (q_n (k1 _ _ ?_)))
 refine sx_seq fun K2 k2 => sx_region ?_
 refine mv rfl rfl (sx_call rfl rfl Tryz.call30 (c_iCutAtB (by omega) (rfl)) (fun v3 w3 p3 => ?_))
 obtain ⟨x3, rfl, ox_3, c3⟩ := p3
 have zw3 := c3.size
 refine av rfl rfl (wl_nil (q_n (k2 _ _ ?_)))
 refine sx_retc ?_
 refine sx_ret1 Tryz.results58 rfl ?_
 exact ⟨_, rfl, (Own.mono ox_3 (by omega) (by omega)), c3⟩

theorem c_Join {w : World} {va : Value} {lva uva : Nat} {zs : List ByteArray} {bb : ByteArray} (hva : SlS w lva uva va (zs)) (hbb : bb = ⟨#[]⟩) (hj : (jnT zs).length ≤ 2000000 ∧ zs.length ≤ 2000000) :
  Ret Tryz.prog 67 [va, .string bb] w fun v w' => v = .string (bl (jnT zs)) ∧ Chg 0 0 w w' := by
 subst hbb
 have hjn := jn_join zs
 rcases hva.2 with ⟨h0, a, c, e⟩ | ⟨b, off, cap, cs, T, fz, e, ⟨h1, h1x⟩, h2, h3, h4⟩
 ·
  have ez : zs = [] := List.eq_nil_of_length_eq_zero h0
  subst ez; subst e
  have h := Any.strings_Join_none lays156 extraB2 a c ⟨#[]⟩ w
  exact Calls.mono h fun e w' ⟨he, hw⟩ => ⟨_, he, rfl, hw ▸ Chg.refl _ _ _⟩
 subst e
 have hb : b < w.heap.size := by
  rcases Nat.lt_or_ge b w.heap.size with h' | h'
  ·
   exact h'
  simp [Array.getElem?_eq_none h'] at h3
 have h := Any.strings_Join lays156 extraB2 b off cap zs ⟨#[]⟩ w (fun j x hx => by simp [World.cell?, h3, h4 j (.string x) (by simp [hx])]) hb (by omega) h1 (by show (Lib.join (zs.map fun s => s.data.toList) []).length ≤ _; rw [hjn]; omega)
 exact Calls.mono h fun e w' ⟨he, hq⟩ => ⟨_, he, congrArg (fun l => Value.string (bl l)) hjn, hq.os, hq.tape, hq.output, hq.size, fun i hi _ => hq.block i hi⟩

theorem c_iJoin {w : World} {va : Value} {lva uva : Nat} {zs : List ByteArray} {bb : ByteArray} (hva : SlS w lva uva va (zs)) (hbb : bb = ⟨#[]⟩) (hj : (jnT zs).length ≤ 2000000 ∧ zs.length ≤ 2000000) :
  Ret Tryz.prog 31 [va, .string bb] w fun v w' => v = .string (bl (jnT zs)) ∧ Chg 0 0 w w' := by
 have hva0 := hva.fit
 refine sx_enter Tryz.func31 rfl Tryz.ntmps31 (nbl rfl) ?_
 refine sx_seq fun K1 k1 => sx_region ?_
 refine av rfl rfl (wl_nil (q_n (k1 _ _ ?_)))
 refine sx_seq fun K2 k2 => sx_region ?_
 refine mv rfl rfl (mv rfl rfl (sx_call rfl rfl Tryz.call67 (c_Join hva0 (hbb) (hj)) (fun v3 w3 p3 => ?_)))
 obtain ⟨rfl, c3⟩ := p3
 have zw3 := c3.size
 refine av rfl rfl (wl_nil (q_n (k2 _ _ ?_)))
 refine sx_retc ?_
 refine sx_ret1 Tryz.results31 rfl ?_
 exact ⟨rfl, c3⟩

theorem c_isDigit {w : World} {b : Int} :
  Ret Tryz.prog 103 [.int .u8 b] w fun v w' => v = .bool (decide (48 ≤ b ∧ b ≤ 57)) ∧ Chg 0 0 w w' := by
 refine sx_enter Tryz.func103 rfl Tryz.ntmps103 (nbl rfl) ?_
 refine sx_seq fun K1 k1 => sx_region ?_
 refine av rfl rfl (wl_nil (q_n (k1 _ _ ?_)))
 refine sx_seq fun K2 k2 => sx_region ?_
 refine mv rfl rfl (sp rfl (px_ge rfl rfl) ?_)
 refine mv rfl rfl ?_
 refine sx_tmpP (t := 5) rfl (fun h24 => ?_) (fun h24 => ?_)
 ·
  refine sx_guardT rfl rfl rfl ?_
  refine mv rfl rfl ?_
  refine sx_guardT rfl rfl rfl ?_
  refine sp rfl (px_le rfl rfl) ?_
  refine sp rfl (px_pick rfl rfl) ?_
  refine av rfl rfl (wl_nil (q_n (k2 _ _ ?_)))
  refine sx_retc ?_
  refine sx_ret1 Tryz.results103 rfl ?_
  exact ⟨by simp [*], (Chg.refl 0 0 _)⟩
 refine sx_guardF rfl rfl rfl rfl rfl rfl ?_
 refine sx_guardF rfl rfl rfl rfl rfl rfl ?_
 refine sp rfl (px_pick rfl rfl) ?_
 refine av rfl rfl (wl_nil (q_n (k2 _ _ ?_)))
 refine sx_retc ?_
 refine sx_ret1 Tryz.results103 rfl ?_
 exact ⟨by simp [*], (Chg.refl 0 0 _)⟩

theorem c_iIsDigits {w : World} {s : ByteArray} (hs : s.size ≤ 1048576) :
  Ret Tryz.prog 68 [.string s] w fun v w' => v = .bool (dgK s) ∧ Chg 0 0 w w' := by
 refine sx_enter Tryz.func68 rfl Tryz.ntmps68 (nbl rfl) ?_
 refine sx_seq fun K1 k1 => sx_region ?_
 refine av rfl rfl (wl_nil (q_n (k1 _ _ ?_)))
 refine sx_seq fun K2 k2 => ?_
 refine sx_seq fun K3 k3 => sx_region ?_
 refine av rfl rfl (wl_nil (q_n (k3 _ _ ?_)))
 refine sx_block ?_
 refine sx_loop (fun mm aa w' => ∃ (k : Nat), Agr 17 [(0, .string s), (3, .int .i64 ↑k)] aa ∧ Chg 0 0 w w' ∧ (mm = s.size - k) ∧ (k ≤ s.size) ∧ (∀ j, j < k → 48 ≤ strB s j ∧ strB s j ≤ 57)) (_) (fun a ha => ⟨0, ha.sub (Sub.c 0 rfl (.c 3 (look_int (t := 3) rfl (by first | omega | simp)) .nil)), Chg.refl _ _ _, rfl, by omega, fun j hj => absurd hj (by omega)⟩) ?_
 rintro mm aa wl4 ⟨k, hAwl4, cwl4, hm, hk, hd⟩
 refine (show cw Tryz.prog 17 _ _ _ wl4 from ?_) aa hAwl4
 clear hAwl4
 have zwl4 := cwl4.size
 have hb8 := strB_range s k
 refine sx_seq fun K5 k5 => ?_
 refine sx_seq fun K6 k6 => sx_region ?_
 refine mv rfl rfl (mv rfl rfl (sp rfl (px_lenS rfl Tryz.underlying9) ?_))
 refine sp rfl (px_lt rfl rfl) ?_
 refine wl_nil (q_n (k6 _ _ ?_))
 refine sx_condP rfl (fun h31 => ?_) (fun h31 => ?_)
 ·
  refine sx_skip ?_
  refine q_n (k5 _ _ ?_)
  refine sx_seq fun K7 k7 => ?_
  refine sx_block ?_
  refine sx_seq fun K8 k8 => sx_region ?_
  refine mv rfl rfl (mv rfl rfl (sp rfl (px_indexS (j := k) rfl rfl (by omega) Tryz.underlying9 (by omega)) ?_))
  refine sx_call rfl rfl Tryz.call103 (c_isDigit) (fun v9 w9 p9 => ?_)
  obtain ⟨rfl, c9⟩ := p9
  have zw9 := c9.size
  refine sp rfl (px_notP rfl) ?_
  refine wl_nil (q_n (k8 _ _ ?_))
  refine sx_condP rfl (fun h32 => ?_) (fun h32 => ?_)
  ·
   refine sx_seq fun K10 k10 => sx_region ?_
   refine av rfl rfl (wl_nil (q_n (k10 _ _ ?_)))
   refine sx_retc ?_
   refine q_br (q_r (q_r (q_br (q_r (sx_ret1 Tryz.results68 rfl ?_)))))
   rw [dgK_no (j := k) (by omega) (by omega)]
   exact ⟨rfl, (cwl4.t c9)⟩
  refine sx_skip ?_
  refine q_bn (q_n (k7 _ _ ?_))
  refine sx_region ?_
  refine mv rfl rfl (sp rfl (px_add rfl rfl (by omega)) ?_)
  refine av rfl rfl (wl_nil ?_)
  exact fun a ha => ⟨_, by omega, (k + 1), ha.sub (Sub.c 0 rfl (.c 3 (look_int (t := 3) rfl (by first | omega | simp)) .nil)), (cwl4.t c9), rfl, by omega, fun j hj => by
   rcases Nat.lt_or_ge j k with hl | hl
   · exact hd j hl
   · rw [show j = k by omega]; omega⟩
 refine sx_exit ?_
 refine q_e (q_e (q_bx (q_n (k2 _ _ ?_))))
 refine sx_seq fun K11 k11 => sx_region ?_
 refine mv rfl rfl (sp rfl (px_neS rfl rfl) ?_)
 refine av rfl rfl (wl_nil (q_n (k11 _ _ ?_)))
 refine sx_retc ?_
 refine sx_ret1 Tryz.results68 rfl ?_
 rw [dgK_end (fun j hj => hd j (by omega))]
 exact ⟨congrArg Value.bool (sz_ne s), cwl4⟩

theorem c_trim {w : World} {va : Value} {lva uva : Nat} {zs : List Int} (hva : OwnI w lva uva va intT (zs)) (hz : Lm zs) (h63 : zs.length ≤ 1000000) :
  Ret Tryz.prog 69 [va] w fun v w' => ∃ s, v = s ∧ OwnI w' (lva) (uva) s intT (dg (vl zs)) ∧ Chg 0 0 w w' := by
 refine sx_enter Tryz.func69 rfl Tryz.ntmps69 (nbl rfl) ?_
 refine sx_seq fun K1 k1 => sx_region ?_
 refine av rfl rfl (wl_nil (q_n (k1 _ _ ?_)))
 refine sx_seq fun K2 k2 => ?_
 refine sx_block ?_
 refine sx_loop (fun mm aa w' => ∃ (k : Nat) (s : Value), Agr 21 [(0, s)] aa ∧ Chg 0 0 w w' ∧ Own w' lva uva s intT ((zs.take k).length) 1 ((zs.take k).map (Value.int .i64)) ∧ (mm = k) ∧ (k ≤ zs.length) ∧ (vl (zs.take k) = vl zs)) (_) (fun a ha => ⟨zs.length, va, ha.sub (Sub.c 0 rfl .nil), Chg.refl _ _ _, (by rw [List.take_length]; exact hva), rfl, by omega, vl_take_all zs⟩) ?_
 rintro mm aa wl3 ⟨k, s, hAwl3, cwl3, hs_s, hm, hk, hv⟩
 refine (show cw Tryz.prog 21 _ _ _ wl3 from ?_) aa hAwl3
 clear hAwl3
 have zwl3 := cwl3.size
 have hlt : (zs.take k).length = k := by rw [List.length_take]; omega
 refine sx_seq fun K4 k4 => ?_
 refine sx_seq fun K5 k5 => sx_region ?_
 refine mv rfl rfl (sp rfl (px_len rfl Tryz.underlying23 hs_s.sv) ?_)
 refine sp rfl (px_gt rfl rfl) ?_
 refine mv rfl rfl ?_
 refine sx_tmpP (t := 6) rfl (fun h29 => ?_) (fun h29 => ?_)
 ·
  refine sx_guardT rfl rfl rfl ?_
  refine mv rfl rfl ?_
  refine sx_guardT rfl rfl rfl ?_
  refine mv rfl rfl ?_
  refine sx_guardT rfl rfl rfl ?_
  refine sp rfl (px_len rfl Tryz.underlying23 hs_s.sv) ?_
  refine sx_guardT rfl rfl rfl ?_
  refine sp rfl (px_sub rfl rfl (by omega)) ?_
  refine sx_guardT rfl rfl rfl ?_
  refine sp rfl (px_index1 (j := (k - 1)) rfl rfl (by omega) Tryz.underlying23 Tryz.sizeOf3 hs_s.sv (by omega)) ?_
  refine sx_guardT rfl rfl rfl ?_
  refine sp rfl (px_load rfl (hs_s.sv.load1 (at_int (by omega)) Tryz.isAgg3)) ?_
  refine sx_guardT rfl rfl rfl ?_
  refine sp rfl (px_eq rfl rfl) ?_
  refine sp rfl (px_pick rfl rfl) ?_
  refine wl_nil (q_n (k5 _ _ ?_))
  refine sx_condP rfl (fun h29x1 => ?_) (fun h29x1 => ?_)
  ·
   refine sx_skip ?_
   refine q_n (k4 _ _ ?_)
   refine sx_block ?_
   refine sx_region ?_
   refine mv rfl rfl (mv rfl rfl (sp rfl (px_len rfl Tryz.underlying23 hs_s.sv) ?_))
   refine sp rfl (px_sub rfl rfl (by omega)) ?_
   refine sp rfl (px_sliceTo (h := (k - 1)) rfl rfl (by omega) Tryz.underlying23 Tryz.sizeOf3 hs_s.sv (by omega)) ?_
   refine av rfl rfl (wl_nil ?_)
   exact q_bn (fun a ha => ⟨_, by omega, (k - 1), (vtake s (k - 1)), ha.sub (Sub.c 0 rfl .nil), cwl3, (by have hh := (Own.takeI hs_s (h := (k - 1)) (by omega)); rwa [List.take_take, Nat.min_eq_left (by omega)] at hh), rfl, by omega, trim_step (by omega) hk h29x1 hv⟩)
  refine sx_exit ?_
  refine q_e (q_e (q_bx (q_n (k2 _ _ ?_))))
  refine sx_seq fun K6 k6 => sx_region ?_
  refine mv rfl rfl (av rfl rfl (wl_nil (q_n (k6 _ _ ?_))))
  refine sx_sub (Sub.c 2 rfl .nil) ?_
  refine sx_retc ?_
  refine sx_ret1 Tryz.results69 rfl ?_
  have hd := trim_done hz hk hv (by first | exact .inl (by omega) | exact .inr (by assumption))
  rw [← hd]
  exact ⟨_, rfl, hs_s, cwl3⟩
 refine sx_guardF rfl rfl rfl rfl rfl rfl ?_
 refine sx_guardF rfl rfl rfl rfl rfl rfl ?_
 refine sx_guardF rfl rfl rfl rfl rfl rfl ?_
 refine sx_guardF rfl rfl rfl rfl rfl rfl ?_
 refine sx_guardF rfl rfl rfl rfl rfl rfl ?_
 refine sx_guardF rfl rfl rfl rfl rfl rfl ?_
 refine sx_guardF rfl rfl rfl rfl rfl rfl ?_
 refine sp rfl (px_pick rfl rfl) ?_
 refine wl_nil (q_n (k5 _ _ ?_))
 refine sx_condF rfl ?_
 refine sx_exit ?_
 refine q_e (q_e (q_bx (q_n (k2 _ _ ?_))))
 refine sx_seq fun K7 k7 => sx_region ?_
 refine mv rfl rfl (av rfl rfl (wl_nil (q_n (k7 _ _ ?_))))
 refine sx_sub (Sub.c 2 rfl .nil) ?_
 refine sx_retc ?_
 refine sx_ret1 Tryz.results69 rfl ?_
 have hd := trim_done hz hk hv (by first | exact .inl (by omega) | exact .inr (by assumption))
 rw [← hd]
 exact ⟨_, rfl, hs_s, cwl3⟩

theorem c_iTextNat {w : World} {s : ByteArray} (hs : s.size ≤ 1048576) :
  Ret Tryz.prog 32 [.string s] w fun v w' => ∃ x, v = .tuple #[x, .bool (tnK s)] ∧ OwnI w' w.heap.size w'.heap.size x intT (dg (tnV s)) ∧ Chg 0 0 w w' := by
 refine sx_enter Tryz.func32 rfl Tryz.ntmps32 (nbl rfl) ?_
 refine sx_seq fun K1 k1 => sx_region ?_
 refine av rfl rfl (av rfl rfl (wl_nil (q_n (k1 _ _ ?_))))
 refine sx_seq fun K2 k2 => ?_
 refine sx_seq fun K3 k3 => sx_region ?_
 refine mv rfl rfl (sx_call rfl rfl Tryz.call68 (c_iIsDigits (by omega)) (fun v4 w4 p4 => ?_))
 obtain ⟨rfl, c4⟩ := p4
 have zw4 := c4.size
 refine sp rfl (px_not rfl) ?_
 refine mv rfl rfl ?_
 refine sx_tmpB (t := 12) rfl (fun h210 => ?_) (fun h210 => ?_)
 ·
  refine sx_guardF rfl rfl rfl rfl rfl rfl ?_
  refine sx_guardF rfl rfl rfl rfl rfl rfl ?_
  refine sx_guardF rfl rfl rfl rfl rfl rfl ?_
  refine sp rfl (px_pick rfl rfl) ?_
  refine mv rfl rfl ?_
  refine sx_guardF rfl rfl rfl rfl rfl rfl ?_
  refine sx_guardF rfl rfl rfl rfl rfl rfl ?_
  refine sx_guardF rfl rfl rfl rfl rfl rfl ?_
  refine sx_guardF rfl rfl rfl rfl rfl rfl ?_
  refine sx_guardFU rfl rfl rfl rfl rfl ?_
  refine sx_guardFU rfl rfl rfl rfl rfl ?_
  refine sx_guardFU rfl rfl rfl rfl rfl ?_
  refine sx_guardF rfl rfl rfl rfl rfl rfl ?_
  refine sp rfl (px_pick rfl rfl) ?_
  refine wl_nil (q_n (k3 _ _ ?_))
  refine sx_sub (Sub.c 0 rfl (.c 2 rfl (.c 3 rfl (.c 26 rfl .nil)))) ?_
  refine sx_condT rfl ?_
  refine sx_seq fun K5 k5 => sx_region ?_
  refine av rfl rfl (av rfl rfl (wl_nil (q_n (k5 _ _ ?_))))
  refine sx_retc ?_
  refine q_r (sx_ret2 Tryz.results32 rfl rfl ?_)
  have hK : tnK s = false := tnK_no (by rintro ⟨a, b, c⟩; rcases Nat.lt_or_ge 1 s.size with h1 | h1 <;> (first | (have := c h1; omega) | omega | simp_all))
  rw [tnV_no hK, hK, dg_zero]
  exact ⟨_, rfl, Own.nil _ _ _ _ _, c4⟩
 have hdk : dgK s = true := by simpa using h210
 have hdg := dgK_yes hdk
 have hD := hdg.1
 refine sx_guardT rfl rfl rfl ?_
 refine mv rfl rfl ?_
 refine sx_guardT rfl rfl rfl ?_
 refine sp rfl (px_lenS rfl Tryz.underlying9) ?_
 refine sx_guardT rfl rfl rfl ?_
 refine sp rfl (px_gt rfl rfl) ?_
 refine sp rfl (px_pick rfl rfl) ?_
 refine mv rfl rfl ?_
 refine sx_tmpP (t := 17) rfl (fun h210x1 => ?_) (fun h210x1 => ?_)
 ·
  refine sx_guardF rfl rfl rfl rfl rfl rfl ?_
  refine sx_guardF rfl rfl rfl rfl rfl rfl ?_
  refine sx_guardF rfl rfl rfl rfl rfl rfl ?_
  refine sx_guardF rfl rfl rfl rfl rfl rfl ?_
  refine sx_guardFU rfl rfl rfl rfl rfl ?_
  refine sx_guardFU rfl rfl rfl rfl rfl ?_
  refine sx_guardFU rfl rfl rfl rfl rfl ?_
  refine sx_guardF rfl rfl rfl rfl rfl rfl ?_
  refine sp rfl (px_pick rfl rfl) ?_
  refine wl_nil (q_n (k3 _ _ ?_))
  refine sx_sub (Sub.c 0 rfl (.c 2 rfl (.c 3 rfl (.c 26 rfl .nil)))) ?_
  refine sx_condT rfl ?_
  refine sx_seq fun K6 k6 => sx_region ?_
  refine av rfl rfl (av rfl rfl (wl_nil (q_n (k6 _ _ ?_))))
  refine sx_retc ?_
  refine q_r (sx_ret2 Tryz.results32 rfl rfl ?_)
  have hK : tnK s = false := tnK_no (by rintro ⟨a, b, c⟩; rcases Nat.lt_or_ge 1 s.size with h1 | h1 <;> (first | (have := c h1; omega) | omega | simp_all))
  rw [tnV_no hK, hK, dg_zero]
  exact ⟨_, rfl, Own.nil _ _ _ _ _, c4⟩
 refine sx_guardT rfl rfl rfl ?_
 refine mv rfl rfl ?_
 refine sx_guardT rfl rfl rfl ?_
 refine sp rfl (px_indexS (j := 0) rfl rfl (by omega) Tryz.underlying9 (by omega)) ?_
 refine sx_guardT rfl rfl rfl ?_
 refine sp rfl (px_eq rfl rfl) ?_
 refine sx_guardT rfl rfl rfl ?_
 refine mv rfl rfl ?_
 refine sx_tmpP (t := 21) rfl (fun h210x2 => ?_) (fun h210x2 => ?_)
 ·
  refine sx_guardT rfl rfl rfl ?_
  refine mv rfl rfl ?_
  refine sx_guardT rfl rfl rfl ?_
  refine sp rfl (px_lenS rfl Tryz.underlying9) ?_
  refine sx_guardT rfl rfl rfl ?_
  refine sp rfl (px_gt rfl rfl) ?_
  refine sx_guardT rfl rfl rfl ?_
  refine sp rfl (px_pick rfl rfl) ?_
  refine sp rfl (px_pick rfl rfl) ?_
  refine wl_nil (q_n (k3 _ _ ?_))
  refine sx_sub (Sub.c 0 rfl (.c 2 rfl (.c 3 rfl (.c 26 rfl .nil)))) ?_
  refine sx_condP rfl (fun h210x3 => ?_) (fun h210x3 => ?_)
  ·
   refine sx_seq fun K7 k7 => sx_region ?_
   refine av rfl rfl (av rfl rfl (wl_nil (q_n (k7 _ _ ?_))))
   refine sx_retc ?_
   refine q_r (sx_ret2 Tryz.results32 rfl rfl ?_)
   have hK : tnK s = false := tnK_no (by rintro ⟨a, b, c⟩; rcases Nat.lt_or_ge 1 s.size with h1 | h1 <;> (first | (have := c h1; omega) | omega | simp_all))
   rw [tnV_no hK, hK, dg_zero]
   exact ⟨_, rfl, Own.nil _ _ _ _ _, c4⟩
  refine sx_skip ?_
  refine q_n (k2 _ _ ?_)
  refine sx_seq fun K8 k8 => sx_region ?_
  refine sx_lit0 rfl xelt23 (fun s9 ws9 ss9 fs9 cs9 => ?_)
  have zws9 := cs9.size
  refine av rfl rfl (wl_nil (q_n (k8 _ _ ?_)))
  refine sx_seq fun K10 k10 => ?_
  refine sx_seq fun K11 k11 => sx_region ?_
  refine mv rfl rfl (sp rfl (px_lenS rfl Tryz.underlying9) ?_)
  refine av rfl rfl (wl_nil (q_n (k11 _ _ ?_)))
  refine sx_block ?_
  refine sx_loop (fun mm aa w' => ∃ (s1 : Value) (os : List Int) (k : Nat), Agr 59 [(0, .string s), (4, s1), (5, .int .i64 (↑s.size - 9 * (k : Int)))] aa ∧ Chg w4.heap.size ws9.heap.size ws9 w' ∧ Own w' w4.heap.size w'.heap.size s1 intT os.length 1 (os.map (Value.int .i64)) ∧ (mm = s.size + 9 - 9 * k) ∧ (os.length = k) ∧ (Lm os) ∧ (9 * k ≤ s.size + 8) ∧ (vl os + Bs ^ k * dval (s.data.toList.take (s.size - 9 * k)) = dval s.data.toList)) (_) (fun a ha => ⟨s9, [], 0, ha.sub (Sub.c 0 rfl (.c 4 rfl (.c 5 (look_int (t := 5) rfl (by first | omega | (simp; done) | simp [dval])) .nil))), Chg.refl _ _ _, (fs9.mono (by omega) (by omega)), rfl, rfl, Lm.nil, by omega, by rw [show s.size - 9 * 0 = s.data.toList.length by rw [sz_list]; omega, List.take_length]; simp [vl]⟩) ?_
  rintro mm aa wl12 ⟨s1, os, k, hAwl12, cwl12, hs_s1, hm, hos, hlm, hk, hv⟩
  refine (show cw Tryz.prog 59 _ _ _ wl12 from ?_) aa hAwl12
  clear hAwl12
  have zwl12 := cwl12.size
  refine sx_seq fun K13 k13 => ?_
  refine sx_seq fun K14 k14 => sx_region ?_
  refine mv rfl rfl (sp rfl (px_gt rfl rfl) ?_)
  refine wl_nil (q_n (k14 _ _ ?_))
  refine sx_condP rfl (fun h214 => ?_) (fun h214 => ?_)
  ·
   refine sx_skip ?_
   refine q_n (k13 _ _ ?_)
   refine sx_seq fun K15 k15 => ?_
   refine sx_block ?_
   refine sx_seq fun K16 k16 => sx_region ?_
   refine av rfl rfl (wl_nil (q_n (k16 _ _ ?_)))
   refine sx_seq fun K17 k17 => ?_
   refine sx_seq fun K18 k18 => sx_region ?_
   refine mv rfl rfl (mv rfl rfl (sp rfl (px_sub rfl rfl (by omega)) ?_))
   refine sp rfl (px_max rfl rfl) ?_
   refine mv rfl rfl (sp rfl (px_strMid (l := (s.size - 9 * k - 9)) (h := (s.size - 9 * k)) rfl rfl rfl (by omega) (by omega) Tryz.underlying9 (by omega) (by omega)) ?_)
   refine sx_convSB rfl Tryz.underlying9 Tryz.underlying22 Tryz.underlying5 rfl (fun s19 ws19 ss19 fs19 cs19 => ?_)
   have zws19 := cs19.size
   refine sp rfl (px_len rfl Tryz.underlying22 fs19) ?_
   refine mv rfl rfl (wl_nil (q_n (k18 _ _ ?_)))
   refine sx_sub (Sub.c 0 rfl (.c 4 rfl (.c 5 rfl (.c 6 rfl (.c 40 rfl (.c 41 rfl (.c 42 rfl .nil))))))) ?_
   refine sx_block ?_
   have hpl := strBs_plen (s := s) (f := (s.size - 9 * k - 9)) (e := (s.size - 9 * k)) (by omega) (by omega)
   refine sx_loop (fun mm aa w' => ∃ (j : Nat), Agr 59 [(0, .string s), (4, s1), (5, .int .i64 (↑s.size - 9 * (k : Int))), (6, .int .i64 ((dval ((s.data.toList.drop (s.size - 9 * k - 9)).take j) : Nat) : Int)), (40, s19), (41, .int .i64 (↑((strBs (s.extract (s.size - 9 * k - 9) (s.size - 9 * k))).length))), (42, .int .i64 ↑j)] aa ∧ Chg 0 0 ws19 w' ∧ (mm = s.size - 9 * k - ((s.size - 9 * k - 9) + j)) ∧ ((s.size - 9 * k - 9) + j ≤ s.size - 9 * k)) (_) (fun a ha => ⟨0, ha.sub (Sub.c 0 rfl (.c 4 rfl (.c 5 rfl (.c 6 (look_int (t := 6) rfl (by first | omega | (simp; done) | simp [dval])) (.c 40 rfl (.c 41 rfl (.c 42 (look_int (t := 42) rfl (by first | omega | (simp; done) | simp [dval])) .nil))))))), Chg.refl _ _ _, rfl, by omega⟩) ?_
   rintro mm aa wl20 ⟨j, hAwl20, cwl20, hm, hj⟩
   refine (show cw Tryz.prog 59 _ _ _ wl20 from ?_) aa hAwl20
   clear hAwl20
   have zwl20 := cwl20.size
   have hn9 := dval9 hD (s.size - 9 * k - 9) j (by omega)
   refine sx_seq fun K21 k21 => sx_region ?_
   refine sp rfl (px_lt rfl rfl) ?_
   refine wl_nil (q_n (k21 _ _ ?_))
   refine sx_seq fun K22 k22 => ?_
   refine sx_condP rfl (fun h216 => ?_) (fun h216 => ?_)
   ·
    have hpt := strBs_part (s := s) (f := (s.size - 9 * k - 9)) (e := (s.size - 9 * k)) (j := j) (by omega) (by omega)
    have hb8 := dgs_at hD (j := (s.size - 9 * k - 9) + j) (by omega)
    have hbs := dval_byte hD (f := (s.size - 9 * k - 9)) (j := j) (by omega)
    refine sx_skip ?_
    refine q_n (k22 _ _ ?_)
    refine sx_seq fun K23 k23 => ?_
    refine sx_block ?_
    refine sx_seq fun K24 k24 => sx_region ?_
    have f25 := fs19.ext cwl20
    refine sp rfl (px_index1 (j := j) rfl rfl (by omega) Tryz.underlying22 Tryz.sizeOf5 f25 (by omega)) ?_
    refine sp rfl (px_load rfl (f25.load1 (at_u8 (by omega)) Tryz.isAgg5)) ?_
    refine av rfl rfl (wl_nil (q_n (k24 _ _ ?_)))
    refine sx_region ?_
    refine mv rfl rfl (sp rfl (px_mul rfl rfl (by omega)) ?_)
    refine mv rfl rfl (sp rfl (px_subU8 rfl rfl (by omega)) ?_)
    refine sp rfl (px_conv8 Tryz.underlying5 Tryz.underlying3 rfl (by omega)) ?_
    refine sp rfl (px_add rfl rfl (by omega)) ?_
    refine av rfl rfl (wl_nil ?_)
    refine q_bn (q_n (k23 _ _ ?_))
    refine sx_sub (Sub.c 0 rfl (.c 4 rfl (.c 5 rfl (.c 6 rfl (.c 40 rfl (.c 41 rfl (.c 42 rfl .nil))))))) ?_
    refine sx_region ?_
    refine sp rfl (px_add rfl rfl (by omega)) ?_
    refine mv rfl rfl (wl_nil ?_)
    exact fun a ha => ⟨_, by omega, (j + 1), ha.sub (Sub.c 0 rfl (.c 4 rfl (.c 5 rfl (.c 6 (look_int (t := 6) rfl (by first | omega | (simp; done) | simp [dval])) (.c 40 rfl (.c 41 rfl (.c 42 (look_int (t := 42) rfl (by first | omega | (simp; done) | simp [dval])) .nil))))))), cwl20, rfl, by omega⟩
   refine sx_exit ?_
   refine q_e (q_e (q_bx (q_n (k17 _ _ ?_))))
   refine sx_region ?_
   refine mv rfl rfl (mv rfl rfl ?_)
   refine sx_lit1 rfl xelt23 rfl rfl (fun s26 ws26 ss26 fs26 cs26 => ?_)
   have ns26 := Own.norm (f := (Value.int .i64)) (zs := [((dval ((s.data.toList.drop (s.size - 9 * k - 9)).take j) : Nat) : Int)]) fs26
   have zws26 := cs26.size
   have f28 := hs_s1.ext cs19
   have f29 := f28.ext cwl20
   have f30 := f29.ext cs26
   refine sx_append rfl xelt23 rfl rfl f30 ns26.sv one_int (by omega) (by simp only [List.length_cons, List.length_nil]; omega) (by unfold maxLen; simp only [List.length_cons, List.length_nil]; omega) (fun a27 w27 fw27 cw27 => ?_)
   have nw27 := Own.app (f := (Value.int .i64)) (a := os) (b := [((dval ((s.data.toList.drop (s.size - 9 * k - 9)).take j) : Nat) : Int)]) fw27
   have zw27 := cw27.size
   refine av rfl rfl (wl_nil ?_)
   refine q_bn (q_n (k15 _ _ ?_))
   refine sx_region ?_
   refine mv rfl rfl (sp rfl (px_sub rfl rfl (by omega)) ?_)
   refine av rfl rfl (wl_nil ?_)
   have q31 := Chg.step (l := w4.heap.size) (h := ws9.heap.size) cwl12 ((cs19.t cwl20).t cs26) (by omega)
   have q32 := Chg.step (l := w4.heap.size) (h := ws9.heap.size) q31 cw27 (by omega)
   have hX := dval9 hD (s.size - 9 * k - 9) j (by omega)
   exact fun a ha => ⟨_, by omega, a27, (os ++ ([((dval ((s.data.toList.drop (s.size - 9 * k - 9)).take j) : Nat) : Int)])), (k + 1), ha.sub (Sub.c 0 rfl (.c 4 rfl (.c 5 (look_int (t := 5) rfl (by first | omega | (simp; done) | simp [dval])) .nil))), q32, (nw27.mono (by omega) (by omega)), rfl, by simp [hos], hlm.append (Lm.single (by omega) (by omega)), by omega, limbs_next hos rfl (by omega) (by omega) hv⟩
  refine sx_exit ?_
  refine q_e (q_e (q_bx (q_n (k10 _ _ ?_))))
  refine sx_seq fun K33 k33 => sx_region ?_
  refine mv rfl rfl (sx_call rfl rfl Tryz.call69 (c_trim hs_s1 (hlm) (by first | omega | (simp only [List.length_append, List.length_set, List.length_replicate, List.length_cons, List.length_nil] at *; omega))) (fun v34 w34 p34 => ?_))
  obtain ⟨s34, rfl, os_34, c34⟩ := p34
  have zw34 := c34.size
  refine av rfl rfl (av rfl rfl (wl_nil (q_n (k33 _ _ ?_))))
  refine sx_retc ?_
  refine sx_ret2 Tryz.results32 rfl rfl ?_
  have hvl := limbs_end (by omega) hv
  have hK : tnK s = true := tnK_ok hdk (by omega) (by omega)
  rw [tnV_ok hK, hK, ← hvl]
  have q35 := Chg.step (l := 0) (h := 0) (Chg.zero (l := 0) (h := 0) (c4.t cs9)) cwl12 (by omega)
  have q36 := Chg.step (l := 0) (h := 0) q35 c34 (by omega)
  exact ⟨_, rfl, (Own.mono os_34 (by omega) (by omega)), q36⟩
 refine sx_guardF rfl rfl rfl rfl rfl rfl ?_
 refine sx_guardF rfl rfl rfl rfl rfl rfl ?_
 refine sx_guardF rfl rfl rfl rfl rfl rfl ?_
 refine sx_guardT rfl rfl rfl ?_
 refine sp rfl (px_pick rfl rfl) ?_
 refine sp rfl (px_pick rfl rfl) ?_
 refine wl_nil (q_n (k3 _ _ ?_))
 refine sx_sub (Sub.c 0 rfl (.c 2 rfl (.c 3 rfl (.c 26 rfl .nil)))) ?_
 refine sx_condF rfl ?_
 refine sx_skip ?_
 refine q_n (k2 _ _ ?_)
 refine sx_seq fun K37 k37 => sx_region ?_
 refine sx_lit0 rfl xelt23 (fun s38 ws38 ss38 fs38 cs38 => ?_)
 have zws38 := cs38.size
 refine av rfl rfl (wl_nil (q_n (k37 _ _ ?_)))
 refine sx_seq fun K39 k39 => ?_
 refine sx_seq fun K40 k40 => sx_region ?_
 refine mv rfl rfl (sp rfl (px_lenS rfl Tryz.underlying9) ?_)
 refine av rfl rfl (wl_nil (q_n (k40 _ _ ?_)))
 refine sx_block ?_
 refine sx_loop (fun mm aa w' => ∃ (s1 : Value) (os : List Int) (k : Nat), Agr 59 [(0, .string s), (4, s1), (5, .int .i64 (↑s.size - 9 * (k : Int)))] aa ∧ Chg w4.heap.size ws38.heap.size ws38 w' ∧ Own w' w4.heap.size w'.heap.size s1 intT os.length 1 (os.map (Value.int .i64)) ∧ (mm = s.size + 9 - 9 * k) ∧ (os.length = k) ∧ (Lm os) ∧ (9 * k ≤ s.size + 8) ∧ (vl os + Bs ^ k * dval (s.data.toList.take (s.size - 9 * k)) = dval s.data.toList)) (_) (fun a ha => ⟨s38, [], 0, ha.sub (Sub.c 0 rfl (.c 4 rfl (.c 5 (look_int (t := 5) rfl (by first | omega | (simp; done) | simp [dval])) .nil))), Chg.refl _ _ _, (fs38.mono (by omega) (by omega)), rfl, rfl, Lm.nil, by omega, by rw [show s.size - 9 * 0 = s.data.toList.length by rw [sz_list]; omega, List.take_length]; simp [vl]⟩) ?_
 rintro mm aa wl41 ⟨s1, os, k, hAwl41, cwl41, hs_s1, hm, hos, hlm, hk, hv⟩
 refine (show cw Tryz.prog 59 _ _ _ wl41 from ?_) aa hAwl41
 clear hAwl41
 have zwl41 := cwl41.size
 refine sx_seq fun K42 k42 => ?_
 refine sx_seq fun K43 k43 => sx_region ?_
 refine mv rfl rfl (sp rfl (px_gt rfl rfl) ?_)
 refine wl_nil (q_n (k43 _ _ ?_))
 refine sx_condP rfl (fun h214 => ?_) (fun h214 => ?_)
 ·
  refine sx_skip ?_
  refine q_n (k42 _ _ ?_)
  refine sx_seq fun K44 k44 => ?_
  refine sx_block ?_
  refine sx_seq fun K45 k45 => sx_region ?_
  refine av rfl rfl (wl_nil (q_n (k45 _ _ ?_)))
  refine sx_seq fun K46 k46 => ?_
  refine sx_seq fun K47 k47 => sx_region ?_
  refine mv rfl rfl (mv rfl rfl (sp rfl (px_sub rfl rfl (by omega)) ?_))
  refine sp rfl (px_max rfl rfl) ?_
  refine mv rfl rfl (sp rfl (px_strMid (l := (s.size - 9 * k - 9)) (h := (s.size - 9 * k)) rfl rfl rfl (by omega) (by omega) Tryz.underlying9 (by omega) (by omega)) ?_)
  refine sx_convSB rfl Tryz.underlying9 Tryz.underlying22 Tryz.underlying5 rfl (fun s48 ws48 ss48 fs48 cs48 => ?_)
  have zws48 := cs48.size
  refine sp rfl (px_len rfl Tryz.underlying22 fs48) ?_
  refine mv rfl rfl (wl_nil (q_n (k47 _ _ ?_)))
  refine sx_sub (Sub.c 0 rfl (.c 4 rfl (.c 5 rfl (.c 6 rfl (.c 40 rfl (.c 41 rfl (.c 42 rfl .nil))))))) ?_
  refine sx_block ?_
  have hpl := strBs_plen (s := s) (f := (s.size - 9 * k - 9)) (e := (s.size - 9 * k)) (by omega) (by omega)
  refine sx_loop (fun mm aa w' => ∃ (j : Nat), Agr 59 [(0, .string s), (4, s1), (5, .int .i64 (↑s.size - 9 * (k : Int))), (6, .int .i64 ((dval ((s.data.toList.drop (s.size - 9 * k - 9)).take j) : Nat) : Int)), (40, s48), (41, .int .i64 (↑((strBs (s.extract (s.size - 9 * k - 9) (s.size - 9 * k))).length))), (42, .int .i64 ↑j)] aa ∧ Chg 0 0 ws48 w' ∧ (mm = s.size - 9 * k - ((s.size - 9 * k - 9) + j)) ∧ ((s.size - 9 * k - 9) + j ≤ s.size - 9 * k)) (_) (fun a ha => ⟨0, ha.sub (Sub.c 0 rfl (.c 4 rfl (.c 5 rfl (.c 6 (look_int (t := 6) rfl (by first | omega | (simp; done) | simp [dval])) (.c 40 rfl (.c 41 rfl (.c 42 (look_int (t := 42) rfl (by first | omega | (simp; done) | simp [dval])) .nil))))))), Chg.refl _ _ _, rfl, by omega⟩) ?_
  rintro mm aa wl49 ⟨j, hAwl49, cwl49, hm, hj⟩
  refine (show cw Tryz.prog 59 _ _ _ wl49 from ?_) aa hAwl49
  clear hAwl49
  have zwl49 := cwl49.size
  have hn9 := dval9 hD (s.size - 9 * k - 9) j (by omega)
  refine sx_seq fun K50 k50 => sx_region ?_
  refine sp rfl (px_lt rfl rfl) ?_
  refine wl_nil (q_n (k50 _ _ ?_))
  refine sx_seq fun K51 k51 => ?_
  refine sx_condP rfl (fun h216 => ?_) (fun h216 => ?_)
  ·
   have hpt := strBs_part (s := s) (f := (s.size - 9 * k - 9)) (e := (s.size - 9 * k)) (j := j) (by omega) (by omega)
   have hb8 := dgs_at hD (j := (s.size - 9 * k - 9) + j) (by omega)
   have hbs := dval_byte hD (f := (s.size - 9 * k - 9)) (j := j) (by omega)
   refine sx_skip ?_
   refine q_n (k51 _ _ ?_)
   refine sx_seq fun K52 k52 => ?_
   refine sx_block ?_
   refine sx_seq fun K53 k53 => sx_region ?_
   have f54 := fs48.ext cwl49
   refine sp rfl (px_index1 (j := j) rfl rfl (by omega) Tryz.underlying22 Tryz.sizeOf5 f54 (by omega)) ?_
   refine sp rfl (px_load rfl (f54.load1 (at_u8 (by omega)) Tryz.isAgg5)) ?_
   refine av rfl rfl (wl_nil (q_n (k53 _ _ ?_)))
   refine sx_region ?_
   refine mv rfl rfl (sp rfl (px_mul rfl rfl (by omega)) ?_)
   refine mv rfl rfl (sp rfl (px_subU8 rfl rfl (by omega)) ?_)
   refine sp rfl (px_conv8 Tryz.underlying5 Tryz.underlying3 rfl (by omega)) ?_
   refine sp rfl (px_add rfl rfl (by omega)) ?_
   refine av rfl rfl (wl_nil ?_)
   refine q_bn (q_n (k52 _ _ ?_))
   refine sx_sub (Sub.c 0 rfl (.c 4 rfl (.c 5 rfl (.c 6 rfl (.c 40 rfl (.c 41 rfl (.c 42 rfl .nil))))))) ?_
   refine sx_region ?_
   refine sp rfl (px_add rfl rfl (by omega)) ?_
   refine mv rfl rfl (wl_nil ?_)
   exact fun a ha => ⟨_, by omega, (j + 1), ha.sub (Sub.c 0 rfl (.c 4 rfl (.c 5 rfl (.c 6 (look_int (t := 6) rfl (by first | omega | (simp; done) | simp [dval])) (.c 40 rfl (.c 41 rfl (.c 42 (look_int (t := 42) rfl (by first | omega | (simp; done) | simp [dval])) .nil))))))), cwl49, rfl, by omega⟩
  refine sx_exit ?_
  refine q_e (q_e (q_bx (q_n (k46 _ _ ?_))))
  refine sx_region ?_
  refine mv rfl rfl (mv rfl rfl ?_)
  refine sx_lit1 rfl xelt23 rfl rfl (fun s55 ws55 ss55 fs55 cs55 => ?_)
  have ns55 := Own.norm (f := (Value.int .i64)) (zs := [((dval ((s.data.toList.drop (s.size - 9 * k - 9)).take j) : Nat) : Int)]) fs55
  have zws55 := cs55.size
  have f57 := hs_s1.ext cs48
  have f58 := f57.ext cwl49
  have f59 := f58.ext cs55
  refine sx_append rfl xelt23 rfl rfl f59 ns55.sv one_int (by omega) (by simp only [List.length_cons, List.length_nil]; omega) (by unfold maxLen; simp only [List.length_cons, List.length_nil]; omega) (fun a56 w56 fw56 cw56 => ?_)
  have nw56 := Own.app (f := (Value.int .i64)) (a := os) (b := [((dval ((s.data.toList.drop (s.size - 9 * k - 9)).take j) : Nat) : Int)]) fw56
  have zw56 := cw56.size
  refine av rfl rfl (wl_nil ?_)
  refine q_bn (q_n (k44 _ _ ?_))
  refine sx_region ?_
  refine mv rfl rfl (sp rfl (px_sub rfl rfl (by omega)) ?_)
  refine av rfl rfl (wl_nil ?_)
  have q60 := Chg.step (l := w4.heap.size) (h := ws38.heap.size) cwl41 ((cs48.t cwl49).t cs55) (by omega)
  have q61 := Chg.step (l := w4.heap.size) (h := ws38.heap.size) q60 cw56 (by omega)
  have hX := dval9 hD (s.size - 9 * k - 9) j (by omega)
  exact fun a ha => ⟨_, by omega, a56, (os ++ ([((dval ((s.data.toList.drop (s.size - 9 * k - 9)).take j) : Nat) : Int)])), (k + 1), ha.sub (Sub.c 0 rfl (.c 4 rfl (.c 5 (look_int (t := 5) rfl (by first | omega | (simp; done) | simp [dval])) .nil))), q61, (nw56.mono (by omega) (by omega)), rfl, by simp [hos], hlm.append (Lm.single (by omega) (by omega)), by omega, limbs_next hos rfl (by omega) (by omega) hv⟩
 refine sx_exit ?_
 refine q_e (q_e (q_bx (q_n (k39 _ _ ?_))))
 refine sx_seq fun K62 k62 => sx_region ?_
 refine mv rfl rfl (sx_call rfl rfl Tryz.call69 (c_trim hs_s1 (hlm) (by first | omega | (simp only [List.length_append, List.length_set, List.length_replicate, List.length_cons, List.length_nil] at *; omega))) (fun v63 w63 p63 => ?_))
 obtain ⟨s63, rfl, os_63, c63⟩ := p63
 have zw63 := c63.size
 refine av rfl rfl (av rfl rfl (wl_nil (q_n (k62 _ _ ?_))))
 refine sx_retc ?_
 refine sx_ret2 Tryz.results32 rfl rfl ?_
 have hvl := limbs_end (by omega) hv
 have hK : tnK s = true := tnK_ok hdk (by omega) (by omega)
 rw [tnV_ok hK, hK, ← hvl]
 have q64 := Chg.step (l := 0) (h := 0) (Chg.zero (l := 0) (h := 0) (c4.t cs38)) cwl41 (by omega)
 have q65 := Chg.step (l := 0) (h := 0) q64 c63 (by omega)
 exact ⟨_, rfl, (Own.mono os_63 (by omega) (by omega)), q65⟩

theorem c_signed {w : World} {n : Bool} {va : Value} {lva uva : Nat} {zs : List Int} (hva : Sl w lva uva va (zs)) (h63 : zs.length ≤ 4611686018427387904) :
  Ret Tryz.prog 33 [.bool n, va] w fun v w' => v = .agg #[.bool (nz n zs), va] ∧ Chg 0 0 w w' := by
 have hva0 := hva.fit
 refine sx_enter Tryz.func33 rfl Tryz.ntmps33 (nbl rfl) ?_
 refine sx_seq fun K1 k1 => sx_region ?_
 refine sx_alloc [.bool false, (.slice none 0 0)] rfl Tryz.zeroValue25 rfl (fun b2 w3 eb2 sb2 fb2 cb2 => ?_)
 have zw3 := cb2.size
 refine wl_nil (q_n (k1 _ _ ?_))
 refine sx_seq fun K4 k4 => sx_region ?_
 refine mv rfl rfl (mv rfl rfl ?_)
 refine sx_tmpB (t := 6) rfl (fun h16 => ?_) (fun h16 => ?_)
 ·
  refine sx_guardT rfl rfl rfl ?_
  refine mv rfl rfl ?_
  refine sx_guardT rfl rfl rfl ?_
  have f5 := hva0.ext cb2
  refine sp rfl (px_len rfl Tryz.underlying23 f5) ?_
  refine sx_guardT rfl rfl rfl ?_
  refine sp rfl (px_gt rfl rfl) ?_
  refine sp rfl (px_pick rfl rfl) ?_
  refine mv rfl rfl (sp rfl (px_build rfl (xbld25x0x1 rfl f5.one _)) ?_)
  refine sx_store (vs := [.bool (decide ((0 : Int) < ↑((zs).length))), va]) rfl rfl fb2 rfl Tryz.sizeOf25 (nbl rfl) (one_cons rfl (one_cons f5.one one_nil)) (fun w6 sw6 fw6 cw6 => ?_)
  have zw6 := cw6.size
  have gw6 : Blk w6 b2 [.bool (decide ((0 : Int) < ↑((zs).length))), va] 25 := fw6
  refine wl_nil (q_n (k4 _ _ ?_))
  refine sx_retc ?_
  refine sx_ret1 Tryz.results33 ⟨_, rfl, gw6.loadA (vs := [.bool (decide ((0 : Int) < ↑((zs).length))), va]) (look_lit rfl) Tryz.isAgg25 Tryz.sizeOf25⟩ ?_
  have q7 := Chg.step (l := 0) (h := 0) (Chg.zero (l := 0) (h := 0) cb2) cw6 (by omega)
  exact ⟨(by simp [nz, h16]), q7⟩
 refine sx_guardF rfl rfl rfl rfl rfl rfl ?_
 refine sx_guardF rfl rfl rfl rfl rfl rfl ?_
 refine sx_guardF rfl rfl rfl rfl rfl rfl ?_
 refine sp rfl (px_pick rfl rfl) ?_
 refine mv rfl rfl ?_
 have f8 := hva0.ext cb2
 refine sp rfl (px_build rfl (xbld25x0x1 rfl f8.one _)) ?_
 refine sx_store (vs := [.bool false, va]) rfl rfl fb2 rfl Tryz.sizeOf25 (nbl rfl) (one_cons rfl (one_cons f8.one one_nil)) (fun w9 sw9 fw9 cw9 => ?_)
 have zw9 := cw9.size
 have gw9 : Blk w9 b2 [.bool false, va] 25 := fw9
 refine wl_nil (q_n (k4 _ _ ?_))
 refine sx_retc ?_
 refine sx_ret1 Tryz.results33 ⟨_, rfl, gw9.loadA (vs := [.bool false, va]) (look_lit rfl) Tryz.isAgg25 Tryz.sizeOf25⟩ ?_
 have q10 := Chg.step (l := 0) (h := 0) (Chg.zero (l := 0) (h := 0) cb2) cw9 (by omega)
 exact ⟨(by simp [nz, h16]), q10⟩

set_option maxHeartbeats 1000000 in
theorem c_iTextDec {w : World} {s : ByteArray} (hGT : GlobP w) (hs : s.size ≤ 1048576) :
  Ret Tryz.prog 6 [.string s] w fun v w' => ∃ x, v = .tuple #[.agg #[.bool ((rdD s).1), x, .int .i64 ((rdD s).2.2.1)], .bool ((rdD s).2.2.2)] ∧ OwnI w' w.heap.size w'.heap.size x intT ((rdD s).2.1) ∧ ((rdD s).2.1.length ≤ 6) ∧ Chg 0 0 w w' := by
 have hGTl := hGT.lt
 refine sx_enter Tryz.func6 rfl Tryz.ntmps6 (nbl rfl) ?_
 refine sx_seq fun K1 k1 => sx_region ?_
 refine sx_alloc [.bool false, (.slice none 0 0), .int .i64 0] rfl Tryz.zeroValue27 rfl (fun b2 w3 eb2 sb2 fb2 cb2 => ?_)
 have zw3 := cb2.size
 refine av rfl rfl (wl_nil (q_n (k1 _ _ ?_)))
 refine sx_seq fun K4 k4 => sx_region ?_
 refine mv rfl rfl (sp rfl (px_neS rfl rfl) ?_)
 refine mv rfl rfl ?_
 refine sx_tmpP (t := 14) rfl (fun h55 => ?_) (fun h55 => ?_)
 ·
  have hs0 : 0 < s.size := (decide_eq_decide.1 (sz_ne s)).1 h55
  refine sx_guardT rfl rfl rfl ?_
  refine mv rfl rfl ?_
  refine sx_guardT rfl rfl rfl ?_
  refine sp rfl (px_indexS (j := 0) rfl rfl (by omega) Tryz.underlying9 (by omega)) ?_
  refine sx_guardT rfl rfl rfl ?_
  refine sp rfl (px_eq rfl rfl) ?_
  refine sp rfl (px_pick rfl rfl) ?_
  refine av rfl rfl (wl_nil (q_n (k4 _ _ ?_)))
  refine sx_seq fun K5 k5 => sx_region ?_
  refine mv rfl rfl (av rfl rfl (wl_nil (q_n (k5 _ _ ?_))))
  refine sx_seq fun K6 k6 => ?_
  refine sx_seq fun K7 k7 => sx_region ?_
  refine mv rfl rfl (wl_nil (q_n (k7 _ _ ?_)))
  refine sx_condP rfl (fun h57 => ?_) (fun h57 => ?_)
  ·
   have hsg : sgK s = true := sgK_yes hs0 h57
   have huS := unS_yes hsg
   have hus : (s.extract 1 s.size).size ≤ s.size := by rw [ByteArray.size_extract]; omega
   have hjq := jn_cut (b := 46) (s := s.extract 1 s.size)
   have hcq := cutT_len (b := 46) (s := s.extract 1 s.size)
   refine sx_region ?_
   refine mv rfl rfl (sp rfl (px_strFrom (l := 1) rfl rfl (by omega) Tryz.underlying9 (by omega)) ?_)
   refine av rfl rfl (wl_nil (q_n (k6 _ _ ?_)))
   refine sx_sub (Sub.c 0 rfl (.c 2 rfl (.c 3 rfl (.c 4 rfl (.c 5 rfl .nil))))) ?_
   refine sx_seq fun K8 k8 => sx_region ?_
   refine mv rfl rfl (sx_call rfl rfl Tryz.call30 (c_iCutAtP (by omega) (rfl)) (fun v9 w9 p9 => ?_))
   obtain ⟨x9, rfl, ox_9, c9⟩ := p9
   have zw9 := c9.size
   refine av rfl rfl (wl_nil (q_n (k8 _ _ ?_)))
   refine sx_seq fun K10 k10 => ?_
   refine sx_seq fun K11 k11 => sx_region ?_
   refine mv rfl rfl (sp rfl (px_len rfl Tryz.underlying65 ox_9.sv) ?_)
   refine sp rfl (px_gt rfl rfl) ?_
   refine mv rfl rfl ?_
   refine sx_tmpP (t := 28) rfl (fun h61 => ?_) (fun h61 => ?_)
   ·
    refine sx_guardF rfl rfl rfl rfl rfl rfl ?_
    refine sx_guardF rfl rfl rfl rfl rfl rfl ?_
    refine sx_guardF rfl rfl rfl rfl rfl rfl ?_
    refine sp rfl (px_pick rfl rfl) ?_
    refine wl_nil (q_n (k11 _ _ ?_))
    refine sx_sub (Sub.c 0 rfl (.c 2 rfl (.c 3 rfl (.c 4 rfl (.c 6 rfl (.c 32 rfl .nil)))))) ?_
    refine sx_condT rfl ?_
    refine sx_seq fun K12 k12 => sx_region ?_
    refine sp rfl (px_build rfl (xbld27x  _)) ?_
    have f14 := fb2.ext c9
    refine sx_store (vs := [.bool false, (.slice none 0 0), .int .i64 0]) rfl rfl f14 rfl Tryz.sizeOf27 (nbl rfl) (o3 rfl rfl rfl) (fun w13 sw13 fw13 cw13 => ?_)
    have zw13 := cw13.size
    have gw13 : Blk w13 b2 [.bool false, (.slice none 0 0), .int .i64 0] 27 := fw13
    refine av rfl rfl (wl_nil (q_n (k12 _ _ ?_)))
    refine sx_retc ?_
    refine q_r (sx_ret2 Tryz.results6 ⟨_, rfl, gw13.loadA (vs := [.bool false, (.slice none 0 0), .int .i64 0]) (look_lit rfl) Tryz.isAgg27 Tryz.sizeOf27⟩ rfl ?_)
    have hB := rdD_ibad huS rfl rfl (by rintro ⟨a1, a2, _, _⟩; omega)
    rw [hB]
    have q15 := Chg.step (l := 0) (h := 0) (Chg.zero (l := 0) (h := 0) (cb2.t c9)) cw13 (by omega)
    exact ⟨_, rfl, Own.nil _ _ _ _ _, by simp, q15⟩
   refine sx_guardT rfl rfl rfl ?_
   refine mv rfl rfl ?_
   refine sx_guardT rfl rfl rfl ?_
   refine sp rfl (px_lenS rfl Tryz.underlying9) ?_
   refine sx_guardT rfl rfl rfl ?_
   refine sp rfl (px_gt rfl rfl) ?_
   refine sp rfl (px_pick rfl rfl) ?_
   refine wl_nil (q_n (k11 _ _ ?_))
   refine sx_sub (Sub.c 0 rfl (.c 2 rfl (.c 3 rfl (.c 4 rfl (.c 6 rfl (.c 32 rfl .nil)))))) ?_
   refine sx_condP rfl (fun h61x1 => ?_) (fun h61x1 => ?_)
   ·
    refine sx_seq fun K16 k16 => sx_region ?_
    refine sp rfl (px_build rfl (xbld27x  _)) ?_
    have f18 := fb2.ext c9
    refine sx_store (vs := [.bool false, (.slice none 0 0), .int .i64 0]) rfl rfl f18 rfl Tryz.sizeOf27 (nbl rfl) (o3 rfl rfl rfl) (fun w17 sw17 fw17 cw17 => ?_)
    have zw17 := cw17.size
    have gw17 : Blk w17 b2 [.bool false, (.slice none 0 0), .int .i64 0] 27 := fw17
    refine av rfl rfl (wl_nil (q_n (k16 _ _ ?_)))
    refine sx_retc ?_
    refine q_r (sx_ret2 Tryz.results6 ⟨_, rfl, gw17.loadA (vs := [.bool false, (.slice none 0 0), .int .i64 0]) (look_lit rfl) Tryz.isAgg27 Tryz.sizeOf27⟩ rfl ?_)
    have hB := rdD_ibad huS rfl rfl (by rintro ⟨a1, a2, _, _⟩; omega)
    rw [hB]
    have q19 := Chg.step (l := 0) (h := 0) (Chg.zero (l := 0) (h := 0) (cb2.t c9)) cw17 (by omega)
    exact ⟨_, rfl, Own.nil _ _ _ _ _, by simp, q19⟩
   refine sx_skip ?_
   refine q_n (k10 _ _ ?_)
   refine sx_seq fun K20 k20 => sx_region ?_
   refine av rfl rfl (wl_nil (q_n (k20 _ _ ?_)))
   refine sx_seq fun K21 k21 => ?_
   refine sx_seq fun K22 k22 => sx_region ?_
   refine mv rfl rfl (sp rfl (px_len rfl Tryz.underlying65 ox_9.sv) ?_)
   refine sp rfl (px_eq rfl rfl) ?_
   refine wl_nil (q_n (k22 _ _ ?_))
   refine sx_condP rfl (fun h65 => ?_) (fun h65 => ?_)
   ·
    have hsc := scT_2 h65
    refine sx_region ?_
    refine mv rfl rfl (sp rfl (px_index1 (j := 1) rfl rfl (by omega) Tryz.underlying65 Tryz.sizeOf9 ox_9.sv (by omega)) ?_)
    refine sp rfl (px_load rfl (ox_9.sv.load1 (at_str (by omega)) Tryz.isAgg9)) ?_
    refine sp rfl (px_lenS rfl Tryz.underlying9) ?_
    refine av rfl rfl (wl_nil (q_n (k21 _ _ ?_)))
    refine sx_seq fun K23 k23 => sx_region ?_
    refine mv rfl rfl (sx_call rfl rfl Tryz.call31 (c_iJoin ox_9.sv (rfl) (by constructor <;> omega)) (fun v24 w24 p24 => ?_))
    obtain ⟨rfl, c24⟩ := p24
    have zw24 := c24.size
    refine av rfl rfl (wl_nil (q_n (k23 _ _ ?_)))
    refine sx_sub (Sub.c 0 rfl (.c 2 rfl (.c 3 rfl (.c 4 rfl (.c 7 rfl (.c 8 rfl .nil)))))) ?_
    refine sx_seq fun K25 k25 => ?_
    refine sx_block ?_
    have hjc := jn_cut (b := 46) (s := (s.extract 1 s.size))
    refine sx_loop (fun mm aa w' => ∃ (t : ByteArray), Agr 73 [(0, .string s), (2, .pointer (some ⟨b2, 0, none⟩)), (3, .bool false), (4, .bool (decide ((strB s 0 : Int) = 45))), (7, .int .i64 (↑((cutT 46 (s.extract 1 s.size)).getD 1 ByteArray.empty).size)), (8, .string t)] aa ∧ Chg 0 0 w24 w' ∧ (mm = t.size) ∧ (strip t.data.toList = strip (jnT (cutT 46 (s.extract 1 s.size)))) ∧ (t.size ≤ 1000)) (_) (fun a ha => ⟨(bl (jnT (cutT 46 (s.extract 1 s.size)))), ha.sub (Sub.c 0 rfl (.c 2 rfl (.c 3 rfl (.c 4 rfl (.c 7 rfl (.c 8 rfl .nil)))))), Chg.refl _ _ _, rfl, rfl, by rw [bl_size]; omega⟩) ?_
    rintro mm aa wl26 ⟨t, hAwl26, cwl26, hm, hst, hts⟩
    refine (show cw Tryz.prog 73 _ _ _ wl26 from ?_) aa hAwl26
    clear hAwl26
    have zwl26 := cwl26.size
    refine sx_seq fun K27 k27 => ?_
    refine sx_seq fun K28 k28 => sx_region ?_
    refine mv rfl rfl (sp rfl (px_lenS rfl Tryz.underlying9) ?_)
    refine sp rfl (px_gt rfl rfl) ?_
    refine mv rfl rfl ?_
    refine sx_tmpP (t := 46) rfl (fun h69 => ?_) (fun h69 => ?_)
    ·
     refine sx_guardT rfl rfl rfl ?_
     refine mv rfl rfl ?_
     refine sx_guardT rfl rfl rfl ?_
     refine sp rfl (px_indexS (j := 0) rfl rfl (by omega) Tryz.underlying9 (by omega)) ?_
     refine sx_guardT rfl rfl rfl ?_
     refine sp rfl (px_eq rfl rfl) ?_
     refine sp rfl (px_pick rfl rfl) ?_
     refine wl_nil (q_n (k28 _ _ ?_))
     refine sx_condP rfl (fun h69x1 => ?_) (fun h69x1 => ?_)
     ·
      refine sx_skip ?_
      refine q_n (k27 _ _ ?_)
      refine sx_block ?_
      refine sx_region ?_
      refine mv rfl rfl (sp rfl (px_strFrom (l := 1) rfl rfl (by omega) Tryz.underlying9 (by omega)) ?_)
      refine av rfl rfl (wl_nil ?_)
      have hsx : (t.extract 1 t.size).size = t.size - 1 := by rw [ByteArray.size_extract]; omega
      exact q_bn (fun a ha => ⟨_, by omega, (t.extract 1 t.size), ha.sub (Sub.c 0 rfl (.c 2 rfl (.c 3 rfl (.c 4 rfl (.c 7 rfl (.c 8 rfl .nil)))))), cwl26, rfl, (strip_step (by omega) (by omega)).trans hst, by omega⟩)
     have ht : t = whT (s.extract 1 s.size) := strip_doneL hst (by omega)
     subst ht
     have htl := tnV_len (whT (s.extract 1 s.size))
     refine sx_exit ?_
     refine q_e (q_e (q_bx (q_n (k25 _ _ ?_))))
     refine sx_seq fun K29 k29 => sx_region ?_
     refine mv rfl rfl (sx_call rfl rfl Tryz.call32 (c_iTextNat (by omega)) (fun v30 w30 p30 => ?_))
     obtain ⟨x30, rfl, ox_30, c30⟩ := p30
     have zw30 := c30.size
     refine mv rfl rfl (sp rfl (px_ex2 rfl rfl) ?_)
     refine sp rfl (px_ex2 rfl rfl) ?_
     refine av rfl rfl (av rfl rfl (wl_nil (q_n (k29 _ _ ?_))))
     refine sx_sub (Sub.c 0 rfl (.c 2 rfl (.c 3 rfl (.c 4 rfl (.c 7 rfl (.c 9 rfl (.c 10 rfl .nil))))))) ?_
     refine sx_seq fun K31 k31 => sx_region ?_
     refine mv rfl rfl (mv rfl rfl (sx_call rfl rfl Tryz.call33 (c_signed ox_30.sv (by omega)) (fun v32 w32 p32 => ?_)))
     obtain ⟨rfl, c32⟩ := p32
     have zw32 := c32.size
     refine mv rfl rfl (sp rfl (px_build rfl (xbld27x0x1 rfl _)) ?_)
     refine sx_alloc [.bool false, (.slice none 0 0), .int .i64 0] rfl Tryz.zeroValue27 rfl (fun b33 w34 eb33 sb33 fb33 cb33 => ?_)
     have zw34 := cb33.size
     have f37 := (ox_30.ext c32).ext cb33
     refine sx_store (vs := [.bool (nz (decide ((strB s 0 : Int) = 45)) (dg (tnV (whT (s.extract 1 s.size))))), x30, .int .i64 (↑((cutT 46 (s.extract 1 s.size)).getD 1 ByteArray.empty).size)]) rfl rfl fb33 rfl Tryz.sizeOf27 (nbl rfl) (one_cons rfl (one_cons f37.one (o1 rfl))) (fun w35 sw35 fw35 cw35 => ?_)
     have zw35 := cw35.size
     have gw35 : Blk w35 b33 [.bool (nz (decide ((strB s 0 : Int) = 45)) (dg (tnV (whT (s.extract 1 s.size))))), x30, .int .i64 (↑((cutT 46 (s.extract 1 s.size)).getD 1 ByteArray.empty).size)] 27 := fw35
     refine wl_nil (q_n (k31 _ _ ?_))
     refine sx_seq fun K38 k38 => ?_
     refine sx_seq fun K39 k39 => sx_region ?_
     refine mv rfl rfl (sp rfl (px_not rfl) ?_)
     refine mv rfl rfl ?_
     refine sx_tmpB (t := 65) rfl (fun h74 => ?_) (fun h74 => ?_)
     ·
      refine sx_guardF rfl rfl rfl rfl rfl rfl ?_
      refine sx_guardF rfl rfl rfl rfl rfl rfl ?_
      refine sx_guardF rfl rfl rfl rfl rfl rfl ?_
      refine sx_guardF rfl rfl rfl rfl rfl rfl ?_
      refine sp rfl (px_pick rfl rfl) ?_
      refine wl_nil (q_n (k39 _ _ ?_))
      refine sx_sub (Sub.c 2 rfl (.c 3 rfl (.c 11 rfl (.c 70 rfl .nil)))) ?_
      refine sx_condT rfl ?_
      refine sx_seq fun K40 k40 => sx_region ?_
      refine sp rfl (px_build rfl (xbld27x  _)) ?_
      have f44 := ((fb2.ext c9).ext c24).ext cwl26
      have f47 := ((f44.ext c30).ext c32).ext cb33
      have f48 := f47.chg cw35 (by omega)
      refine sx_store (vs := [.bool false, (.slice none 0 0), .int .i64 0]) rfl rfl f48 rfl Tryz.sizeOf27 (nbl rfl) (o3 rfl rfl rfl) (fun w41 sw41 fw41 cw41 => ?_)
      have zw41 := cw41.size
      have gw41 : Blk w41 b2 [.bool false, (.slice none 0 0), .int .i64 0] 27 := fw41
      refine av rfl rfl (wl_nil (q_n (k40 _ _ ?_)))
      refine sx_retc ?_
      refine q_r (sx_ret2 Tryz.results6 ⟨_, rfl, gw41.loadA (vs := [.bool false, (.slice none 0 0), .int .i64 0]) (look_lit rfl) Tryz.isAgg27 Tryz.sizeOf27⟩ rfl ?_)
      have hB := rdD_ibad (n := (decide ((strB s 0 : Int) = 45))) huS (hsg.trans (by first | rfl | exact (decide_eq_true h57).symm | exact (decide_eq_false h57).symm)) hsc (by
       rintro ⟨a1, a2, a3, a4⟩
       first
       | exact h74x1 a4
       | exact absurd h74 (by rw [a3]; decide))
      rw [hB]
      have q49 := Chg.step (l := 0) (h := 0) (Chg.zero (l := 0) (h := 0) ((((((cb2.t c9).t c24).t cwl26).t c30).t c32).t cb33)) cw35 (by omega)
      have q50 := Chg.step (l := 0) (h := 0) q49 cw41 (by omega)
      exact ⟨_, rfl, Own.nil _ _ _ _ _, by simp, q50⟩
     refine sx_guardT rfl rfl rfl ?_
     refine sp rfl (px_load rfl (gw35.loadA (vs := [.bool (nz (decide ((strB s 0 : Int) = 45)) (dg (tnV (whT (s.extract 1 s.size))))), x30, .int .i64 (↑((cutT 46 (s.extract 1 s.size)).getD 1 ByteArray.empty).size)]) (look_lit rfl) Tryz.isAgg27 Tryz.sizeOf27)) ?_
     refine sx_guardT rfl rfl rfl ?_
     have f51 := hGT.ext cb2
     have f54 := ((f51.ext c9).ext c24).ext cwl26
     have f57 := ((f54.ext c30).ext c32).ext cb33
     have f58 := f57.chg cw35 (by omega)
     have f59 := f37.chg cw35 (by omega)
     refine sx_call rfl rfl Tryz.call7 (c_iDecText f58 f59.sv (by omega)) (fun v60 w60 p60 => ?_)
     obtain ⟨rfl, hsz60, c60⟩ := p60
     have zw60 := c60.size
     refine sx_guardT rfl rfl rfl ?_
     refine mv rfl rfl ?_
     refine sx_guardT rfl rfl rfl ?_
     refine sp rfl (px_neS rfl rfl) ?_
     refine sp rfl (px_pick rfl rfl) ?_
     refine wl_nil (q_n (k39 _ _ ?_))
     refine sx_sub (Sub.c 2 rfl (.c 3 rfl (.c 11 rfl (.c 70 rfl .nil)))) ?_
     refine sx_condP rfl (fun h74x1 => ?_) (fun h74x1 => ?_)
     ·
      refine sx_seq fun K61 k61 => sx_region ?_
      refine sp rfl (px_build rfl (xbld27x  _)) ?_
      have f65 := ((fb2.ext c9).ext c24).ext cwl26
      have f68 := ((f65.ext c30).ext c32).ext cb33
      have f69 := f68.chg cw35 (by omega)
      have f70 := f69.ext c60
      refine sx_store (vs := [.bool false, (.slice none 0 0), .int .i64 0]) rfl rfl f70 rfl Tryz.sizeOf27 (nbl rfl) (o3 rfl rfl rfl) (fun w62 sw62 fw62 cw62 => ?_)
      have zw62 := cw62.size
      have gw62 : Blk w62 b2 [.bool false, (.slice none 0 0), .int .i64 0] 27 := fw62
      refine av rfl rfl (wl_nil (q_n (k61 _ _ ?_)))
      refine sx_retc ?_
      refine q_r (sx_ret2 Tryz.results6 ⟨_, rfl, gw62.loadA (vs := [.bool false, (.slice none 0 0), .int .i64 0]) (look_lit rfl) Tryz.isAgg27 Tryz.sizeOf27⟩ rfl ?_)
      have hB := rdD_ibad (n := (decide ((strB s 0 : Int) = 45))) huS (hsg.trans (by first | rfl | exact (decide_eq_true h57).symm | exact (decide_eq_false h57).symm)) hsc (by
       rintro ⟨a1, a2, a3, a4⟩
       first
       | exact h74x1 a4
       | exact absurd h74 (by rw [a3]; decide))
      rw [hB]
      have q71 := Chg.step (l := 0) (h := 0) (Chg.zero (l := 0) (h := 0) ((((((cb2.t c9).t c24).t cwl26).t c30).t c32).t cb33)) cw35 (by omega)
      have q72 := Chg.step (l := 0) (h := 0) q71 c60 (by omega)
      have q73 := Chg.step (l := 0) (h := 0) q72 cw62 (by omega)
      exact ⟨_, rfl, Own.nil _ _ _ _ _, by simp, q73⟩
     refine sx_skip ?_
     refine q_n (k38 _ _ ?_)
     refine sx_seq fun K74 k74 => sx_region ?_
     have f75 := gw35.ext c60
     refine sp rfl (px_load rfl (f75.loadA (vs := [.bool (nz (decide ((strB s 0 : Int) = 45)) (dg (tnV (whT (s.extract 1 s.size))))), x30, .int .i64 (↑((cutT 46 (s.extract 1 s.size)).getD 1 ByteArray.empty).size)]) (look_lit rfl) Tryz.isAgg27 Tryz.sizeOf27)) ?_
     have f79 := ((fb2.ext c9).ext c24).ext cwl26
     have f82 := ((f79.ext c30).ext c32).ext cb33
     have f83 := f82.chg cw35 (by omega)
     have f84 := f83.ext c60
     have f85 := f59.ext c60
     refine sx_store (vs := [.bool (nz (decide ((strB s 0 : Int) = 45)) (dg (tnV (whT (s.extract 1 s.size))))), x30, .int .i64 (↑((cutT 46 (s.extract 1 s.size)).getD 1 ByteArray.empty).size)]) rfl rfl f84 rfl Tryz.sizeOf27 (nbl rfl) (one_cons rfl (one_cons f85.one (o1 rfl))) (fun w76 sw76 fw76 cw76 => ?_)
     have zw76 := cw76.size
     have gw76 : Blk w76 b2 [.bool (nz (decide ((strB s 0 : Int) = 45)) (dg (tnV (whT (s.extract 1 s.size))))), x30, .int .i64 (↑((cutT 46 (s.extract 1 s.size)).getD 1 ByteArray.empty).size)] 27 := fw76
     refine av rfl rfl (wl_nil (q_n (k74 _ _ ?_)))
     refine sx_retc ?_
     refine sx_ret2 Tryz.results6 ⟨_, rfl, gw76.loadA (vs := [.bool (nz (decide ((strB s 0 : Int) = 45)) (dg (tnV (whT (s.extract 1 s.size))))), x30, .int .i64 (↑((cutT 46 (s.extract 1 s.size)).getD 1 ByteArray.empty).size)]) (look_lit rfl) Tryz.isAgg27 Tryz.sizeOf27⟩ rfl ?_
     have hd2 := rdD_igood (s := s) (u := s.extract 1 s.size) (n := (decide ((strB s 0 : Int) = 45))) huS hsc (by simpa using h74) (Decidable.not_not.1 h74x1)
     rw [hd2]
     have q86 := Chg.step (l := 0) (h := 0) (Chg.zero (l := 0) (h := 0) ((((((cb2.t c9).t c24).t cwl26).t c30).t c32).t cb33)) cw35 (by omega)
     have q87 := Chg.step (l := 0) (h := 0) q86 c60 (by omega)
     have q88 := Chg.step (l := 0) (h := 0) q87 cw76 (by omega)
     have f89 := f85.chg cw76 (by omega)
     exact ⟨_, rfl, (Own.mono f89 (by omega) (by omega)), by have := rdD_len s; rw [hd2] at this; exact this, q88⟩
    have ht : t = whT (s.extract 1 s.size) := strip_doneL hst (by omega)
    subst ht
    have htl := tnV_len (whT (s.extract 1 s.size))
    refine sx_guardF rfl rfl rfl rfl rfl rfl ?_
    refine sx_guardF rfl rfl rfl rfl rfl rfl ?_
    refine sx_guardF rfl rfl rfl rfl rfl rfl ?_
    refine sp rfl (px_pick rfl rfl) ?_
    refine wl_nil (q_n (k28 _ _ ?_))
    refine sx_condF rfl ?_
    refine sx_exit ?_
    refine q_e (q_e (q_bx (q_n (k25 _ _ ?_))))
    refine sx_seq fun K90 k90 => sx_region ?_
    refine mv rfl rfl (sx_call rfl rfl Tryz.call32 (c_iTextNat (by omega)) (fun v91 w91 p91 => ?_))
    obtain ⟨x91, rfl, ox_91, c91⟩ := p91
    have zw91 := c91.size
    refine mv rfl rfl (sp rfl (px_ex2 rfl rfl) ?_)
    refine sp rfl (px_ex2 rfl rfl) ?_
    refine av rfl rfl (av rfl rfl (wl_nil (q_n (k90 _ _ ?_))))
    refine sx_sub (Sub.c 0 rfl (.c 2 rfl (.c 3 rfl (.c 4 rfl (.c 7 rfl (.c 9 rfl (.c 10 rfl .nil))))))) ?_
    refine sx_seq fun K92 k92 => sx_region ?_
    refine mv rfl rfl (mv rfl rfl (sx_call rfl rfl Tryz.call33 (c_signed ox_91.sv (by omega)) (fun v93 w93 p93 => ?_)))
    obtain ⟨rfl, c93⟩ := p93
    have zw93 := c93.size
    refine mv rfl rfl (sp rfl (px_build rfl (xbld27x0x1 rfl _)) ?_)
    refine sx_alloc [.bool false, (.slice none 0 0), .int .i64 0] rfl Tryz.zeroValue27 rfl (fun b94 w95 eb94 sb94 fb94 cb94 => ?_)
    have zw95 := cb94.size
    have f98 := (ox_91.ext c93).ext cb94
    refine sx_store (vs := [.bool (nz (decide ((strB s 0 : Int) = 45)) (dg (tnV (whT (s.extract 1 s.size))))), x91, .int .i64 (↑((cutT 46 (s.extract 1 s.size)).getD 1 ByteArray.empty).size)]) rfl rfl fb94 rfl Tryz.sizeOf27 (nbl rfl) (one_cons rfl (one_cons f98.one (o1 rfl))) (fun w96 sw96 fw96 cw96 => ?_)
    have zw96 := cw96.size
    have gw96 : Blk w96 b94 [.bool (nz (decide ((strB s 0 : Int) = 45)) (dg (tnV (whT (s.extract 1 s.size))))), x91, .int .i64 (↑((cutT 46 (s.extract 1 s.size)).getD 1 ByteArray.empty).size)] 27 := fw96
    refine wl_nil (q_n (k92 _ _ ?_))
    refine sx_seq fun K99 k99 => ?_
    refine sx_seq fun K100 k100 => sx_region ?_
    refine mv rfl rfl (sp rfl (px_not rfl) ?_)
    refine mv rfl rfl ?_
    refine sx_tmpB (t := 65) rfl (fun h74 => ?_) (fun h74 => ?_)
    ·
     refine sx_guardF rfl rfl rfl rfl rfl rfl ?_
     refine sx_guardF rfl rfl rfl rfl rfl rfl ?_
     refine sx_guardF rfl rfl rfl rfl rfl rfl ?_
     refine sx_guardF rfl rfl rfl rfl rfl rfl ?_
     refine sp rfl (px_pick rfl rfl) ?_
     refine wl_nil (q_n (k100 _ _ ?_))
     refine sx_sub (Sub.c 2 rfl (.c 3 rfl (.c 11 rfl (.c 70 rfl .nil)))) ?_
     refine sx_condT rfl ?_
     refine sx_seq fun K101 k101 => sx_region ?_
     refine sp rfl (px_build rfl (xbld27x  _)) ?_
     have f105 := ((fb2.ext c9).ext c24).ext cwl26
     have f108 := ((f105.ext c91).ext c93).ext cb94
     have f109 := f108.chg cw96 (by omega)
     refine sx_store (vs := [.bool false, (.slice none 0 0), .int .i64 0]) rfl rfl f109 rfl Tryz.sizeOf27 (nbl rfl) (o3 rfl rfl rfl) (fun w102 sw102 fw102 cw102 => ?_)
     have zw102 := cw102.size
     have gw102 : Blk w102 b2 [.bool false, (.slice none 0 0), .int .i64 0] 27 := fw102
     refine av rfl rfl (wl_nil (q_n (k101 _ _ ?_)))
     refine sx_retc ?_
     refine q_r (sx_ret2 Tryz.results6 ⟨_, rfl, gw102.loadA (vs := [.bool false, (.slice none 0 0), .int .i64 0]) (look_lit rfl) Tryz.isAgg27 Tryz.sizeOf27⟩ rfl ?_)
     have hB := rdD_ibad (n := (decide ((strB s 0 : Int) = 45))) huS (hsg.trans (by first | rfl | exact (decide_eq_true h57).symm | exact (decide_eq_false h57).symm)) hsc (by
      rintro ⟨a1, a2, a3, a4⟩
      first
      | exact h74x1 a4
      | exact absurd h74 (by rw [a3]; decide))
     rw [hB]
     have q110 := Chg.step (l := 0) (h := 0) (Chg.zero (l := 0) (h := 0) ((((((cb2.t c9).t c24).t cwl26).t c91).t c93).t cb94)) cw96 (by omega)
     have q111 := Chg.step (l := 0) (h := 0) q110 cw102 (by omega)
     exact ⟨_, rfl, Own.nil _ _ _ _ _, by simp, q111⟩
    refine sx_guardT rfl rfl rfl ?_
    refine sp rfl (px_load rfl (gw96.loadA (vs := [.bool (nz (decide ((strB s 0 : Int) = 45)) (dg (tnV (whT (s.extract 1 s.size))))), x91, .int .i64 (↑((cutT 46 (s.extract 1 s.size)).getD 1 ByteArray.empty).size)]) (look_lit rfl) Tryz.isAgg27 Tryz.sizeOf27)) ?_
    refine sx_guardT rfl rfl rfl ?_
    have f112 := hGT.ext cb2
    have f115 := ((f112.ext c9).ext c24).ext cwl26
    have f118 := ((f115.ext c91).ext c93).ext cb94
    have f119 := f118.chg cw96 (by omega)
    have f120 := f98.chg cw96 (by omega)
    refine sx_call rfl rfl Tryz.call7 (c_iDecText f119 f120.sv (by omega)) (fun v121 w121 p121 => ?_)
    obtain ⟨rfl, hsz121, c121⟩ := p121
    have zw121 := c121.size
    refine sx_guardT rfl rfl rfl ?_
    refine mv rfl rfl ?_
    refine sx_guardT rfl rfl rfl ?_
    refine sp rfl (px_neS rfl rfl) ?_
    refine sp rfl (px_pick rfl rfl) ?_
    refine wl_nil (q_n (k100 _ _ ?_))
    refine sx_sub (Sub.c 2 rfl (.c 3 rfl (.c 11 rfl (.c 70 rfl .nil)))) ?_
    refine sx_condP rfl (fun h74x1 => ?_) (fun h74x1 => ?_)
    ·
     refine sx_seq fun K122 k122 => sx_region ?_
     refine sp rfl (px_build rfl (xbld27x  _)) ?_
     have f126 := ((fb2.ext c9).ext c24).ext cwl26
     have f129 := ((f126.ext c91).ext c93).ext cb94
     have f130 := f129.chg cw96 (by omega)
     have f131 := f130.ext c121
     refine sx_store (vs := [.bool false, (.slice none 0 0), .int .i64 0]) rfl rfl f131 rfl Tryz.sizeOf27 (nbl rfl) (o3 rfl rfl rfl) (fun w123 sw123 fw123 cw123 => ?_)
     have zw123 := cw123.size
     have gw123 : Blk w123 b2 [.bool false, (.slice none 0 0), .int .i64 0] 27 := fw123
     refine av rfl rfl (wl_nil (q_n (k122 _ _ ?_)))
     refine sx_retc ?_
     refine q_r (sx_ret2 Tryz.results6 ⟨_, rfl, gw123.loadA (vs := [.bool false, (.slice none 0 0), .int .i64 0]) (look_lit rfl) Tryz.isAgg27 Tryz.sizeOf27⟩ rfl ?_)
     have hB := rdD_ibad (n := (decide ((strB s 0 : Int) = 45))) huS (hsg.trans (by first | rfl | exact (decide_eq_true h57).symm | exact (decide_eq_false h57).symm)) hsc (by
      rintro ⟨a1, a2, a3, a4⟩
      first
      | exact h74x1 a4
      | exact absurd h74 (by rw [a3]; decide))
     rw [hB]
     have q132 := Chg.step (l := 0) (h := 0) (Chg.zero (l := 0) (h := 0) ((((((cb2.t c9).t c24).t cwl26).t c91).t c93).t cb94)) cw96 (by omega)
     have q133 := Chg.step (l := 0) (h := 0) q132 c121 (by omega)
     have q134 := Chg.step (l := 0) (h := 0) q133 cw123 (by omega)
     exact ⟨_, rfl, Own.nil _ _ _ _ _, by simp, q134⟩
    refine sx_skip ?_
    refine q_n (k99 _ _ ?_)
    refine sx_seq fun K135 k135 => sx_region ?_
    have f136 := gw96.ext c121
    refine sp rfl (px_load rfl (f136.loadA (vs := [.bool (nz (decide ((strB s 0 : Int) = 45)) (dg (tnV (whT (s.extract 1 s.size))))), x91, .int .i64 (↑((cutT 46 (s.extract 1 s.size)).getD 1 ByteArray.empty).size)]) (look_lit rfl) Tryz.isAgg27 Tryz.sizeOf27)) ?_
    have f140 := ((fb2.ext c9).ext c24).ext cwl26
    have f143 := ((f140.ext c91).ext c93).ext cb94
    have f144 := f143.chg cw96 (by omega)
    have f145 := f144.ext c121
    have f146 := f120.ext c121
    refine sx_store (vs := [.bool (nz (decide ((strB s 0 : Int) = 45)) (dg (tnV (whT (s.extract 1 s.size))))), x91, .int .i64 (↑((cutT 46 (s.extract 1 s.size)).getD 1 ByteArray.empty).size)]) rfl rfl f145 rfl Tryz.sizeOf27 (nbl rfl) (one_cons rfl (one_cons f146.one (o1 rfl))) (fun w137 sw137 fw137 cw137 => ?_)
    have zw137 := cw137.size
    have gw137 : Blk w137 b2 [.bool (nz (decide ((strB s 0 : Int) = 45)) (dg (tnV (whT (s.extract 1 s.size))))), x91, .int .i64 (↑((cutT 46 (s.extract 1 s.size)).getD 1 ByteArray.empty).size)] 27 := fw137
    refine av rfl rfl (wl_nil (q_n (k135 _ _ ?_)))
    refine sx_retc ?_
    refine sx_ret2 Tryz.results6 ⟨_, rfl, gw137.loadA (vs := [.bool (nz (decide ((strB s 0 : Int) = 45)) (dg (tnV (whT (s.extract 1 s.size))))), x91, .int .i64 (↑((cutT 46 (s.extract 1 s.size)).getD 1 ByteArray.empty).size)]) (look_lit rfl) Tryz.isAgg27 Tryz.sizeOf27⟩ rfl ?_
    have hd2 := rdD_igood (s := s) (u := s.extract 1 s.size) (n := (decide ((strB s 0 : Int) = 45))) huS hsc (by simpa using h74) (Decidable.not_not.1 h74x1)
    rw [hd2]
    have q147 := Chg.step (l := 0) (h := 0) (Chg.zero (l := 0) (h := 0) ((((((cb2.t c9).t c24).t cwl26).t c91).t c93).t cb94)) cw96 (by omega)
    have q148 := Chg.step (l := 0) (h := 0) q147 c121 (by omega)
    have q149 := Chg.step (l := 0) (h := 0) q148 cw137 (by omega)
    have f150 := f146.chg cw137 (by omega)
    exact ⟨_, rfl, (Own.mono f150 (by omega) (by omega)), by have := rdD_len s; rw [hd2] at this; exact this, q149⟩
   have hsc := scT_n h65
   refine sx_skip ?_
   refine q_n (k21 _ _ ?_)
   refine sx_seq fun K151 k151 => sx_region ?_
   refine mv rfl rfl (sx_call rfl rfl Tryz.call31 (c_iJoin ox_9.sv (rfl) (by constructor <;> omega)) (fun v152 w152 p152 => ?_))
   obtain ⟨rfl, c152⟩ := p152
   have zw152 := c152.size
   refine av rfl rfl (wl_nil (q_n (k151 _ _ ?_)))
   refine sx_seq fun K153 k153 => ?_
   refine sx_block ?_
   have hjc := jn_cut (b := 46) (s := (s.extract 1 s.size))
   refine sx_loop (fun mm aa w' => ∃ (t : ByteArray), Agr 73 [(0, .string s), (2, .pointer (some ⟨b2, 0, none⟩)), (3, .bool false), (4, .bool (decide ((strB s 0 : Int) = 45))), (7, .int .i64 0), (8, .string t)] aa ∧ Chg 0 0 w152 w' ∧ (mm = t.size) ∧ (strip t.data.toList = strip (jnT (cutT 46 (s.extract 1 s.size)))) ∧ (t.size ≤ 1000)) (_) (fun a ha => ⟨(bl (jnT (cutT 46 (s.extract 1 s.size)))), ha.sub (Sub.c 0 rfl (.c 2 rfl (.c 3 rfl (.c 4 rfl (.c 7 rfl (.c 8 rfl .nil)))))), Chg.refl _ _ _, rfl, rfl, by rw [bl_size]; omega⟩) ?_
   rintro mm aa wl154 ⟨t, hAwl154, cwl154, hm, hst, hts⟩
   refine (show cw Tryz.prog 73 _ _ _ wl154 from ?_) aa hAwl154
   clear hAwl154
   have zwl154 := cwl154.size
   refine sx_seq fun K155 k155 => ?_
   refine sx_seq fun K156 k156 => sx_region ?_
   refine mv rfl rfl (sp rfl (px_lenS rfl Tryz.underlying9) ?_)
   refine sp rfl (px_gt rfl rfl) ?_
   refine mv rfl rfl ?_
   refine sx_tmpP (t := 46) rfl (fun h69 => ?_) (fun h69 => ?_)
   ·
    refine sx_guardT rfl rfl rfl ?_
    refine mv rfl rfl ?_
    refine sx_guardT rfl rfl rfl ?_
    refine sp rfl (px_indexS (j := 0) rfl rfl (by omega) Tryz.underlying9 (by omega)) ?_
    refine sx_guardT rfl rfl rfl ?_
    refine sp rfl (px_eq rfl rfl) ?_
    refine sp rfl (px_pick rfl rfl) ?_
    refine wl_nil (q_n (k156 _ _ ?_))
    refine sx_condP rfl (fun h69x1 => ?_) (fun h69x1 => ?_)
    ·
     refine sx_skip ?_
     refine q_n (k155 _ _ ?_)
     refine sx_block ?_
     refine sx_region ?_
     refine mv rfl rfl (sp rfl (px_strFrom (l := 1) rfl rfl (by omega) Tryz.underlying9 (by omega)) ?_)
     refine av rfl rfl (wl_nil ?_)
     have hsx : (t.extract 1 t.size).size = t.size - 1 := by rw [ByteArray.size_extract]; omega
     exact q_bn (fun a ha => ⟨_, by omega, (t.extract 1 t.size), ha.sub (Sub.c 0 rfl (.c 2 rfl (.c 3 rfl (.c 4 rfl (.c 7 rfl (.c 8 rfl .nil)))))), cwl154, rfl, (strip_step (by omega) (by omega)).trans hst, by omega⟩)
    have ht : t = whT (s.extract 1 s.size) := strip_doneL hst (by omega)
    subst ht
    have htl := tnV_len (whT (s.extract 1 s.size))
    refine sx_exit ?_
    refine q_e (q_e (q_bx (q_n (k153 _ _ ?_))))
    refine sx_seq fun K157 k157 => sx_region ?_
    refine mv rfl rfl (sx_call rfl rfl Tryz.call32 (c_iTextNat (by omega)) (fun v158 w158 p158 => ?_))
    obtain ⟨x158, rfl, ox_158, c158⟩ := p158
    have zw158 := c158.size
    refine mv rfl rfl (sp rfl (px_ex2 rfl rfl) ?_)
    refine sp rfl (px_ex2 rfl rfl) ?_
    refine av rfl rfl (av rfl rfl (wl_nil (q_n (k157 _ _ ?_))))
    refine sx_sub (Sub.c 0 rfl (.c 2 rfl (.c 3 rfl (.c 4 rfl (.c 7 rfl (.c 9 rfl (.c 10 rfl .nil))))))) ?_
    refine sx_seq fun K159 k159 => sx_region ?_
    refine mv rfl rfl (mv rfl rfl (sx_call rfl rfl Tryz.call33 (c_signed ox_158.sv (by omega)) (fun v160 w160 p160 => ?_)))
    obtain ⟨rfl, c160⟩ := p160
    have zw160 := c160.size
    refine mv rfl rfl (sp rfl (px_build rfl (xbld27x0x1 rfl _)) ?_)
    refine sx_alloc [.bool false, (.slice none 0 0), .int .i64 0] rfl Tryz.zeroValue27 rfl (fun b161 w162 eb161 sb161 fb161 cb161 => ?_)
    have zw162 := cb161.size
    have f165 := (ox_158.ext c160).ext cb161
    refine sx_store (vs := [.bool (nz (decide ((strB s 0 : Int) = 45)) (dg (tnV (whT (s.extract 1 s.size))))), x158, .int .i64 0]) rfl rfl fb161 rfl Tryz.sizeOf27 (nbl rfl) (one_cons rfl (one_cons f165.one (o1 rfl))) (fun w163 sw163 fw163 cw163 => ?_)
    have zw163 := cw163.size
    have gw163 : Blk w163 b161 [.bool (nz (decide ((strB s 0 : Int) = 45)) (dg (tnV (whT (s.extract 1 s.size))))), x158, .int .i64 0] 27 := fw163
    refine wl_nil (q_n (k159 _ _ ?_))
    refine sx_seq fun K166 k166 => ?_
    refine sx_seq fun K167 k167 => sx_region ?_
    refine mv rfl rfl (sp rfl (px_not rfl) ?_)
    refine mv rfl rfl ?_
    refine sx_tmpB (t := 65) rfl (fun h74 => ?_) (fun h74 => ?_)
    ·
     refine sx_guardF rfl rfl rfl rfl rfl rfl ?_
     refine sx_guardF rfl rfl rfl rfl rfl rfl ?_
     refine sx_guardF rfl rfl rfl rfl rfl rfl ?_
     refine sx_guardF rfl rfl rfl rfl rfl rfl ?_
     refine sp rfl (px_pick rfl rfl) ?_
     refine wl_nil (q_n (k167 _ _ ?_))
     refine sx_sub (Sub.c 2 rfl (.c 3 rfl (.c 11 rfl (.c 70 rfl .nil)))) ?_
     refine sx_condT rfl ?_
     refine sx_seq fun K168 k168 => sx_region ?_
     refine sp rfl (px_build rfl (xbld27x  _)) ?_
     have f172 := ((fb2.ext c9).ext c152).ext cwl154
     have f175 := ((f172.ext c158).ext c160).ext cb161
     have f176 := f175.chg cw163 (by omega)
     refine sx_store (vs := [.bool false, (.slice none 0 0), .int .i64 0]) rfl rfl f176 rfl Tryz.sizeOf27 (nbl rfl) (o3 rfl rfl rfl) (fun w169 sw169 fw169 cw169 => ?_)
     have zw169 := cw169.size
     have gw169 : Blk w169 b2 [.bool false, (.slice none 0 0), .int .i64 0] 27 := fw169
     refine av rfl rfl (wl_nil (q_n (k168 _ _ ?_)))
     refine sx_retc ?_
     refine q_r (sx_ret2 Tryz.results6 ⟨_, rfl, gw169.loadA (vs := [.bool false, (.slice none 0 0), .int .i64 0]) (look_lit rfl) Tryz.isAgg27 Tryz.sizeOf27⟩ rfl ?_)
     have hB := rdD_ibad (n := (decide ((strB s 0 : Int) = 45))) huS (hsg.trans (by first | rfl | exact (decide_eq_true h57).symm | exact (decide_eq_false h57).symm)) hsc (by
      rintro ⟨a1, a2, a3, a4⟩
      first
      | exact h74x1 a4
      | exact absurd h74 (by rw [a3]; decide))
     rw [hB]
     have q177 := Chg.step (l := 0) (h := 0) (Chg.zero (l := 0) (h := 0) ((((((cb2.t c9).t c152).t cwl154).t c158).t c160).t cb161)) cw163 (by omega)
     have q178 := Chg.step (l := 0) (h := 0) q177 cw169 (by omega)
     exact ⟨_, rfl, Own.nil _ _ _ _ _, by simp, q178⟩
    refine sx_guardT rfl rfl rfl ?_
    refine sp rfl (px_load rfl (gw163.loadA (vs := [.bool (nz (decide ((strB s 0 : Int) = 45)) (dg (tnV (whT (s.extract 1 s.size))))), x158, .int .i64 0]) (look_lit rfl) Tryz.isAgg27 Tryz.sizeOf27)) ?_
    refine sx_guardT rfl rfl rfl ?_
    have f179 := hGT.ext cb2
    have f182 := ((f179.ext c9).ext c152).ext cwl154
    have f185 := ((f182.ext c158).ext c160).ext cb161
    have f186 := f185.chg cw163 (by omega)
    have f187 := f165.chg cw163 (by omega)
    refine sx_call rfl rfl Tryz.call7 (c_iDecText f186 f187.sv (by omega)) (fun v188 w188 p188 => ?_)
    obtain ⟨rfl, hsz188, c188⟩ := p188
    have zw188 := c188.size
    refine sx_guardT rfl rfl rfl ?_
    refine mv rfl rfl ?_
    refine sx_guardT rfl rfl rfl ?_
    refine sp rfl (px_neS rfl rfl) ?_
    refine sp rfl (px_pick rfl rfl) ?_
    refine wl_nil (q_n (k167 _ _ ?_))
    refine sx_sub (Sub.c 2 rfl (.c 3 rfl (.c 11 rfl (.c 70 rfl .nil)))) ?_
    refine sx_condP rfl (fun h74x1 => ?_) (fun h74x1 => ?_)
    ·
     refine sx_seq fun K189 k189 => sx_region ?_
     refine sp rfl (px_build rfl (xbld27x  _)) ?_
     have f193 := ((fb2.ext c9).ext c152).ext cwl154
     have f196 := ((f193.ext c158).ext c160).ext cb161
     have f197 := f196.chg cw163 (by omega)
     have f198 := f197.ext c188
     refine sx_store (vs := [.bool false, (.slice none 0 0), .int .i64 0]) rfl rfl f198 rfl Tryz.sizeOf27 (nbl rfl) (o3 rfl rfl rfl) (fun w190 sw190 fw190 cw190 => ?_)
     have zw190 := cw190.size
     have gw190 : Blk w190 b2 [.bool false, (.slice none 0 0), .int .i64 0] 27 := fw190
     refine av rfl rfl (wl_nil (q_n (k189 _ _ ?_)))
     refine sx_retc ?_
     refine q_r (sx_ret2 Tryz.results6 ⟨_, rfl, gw190.loadA (vs := [.bool false, (.slice none 0 0), .int .i64 0]) (look_lit rfl) Tryz.isAgg27 Tryz.sizeOf27⟩ rfl ?_)
     have hB := rdD_ibad (n := (decide ((strB s 0 : Int) = 45))) huS (hsg.trans (by first | rfl | exact (decide_eq_true h57).symm | exact (decide_eq_false h57).symm)) hsc (by
      rintro ⟨a1, a2, a3, a4⟩
      first
      | exact h74x1 a4
      | exact absurd h74 (by rw [a3]; decide))
     rw [hB]
     have q199 := Chg.step (l := 0) (h := 0) (Chg.zero (l := 0) (h := 0) ((((((cb2.t c9).t c152).t cwl154).t c158).t c160).t cb161)) cw163 (by omega)
     have q200 := Chg.step (l := 0) (h := 0) q199 c188 (by omega)
     have q201 := Chg.step (l := 0) (h := 0) q200 cw190 (by omega)
     exact ⟨_, rfl, Own.nil _ _ _ _ _, by simp, q201⟩
    refine sx_skip ?_
    refine q_n (k166 _ _ ?_)
    refine sx_seq fun K202 k202 => sx_region ?_
    have f203 := gw163.ext c188
    refine sp rfl (px_load rfl (f203.loadA (vs := [.bool (nz (decide ((strB s 0 : Int) = 45)) (dg (tnV (whT (s.extract 1 s.size))))), x158, .int .i64 0]) (look_lit rfl) Tryz.isAgg27 Tryz.sizeOf27)) ?_
    have f207 := ((fb2.ext c9).ext c152).ext cwl154
    have f210 := ((f207.ext c158).ext c160).ext cb161
    have f211 := f210.chg cw163 (by omega)
    have f212 := f211.ext c188
    have f213 := f187.ext c188
    refine sx_store (vs := [.bool (nz (decide ((strB s 0 : Int) = 45)) (dg (tnV (whT (s.extract 1 s.size))))), x158, .int .i64 0]) rfl rfl f212 rfl Tryz.sizeOf27 (nbl rfl) (one_cons rfl (one_cons f213.one (o1 rfl))) (fun w204 sw204 fw204 cw204 => ?_)
    have zw204 := cw204.size
    have gw204 : Blk w204 b2 [.bool (nz (decide ((strB s 0 : Int) = 45)) (dg (tnV (whT (s.extract 1 s.size))))), x158, .int .i64 0] 27 := fw204
    refine av rfl rfl (wl_nil (q_n (k202 _ _ ?_)))
    refine sx_retc ?_
    refine sx_ret2 Tryz.results6 ⟨_, rfl, gw204.loadA (vs := [.bool (nz (decide ((strB s 0 : Int) = 45)) (dg (tnV (whT (s.extract 1 s.size))))), x158, .int .i64 0]) (look_lit rfl) Tryz.isAgg27 Tryz.sizeOf27⟩ rfl ?_
    have hd2 := rdD_igood (s := s) (u := s.extract 1 s.size) (n := (decide ((strB s 0 : Int) = 45))) huS hsc (by simpa using h74) (Decidable.not_not.1 h74x1)
    rw [hd2]
    have q214 := Chg.step (l := 0) (h := 0) (Chg.zero (l := 0) (h := 0) ((((((cb2.t c9).t c152).t cwl154).t c158).t c160).t cb161)) cw163 (by omega)
    have q215 := Chg.step (l := 0) (h := 0) q214 c188 (by omega)
    have q216 := Chg.step (l := 0) (h := 0) q215 cw204 (by omega)
    have f217 := f213.chg cw204 (by omega)
    exact ⟨_, rfl, (Own.mono f217 (by omega) (by omega)), by have := rdD_len s; rw [hd2] at this; exact this, q216⟩
   have ht : t = whT (s.extract 1 s.size) := strip_doneL hst (by omega)
   subst ht
   have htl := tnV_len (whT (s.extract 1 s.size))
   refine sx_guardF rfl rfl rfl rfl rfl rfl ?_
   refine sx_guardF rfl rfl rfl rfl rfl rfl ?_
   refine sx_guardF rfl rfl rfl rfl rfl rfl ?_
   refine sp rfl (px_pick rfl rfl) ?_
   refine wl_nil (q_n (k156 _ _ ?_))
   refine sx_condF rfl ?_
   refine sx_exit ?_
   refine q_e (q_e (q_bx (q_n (k153 _ _ ?_))))
   refine sx_seq fun K218 k218 => sx_region ?_
   refine mv rfl rfl (sx_call rfl rfl Tryz.call32 (c_iTextNat (by omega)) (fun v219 w219 p219 => ?_))
   obtain ⟨x219, rfl, ox_219, c219⟩ := p219
   have zw219 := c219.size
   refine mv rfl rfl (sp rfl (px_ex2 rfl rfl) ?_)
   refine sp rfl (px_ex2 rfl rfl) ?_
   refine av rfl rfl (av rfl rfl (wl_nil (q_n (k218 _ _ ?_))))
   refine sx_sub (Sub.c 0 rfl (.c 2 rfl (.c 3 rfl (.c 4 rfl (.c 7 rfl (.c 9 rfl (.c 10 rfl .nil))))))) ?_
   refine sx_seq fun K220 k220 => sx_region ?_
   refine mv rfl rfl (mv rfl rfl (sx_call rfl rfl Tryz.call33 (c_signed ox_219.sv (by omega)) (fun v221 w221 p221 => ?_)))
   obtain ⟨rfl, c221⟩ := p221
   have zw221 := c221.size
   refine mv rfl rfl (sp rfl (px_build rfl (xbld27x0x1 rfl _)) ?_)
   refine sx_alloc [.bool false, (.slice none 0 0), .int .i64 0] rfl Tryz.zeroValue27 rfl (fun b222 w223 eb222 sb222 fb222 cb222 => ?_)
   have zw223 := cb222.size
   have f226 := (ox_219.ext c221).ext cb222
   refine sx_store (vs := [.bool (nz (decide ((strB s 0 : Int) = 45)) (dg (tnV (whT (s.extract 1 s.size))))), x219, .int .i64 0]) rfl rfl fb222 rfl Tryz.sizeOf27 (nbl rfl) (one_cons rfl (one_cons f226.one (o1 rfl))) (fun w224 sw224 fw224 cw224 => ?_)
   have zw224 := cw224.size
   have gw224 : Blk w224 b222 [.bool (nz (decide ((strB s 0 : Int) = 45)) (dg (tnV (whT (s.extract 1 s.size))))), x219, .int .i64 0] 27 := fw224
   refine wl_nil (q_n (k220 _ _ ?_))
   refine sx_seq fun K227 k227 => ?_
   refine sx_seq fun K228 k228 => sx_region ?_
   refine mv rfl rfl (sp rfl (px_not rfl) ?_)
   refine mv rfl rfl ?_
   refine sx_tmpB (t := 65) rfl (fun h74 => ?_) (fun h74 => ?_)
   ·
    refine sx_guardF rfl rfl rfl rfl rfl rfl ?_
    refine sx_guardF rfl rfl rfl rfl rfl rfl ?_
    refine sx_guardF rfl rfl rfl rfl rfl rfl ?_
    refine sx_guardF rfl rfl rfl rfl rfl rfl ?_
    refine sp rfl (px_pick rfl rfl) ?_
    refine wl_nil (q_n (k228 _ _ ?_))
    refine sx_sub (Sub.c 2 rfl (.c 3 rfl (.c 11 rfl (.c 70 rfl .nil)))) ?_
    refine sx_condT rfl ?_
    refine sx_seq fun K229 k229 => sx_region ?_
    refine sp rfl (px_build rfl (xbld27x  _)) ?_
    have f233 := ((fb2.ext c9).ext c152).ext cwl154
    have f236 := ((f233.ext c219).ext c221).ext cb222
    have f237 := f236.chg cw224 (by omega)
    refine sx_store (vs := [.bool false, (.slice none 0 0), .int .i64 0]) rfl rfl f237 rfl Tryz.sizeOf27 (nbl rfl) (o3 rfl rfl rfl) (fun w230 sw230 fw230 cw230 => ?_)
    have zw230 := cw230.size
    have gw230 : Blk w230 b2 [.bool false, (.slice none 0 0), .int .i64 0] 27 := fw230
    refine av rfl rfl (wl_nil (q_n (k229 _ _ ?_)))
    refine sx_retc ?_
    refine q_r (sx_ret2 Tryz.results6 ⟨_, rfl, gw230.loadA (vs := [.bool false, (.slice none 0 0), .int .i64 0]) (look_lit rfl) Tryz.isAgg27 Tryz.sizeOf27⟩ rfl ?_)
    have hB := rdD_ibad (n := (decide ((strB s 0 : Int) = 45))) huS (hsg.trans (by first | rfl | exact (decide_eq_true h57).symm | exact (decide_eq_false h57).symm)) hsc (by
     rintro ⟨a1, a2, a3, a4⟩
     first
     | exact h74x1 a4
     | exact absurd h74 (by rw [a3]; decide))
    rw [hB]
    have q238 := Chg.step (l := 0) (h := 0) (Chg.zero (l := 0) (h := 0) ((((((cb2.t c9).t c152).t cwl154).t c219).t c221).t cb222)) cw224 (by omega)
    have q239 := Chg.step (l := 0) (h := 0) q238 cw230 (by omega)
    exact ⟨_, rfl, Own.nil _ _ _ _ _, by simp, q239⟩
   refine sx_guardT rfl rfl rfl ?_
   refine sp rfl (px_load rfl (gw224.loadA (vs := [.bool (nz (decide ((strB s 0 : Int) = 45)) (dg (tnV (whT (s.extract 1 s.size))))), x219, .int .i64 0]) (look_lit rfl) Tryz.isAgg27 Tryz.sizeOf27)) ?_
   refine sx_guardT rfl rfl rfl ?_
   have f240 := hGT.ext cb2
   have f243 := ((f240.ext c9).ext c152).ext cwl154
   have f246 := ((f243.ext c219).ext c221).ext cb222
   have f247 := f246.chg cw224 (by omega)
   have f248 := f226.chg cw224 (by omega)
   refine sx_call rfl rfl Tryz.call7 (c_iDecText f247 f248.sv (by omega)) (fun v249 w249 p249 => ?_)
   obtain ⟨rfl, hsz249, c249⟩ := p249
   have zw249 := c249.size
   refine sx_guardT rfl rfl rfl ?_
   refine mv rfl rfl ?_
   refine sx_guardT rfl rfl rfl ?_
   refine sp rfl (px_neS rfl rfl) ?_
   refine sp rfl (px_pick rfl rfl) ?_
   refine wl_nil (q_n (k228 _ _ ?_))
   refine sx_sub (Sub.c 2 rfl (.c 3 rfl (.c 11 rfl (.c 70 rfl .nil)))) ?_
   refine sx_condP rfl (fun h74x1 => ?_) (fun h74x1 => ?_)
   ·
    refine sx_seq fun K250 k250 => sx_region ?_
    refine sp rfl (px_build rfl (xbld27x  _)) ?_
    have f254 := ((fb2.ext c9).ext c152).ext cwl154
    have f257 := ((f254.ext c219).ext c221).ext cb222
    have f258 := f257.chg cw224 (by omega)
    have f259 := f258.ext c249
    refine sx_store (vs := [.bool false, (.slice none 0 0), .int .i64 0]) rfl rfl f259 rfl Tryz.sizeOf27 (nbl rfl) (o3 rfl rfl rfl) (fun w251 sw251 fw251 cw251 => ?_)
    have zw251 := cw251.size
    have gw251 : Blk w251 b2 [.bool false, (.slice none 0 0), .int .i64 0] 27 := fw251
    refine av rfl rfl (wl_nil (q_n (k250 _ _ ?_)))
    refine sx_retc ?_
    refine q_r (sx_ret2 Tryz.results6 ⟨_, rfl, gw251.loadA (vs := [.bool false, (.slice none 0 0), .int .i64 0]) (look_lit rfl) Tryz.isAgg27 Tryz.sizeOf27⟩ rfl ?_)
    have hB := rdD_ibad (n := (decide ((strB s 0 : Int) = 45))) huS (hsg.trans (by first | rfl | exact (decide_eq_true h57).symm | exact (decide_eq_false h57).symm)) hsc (by
     rintro ⟨a1, a2, a3, a4⟩
     first
     | exact h74x1 a4
     | exact absurd h74 (by rw [a3]; decide))
    rw [hB]
    have q260 := Chg.step (l := 0) (h := 0) (Chg.zero (l := 0) (h := 0) ((((((cb2.t c9).t c152).t cwl154).t c219).t c221).t cb222)) cw224 (by omega)
    have q261 := Chg.step (l := 0) (h := 0) q260 c249 (by omega)
    have q262 := Chg.step (l := 0) (h := 0) q261 cw251 (by omega)
    exact ⟨_, rfl, Own.nil _ _ _ _ _, by simp, q262⟩
   refine sx_skip ?_
   refine q_n (k227 _ _ ?_)
   refine sx_seq fun K263 k263 => sx_region ?_
   have f264 := gw224.ext c249
   refine sp rfl (px_load rfl (f264.loadA (vs := [.bool (nz (decide ((strB s 0 : Int) = 45)) (dg (tnV (whT (s.extract 1 s.size))))), x219, .int .i64 0]) (look_lit rfl) Tryz.isAgg27 Tryz.sizeOf27)) ?_
   have f268 := ((fb2.ext c9).ext c152).ext cwl154
   have f271 := ((f268.ext c219).ext c221).ext cb222
   have f272 := f271.chg cw224 (by omega)
   have f273 := f272.ext c249
   have f274 := f248.ext c249
   refine sx_store (vs := [.bool (nz (decide ((strB s 0 : Int) = 45)) (dg (tnV (whT (s.extract 1 s.size))))), x219, .int .i64 0]) rfl rfl f273 rfl Tryz.sizeOf27 (nbl rfl) (one_cons rfl (one_cons f274.one (o1 rfl))) (fun w265 sw265 fw265 cw265 => ?_)
   have zw265 := cw265.size
   have gw265 : Blk w265 b2 [.bool (nz (decide ((strB s 0 : Int) = 45)) (dg (tnV (whT (s.extract 1 s.size))))), x219, .int .i64 0] 27 := fw265
   refine av rfl rfl (wl_nil (q_n (k263 _ _ ?_)))
   refine sx_retc ?_
   refine sx_ret2 Tryz.results6 ⟨_, rfl, gw265.loadA (vs := [.bool (nz (decide ((strB s 0 : Int) = 45)) (dg (tnV (whT (s.extract 1 s.size))))), x219, .int .i64 0]) (look_lit rfl) Tryz.isAgg27 Tryz.sizeOf27⟩ rfl ?_
   have hd2 := rdD_igood (s := s) (u := s.extract 1 s.size) (n := (decide ((strB s 0 : Int) = 45))) huS hsc (by simpa using h74) (Decidable.not_not.1 h74x1)
   rw [hd2]
   have q275 := Chg.step (l := 0) (h := 0) (Chg.zero (l := 0) (h := 0) ((((((cb2.t c9).t c152).t cwl154).t c219).t c221).t cb222)) cw224 (by omega)
   have q276 := Chg.step (l := 0) (h := 0) q275 c249 (by omega)
   have q277 := Chg.step (l := 0) (h := 0) q276 cw265 (by omega)
   have f278 := f274.chg cw265 (by omega)
   exact ⟨_, rfl, (Own.mono f278 (by omega) (by omega)), by have := rdD_len s; rw [hd2] at this; exact this, q277⟩
  have hsg : sgK s = false := sgK_no (.inr h57)
  have huS := unS_no hsg
  have hjq := jn_cut (b := 46) (s := s)
  have hcq := cutT_len (b := 46) (s := s)
  refine sx_skip ?_
  refine q_n (k6 _ _ ?_)
  refine sx_seq fun K279 k279 => sx_region ?_
  refine mv rfl rfl (sx_call rfl rfl Tryz.call30 (c_iCutAtP (by omega) (rfl)) (fun v280 w280 p280 => ?_))
  obtain ⟨x280, rfl, ox_280, c280⟩ := p280
  have zw280 := c280.size
  refine av rfl rfl (wl_nil (q_n (k279 _ _ ?_)))
  refine sx_sub (Sub.c 0 rfl (.c 2 rfl (.c 3 rfl (.c 4 rfl (.c 5 rfl (.c 6 rfl .nil)))))) ?_
  refine sx_seq fun K281 k281 => ?_
  refine sx_seq fun K282 k282 => sx_region ?_
  refine mv rfl rfl (sp rfl (px_len rfl Tryz.underlying65 ox_280.sv) ?_)
  refine sp rfl (px_gt rfl rfl) ?_
  refine mv rfl rfl ?_
  refine sx_tmpP (t := 28) rfl (fun h61 => ?_) (fun h61 => ?_)
  ·
   refine sx_guardF rfl rfl rfl rfl rfl rfl ?_
   refine sx_guardF rfl rfl rfl rfl rfl rfl ?_
   refine sx_guardF rfl rfl rfl rfl rfl rfl ?_
   refine sp rfl (px_pick rfl rfl) ?_
   refine wl_nil (q_n (k282 _ _ ?_))
   refine sx_condT rfl ?_
   refine sx_seq fun K283 k283 => sx_region ?_
   refine sp rfl (px_build rfl (xbld27x  _)) ?_
   have f285 := fb2.ext c280
   refine sx_store (vs := [.bool false, (.slice none 0 0), .int .i64 0]) rfl rfl f285 rfl Tryz.sizeOf27 (nbl rfl) (o3 rfl rfl rfl) (fun w284 sw284 fw284 cw284 => ?_)
   have zw284 := cw284.size
   have gw284 : Blk w284 b2 [.bool false, (.slice none 0 0), .int .i64 0] 27 := fw284
   refine av rfl rfl (wl_nil (q_n (k283 _ _ ?_)))
   refine sx_sub (Sub.c 0 rfl (.c 2 rfl (.c 3 rfl (.c 4 rfl (.c 6 rfl .nil))))) ?_
   refine sx_retc ?_
   refine q_r (sx_ret2 Tryz.results6 ⟨_, rfl, gw284.loadA (vs := [.bool false, (.slice none 0 0), .int .i64 0]) (look_lit rfl) Tryz.isAgg27 Tryz.sizeOf27⟩ rfl ?_)
   have hB := rdD_ibad huS rfl rfl (by rintro ⟨a1, a2, _, _⟩; omega)
   rw [hB]
   have q286 := Chg.step (l := 0) (h := 0) (Chg.zero (l := 0) (h := 0) (cb2.t c280)) cw284 (by omega)
   exact ⟨_, rfl, Own.nil _ _ _ _ _, by simp, q286⟩
  refine sx_guardT rfl rfl rfl ?_
  refine mv rfl rfl ?_
  refine sx_guardT rfl rfl rfl ?_
  refine sp rfl (px_lenS rfl Tryz.underlying9) ?_
  refine sx_guardT rfl rfl rfl ?_
  refine sp rfl (px_gt rfl rfl) ?_
  refine sp rfl (px_pick rfl rfl) ?_
  refine wl_nil (q_n (k282 _ _ ?_))
  refine sx_condP rfl (fun h61x1 => ?_) (fun h61x1 => ?_)
  ·
   refine sx_seq fun K287 k287 => sx_region ?_
   refine sp rfl (px_build rfl (xbld27x  _)) ?_
   have f289 := fb2.ext c280
   refine sx_store (vs := [.bool false, (.slice none 0 0), .int .i64 0]) rfl rfl f289 rfl Tryz.sizeOf27 (nbl rfl) (o3 rfl rfl rfl) (fun w288 sw288 fw288 cw288 => ?_)
   have zw288 := cw288.size
   have gw288 : Blk w288 b2 [.bool false, (.slice none 0 0), .int .i64 0] 27 := fw288
   refine av rfl rfl (wl_nil (q_n (k287 _ _ ?_)))
   refine sx_sub (Sub.c 0 rfl (.c 2 rfl (.c 3 rfl (.c 4 rfl (.c 6 rfl .nil))))) ?_
   refine sx_retc ?_
   refine q_r (sx_ret2 Tryz.results6 ⟨_, rfl, gw288.loadA (vs := [.bool false, (.slice none 0 0), .int .i64 0]) (look_lit rfl) Tryz.isAgg27 Tryz.sizeOf27⟩ rfl ?_)
   have hB := rdD_ibad huS rfl rfl (by rintro ⟨a1, a2, _, _⟩; omega)
   rw [hB]
   have q290 := Chg.step (l := 0) (h := 0) (Chg.zero (l := 0) (h := 0) (cb2.t c280)) cw288 (by omega)
   exact ⟨_, rfl, Own.nil _ _ _ _ _, by simp, q290⟩
  refine sx_skip ?_
  refine q_n (k281 _ _ ?_)
  refine sx_seq fun K291 k291 => sx_region ?_
  refine av rfl rfl (wl_nil (q_n (k291 _ _ ?_)))
  refine sx_sub (Sub.c 0 rfl (.c 2 rfl (.c 3 rfl (.c 4 rfl (.c 6 rfl (.c 7 rfl .nil)))))) ?_
  refine sx_seq fun K292 k292 => ?_
  refine sx_seq fun K293 k293 => sx_region ?_
  refine mv rfl rfl (sp rfl (px_len rfl Tryz.underlying65 ox_280.sv) ?_)
  refine sp rfl (px_eq rfl rfl) ?_
  refine wl_nil (q_n (k293 _ _ ?_))
  refine sx_condP rfl (fun h65 => ?_) (fun h65 => ?_)
  ·
   have hsc := scT_2 h65
   refine sx_region ?_
   refine mv rfl rfl (sp rfl (px_index1 (j := 1) rfl rfl (by omega) Tryz.underlying65 Tryz.sizeOf9 ox_280.sv (by omega)) ?_)
   refine sp rfl (px_load rfl (ox_280.sv.load1 (at_str (by omega)) Tryz.isAgg9)) ?_
   refine sp rfl (px_lenS rfl Tryz.underlying9) ?_
   refine av rfl rfl (wl_nil (q_n (k292 _ _ ?_)))
   refine sx_seq fun K294 k294 => sx_region ?_
   refine mv rfl rfl (sx_call rfl rfl Tryz.call31 (c_iJoin ox_280.sv (rfl) (by constructor <;> omega)) (fun v295 w295 p295 => ?_))
   obtain ⟨rfl, c295⟩ := p295
   have zw295 := c295.size
   refine av rfl rfl (wl_nil (q_n (k294 _ _ ?_)))
   refine sx_sub (Sub.c 0 rfl (.c 2 rfl (.c 3 rfl (.c 4 rfl (.c 7 rfl (.c 8 rfl .nil)))))) ?_
   refine sx_seq fun K296 k296 => ?_
   refine sx_block ?_
   have hjc := jn_cut (b := 46) (s := s)
   refine sx_loop (fun mm aa w' => ∃ (t : ByteArray), Agr 73 [(0, .string s), (2, .pointer (some ⟨b2, 0, none⟩)), (3, .bool false), (4, .bool (decide ((strB s 0 : Int) = 45))), (7, .int .i64 (↑((cutT 46 s).getD 1 ByteArray.empty).size)), (8, .string t)] aa ∧ Chg 0 0 w295 w' ∧ (mm = t.size) ∧ (strip t.data.toList = strip (jnT (cutT 46 s))) ∧ (t.size ≤ 1000)) (_) (fun a ha => ⟨(bl (jnT (cutT 46 s))), ha.sub (Sub.c 0 rfl (.c 2 rfl (.c 3 rfl (.c 4 rfl (.c 7 rfl (.c 8 rfl .nil)))))), Chg.refl _ _ _, rfl, rfl, by rw [bl_size]; omega⟩) ?_
   rintro mm aa wl297 ⟨t, hAwl297, cwl297, hm, hst, hts⟩
   refine (show cw Tryz.prog 73 _ _ _ wl297 from ?_) aa hAwl297
   clear hAwl297
   have zwl297 := cwl297.size
   refine sx_seq fun K298 k298 => ?_
   refine sx_seq fun K299 k299 => sx_region ?_
   refine mv rfl rfl (sp rfl (px_lenS rfl Tryz.underlying9) ?_)
   refine sp rfl (px_gt rfl rfl) ?_
   refine mv rfl rfl ?_
   refine sx_tmpP (t := 46) rfl (fun h69 => ?_) (fun h69 => ?_)
   ·
    refine sx_guardT rfl rfl rfl ?_
    refine mv rfl rfl ?_
    refine sx_guardT rfl rfl rfl ?_
    refine sp rfl (px_indexS (j := 0) rfl rfl (by omega) Tryz.underlying9 (by omega)) ?_
    refine sx_guardT rfl rfl rfl ?_
    refine sp rfl (px_eq rfl rfl) ?_
    refine sp rfl (px_pick rfl rfl) ?_
    refine wl_nil (q_n (k299 _ _ ?_))
    refine sx_condP rfl (fun h69x1 => ?_) (fun h69x1 => ?_)
    ·
     refine sx_skip ?_
     refine q_n (k298 _ _ ?_)
     refine sx_block ?_
     refine sx_region ?_
     refine mv rfl rfl (sp rfl (px_strFrom (l := 1) rfl rfl (by omega) Tryz.underlying9 (by omega)) ?_)
     refine av rfl rfl (wl_nil ?_)
     have hsx : (t.extract 1 t.size).size = t.size - 1 := by rw [ByteArray.size_extract]; omega
     exact q_bn (fun a ha => ⟨_, by omega, (t.extract 1 t.size), ha.sub (Sub.c 0 rfl (.c 2 rfl (.c 3 rfl (.c 4 rfl (.c 7 rfl (.c 8 rfl .nil)))))), cwl297, rfl, (strip_step (by omega) (by omega)).trans hst, by omega⟩)
    have ht : t = whT s := strip_doneL hst (by omega)
    subst ht
    have htl := tnV_len (whT s)
    refine sx_exit ?_
    refine q_e (q_e (q_bx (q_n (k296 _ _ ?_))))
    refine sx_seq fun K300 k300 => sx_region ?_
    refine mv rfl rfl (sx_call rfl rfl Tryz.call32 (c_iTextNat (by omega)) (fun v301 w301 p301 => ?_))
    obtain ⟨x301, rfl, ox_301, c301⟩ := p301
    have zw301 := c301.size
    refine mv rfl rfl (sp rfl (px_ex2 rfl rfl) ?_)
    refine sp rfl (px_ex2 rfl rfl) ?_
    refine av rfl rfl (av rfl rfl (wl_nil (q_n (k300 _ _ ?_))))
    refine sx_sub (Sub.c 0 rfl (.c 2 rfl (.c 3 rfl (.c 4 rfl (.c 7 rfl (.c 9 rfl (.c 10 rfl .nil))))))) ?_
    refine sx_seq fun K302 k302 => sx_region ?_
    refine mv rfl rfl (mv rfl rfl (sx_call rfl rfl Tryz.call33 (c_signed ox_301.sv (by omega)) (fun v303 w303 p303 => ?_)))
    obtain ⟨rfl, c303⟩ := p303
    have zw303 := c303.size
    refine mv rfl rfl (sp rfl (px_build rfl (xbld27x0x1 rfl _)) ?_)
    refine sx_alloc [.bool false, (.slice none 0 0), .int .i64 0] rfl Tryz.zeroValue27 rfl (fun b304 w305 eb304 sb304 fb304 cb304 => ?_)
    have zw305 := cb304.size
    have f308 := (ox_301.ext c303).ext cb304
    refine sx_store (vs := [.bool (nz (decide ((strB s 0 : Int) = 45)) (dg (tnV (whT s)))), x301, .int .i64 (↑((cutT 46 s).getD 1 ByteArray.empty).size)]) rfl rfl fb304 rfl Tryz.sizeOf27 (nbl rfl) (one_cons rfl (one_cons f308.one (o1 rfl))) (fun w306 sw306 fw306 cw306 => ?_)
    have zw306 := cw306.size
    have gw306 : Blk w306 b304 [.bool (nz (decide ((strB s 0 : Int) = 45)) (dg (tnV (whT s)))), x301, .int .i64 (↑((cutT 46 s).getD 1 ByteArray.empty).size)] 27 := fw306
    refine wl_nil (q_n (k302 _ _ ?_))
    refine sx_seq fun K309 k309 => ?_
    refine sx_seq fun K310 k310 => sx_region ?_
    refine mv rfl rfl (sp rfl (px_not rfl) ?_)
    refine mv rfl rfl ?_
    refine sx_tmpB (t := 65) rfl (fun h74 => ?_) (fun h74 => ?_)
    ·
     refine sx_guardF rfl rfl rfl rfl rfl rfl ?_
     refine sx_guardF rfl rfl rfl rfl rfl rfl ?_
     refine sx_guardF rfl rfl rfl rfl rfl rfl ?_
     refine sx_guardF rfl rfl rfl rfl rfl rfl ?_
     refine sp rfl (px_pick rfl rfl) ?_
     refine wl_nil (q_n (k310 _ _ ?_))
     refine sx_sub (Sub.c 2 rfl (.c 3 rfl (.c 11 rfl (.c 70 rfl .nil)))) ?_
     refine sx_condT rfl ?_
     refine sx_seq fun K311 k311 => sx_region ?_
     refine sp rfl (px_build rfl (xbld27x  _)) ?_
     have f315 := ((fb2.ext c280).ext c295).ext cwl297
     have f318 := ((f315.ext c301).ext c303).ext cb304
     have f319 := f318.chg cw306 (by omega)
     refine sx_store (vs := [.bool false, (.slice none 0 0), .int .i64 0]) rfl rfl f319 rfl Tryz.sizeOf27 (nbl rfl) (o3 rfl rfl rfl) (fun w312 sw312 fw312 cw312 => ?_)
     have zw312 := cw312.size
     have gw312 : Blk w312 b2 [.bool false, (.slice none 0 0), .int .i64 0] 27 := fw312
     refine av rfl rfl (wl_nil (q_n (k311 _ _ ?_)))
     refine sx_retc ?_
     refine q_r (sx_ret2 Tryz.results6 ⟨_, rfl, gw312.loadA (vs := [.bool false, (.slice none 0 0), .int .i64 0]) (look_lit rfl) Tryz.isAgg27 Tryz.sizeOf27⟩ rfl ?_)
     have hB := rdD_ibad (n := (decide ((strB s 0 : Int) = 45))) huS (hsg.trans (by first | rfl | exact (decide_eq_true h57).symm | exact (decide_eq_false h57).symm)) hsc (by
      rintro ⟨a1, a2, a3, a4⟩
      first
      | exact h74x1 a4
      | exact absurd h74 (by rw [a3]; decide))
     rw [hB]
     have q320 := Chg.step (l := 0) (h := 0) (Chg.zero (l := 0) (h := 0) ((((((cb2.t c280).t c295).t cwl297).t c301).t c303).t cb304)) cw306 (by omega)
     have q321 := Chg.step (l := 0) (h := 0) q320 cw312 (by omega)
     exact ⟨_, rfl, Own.nil _ _ _ _ _, by simp, q321⟩
    refine sx_guardT rfl rfl rfl ?_
    refine sp rfl (px_load rfl (gw306.loadA (vs := [.bool (nz (decide ((strB s 0 : Int) = 45)) (dg (tnV (whT s)))), x301, .int .i64 (↑((cutT 46 s).getD 1 ByteArray.empty).size)]) (look_lit rfl) Tryz.isAgg27 Tryz.sizeOf27)) ?_
    refine sx_guardT rfl rfl rfl ?_
    have f322 := hGT.ext cb2
    have f325 := ((f322.ext c280).ext c295).ext cwl297
    have f328 := ((f325.ext c301).ext c303).ext cb304
    have f329 := f328.chg cw306 (by omega)
    have f330 := f308.chg cw306 (by omega)
    refine sx_call rfl rfl Tryz.call7 (c_iDecText f329 f330.sv (by omega)) (fun v331 w331 p331 => ?_)
    obtain ⟨rfl, hsz331, c331⟩ := p331
    have zw331 := c331.size
    refine sx_guardT rfl rfl rfl ?_
    refine mv rfl rfl ?_
    refine sx_guardT rfl rfl rfl ?_
    refine sp rfl (px_neS rfl rfl) ?_
    refine sp rfl (px_pick rfl rfl) ?_
    refine wl_nil (q_n (k310 _ _ ?_))
    refine sx_sub (Sub.c 2 rfl (.c 3 rfl (.c 11 rfl (.c 70 rfl .nil)))) ?_
    refine sx_condP rfl (fun h74x1 => ?_) (fun h74x1 => ?_)
    ·
     refine sx_seq fun K332 k332 => sx_region ?_
     refine sp rfl (px_build rfl (xbld27x  _)) ?_
     have f336 := ((fb2.ext c280).ext c295).ext cwl297
     have f339 := ((f336.ext c301).ext c303).ext cb304
     have f340 := f339.chg cw306 (by omega)
     have f341 := f340.ext c331
     refine sx_store (vs := [.bool false, (.slice none 0 0), .int .i64 0]) rfl rfl f341 rfl Tryz.sizeOf27 (nbl rfl) (o3 rfl rfl rfl) (fun w333 sw333 fw333 cw333 => ?_)
     have zw333 := cw333.size
     have gw333 : Blk w333 b2 [.bool false, (.slice none 0 0), .int .i64 0] 27 := fw333
     refine av rfl rfl (wl_nil (q_n (k332 _ _ ?_)))
     refine sx_retc ?_
     refine q_r (sx_ret2 Tryz.results6 ⟨_, rfl, gw333.loadA (vs := [.bool false, (.slice none 0 0), .int .i64 0]) (look_lit rfl) Tryz.isAgg27 Tryz.sizeOf27⟩ rfl ?_)
     have hB := rdD_ibad (n := (decide ((strB s 0 : Int) = 45))) huS (hsg.trans (by first | rfl | exact (decide_eq_true h57).symm | exact (decide_eq_false h57).symm)) hsc (by
      rintro ⟨a1, a2, a3, a4⟩
      first
      | exact h74x1 a4
      | exact absurd h74 (by rw [a3]; decide))
     rw [hB]
     have q342 := Chg.step (l := 0) (h := 0) (Chg.zero (l := 0) (h := 0) ((((((cb2.t c280).t c295).t cwl297).t c301).t c303).t cb304)) cw306 (by omega)
     have q343 := Chg.step (l := 0) (h := 0) q342 c331 (by omega)
     have q344 := Chg.step (l := 0) (h := 0) q343 cw333 (by omega)
     exact ⟨_, rfl, Own.nil _ _ _ _ _, by simp, q344⟩
    refine sx_skip ?_
    refine q_n (k309 _ _ ?_)
    refine sx_seq fun K345 k345 => sx_region ?_
    have f346 := gw306.ext c331
    refine sp rfl (px_load rfl (f346.loadA (vs := [.bool (nz (decide ((strB s 0 : Int) = 45)) (dg (tnV (whT s)))), x301, .int .i64 (↑((cutT 46 s).getD 1 ByteArray.empty).size)]) (look_lit rfl) Tryz.isAgg27 Tryz.sizeOf27)) ?_
    have f350 := ((fb2.ext c280).ext c295).ext cwl297
    have f353 := ((f350.ext c301).ext c303).ext cb304
    have f354 := f353.chg cw306 (by omega)
    have f355 := f354.ext c331
    have f356 := f330.ext c331
    refine sx_store (vs := [.bool (nz (decide ((strB s 0 : Int) = 45)) (dg (tnV (whT s)))), x301, .int .i64 (↑((cutT 46 s).getD 1 ByteArray.empty).size)]) rfl rfl f355 rfl Tryz.sizeOf27 (nbl rfl) (one_cons rfl (one_cons f356.one (o1 rfl))) (fun w347 sw347 fw347 cw347 => ?_)
    have zw347 := cw347.size
    have gw347 : Blk w347 b2 [.bool (nz (decide ((strB s 0 : Int) = 45)) (dg (tnV (whT s)))), x301, .int .i64 (↑((cutT 46 s).getD 1 ByteArray.empty).size)] 27 := fw347
    refine av rfl rfl (wl_nil (q_n (k345 _ _ ?_)))
    refine sx_retc ?_
    refine sx_ret2 Tryz.results6 ⟨_, rfl, gw347.loadA (vs := [.bool (nz (decide ((strB s 0 : Int) = 45)) (dg (tnV (whT s)))), x301, .int .i64 (↑((cutT 46 s).getD 1 ByteArray.empty).size)]) (look_lit rfl) Tryz.isAgg27 Tryz.sizeOf27⟩ rfl ?_
    have hd2 := rdD_igood (s := s) (u := s) (n := (decide ((strB s 0 : Int) = 45))) huS hsc (by simpa using h74) (Decidable.not_not.1 h74x1)
    rw [hd2]
    have q357 := Chg.step (l := 0) (h := 0) (Chg.zero (l := 0) (h := 0) ((((((cb2.t c280).t c295).t cwl297).t c301).t c303).t cb304)) cw306 (by omega)
    have q358 := Chg.step (l := 0) (h := 0) q357 c331 (by omega)
    have q359 := Chg.step (l := 0) (h := 0) q358 cw347 (by omega)
    have f360 := f356.chg cw347 (by omega)
    exact ⟨_, rfl, (Own.mono f360 (by omega) (by omega)), by have := rdD_len s; rw [hd2] at this; exact this, q359⟩
   have ht : t = whT s := strip_doneL hst (by omega)
   subst ht
   have htl := tnV_len (whT s)
   refine sx_guardF rfl rfl rfl rfl rfl rfl ?_
   refine sx_guardF rfl rfl rfl rfl rfl rfl ?_
   refine sx_guardF rfl rfl rfl rfl rfl rfl ?_
   refine sp rfl (px_pick rfl rfl) ?_
   refine wl_nil (q_n (k299 _ _ ?_))
   refine sx_condF rfl ?_
   refine sx_exit ?_
   refine q_e (q_e (q_bx (q_n (k296 _ _ ?_))))
   refine sx_seq fun K361 k361 => sx_region ?_
   refine mv rfl rfl (sx_call rfl rfl Tryz.call32 (c_iTextNat (by omega)) (fun v362 w362 p362 => ?_))
   obtain ⟨x362, rfl, ox_362, c362⟩ := p362
   have zw362 := c362.size
   refine mv rfl rfl (sp rfl (px_ex2 rfl rfl) ?_)
   refine sp rfl (px_ex2 rfl rfl) ?_
   refine av rfl rfl (av rfl rfl (wl_nil (q_n (k361 _ _ ?_))))
   refine sx_sub (Sub.c 0 rfl (.c 2 rfl (.c 3 rfl (.c 4 rfl (.c 7 rfl (.c 9 rfl (.c 10 rfl .nil))))))) ?_
   refine sx_seq fun K363 k363 => sx_region ?_
   refine mv rfl rfl (mv rfl rfl (sx_call rfl rfl Tryz.call33 (c_signed ox_362.sv (by omega)) (fun v364 w364 p364 => ?_)))
   obtain ⟨rfl, c364⟩ := p364
   have zw364 := c364.size
   refine mv rfl rfl (sp rfl (px_build rfl (xbld27x0x1 rfl _)) ?_)
   refine sx_alloc [.bool false, (.slice none 0 0), .int .i64 0] rfl Tryz.zeroValue27 rfl (fun b365 w366 eb365 sb365 fb365 cb365 => ?_)
   have zw366 := cb365.size
   have f369 := (ox_362.ext c364).ext cb365
   refine sx_store (vs := [.bool (nz (decide ((strB s 0 : Int) = 45)) (dg (tnV (whT s)))), x362, .int .i64 (↑((cutT 46 s).getD 1 ByteArray.empty).size)]) rfl rfl fb365 rfl Tryz.sizeOf27 (nbl rfl) (one_cons rfl (one_cons f369.one (o1 rfl))) (fun w367 sw367 fw367 cw367 => ?_)
   have zw367 := cw367.size
   have gw367 : Blk w367 b365 [.bool (nz (decide ((strB s 0 : Int) = 45)) (dg (tnV (whT s)))), x362, .int .i64 (↑((cutT 46 s).getD 1 ByteArray.empty).size)] 27 := fw367
   refine wl_nil (q_n (k363 _ _ ?_))
   refine sx_seq fun K370 k370 => ?_
   refine sx_seq fun K371 k371 => sx_region ?_
   refine mv rfl rfl (sp rfl (px_not rfl) ?_)
   refine mv rfl rfl ?_
   refine sx_tmpB (t := 65) rfl (fun h74 => ?_) (fun h74 => ?_)
   ·
    refine sx_guardF rfl rfl rfl rfl rfl rfl ?_
    refine sx_guardF rfl rfl rfl rfl rfl rfl ?_
    refine sx_guardF rfl rfl rfl rfl rfl rfl ?_
    refine sx_guardF rfl rfl rfl rfl rfl rfl ?_
    refine sp rfl (px_pick rfl rfl) ?_
    refine wl_nil (q_n (k371 _ _ ?_))
    refine sx_sub (Sub.c 2 rfl (.c 3 rfl (.c 11 rfl (.c 70 rfl .nil)))) ?_
    refine sx_condT rfl ?_
    refine sx_seq fun K372 k372 => sx_region ?_
    refine sp rfl (px_build rfl (xbld27x  _)) ?_
    have f376 := ((fb2.ext c280).ext c295).ext cwl297
    have f379 := ((f376.ext c362).ext c364).ext cb365
    have f380 := f379.chg cw367 (by omega)
    refine sx_store (vs := [.bool false, (.slice none 0 0), .int .i64 0]) rfl rfl f380 rfl Tryz.sizeOf27 (nbl rfl) (o3 rfl rfl rfl) (fun w373 sw373 fw373 cw373 => ?_)
    have zw373 := cw373.size
    have gw373 : Blk w373 b2 [.bool false, (.slice none 0 0), .int .i64 0] 27 := fw373
    refine av rfl rfl (wl_nil (q_n (k372 _ _ ?_)))
    refine sx_retc ?_
    refine q_r (sx_ret2 Tryz.results6 ⟨_, rfl, gw373.loadA (vs := [.bool false, (.slice none 0 0), .int .i64 0]) (look_lit rfl) Tryz.isAgg27 Tryz.sizeOf27⟩ rfl ?_)
    have hB := rdD_ibad (n := (decide ((strB s 0 : Int) = 45))) huS (hsg.trans (by first | rfl | exact (decide_eq_true h57).symm | exact (decide_eq_false h57).symm)) hsc (by
     rintro ⟨a1, a2, a3, a4⟩
     first
     | exact h74x1 a4
     | exact absurd h74 (by rw [a3]; decide))
    rw [hB]
    have q381 := Chg.step (l := 0) (h := 0) (Chg.zero (l := 0) (h := 0) ((((((cb2.t c280).t c295).t cwl297).t c362).t c364).t cb365)) cw367 (by omega)
    have q382 := Chg.step (l := 0) (h := 0) q381 cw373 (by omega)
    exact ⟨_, rfl, Own.nil _ _ _ _ _, by simp, q382⟩
   refine sx_guardT rfl rfl rfl ?_
   refine sp rfl (px_load rfl (gw367.loadA (vs := [.bool (nz (decide ((strB s 0 : Int) = 45)) (dg (tnV (whT s)))), x362, .int .i64 (↑((cutT 46 s).getD 1 ByteArray.empty).size)]) (look_lit rfl) Tryz.isAgg27 Tryz.sizeOf27)) ?_
   refine sx_guardT rfl rfl rfl ?_
   have f383 := hGT.ext cb2
   have f386 := ((f383.ext c280).ext c295).ext cwl297
   have f389 := ((f386.ext c362).ext c364).ext cb365
   have f390 := f389.chg cw367 (by omega)
   have f391 := f369.chg cw367 (by omega)
   refine sx_call rfl rfl Tryz.call7 (c_iDecText f390 f391.sv (by omega)) (fun v392 w392 p392 => ?_)
   obtain ⟨rfl, hsz392, c392⟩ := p392
   have zw392 := c392.size
   refine sx_guardT rfl rfl rfl ?_
   refine mv rfl rfl ?_
   refine sx_guardT rfl rfl rfl ?_
   refine sp rfl (px_neS rfl rfl) ?_
   refine sp rfl (px_pick rfl rfl) ?_
   refine wl_nil (q_n (k371 _ _ ?_))
   refine sx_sub (Sub.c 2 rfl (.c 3 rfl (.c 11 rfl (.c 70 rfl .nil)))) ?_
   refine sx_condP rfl (fun h74x1 => ?_) (fun h74x1 => ?_)
   ·
    refine sx_seq fun K393 k393 => sx_region ?_
    refine sp rfl (px_build rfl (xbld27x  _)) ?_
    have f397 := ((fb2.ext c280).ext c295).ext cwl297
    have f400 := ((f397.ext c362).ext c364).ext cb365
    have f401 := f400.chg cw367 (by omega)
    have f402 := f401.ext c392
    refine sx_store (vs := [.bool false, (.slice none 0 0), .int .i64 0]) rfl rfl f402 rfl Tryz.sizeOf27 (nbl rfl) (o3 rfl rfl rfl) (fun w394 sw394 fw394 cw394 => ?_)
    have zw394 := cw394.size
    have gw394 : Blk w394 b2 [.bool false, (.slice none 0 0), .int .i64 0] 27 := fw394
    refine av rfl rfl (wl_nil (q_n (k393 _ _ ?_)))
    refine sx_retc ?_
    refine q_r (sx_ret2 Tryz.results6 ⟨_, rfl, gw394.loadA (vs := [.bool false, (.slice none 0 0), .int .i64 0]) (look_lit rfl) Tryz.isAgg27 Tryz.sizeOf27⟩ rfl ?_)
    have hB := rdD_ibad (n := (decide ((strB s 0 : Int) = 45))) huS (hsg.trans (by first | rfl | exact (decide_eq_true h57).symm | exact (decide_eq_false h57).symm)) hsc (by
     rintro ⟨a1, a2, a3, a4⟩
     first
     | exact h74x1 a4
     | exact absurd h74 (by rw [a3]; decide))
    rw [hB]
    have q403 := Chg.step (l := 0) (h := 0) (Chg.zero (l := 0) (h := 0) ((((((cb2.t c280).t c295).t cwl297).t c362).t c364).t cb365)) cw367 (by omega)
    have q404 := Chg.step (l := 0) (h := 0) q403 c392 (by omega)
    have q405 := Chg.step (l := 0) (h := 0) q404 cw394 (by omega)
    exact ⟨_, rfl, Own.nil _ _ _ _ _, by simp, q405⟩
   refine sx_skip ?_
   refine q_n (k370 _ _ ?_)
   refine sx_seq fun K406 k406 => sx_region ?_
   have f407 := gw367.ext c392
   refine sp rfl (px_load rfl (f407.loadA (vs := [.bool (nz (decide ((strB s 0 : Int) = 45)) (dg (tnV (whT s)))), x362, .int .i64 (↑((cutT 46 s).getD 1 ByteArray.empty).size)]) (look_lit rfl) Tryz.isAgg27 Tryz.sizeOf27)) ?_
   have f411 := ((fb2.ext c280).ext c295).ext cwl297
   have f414 := ((f411.ext c362).ext c364).ext cb365
   have f415 := f414.chg cw367 (by omega)
   have f416 := f415.ext c392
   have f417 := f391.ext c392
   refine sx_store (vs := [.bool (nz (decide ((strB s 0 : Int) = 45)) (dg (tnV (whT s)))), x362, .int .i64 (↑((cutT 46 s).getD 1 ByteArray.empty).size)]) rfl rfl f416 rfl Tryz.sizeOf27 (nbl rfl) (one_cons rfl (one_cons f417.one (o1 rfl))) (fun w408 sw408 fw408 cw408 => ?_)
   have zw408 := cw408.size
   have gw408 : Blk w408 b2 [.bool (nz (decide ((strB s 0 : Int) = 45)) (dg (tnV (whT s)))), x362, .int .i64 (↑((cutT 46 s).getD 1 ByteArray.empty).size)] 27 := fw408
   refine av rfl rfl (wl_nil (q_n (k406 _ _ ?_)))
   refine sx_retc ?_
   refine sx_ret2 Tryz.results6 ⟨_, rfl, gw408.loadA (vs := [.bool (nz (decide ((strB s 0 : Int) = 45)) (dg (tnV (whT s)))), x362, .int .i64 (↑((cutT 46 s).getD 1 ByteArray.empty).size)]) (look_lit rfl) Tryz.isAgg27 Tryz.sizeOf27⟩ rfl ?_
   have hd2 := rdD_igood (s := s) (u := s) (n := (decide ((strB s 0 : Int) = 45))) huS hsc (by simpa using h74) (Decidable.not_not.1 h74x1)
   rw [hd2]
   have q418 := Chg.step (l := 0) (h := 0) (Chg.zero (l := 0) (h := 0) ((((((cb2.t c280).t c295).t cwl297).t c362).t c364).t cb365)) cw367 (by omega)
   have q419 := Chg.step (l := 0) (h := 0) q418 c392 (by omega)
   have q420 := Chg.step (l := 0) (h := 0) q419 cw408 (by omega)
   have f421 := f417.chg cw408 (by omega)
   exact ⟨_, rfl, (Own.mono f421 (by omega) (by omega)), by have := rdD_len s; rw [hd2] at this; exact this, q420⟩
  have hsc := scT_n h65
  refine sx_skip ?_
  refine q_n (k292 _ _ ?_)
  refine sx_seq fun K422 k422 => sx_region ?_
  refine mv rfl rfl (sx_call rfl rfl Tryz.call31 (c_iJoin ox_280.sv (rfl) (by constructor <;> omega)) (fun v423 w423 p423 => ?_))
  obtain ⟨rfl, c423⟩ := p423
  have zw423 := c423.size
  refine av rfl rfl (wl_nil (q_n (k422 _ _ ?_)))
  refine sx_seq fun K424 k424 => ?_
  refine sx_block ?_
  have hjc := jn_cut (b := 46) (s := s)
  refine sx_loop (fun mm aa w' => ∃ (t : ByteArray), Agr 73 [(0, .string s), (2, .pointer (some ⟨b2, 0, none⟩)), (3, .bool false), (4, .bool (decide ((strB s 0 : Int) = 45))), (7, .int .i64 0), (8, .string t)] aa ∧ Chg 0 0 w423 w' ∧ (mm = t.size) ∧ (strip t.data.toList = strip (jnT (cutT 46 s))) ∧ (t.size ≤ 1000)) (_) (fun a ha => ⟨(bl (jnT (cutT 46 s))), ha.sub (Sub.c 0 rfl (.c 2 rfl (.c 3 rfl (.c 4 rfl (.c 7 rfl (.c 8 rfl .nil)))))), Chg.refl _ _ _, rfl, rfl, by rw [bl_size]; omega⟩) ?_
  rintro mm aa wl425 ⟨t, hAwl425, cwl425, hm, hst, hts⟩
  refine (show cw Tryz.prog 73 _ _ _ wl425 from ?_) aa hAwl425
  clear hAwl425
  have zwl425 := cwl425.size
  refine sx_seq fun K426 k426 => ?_
  refine sx_seq fun K427 k427 => sx_region ?_
  refine mv rfl rfl (sp rfl (px_lenS rfl Tryz.underlying9) ?_)
  refine sp rfl (px_gt rfl rfl) ?_
  refine mv rfl rfl ?_
  refine sx_tmpP (t := 46) rfl (fun h69 => ?_) (fun h69 => ?_)
  ·
   refine sx_guardT rfl rfl rfl ?_
   refine mv rfl rfl ?_
   refine sx_guardT rfl rfl rfl ?_
   refine sp rfl (px_indexS (j := 0) rfl rfl (by omega) Tryz.underlying9 (by omega)) ?_
   refine sx_guardT rfl rfl rfl ?_
   refine sp rfl (px_eq rfl rfl) ?_
   refine sp rfl (px_pick rfl rfl) ?_
   refine wl_nil (q_n (k427 _ _ ?_))
   refine sx_condP rfl (fun h69x1 => ?_) (fun h69x1 => ?_)
   ·
    refine sx_skip ?_
    refine q_n (k426 _ _ ?_)
    refine sx_block ?_
    refine sx_region ?_
    refine mv rfl rfl (sp rfl (px_strFrom (l := 1) rfl rfl (by omega) Tryz.underlying9 (by omega)) ?_)
    refine av rfl rfl (wl_nil ?_)
    have hsx : (t.extract 1 t.size).size = t.size - 1 := by rw [ByteArray.size_extract]; omega
    exact q_bn (fun a ha => ⟨_, by omega, (t.extract 1 t.size), ha.sub (Sub.c 0 rfl (.c 2 rfl (.c 3 rfl (.c 4 rfl (.c 7 rfl (.c 8 rfl .nil)))))), cwl425, rfl, (strip_step (by omega) (by omega)).trans hst, by omega⟩)
   have ht : t = whT s := strip_doneL hst (by omega)
   subst ht
   have htl := tnV_len (whT s)
   refine sx_exit ?_
   refine q_e (q_e (q_bx (q_n (k424 _ _ ?_))))
   refine sx_seq fun K428 k428 => sx_region ?_
   refine mv rfl rfl (sx_call rfl rfl Tryz.call32 (c_iTextNat (by omega)) (fun v429 w429 p429 => ?_))
   obtain ⟨x429, rfl, ox_429, c429⟩ := p429
   have zw429 := c429.size
   refine mv rfl rfl (sp rfl (px_ex2 rfl rfl) ?_)
   refine sp rfl (px_ex2 rfl rfl) ?_
   refine av rfl rfl (av rfl rfl (wl_nil (q_n (k428 _ _ ?_))))
   refine sx_sub (Sub.c 0 rfl (.c 2 rfl (.c 3 rfl (.c 4 rfl (.c 7 rfl (.c 9 rfl (.c 10 rfl .nil))))))) ?_
   refine sx_seq fun K430 k430 => sx_region ?_
   refine mv rfl rfl (mv rfl rfl (sx_call rfl rfl Tryz.call33 (c_signed ox_429.sv (by omega)) (fun v431 w431 p431 => ?_)))
   obtain ⟨rfl, c431⟩ := p431
   have zw431 := c431.size
   refine mv rfl rfl (sp rfl (px_build rfl (xbld27x0x1 rfl _)) ?_)
   refine sx_alloc [.bool false, (.slice none 0 0), .int .i64 0] rfl Tryz.zeroValue27 rfl (fun b432 w433 eb432 sb432 fb432 cb432 => ?_)
   have zw433 := cb432.size
   have f436 := (ox_429.ext c431).ext cb432
   refine sx_store (vs := [.bool (nz (decide ((strB s 0 : Int) = 45)) (dg (tnV (whT s)))), x429, .int .i64 0]) rfl rfl fb432 rfl Tryz.sizeOf27 (nbl rfl) (one_cons rfl (one_cons f436.one (o1 rfl))) (fun w434 sw434 fw434 cw434 => ?_)
   have zw434 := cw434.size
   have gw434 : Blk w434 b432 [.bool (nz (decide ((strB s 0 : Int) = 45)) (dg (tnV (whT s)))), x429, .int .i64 0] 27 := fw434
   refine wl_nil (q_n (k430 _ _ ?_))
   refine sx_seq fun K437 k437 => ?_
   refine sx_seq fun K438 k438 => sx_region ?_
   refine mv rfl rfl (sp rfl (px_not rfl) ?_)
   refine mv rfl rfl ?_
   refine sx_tmpB (t := 65) rfl (fun h74 => ?_) (fun h74 => ?_)
   ·
    refine sx_guardF rfl rfl rfl rfl rfl rfl ?_
    refine sx_guardF rfl rfl rfl rfl rfl rfl ?_
    refine sx_guardF rfl rfl rfl rfl rfl rfl ?_
    refine sx_guardF rfl rfl rfl rfl rfl rfl ?_
    refine sp rfl (px_pick rfl rfl) ?_
    refine wl_nil (q_n (k438 _ _ ?_))
    refine sx_sub (Sub.c 2 rfl (.c 3 rfl (.c 11 rfl (.c 70 rfl .nil)))) ?_
    refine sx_condT rfl ?_
    refine sx_seq fun K439 k439 => sx_region ?_
    refine sp rfl (px_build rfl (xbld27x  _)) ?_
    have f443 := ((fb2.ext c280).ext c423).ext cwl425
    have f446 := ((f443.ext c429).ext c431).ext cb432
    have f447 := f446.chg cw434 (by omega)
    refine sx_store (vs := [.bool false, (.slice none 0 0), .int .i64 0]) rfl rfl f447 rfl Tryz.sizeOf27 (nbl rfl) (o3 rfl rfl rfl) (fun w440 sw440 fw440 cw440 => ?_)
    have zw440 := cw440.size
    have gw440 : Blk w440 b2 [.bool false, (.slice none 0 0), .int .i64 0] 27 := fw440
    refine av rfl rfl (wl_nil (q_n (k439 _ _ ?_)))
    refine sx_retc ?_
    refine q_r (sx_ret2 Tryz.results6 ⟨_, rfl, gw440.loadA (vs := [.bool false, (.slice none 0 0), .int .i64 0]) (look_lit rfl) Tryz.isAgg27 Tryz.sizeOf27⟩ rfl ?_)
    have hB := rdD_ibad (n := (decide ((strB s 0 : Int) = 45))) huS (hsg.trans (by first | rfl | exact (decide_eq_true h57).symm | exact (decide_eq_false h57).symm)) hsc (by
     rintro ⟨a1, a2, a3, a4⟩
     first
     | exact h74x1 a4
     | exact absurd h74 (by rw [a3]; decide))
    rw [hB]
    have q448 := Chg.step (l := 0) (h := 0) (Chg.zero (l := 0) (h := 0) ((((((cb2.t c280).t c423).t cwl425).t c429).t c431).t cb432)) cw434 (by omega)
    have q449 := Chg.step (l := 0) (h := 0) q448 cw440 (by omega)
    exact ⟨_, rfl, Own.nil _ _ _ _ _, by simp, q449⟩
   refine sx_guardT rfl rfl rfl ?_
   refine sp rfl (px_load rfl (gw434.loadA (vs := [.bool (nz (decide ((strB s 0 : Int) = 45)) (dg (tnV (whT s)))), x429, .int .i64 0]) (look_lit rfl) Tryz.isAgg27 Tryz.sizeOf27)) ?_
   refine sx_guardT rfl rfl rfl ?_
   have f450 := hGT.ext cb2
   have f453 := ((f450.ext c280).ext c423).ext cwl425
   have f456 := ((f453.ext c429).ext c431).ext cb432
   have f457 := f456.chg cw434 (by omega)
   have f458 := f436.chg cw434 (by omega)
   refine sx_call rfl rfl Tryz.call7 (c_iDecText f457 f458.sv (by omega)) (fun v459 w459 p459 => ?_)
   obtain ⟨rfl, hsz459, c459⟩ := p459
   have zw459 := c459.size
   refine sx_guardT rfl rfl rfl ?_
   refine mv rfl rfl ?_
   refine sx_guardT rfl rfl rfl ?_
   refine sp rfl (px_neS rfl rfl) ?_
   refine sp rfl (px_pick rfl rfl) ?_
   refine wl_nil (q_n (k438 _ _ ?_))
   refine sx_sub (Sub.c 2 rfl (.c 3 rfl (.c 11 rfl (.c 70 rfl .nil)))) ?_
   refine sx_condP rfl (fun h74x1 => ?_) (fun h74x1 => ?_)
   ·
    refine sx_seq fun K460 k460 => sx_region ?_
    refine sp rfl (px_build rfl (xbld27x  _)) ?_
    have f464 := ((fb2.ext c280).ext c423).ext cwl425
    have f467 := ((f464.ext c429).ext c431).ext cb432
    have f468 := f467.chg cw434 (by omega)
    have f469 := f468.ext c459
    refine sx_store (vs := [.bool false, (.slice none 0 0), .int .i64 0]) rfl rfl f469 rfl Tryz.sizeOf27 (nbl rfl) (o3 rfl rfl rfl) (fun w461 sw461 fw461 cw461 => ?_)
    have zw461 := cw461.size
    have gw461 : Blk w461 b2 [.bool false, (.slice none 0 0), .int .i64 0] 27 := fw461
    refine av rfl rfl (wl_nil (q_n (k460 _ _ ?_)))
    refine sx_retc ?_
    refine q_r (sx_ret2 Tryz.results6 ⟨_, rfl, gw461.loadA (vs := [.bool false, (.slice none 0 0), .int .i64 0]) (look_lit rfl) Tryz.isAgg27 Tryz.sizeOf27⟩ rfl ?_)
    have hB := rdD_ibad (n := (decide ((strB s 0 : Int) = 45))) huS (hsg.trans (by first | rfl | exact (decide_eq_true h57).symm | exact (decide_eq_false h57).symm)) hsc (by
     rintro ⟨a1, a2, a3, a4⟩
     first
     | exact h74x1 a4
     | exact absurd h74 (by rw [a3]; decide))
    rw [hB]
    have q470 := Chg.step (l := 0) (h := 0) (Chg.zero (l := 0) (h := 0) ((((((cb2.t c280).t c423).t cwl425).t c429).t c431).t cb432)) cw434 (by omega)
    have q471 := Chg.step (l := 0) (h := 0) q470 c459 (by omega)
    have q472 := Chg.step (l := 0) (h := 0) q471 cw461 (by omega)
    exact ⟨_, rfl, Own.nil _ _ _ _ _, by simp, q472⟩
   refine sx_skip ?_
   refine q_n (k437 _ _ ?_)
   refine sx_seq fun K473 k473 => sx_region ?_
   have f474 := gw434.ext c459
   refine sp rfl (px_load rfl (f474.loadA (vs := [.bool (nz (decide ((strB s 0 : Int) = 45)) (dg (tnV (whT s)))), x429, .int .i64 0]) (look_lit rfl) Tryz.isAgg27 Tryz.sizeOf27)) ?_
   have f478 := ((fb2.ext c280).ext c423).ext cwl425
   have f481 := ((f478.ext c429).ext c431).ext cb432
   have f482 := f481.chg cw434 (by omega)
   have f483 := f482.ext c459
   have f484 := f458.ext c459
   refine sx_store (vs := [.bool (nz (decide ((strB s 0 : Int) = 45)) (dg (tnV (whT s)))), x429, .int .i64 0]) rfl rfl f483 rfl Tryz.sizeOf27 (nbl rfl) (one_cons rfl (one_cons f484.one (o1 rfl))) (fun w475 sw475 fw475 cw475 => ?_)
   have zw475 := cw475.size
   have gw475 : Blk w475 b2 [.bool (nz (decide ((strB s 0 : Int) = 45)) (dg (tnV (whT s)))), x429, .int .i64 0] 27 := fw475
   refine av rfl rfl (wl_nil (q_n (k473 _ _ ?_)))
   refine sx_retc ?_
   refine sx_ret2 Tryz.results6 ⟨_, rfl, gw475.loadA (vs := [.bool (nz (decide ((strB s 0 : Int) = 45)) (dg (tnV (whT s)))), x429, .int .i64 0]) (look_lit rfl) Tryz.isAgg27 Tryz.sizeOf27⟩ rfl ?_
   have hd2 := rdD_igood (s := s) (u := s) (n := (decide ((strB s 0 : Int) = 45))) huS hsc (by simpa using h74) (Decidable.not_not.1 h74x1)
   rw [hd2]
   have q485 := Chg.step (l := 0) (h := 0) (Chg.zero (l := 0) (h := 0) ((((((cb2.t c280).t c423).t cwl425).t c429).t c431).t cb432)) cw434 (by omega)
   have q486 := Chg.step (l := 0) (h := 0) q485 c459 (by omega)
   have q487 := Chg.step (l := 0) (h := 0) q486 cw475 (by omega)
   have f488 := f484.chg cw475 (by omega)
   exact ⟨_, rfl, (Own.mono f488 (by omega) (by omega)), by have := rdD_len s; rw [hd2] at this; exact this, q487⟩
  have ht : t = whT s := strip_doneL hst (by omega)
  subst ht
  have htl := tnV_len (whT s)
  refine sx_guardF rfl rfl rfl rfl rfl rfl ?_
  refine sx_guardF rfl rfl rfl rfl rfl rfl ?_
  refine sx_guardF rfl rfl rfl rfl rfl rfl ?_
  refine sp rfl (px_pick rfl rfl) ?_
  refine wl_nil (q_n (k427 _ _ ?_))
  refine sx_condF rfl ?_
  refine sx_exit ?_
  refine q_e (q_e (q_bx (q_n (k424 _ _ ?_))))
  refine sx_seq fun K489 k489 => sx_region ?_
  refine mv rfl rfl (sx_call rfl rfl Tryz.call32 (c_iTextNat (by omega)) (fun v490 w490 p490 => ?_))
  obtain ⟨x490, rfl, ox_490, c490⟩ := p490
  have zw490 := c490.size
  refine mv rfl rfl (sp rfl (px_ex2 rfl rfl) ?_)
  refine sp rfl (px_ex2 rfl rfl) ?_
  refine av rfl rfl (av rfl rfl (wl_nil (q_n (k489 _ _ ?_))))
  refine sx_sub (Sub.c 0 rfl (.c 2 rfl (.c 3 rfl (.c 4 rfl (.c 7 rfl (.c 9 rfl (.c 10 rfl .nil))))))) ?_
  refine sx_seq fun K491 k491 => sx_region ?_
  refine mv rfl rfl (mv rfl rfl (sx_call rfl rfl Tryz.call33 (c_signed ox_490.sv (by omega)) (fun v492 w492 p492 => ?_)))
  obtain ⟨rfl, c492⟩ := p492
  have zw492 := c492.size
  refine mv rfl rfl (sp rfl (px_build rfl (xbld27x0x1 rfl _)) ?_)
  refine sx_alloc [.bool false, (.slice none 0 0), .int .i64 0] rfl Tryz.zeroValue27 rfl (fun b493 w494 eb493 sb493 fb493 cb493 => ?_)
  have zw494 := cb493.size
  have f497 := (ox_490.ext c492).ext cb493
  refine sx_store (vs := [.bool (nz (decide ((strB s 0 : Int) = 45)) (dg (tnV (whT s)))), x490, .int .i64 0]) rfl rfl fb493 rfl Tryz.sizeOf27 (nbl rfl) (one_cons rfl (one_cons f497.one (o1 rfl))) (fun w495 sw495 fw495 cw495 => ?_)
  have zw495 := cw495.size
  have gw495 : Blk w495 b493 [.bool (nz (decide ((strB s 0 : Int) = 45)) (dg (tnV (whT s)))), x490, .int .i64 0] 27 := fw495
  refine wl_nil (q_n (k491 _ _ ?_))
  refine sx_seq fun K498 k498 => ?_
  refine sx_seq fun K499 k499 => sx_region ?_
  refine mv rfl rfl (sp rfl (px_not rfl) ?_)
  refine mv rfl rfl ?_
  refine sx_tmpB (t := 65) rfl (fun h74 => ?_) (fun h74 => ?_)
  ·
   refine sx_guardF rfl rfl rfl rfl rfl rfl ?_
   refine sx_guardF rfl rfl rfl rfl rfl rfl ?_
   refine sx_guardF rfl rfl rfl rfl rfl rfl ?_
   refine sx_guardF rfl rfl rfl rfl rfl rfl ?_
   refine sp rfl (px_pick rfl rfl) ?_
   refine wl_nil (q_n (k499 _ _ ?_))
   refine sx_sub (Sub.c 2 rfl (.c 3 rfl (.c 11 rfl (.c 70 rfl .nil)))) ?_
   refine sx_condT rfl ?_
   refine sx_seq fun K500 k500 => sx_region ?_
   refine sp rfl (px_build rfl (xbld27x  _)) ?_
   have f504 := ((fb2.ext c280).ext c423).ext cwl425
   have f507 := ((f504.ext c490).ext c492).ext cb493
   have f508 := f507.chg cw495 (by omega)
   refine sx_store (vs := [.bool false, (.slice none 0 0), .int .i64 0]) rfl rfl f508 rfl Tryz.sizeOf27 (nbl rfl) (o3 rfl rfl rfl) (fun w501 sw501 fw501 cw501 => ?_)
   have zw501 := cw501.size
   have gw501 : Blk w501 b2 [.bool false, (.slice none 0 0), .int .i64 0] 27 := fw501
   refine av rfl rfl (wl_nil (q_n (k500 _ _ ?_)))
   refine sx_retc ?_
   refine q_r (sx_ret2 Tryz.results6 ⟨_, rfl, gw501.loadA (vs := [.bool false, (.slice none 0 0), .int .i64 0]) (look_lit rfl) Tryz.isAgg27 Tryz.sizeOf27⟩ rfl ?_)
   have hB := rdD_ibad (n := (decide ((strB s 0 : Int) = 45))) huS (hsg.trans (by first | rfl | exact (decide_eq_true h57).symm | exact (decide_eq_false h57).symm)) hsc (by
    rintro ⟨a1, a2, a3, a4⟩
    first
    | exact h74x1 a4
    | exact absurd h74 (by rw [a3]; decide))
   rw [hB]
   have q509 := Chg.step (l := 0) (h := 0) (Chg.zero (l := 0) (h := 0) ((((((cb2.t c280).t c423).t cwl425).t c490).t c492).t cb493)) cw495 (by omega)
   have q510 := Chg.step (l := 0) (h := 0) q509 cw501 (by omega)
   exact ⟨_, rfl, Own.nil _ _ _ _ _, by simp, q510⟩
  refine sx_guardT rfl rfl rfl ?_
  refine sp rfl (px_load rfl (gw495.loadA (vs := [.bool (nz (decide ((strB s 0 : Int) = 45)) (dg (tnV (whT s)))), x490, .int .i64 0]) (look_lit rfl) Tryz.isAgg27 Tryz.sizeOf27)) ?_
  refine sx_guardT rfl rfl rfl ?_
  have f511 := hGT.ext cb2
  have f514 := ((f511.ext c280).ext c423).ext cwl425
  have f517 := ((f514.ext c490).ext c492).ext cb493
  have f518 := f517.chg cw495 (by omega)
  have f519 := f497.chg cw495 (by omega)
  refine sx_call rfl rfl Tryz.call7 (c_iDecText f518 f519.sv (by omega)) (fun v520 w520 p520 => ?_)
  obtain ⟨rfl, hsz520, c520⟩ := p520
  have zw520 := c520.size
  refine sx_guardT rfl rfl rfl ?_
  refine mv rfl rfl ?_
  refine sx_guardT rfl rfl rfl ?_
  refine sp rfl (px_neS rfl rfl) ?_
  refine sp rfl (px_pick rfl rfl) ?_
  refine wl_nil (q_n (k499 _ _ ?_))
  refine sx_sub (Sub.c 2 rfl (.c 3 rfl (.c 11 rfl (.c 70 rfl .nil)))) ?_
  refine sx_condP rfl (fun h74x1 => ?_) (fun h74x1 => ?_)
  ·
   refine sx_seq fun K521 k521 => sx_region ?_
   refine sp rfl (px_build rfl (xbld27x  _)) ?_
   have f525 := ((fb2.ext c280).ext c423).ext cwl425
   have f528 := ((f525.ext c490).ext c492).ext cb493
   have f529 := f528.chg cw495 (by omega)
   have f530 := f529.ext c520
   refine sx_store (vs := [.bool false, (.slice none 0 0), .int .i64 0]) rfl rfl f530 rfl Tryz.sizeOf27 (nbl rfl) (o3 rfl rfl rfl) (fun w522 sw522 fw522 cw522 => ?_)
   have zw522 := cw522.size
   have gw522 : Blk w522 b2 [.bool false, (.slice none 0 0), .int .i64 0] 27 := fw522
   refine av rfl rfl (wl_nil (q_n (k521 _ _ ?_)))
   refine sx_retc ?_
   refine q_r (sx_ret2 Tryz.results6 ⟨_, rfl, gw522.loadA (vs := [.bool false, (.slice none 0 0), .int .i64 0]) (look_lit rfl) Tryz.isAgg27 Tryz.sizeOf27⟩ rfl ?_)
   have hB := rdD_ibad (n := (decide ((strB s 0 : Int) = 45))) huS (hsg.trans (by first | rfl | exact (decide_eq_true h57).symm | exact (decide_eq_false h57).symm)) hsc (by
    rintro ⟨a1, a2, a3, a4⟩
    first
    | exact h74x1 a4
    | exact absurd h74 (by rw [a3]; decide))
   rw [hB]
   have q531 := Chg.step (l := 0) (h := 0) (Chg.zero (l := 0) (h := 0) ((((((cb2.t c280).t c423).t cwl425).t c490).t c492).t cb493)) cw495 (by omega)
   have q532 := Chg.step (l := 0) (h := 0) q531 c520 (by omega)
   have q533 := Chg.step (l := 0) (h := 0) q532 cw522 (by omega)
   exact ⟨_, rfl, Own.nil _ _ _ _ _, by simp, q533⟩
  refine sx_skip ?_
  refine q_n (k498 _ _ ?_)
  refine sx_seq fun K534 k534 => sx_region ?_
  have f535 := gw495.ext c520
  refine sp rfl (px_load rfl (f535.loadA (vs := [.bool (nz (decide ((strB s 0 : Int) = 45)) (dg (tnV (whT s)))), x490, .int .i64 0]) (look_lit rfl) Tryz.isAgg27 Tryz.sizeOf27)) ?_
  have f539 := ((fb2.ext c280).ext c423).ext cwl425
  have f542 := ((f539.ext c490).ext c492).ext cb493
  have f543 := f542.chg cw495 (by omega)
  have f544 := f543.ext c520
  have f545 := f519.ext c520
  refine sx_store (vs := [.bool (nz (decide ((strB s 0 : Int) = 45)) (dg (tnV (whT s)))), x490, .int .i64 0]) rfl rfl f544 rfl Tryz.sizeOf27 (nbl rfl) (one_cons rfl (one_cons f545.one (o1 rfl))) (fun w536 sw536 fw536 cw536 => ?_)
  have zw536 := cw536.size
  have gw536 : Blk w536 b2 [.bool (nz (decide ((strB s 0 : Int) = 45)) (dg (tnV (whT s)))), x490, .int .i64 0] 27 := fw536
  refine av rfl rfl (wl_nil (q_n (k534 _ _ ?_)))
  refine sx_retc ?_
  refine sx_ret2 Tryz.results6 ⟨_, rfl, gw536.loadA (vs := [.bool (nz (decide ((strB s 0 : Int) = 45)) (dg (tnV (whT s)))), x490, .int .i64 0]) (look_lit rfl) Tryz.isAgg27 Tryz.sizeOf27⟩ rfl ?_
  have hd2 := rdD_igood (s := s) (u := s) (n := (decide ((strB s 0 : Int) = 45))) huS hsc (by simpa using h74) (Decidable.not_not.1 h74x1)
  rw [hd2]
  have q546 := Chg.step (l := 0) (h := 0) (Chg.zero (l := 0) (h := 0) ((((((cb2.t c280).t c423).t cwl425).t c490).t c492).t cb493)) cw495 (by omega)
  have q547 := Chg.step (l := 0) (h := 0) q546 c520 (by omega)
  have q548 := Chg.step (l := 0) (h := 0) q547 cw536 (by omega)
  have f549 := f545.chg cw536 (by omega)
  exact ⟨_, rfl, (Own.mono f549 (by omega) (by omega)), by have := rdD_len s; rw [hd2] at this; exact this, q548⟩
 have hsg : sgK s = false := sgK_no (.inl (Decidable.not_not.1 h55))
 have huS := unS_no hsg
 have hjq := jn_cut (b := 46) (s := s)
 have hcq := cutT_len (b := 46) (s := s)
 refine sx_guardF rfl rfl rfl rfl rfl rfl ?_
 refine sx_guardF rfl rfl rfl rfl rfl rfl ?_
 refine sx_guardF rfl rfl rfl rfl rfl rfl ?_
 refine sp rfl (px_pick rfl rfl) ?_
 refine av rfl rfl (wl_nil (q_n (k4 _ _ ?_)))
 refine sx_seq fun K550 k550 => sx_region ?_
 refine mv rfl rfl (av rfl rfl (wl_nil (q_n (k550 _ _ ?_))))
 refine sx_seq fun K551 k551 => ?_
 refine sx_seq fun K552 k552 => sx_region ?_
 refine mv rfl rfl (wl_nil (q_n (k552 _ _ ?_)))
 refine sx_condF rfl ?_
 refine sx_skip ?_
 refine q_n (k551 _ _ ?_)
 refine sx_seq fun K553 k553 => sx_region ?_
 refine mv rfl rfl (sx_call rfl rfl Tryz.call30 (c_iCutAtP (by omega) (rfl)) (fun v554 w554 p554 => ?_))
 obtain ⟨x554, rfl, ox_554, c554⟩ := p554
 have zw554 := c554.size
 refine av rfl rfl (wl_nil (q_n (k553 _ _ ?_)))
 refine sx_sub (Sub.c 0 rfl (.c 2 rfl (.c 3 rfl (.c 4 rfl (.c 5 rfl (.c 6 rfl .nil)))))) ?_
 refine sx_seq fun K555 k555 => ?_
 refine sx_seq fun K556 k556 => sx_region ?_
 refine mv rfl rfl (sp rfl (px_len rfl Tryz.underlying65 ox_554.sv) ?_)
 refine sp rfl (px_gt rfl rfl) ?_
 refine mv rfl rfl ?_
 refine sx_tmpP (t := 28) rfl (fun h61 => ?_) (fun h61 => ?_)
 ·
  refine sx_guardF rfl rfl rfl rfl rfl rfl ?_
  refine sx_guardF rfl rfl rfl rfl rfl rfl ?_
  refine sx_guardF rfl rfl rfl rfl rfl rfl ?_
  refine sp rfl (px_pick rfl rfl) ?_
  refine wl_nil (q_n (k556 _ _ ?_))
  refine sx_condT rfl ?_
  refine sx_seq fun K557 k557 => sx_region ?_
  refine sp rfl (px_build rfl (xbld27x  _)) ?_
  have f559 := fb2.ext c554
  refine sx_store (vs := [.bool false, (.slice none 0 0), .int .i64 0]) rfl rfl f559 rfl Tryz.sizeOf27 (nbl rfl) (o3 rfl rfl rfl) (fun w558 sw558 fw558 cw558 => ?_)
  have zw558 := cw558.size
  have gw558 : Blk w558 b2 [.bool false, (.slice none 0 0), .int .i64 0] 27 := fw558
  refine av rfl rfl (wl_nil (q_n (k557 _ _ ?_)))
  refine sx_sub (Sub.c 0 rfl (.c 2 rfl (.c 3 rfl (.c 4 rfl (.c 6 rfl .nil))))) ?_
  refine sx_retc ?_
  refine q_r (sx_ret2 Tryz.results6 ⟨_, rfl, gw558.loadA (vs := [.bool false, (.slice none 0 0), .int .i64 0]) (look_lit rfl) Tryz.isAgg27 Tryz.sizeOf27⟩ rfl ?_)
  have hB := rdD_ibad huS rfl rfl (by rintro ⟨a1, a2, _, _⟩; omega)
  rw [hB]
  have q560 := Chg.step (l := 0) (h := 0) (Chg.zero (l := 0) (h := 0) (cb2.t c554)) cw558 (by omega)
  exact ⟨_, rfl, Own.nil _ _ _ _ _, by simp, q560⟩
 refine sx_guardT rfl rfl rfl ?_
 refine mv rfl rfl ?_
 refine sx_guardT rfl rfl rfl ?_
 refine sp rfl (px_lenS rfl Tryz.underlying9) ?_
 refine sx_guardT rfl rfl rfl ?_
 refine sp rfl (px_gt rfl rfl) ?_
 refine sp rfl (px_pick rfl rfl) ?_
 refine wl_nil (q_n (k556 _ _ ?_))
 refine sx_condP rfl (fun h61x1 => ?_) (fun h61x1 => ?_)
 ·
  refine sx_seq fun K561 k561 => sx_region ?_
  refine sp rfl (px_build rfl (xbld27x  _)) ?_
  have f563 := fb2.ext c554
  refine sx_store (vs := [.bool false, (.slice none 0 0), .int .i64 0]) rfl rfl f563 rfl Tryz.sizeOf27 (nbl rfl) (o3 rfl rfl rfl) (fun w562 sw562 fw562 cw562 => ?_)
  have zw562 := cw562.size
  have gw562 : Blk w562 b2 [.bool false, (.slice none 0 0), .int .i64 0] 27 := fw562
  refine av rfl rfl (wl_nil (q_n (k561 _ _ ?_)))
  refine sx_sub (Sub.c 0 rfl (.c 2 rfl (.c 3 rfl (.c 4 rfl (.c 6 rfl .nil))))) ?_
  refine sx_retc ?_
  refine q_r (sx_ret2 Tryz.results6 ⟨_, rfl, gw562.loadA (vs := [.bool false, (.slice none 0 0), .int .i64 0]) (look_lit rfl) Tryz.isAgg27 Tryz.sizeOf27⟩ rfl ?_)
  have hB := rdD_ibad huS rfl rfl (by rintro ⟨a1, a2, _, _⟩; omega)
  rw [hB]
  have q564 := Chg.step (l := 0) (h := 0) (Chg.zero (l := 0) (h := 0) (cb2.t c554)) cw562 (by omega)
  exact ⟨_, rfl, Own.nil _ _ _ _ _, by simp, q564⟩
 refine sx_skip ?_
 refine q_n (k555 _ _ ?_)
 refine sx_seq fun K565 k565 => sx_region ?_
 refine av rfl rfl (wl_nil (q_n (k565 _ _ ?_)))
 refine sx_sub (Sub.c 0 rfl (.c 2 rfl (.c 3 rfl (.c 4 rfl (.c 6 rfl (.c 7 rfl .nil)))))) ?_
 refine sx_seq fun K566 k566 => ?_
 refine sx_seq fun K567 k567 => sx_region ?_
 refine mv rfl rfl (sp rfl (px_len rfl Tryz.underlying65 ox_554.sv) ?_)
 refine sp rfl (px_eq rfl rfl) ?_
 refine wl_nil (q_n (k567 _ _ ?_))
 refine sx_condP rfl (fun h65 => ?_) (fun h65 => ?_)
 ·
  have hsc := scT_2 h65
  refine sx_region ?_
  refine mv rfl rfl (sp rfl (px_index1 (j := 1) rfl rfl (by omega) Tryz.underlying65 Tryz.sizeOf9 ox_554.sv (by omega)) ?_)
  refine sp rfl (px_load rfl (ox_554.sv.load1 (at_str (by omega)) Tryz.isAgg9)) ?_
  refine sp rfl (px_lenS rfl Tryz.underlying9) ?_
  refine av rfl rfl (wl_nil (q_n (k566 _ _ ?_)))
  refine sx_seq fun K568 k568 => sx_region ?_
  refine mv rfl rfl (sx_call rfl rfl Tryz.call31 (c_iJoin ox_554.sv (rfl) (by constructor <;> omega)) (fun v569 w569 p569 => ?_))
  obtain ⟨rfl, c569⟩ := p569
  have zw569 := c569.size
  refine av rfl rfl (wl_nil (q_n (k568 _ _ ?_)))
  refine sx_sub (Sub.c 0 rfl (.c 2 rfl (.c 3 rfl (.c 4 rfl (.c 7 rfl (.c 8 rfl .nil)))))) ?_
  refine sx_seq fun K570 k570 => ?_
  refine sx_block ?_
  have hjc := jn_cut (b := 46) (s := s)
  refine sx_loop (fun mm aa w' => ∃ (t : ByteArray), Agr 73 [(0, .string s), (2, .pointer (some ⟨b2, 0, none⟩)), (3, .bool false), (4, .bool false), (7, .int .i64 (↑((cutT 46 s).getD 1 ByteArray.empty).size)), (8, .string t)] aa ∧ Chg 0 0 w569 w' ∧ (mm = t.size) ∧ (strip t.data.toList = strip (jnT (cutT 46 s))) ∧ (t.size ≤ 1000)) (_) (fun a ha => ⟨(bl (jnT (cutT 46 s))), ha.sub (Sub.c 0 rfl (.c 2 rfl (.c 3 rfl (.c 4 rfl (.c 7 rfl (.c 8 rfl .nil)))))), Chg.refl _ _ _, rfl, rfl, by rw [bl_size]; omega⟩) ?_
  rintro mm aa wl571 ⟨t, hAwl571, cwl571, hm, hst, hts⟩
  refine (show cw Tryz.prog 73 _ _ _ wl571 from ?_) aa hAwl571
  clear hAwl571
  have zwl571 := cwl571.size
  refine sx_seq fun K572 k572 => ?_
  refine sx_seq fun K573 k573 => sx_region ?_
  refine mv rfl rfl (sp rfl (px_lenS rfl Tryz.underlying9) ?_)
  refine sp rfl (px_gt rfl rfl) ?_
  refine mv rfl rfl ?_
  refine sx_tmpP (t := 46) rfl (fun h69 => ?_) (fun h69 => ?_)
  ·
   refine sx_guardT rfl rfl rfl ?_
   refine mv rfl rfl ?_
   refine sx_guardT rfl rfl rfl ?_
   refine sp rfl (px_indexS (j := 0) rfl rfl (by omega) Tryz.underlying9 (by omega)) ?_
   refine sx_guardT rfl rfl rfl ?_
   refine sp rfl (px_eq rfl rfl) ?_
   refine sp rfl (px_pick rfl rfl) ?_
   refine wl_nil (q_n (k573 _ _ ?_))
   refine sx_condP rfl (fun h69x1 => ?_) (fun h69x1 => ?_)
   ·
    refine sx_skip ?_
    refine q_n (k572 _ _ ?_)
    refine sx_block ?_
    refine sx_region ?_
    refine mv rfl rfl (sp rfl (px_strFrom (l := 1) rfl rfl (by omega) Tryz.underlying9 (by omega)) ?_)
    refine av rfl rfl (wl_nil ?_)
    have hsx : (t.extract 1 t.size).size = t.size - 1 := by rw [ByteArray.size_extract]; omega
    exact q_bn (fun a ha => ⟨_, by omega, (t.extract 1 t.size), ha.sub (Sub.c 0 rfl (.c 2 rfl (.c 3 rfl (.c 4 rfl (.c 7 rfl (.c 8 rfl .nil)))))), cwl571, rfl, (strip_step (by omega) (by omega)).trans hst, by omega⟩)
   have ht : t = whT s := strip_doneL hst (by omega)
   subst ht
   have htl := tnV_len (whT s)
   refine sx_exit ?_
   refine q_e (q_e (q_bx (q_n (k570 _ _ ?_))))
   refine sx_seq fun K574 k574 => sx_region ?_
   refine mv rfl rfl (sx_call rfl rfl Tryz.call32 (c_iTextNat (by omega)) (fun v575 w575 p575 => ?_))
   obtain ⟨x575, rfl, ox_575, c575⟩ := p575
   have zw575 := c575.size
   refine mv rfl rfl (sp rfl (px_ex2 rfl rfl) ?_)
   refine sp rfl (px_ex2 rfl rfl) ?_
   refine av rfl rfl (av rfl rfl (wl_nil (q_n (k574 _ _ ?_))))
   refine sx_sub (Sub.c 0 rfl (.c 2 rfl (.c 3 rfl (.c 4 rfl (.c 7 rfl (.c 9 rfl (.c 10 rfl .nil))))))) ?_
   refine sx_seq fun K576 k576 => sx_region ?_
   refine mv rfl rfl (mv rfl rfl (sx_call rfl rfl Tryz.call33 (c_signed ox_575.sv (by omega)) (fun v577 w577 p577 => ?_)))
   obtain ⟨rfl, c577⟩ := p577
   have zw577 := c577.size
   refine mv rfl rfl (sp rfl (px_build rfl (xbld27x0x1 rfl _)) ?_)
   refine sx_alloc [.bool false, (.slice none 0 0), .int .i64 0] rfl Tryz.zeroValue27 rfl (fun b578 w579 eb578 sb578 fb578 cb578 => ?_)
   have zw579 := cb578.size
   have f582 := (ox_575.ext c577).ext cb578
   refine sx_store (vs := [.bool (nz false (dg (tnV (whT s)))), x575, .int .i64 (↑((cutT 46 s).getD 1 ByteArray.empty).size)]) rfl rfl fb578 rfl Tryz.sizeOf27 (nbl rfl) (one_cons rfl (one_cons f582.one (o1 rfl))) (fun w580 sw580 fw580 cw580 => ?_)
   have zw580 := cw580.size
   have gw580 : Blk w580 b578 [.bool (nz false (dg (tnV (whT s)))), x575, .int .i64 (↑((cutT 46 s).getD 1 ByteArray.empty).size)] 27 := fw580
   refine wl_nil (q_n (k576 _ _ ?_))
   refine sx_seq fun K583 k583 => ?_
   refine sx_seq fun K584 k584 => sx_region ?_
   refine mv rfl rfl (sp rfl (px_not rfl) ?_)
   refine mv rfl rfl ?_
   refine sx_tmpB (t := 65) rfl (fun h74 => ?_) (fun h74 => ?_)
   ·
    refine sx_guardF rfl rfl rfl rfl rfl rfl ?_
    refine sx_guardF rfl rfl rfl rfl rfl rfl ?_
    refine sx_guardF rfl rfl rfl rfl rfl rfl ?_
    refine sx_guardF rfl rfl rfl rfl rfl rfl ?_
    refine sp rfl (px_pick rfl rfl) ?_
    refine wl_nil (q_n (k584 _ _ ?_))
    refine sx_sub (Sub.c 2 rfl (.c 3 rfl (.c 11 rfl (.c 70 rfl .nil)))) ?_
    refine sx_condT rfl ?_
    refine sx_seq fun K585 k585 => sx_region ?_
    refine sp rfl (px_build rfl (xbld27x  _)) ?_
    have f589 := ((fb2.ext c554).ext c569).ext cwl571
    have f592 := ((f589.ext c575).ext c577).ext cb578
    have f593 := f592.chg cw580 (by omega)
    refine sx_store (vs := [.bool false, (.slice none 0 0), .int .i64 0]) rfl rfl f593 rfl Tryz.sizeOf27 (nbl rfl) (o3 rfl rfl rfl) (fun w586 sw586 fw586 cw586 => ?_)
    have zw586 := cw586.size
    have gw586 : Blk w586 b2 [.bool false, (.slice none 0 0), .int .i64 0] 27 := fw586
    refine av rfl rfl (wl_nil (q_n (k585 _ _ ?_)))
    refine sx_retc ?_
    refine q_r (sx_ret2 Tryz.results6 ⟨_, rfl, gw586.loadA (vs := [.bool false, (.slice none 0 0), .int .i64 0]) (look_lit rfl) Tryz.isAgg27 Tryz.sizeOf27⟩ rfl ?_)
    have hB := rdD_ibad (n := false) huS (hsg.trans (by first | rfl | exact (decide_eq_true h57).symm | exact (decide_eq_false h57).symm)) hsc (by
     rintro ⟨a1, a2, a3, a4⟩
     first
     | exact h74x1 a4
     | exact absurd h74 (by rw [a3]; decide))
    rw [hB]
    have q594 := Chg.step (l := 0) (h := 0) (Chg.zero (l := 0) (h := 0) ((((((cb2.t c554).t c569).t cwl571).t c575).t c577).t cb578)) cw580 (by omega)
    have q595 := Chg.step (l := 0) (h := 0) q594 cw586 (by omega)
    exact ⟨_, rfl, Own.nil _ _ _ _ _, by simp, q595⟩
   refine sx_guardT rfl rfl rfl ?_
   refine sp rfl (px_load rfl (gw580.loadA (vs := [.bool (nz false (dg (tnV (whT s)))), x575, .int .i64 (↑((cutT 46 s).getD 1 ByteArray.empty).size)]) (look_lit rfl) Tryz.isAgg27 Tryz.sizeOf27)) ?_
   refine sx_guardT rfl rfl rfl ?_
   have f596 := hGT.ext cb2
   have f599 := ((f596.ext c554).ext c569).ext cwl571
   have f602 := ((f599.ext c575).ext c577).ext cb578
   have f603 := f602.chg cw580 (by omega)
   have f604 := f582.chg cw580 (by omega)
   refine sx_call rfl rfl Tryz.call7 (c_iDecText f603 f604.sv (by omega)) (fun v605 w605 p605 => ?_)
   obtain ⟨rfl, hsz605, c605⟩ := p605
   have zw605 := c605.size
   refine sx_guardT rfl rfl rfl ?_
   refine mv rfl rfl ?_
   refine sx_guardT rfl rfl rfl ?_
   refine sp rfl (px_neS rfl rfl) ?_
   refine sp rfl (px_pick rfl rfl) ?_
   refine wl_nil (q_n (k584 _ _ ?_))
   refine sx_sub (Sub.c 2 rfl (.c 3 rfl (.c 11 rfl (.c 70 rfl .nil)))) ?_
   refine sx_condP rfl (fun h74x1 => ?_) (fun h74x1 => ?_)
   ·
    refine sx_seq fun K606 k606 => sx_region ?_
    refine sp rfl (px_build rfl (xbld27x  _)) ?_
    have f610 := ((fb2.ext c554).ext c569).ext cwl571
    have f613 := ((f610.ext c575).ext c577).ext cb578
    have f614 := f613.chg cw580 (by omega)
    have f615 := f614.ext c605
    refine sx_store (vs := [.bool false, (.slice none 0 0), .int .i64 0]) rfl rfl f615 rfl Tryz.sizeOf27 (nbl rfl) (o3 rfl rfl rfl) (fun w607 sw607 fw607 cw607 => ?_)
    have zw607 := cw607.size
    have gw607 : Blk w607 b2 [.bool false, (.slice none 0 0), .int .i64 0] 27 := fw607
    refine av rfl rfl (wl_nil (q_n (k606 _ _ ?_)))
    refine sx_retc ?_
    refine q_r (sx_ret2 Tryz.results6 ⟨_, rfl, gw607.loadA (vs := [.bool false, (.slice none 0 0), .int .i64 0]) (look_lit rfl) Tryz.isAgg27 Tryz.sizeOf27⟩ rfl ?_)
    have hB := rdD_ibad (n := false) huS (hsg.trans (by first | rfl | exact (decide_eq_true h57).symm | exact (decide_eq_false h57).symm)) hsc (by
     rintro ⟨a1, a2, a3, a4⟩
     first
     | exact h74x1 a4
     | exact absurd h74 (by rw [a3]; decide))
    rw [hB]
    have q616 := Chg.step (l := 0) (h := 0) (Chg.zero (l := 0) (h := 0) ((((((cb2.t c554).t c569).t cwl571).t c575).t c577).t cb578)) cw580 (by omega)
    have q617 := Chg.step (l := 0) (h := 0) q616 c605 (by omega)
    have q618 := Chg.step (l := 0) (h := 0) q617 cw607 (by omega)
    exact ⟨_, rfl, Own.nil _ _ _ _ _, by simp, q618⟩
   refine sx_skip ?_
   refine q_n (k583 _ _ ?_)
   refine sx_seq fun K619 k619 => sx_region ?_
   have f620 := gw580.ext c605
   refine sp rfl (px_load rfl (f620.loadA (vs := [.bool (nz false (dg (tnV (whT s)))), x575, .int .i64 (↑((cutT 46 s).getD 1 ByteArray.empty).size)]) (look_lit rfl) Tryz.isAgg27 Tryz.sizeOf27)) ?_
   have f624 := ((fb2.ext c554).ext c569).ext cwl571
   have f627 := ((f624.ext c575).ext c577).ext cb578
   have f628 := f627.chg cw580 (by omega)
   have f629 := f628.ext c605
   have f630 := f604.ext c605
   refine sx_store (vs := [.bool (nz false (dg (tnV (whT s)))), x575, .int .i64 (↑((cutT 46 s).getD 1 ByteArray.empty).size)]) rfl rfl f629 rfl Tryz.sizeOf27 (nbl rfl) (one_cons rfl (one_cons f630.one (o1 rfl))) (fun w621 sw621 fw621 cw621 => ?_)
   have zw621 := cw621.size
   have gw621 : Blk w621 b2 [.bool (nz false (dg (tnV (whT s)))), x575, .int .i64 (↑((cutT 46 s).getD 1 ByteArray.empty).size)] 27 := fw621
   refine av rfl rfl (wl_nil (q_n (k619 _ _ ?_)))
   refine sx_retc ?_
   refine sx_ret2 Tryz.results6 ⟨_, rfl, gw621.loadA (vs := [.bool (nz false (dg (tnV (whT s)))), x575, .int .i64 (↑((cutT 46 s).getD 1 ByteArray.empty).size)]) (look_lit rfl) Tryz.isAgg27 Tryz.sizeOf27⟩ rfl ?_
   have hd2 := rdD_igood (s := s) (u := s) (n := false) huS hsc (by simpa using h74) (Decidable.not_not.1 h74x1)
   rw [hd2]
   have q631 := Chg.step (l := 0) (h := 0) (Chg.zero (l := 0) (h := 0) ((((((cb2.t c554).t c569).t cwl571).t c575).t c577).t cb578)) cw580 (by omega)
   have q632 := Chg.step (l := 0) (h := 0) q631 c605 (by omega)
   have q633 := Chg.step (l := 0) (h := 0) q632 cw621 (by omega)
   have f634 := f630.chg cw621 (by omega)
   exact ⟨_, rfl, (Own.mono f634 (by omega) (by omega)), by have := rdD_len s; rw [hd2] at this; exact this, q633⟩
  have ht : t = whT s := strip_doneL hst (by omega)
  subst ht
  have htl := tnV_len (whT s)
  refine sx_guardF rfl rfl rfl rfl rfl rfl ?_
  refine sx_guardF rfl rfl rfl rfl rfl rfl ?_
  refine sx_guardF rfl rfl rfl rfl rfl rfl ?_
  refine sp rfl (px_pick rfl rfl) ?_
  refine wl_nil (q_n (k573 _ _ ?_))
  refine sx_condF rfl ?_
  refine sx_exit ?_
  refine q_e (q_e (q_bx (q_n (k570 _ _ ?_))))
  refine sx_seq fun K635 k635 => sx_region ?_
  refine mv rfl rfl (sx_call rfl rfl Tryz.call32 (c_iTextNat (by omega)) (fun v636 w636 p636 => ?_))
  obtain ⟨x636, rfl, ox_636, c636⟩ := p636
  have zw636 := c636.size
  refine mv rfl rfl (sp rfl (px_ex2 rfl rfl) ?_)
  refine sp rfl (px_ex2 rfl rfl) ?_
  refine av rfl rfl (av rfl rfl (wl_nil (q_n (k635 _ _ ?_))))
  refine sx_sub (Sub.c 0 rfl (.c 2 rfl (.c 3 rfl (.c 4 rfl (.c 7 rfl (.c 9 rfl (.c 10 rfl .nil))))))) ?_
  refine sx_seq fun K637 k637 => sx_region ?_
  refine mv rfl rfl (mv rfl rfl (sx_call rfl rfl Tryz.call33 (c_signed ox_636.sv (by omega)) (fun v638 w638 p638 => ?_)))
  obtain ⟨rfl, c638⟩ := p638
  have zw638 := c638.size
  refine mv rfl rfl (sp rfl (px_build rfl (xbld27x0x1 rfl _)) ?_)
  refine sx_alloc [.bool false, (.slice none 0 0), .int .i64 0] rfl Tryz.zeroValue27 rfl (fun b639 w640 eb639 sb639 fb639 cb639 => ?_)
  have zw640 := cb639.size
  have f643 := (ox_636.ext c638).ext cb639
  refine sx_store (vs := [.bool (nz false (dg (tnV (whT s)))), x636, .int .i64 (↑((cutT 46 s).getD 1 ByteArray.empty).size)]) rfl rfl fb639 rfl Tryz.sizeOf27 (nbl rfl) (one_cons rfl (one_cons f643.one (o1 rfl))) (fun w641 sw641 fw641 cw641 => ?_)
  have zw641 := cw641.size
  have gw641 : Blk w641 b639 [.bool (nz false (dg (tnV (whT s)))), x636, .int .i64 (↑((cutT 46 s).getD 1 ByteArray.empty).size)] 27 := fw641
  refine wl_nil (q_n (k637 _ _ ?_))
  refine sx_seq fun K644 k644 => ?_
  refine sx_seq fun K645 k645 => sx_region ?_
  refine mv rfl rfl (sp rfl (px_not rfl) ?_)
  refine mv rfl rfl ?_
  refine sx_tmpB (t := 65) rfl (fun h74 => ?_) (fun h74 => ?_)
  ·
   refine sx_guardF rfl rfl rfl rfl rfl rfl ?_
   refine sx_guardF rfl rfl rfl rfl rfl rfl ?_
   refine sx_guardF rfl rfl rfl rfl rfl rfl ?_
   refine sx_guardF rfl rfl rfl rfl rfl rfl ?_
   refine sp rfl (px_pick rfl rfl) ?_
   refine wl_nil (q_n (k645 _ _ ?_))
   refine sx_sub (Sub.c 2 rfl (.c 3 rfl (.c 11 rfl (.c 70 rfl .nil)))) ?_
   refine sx_condT rfl ?_
   refine sx_seq fun K646 k646 => sx_region ?_
   refine sp rfl (px_build rfl (xbld27x  _)) ?_
   have f650 := ((fb2.ext c554).ext c569).ext cwl571
   have f653 := ((f650.ext c636).ext c638).ext cb639
   have f654 := f653.chg cw641 (by omega)
   refine sx_store (vs := [.bool false, (.slice none 0 0), .int .i64 0]) rfl rfl f654 rfl Tryz.sizeOf27 (nbl rfl) (o3 rfl rfl rfl) (fun w647 sw647 fw647 cw647 => ?_)
   have zw647 := cw647.size
   have gw647 : Blk w647 b2 [.bool false, (.slice none 0 0), .int .i64 0] 27 := fw647
   refine av rfl rfl (wl_nil (q_n (k646 _ _ ?_)))
   refine sx_retc ?_
   refine q_r (sx_ret2 Tryz.results6 ⟨_, rfl, gw647.loadA (vs := [.bool false, (.slice none 0 0), .int .i64 0]) (look_lit rfl) Tryz.isAgg27 Tryz.sizeOf27⟩ rfl ?_)
   have hB := rdD_ibad (n := false) huS (hsg.trans (by first | rfl | exact (decide_eq_true h57).symm | exact (decide_eq_false h57).symm)) hsc (by
    rintro ⟨a1, a2, a3, a4⟩
    first
    | exact h74x1 a4
    | exact absurd h74 (by rw [a3]; decide))
   rw [hB]
   have q655 := Chg.step (l := 0) (h := 0) (Chg.zero (l := 0) (h := 0) ((((((cb2.t c554).t c569).t cwl571).t c636).t c638).t cb639)) cw641 (by omega)
   have q656 := Chg.step (l := 0) (h := 0) q655 cw647 (by omega)
   exact ⟨_, rfl, Own.nil _ _ _ _ _, by simp, q656⟩
  refine sx_guardT rfl rfl rfl ?_
  refine sp rfl (px_load rfl (gw641.loadA (vs := [.bool (nz false (dg (tnV (whT s)))), x636, .int .i64 (↑((cutT 46 s).getD 1 ByteArray.empty).size)]) (look_lit rfl) Tryz.isAgg27 Tryz.sizeOf27)) ?_
  refine sx_guardT rfl rfl rfl ?_
  have f657 := hGT.ext cb2
  have f660 := ((f657.ext c554).ext c569).ext cwl571
  have f663 := ((f660.ext c636).ext c638).ext cb639
  have f664 := f663.chg cw641 (by omega)
  have f665 := f643.chg cw641 (by omega)
  refine sx_call rfl rfl Tryz.call7 (c_iDecText f664 f665.sv (by omega)) (fun v666 w666 p666 => ?_)
  obtain ⟨rfl, hsz666, c666⟩ := p666
  have zw666 := c666.size
  refine sx_guardT rfl rfl rfl ?_
  refine mv rfl rfl ?_
  refine sx_guardT rfl rfl rfl ?_
  refine sp rfl (px_neS rfl rfl) ?_
  refine sp rfl (px_pick rfl rfl) ?_
  refine wl_nil (q_n (k645 _ _ ?_))
  refine sx_sub (Sub.c 2 rfl (.c 3 rfl (.c 11 rfl (.c 70 rfl .nil)))) ?_
  refine sx_condP rfl (fun h74x1 => ?_) (fun h74x1 => ?_)
  ·
   refine sx_seq fun K667 k667 => sx_region ?_
   refine sp rfl (px_build rfl (xbld27x  _)) ?_
   have f671 := ((fb2.ext c554).ext c569).ext cwl571
   have f674 := ((f671.ext c636).ext c638).ext cb639
   have f675 := f674.chg cw641 (by omega)
   have f676 := f675.ext c666
   refine sx_store (vs := [.bool false, (.slice none 0 0), .int .i64 0]) rfl rfl f676 rfl Tryz.sizeOf27 (nbl rfl) (o3 rfl rfl rfl) (fun w668 sw668 fw668 cw668 => ?_)
   have zw668 := cw668.size
   have gw668 : Blk w668 b2 [.bool false, (.slice none 0 0), .int .i64 0] 27 := fw668
   refine av rfl rfl (wl_nil (q_n (k667 _ _ ?_)))
   refine sx_retc ?_
   refine q_r (sx_ret2 Tryz.results6 ⟨_, rfl, gw668.loadA (vs := [.bool false, (.slice none 0 0), .int .i64 0]) (look_lit rfl) Tryz.isAgg27 Tryz.sizeOf27⟩ rfl ?_)
   have hB := rdD_ibad (n := false) huS (hsg.trans (by first | rfl | exact (decide_eq_true h57).symm | exact (decide_eq_false h57).symm)) hsc (by
    rintro ⟨a1, a2, a3, a4⟩
    first
    | exact h74x1 a4
    | exact absurd h74 (by rw [a3]; decide))
   rw [hB]
   have q677 := Chg.step (l := 0) (h := 0) (Chg.zero (l := 0) (h := 0) ((((((cb2.t c554).t c569).t cwl571).t c636).t c638).t cb639)) cw641 (by omega)
   have q678 := Chg.step (l := 0) (h := 0) q677 c666 (by omega)
   have q679 := Chg.step (l := 0) (h := 0) q678 cw668 (by omega)
   exact ⟨_, rfl, Own.nil _ _ _ _ _, by simp, q679⟩
  refine sx_skip ?_
  refine q_n (k644 _ _ ?_)
  refine sx_seq fun K680 k680 => sx_region ?_
  have f681 := gw641.ext c666
  refine sp rfl (px_load rfl (f681.loadA (vs := [.bool (nz false (dg (tnV (whT s)))), x636, .int .i64 (↑((cutT 46 s).getD 1 ByteArray.empty).size)]) (look_lit rfl) Tryz.isAgg27 Tryz.sizeOf27)) ?_
  have f685 := ((fb2.ext c554).ext c569).ext cwl571
  have f688 := ((f685.ext c636).ext c638).ext cb639
  have f689 := f688.chg cw641 (by omega)
  have f690 := f689.ext c666
  have f691 := f665.ext c666
  refine sx_store (vs := [.bool (nz false (dg (tnV (whT s)))), x636, .int .i64 (↑((cutT 46 s).getD 1 ByteArray.empty).size)]) rfl rfl f690 rfl Tryz.sizeOf27 (nbl rfl) (one_cons rfl (one_cons f691.one (o1 rfl))) (fun w682 sw682 fw682 cw682 => ?_)
  have zw682 := cw682.size
  have gw682 : Blk w682 b2 [.bool (nz false (dg (tnV (whT s)))), x636, .int .i64 (↑((cutT 46 s).getD 1 ByteArray.empty).size)] 27 := fw682
  refine av rfl rfl (wl_nil (q_n (k680 _ _ ?_)))
  refine sx_retc ?_
  refine sx_ret2 Tryz.results6 ⟨_, rfl, gw682.loadA (vs := [.bool (nz false (dg (tnV (whT s)))), x636, .int .i64 (↑((cutT 46 s).getD 1 ByteArray.empty).size)]) (look_lit rfl) Tryz.isAgg27 Tryz.sizeOf27⟩ rfl ?_
  have hd2 := rdD_igood (s := s) (u := s) (n := false) huS hsc (by simpa using h74) (Decidable.not_not.1 h74x1)
  rw [hd2]
  have q692 := Chg.step (l := 0) (h := 0) (Chg.zero (l := 0) (h := 0) ((((((cb2.t c554).t c569).t cwl571).t c636).t c638).t cb639)) cw641 (by omega)
  have q693 := Chg.step (l := 0) (h := 0) q692 c666 (by omega)
  have q694 := Chg.step (l := 0) (h := 0) q693 cw682 (by omega)
  have f695 := f691.chg cw682 (by omega)
  exact ⟨_, rfl, (Own.mono f695 (by omega) (by omega)), by have := rdD_len s; rw [hd2] at this; exact this, q694⟩
 have hsc := scT_n h65
 refine sx_skip ?_
 refine q_n (k566 _ _ ?_)
 refine sx_seq fun K696 k696 => sx_region ?_
 refine mv rfl rfl (sx_call rfl rfl Tryz.call31 (c_iJoin ox_554.sv (rfl) (by constructor <;> omega)) (fun v697 w697 p697 => ?_))
 obtain ⟨rfl, c697⟩ := p697
 have zw697 := c697.size
 refine av rfl rfl (wl_nil (q_n (k696 _ _ ?_)))
 refine sx_seq fun K698 k698 => ?_
 refine sx_block ?_
 have hjc := jn_cut (b := 46) (s := s)
 refine sx_loop (fun mm aa w' => ∃ (t : ByteArray), Agr 73 [(0, .string s), (2, .pointer (some ⟨b2, 0, none⟩)), (3, .bool false), (4, .bool false), (7, .int .i64 0), (8, .string t)] aa ∧ Chg 0 0 w697 w' ∧ (mm = t.size) ∧ (strip t.data.toList = strip (jnT (cutT 46 s))) ∧ (t.size ≤ 1000)) (_) (fun a ha => ⟨(bl (jnT (cutT 46 s))), ha.sub (Sub.c 0 rfl (.c 2 rfl (.c 3 rfl (.c 4 rfl (.c 7 rfl (.c 8 rfl .nil)))))), Chg.refl _ _ _, rfl, rfl, by rw [bl_size]; omega⟩) ?_
 rintro mm aa wl699 ⟨t, hAwl699, cwl699, hm, hst, hts⟩
 refine (show cw Tryz.prog 73 _ _ _ wl699 from ?_) aa hAwl699
 clear hAwl699
 have zwl699 := cwl699.size
 refine sx_seq fun K700 k700 => ?_
 refine sx_seq fun K701 k701 => sx_region ?_
 refine mv rfl rfl (sp rfl (px_lenS rfl Tryz.underlying9) ?_)
 refine sp rfl (px_gt rfl rfl) ?_
 refine mv rfl rfl ?_
 refine sx_tmpP (t := 46) rfl (fun h69 => ?_) (fun h69 => ?_)
 ·
  refine sx_guardT rfl rfl rfl ?_
  refine mv rfl rfl ?_
  refine sx_guardT rfl rfl rfl ?_
  refine sp rfl (px_indexS (j := 0) rfl rfl (by omega) Tryz.underlying9 (by omega)) ?_
  refine sx_guardT rfl rfl rfl ?_
  refine sp rfl (px_eq rfl rfl) ?_
  refine sp rfl (px_pick rfl rfl) ?_
  refine wl_nil (q_n (k701 _ _ ?_))
  refine sx_condP rfl (fun h69x1 => ?_) (fun h69x1 => ?_)
  ·
   refine sx_skip ?_
   refine q_n (k700 _ _ ?_)
   refine sx_block ?_
   refine sx_region ?_
   refine mv rfl rfl (sp rfl (px_strFrom (l := 1) rfl rfl (by omega) Tryz.underlying9 (by omega)) ?_)
   refine av rfl rfl (wl_nil ?_)
   have hsx : (t.extract 1 t.size).size = t.size - 1 := by rw [ByteArray.size_extract]; omega
   exact q_bn (fun a ha => ⟨_, by omega, (t.extract 1 t.size), ha.sub (Sub.c 0 rfl (.c 2 rfl (.c 3 rfl (.c 4 rfl (.c 7 rfl (.c 8 rfl .nil)))))), cwl699, rfl, (strip_step (by omega) (by omega)).trans hst, by omega⟩)
  have ht : t = whT s := strip_doneL hst (by omega)
  subst ht
  have htl := tnV_len (whT s)
  refine sx_exit ?_
  refine q_e (q_e (q_bx (q_n (k698 _ _ ?_))))
  refine sx_seq fun K702 k702 => sx_region ?_
  refine mv rfl rfl (sx_call rfl rfl Tryz.call32 (c_iTextNat (by omega)) (fun v703 w703 p703 => ?_))
  obtain ⟨x703, rfl, ox_703, c703⟩ := p703
  have zw703 := c703.size
  refine mv rfl rfl (sp rfl (px_ex2 rfl rfl) ?_)
  refine sp rfl (px_ex2 rfl rfl) ?_
  refine av rfl rfl (av rfl rfl (wl_nil (q_n (k702 _ _ ?_))))
  refine sx_sub (Sub.c 0 rfl (.c 2 rfl (.c 3 rfl (.c 4 rfl (.c 7 rfl (.c 9 rfl (.c 10 rfl .nil))))))) ?_
  refine sx_seq fun K704 k704 => sx_region ?_
  refine mv rfl rfl (mv rfl rfl (sx_call rfl rfl Tryz.call33 (c_signed ox_703.sv (by omega)) (fun v705 w705 p705 => ?_)))
  obtain ⟨rfl, c705⟩ := p705
  have zw705 := c705.size
  refine mv rfl rfl (sp rfl (px_build rfl (xbld27x0x1 rfl _)) ?_)
  refine sx_alloc [.bool false, (.slice none 0 0), .int .i64 0] rfl Tryz.zeroValue27 rfl (fun b706 w707 eb706 sb706 fb706 cb706 => ?_)
  have zw707 := cb706.size
  have f710 := (ox_703.ext c705).ext cb706
  refine sx_store (vs := [.bool (nz false (dg (tnV (whT s)))), x703, .int .i64 0]) rfl rfl fb706 rfl Tryz.sizeOf27 (nbl rfl) (one_cons rfl (one_cons f710.one (o1 rfl))) (fun w708 sw708 fw708 cw708 => ?_)
  have zw708 := cw708.size
  have gw708 : Blk w708 b706 [.bool (nz false (dg (tnV (whT s)))), x703, .int .i64 0] 27 := fw708
  refine wl_nil (q_n (k704 _ _ ?_))
  refine sx_seq fun K711 k711 => ?_
  refine sx_seq fun K712 k712 => sx_region ?_
  refine mv rfl rfl (sp rfl (px_not rfl) ?_)
  refine mv rfl rfl ?_
  refine sx_tmpB (t := 65) rfl (fun h74 => ?_) (fun h74 => ?_)
  ·
   refine sx_guardF rfl rfl rfl rfl rfl rfl ?_
   refine sx_guardF rfl rfl rfl rfl rfl rfl ?_
   refine sx_guardF rfl rfl rfl rfl rfl rfl ?_
   refine sx_guardF rfl rfl rfl rfl rfl rfl ?_
   refine sp rfl (px_pick rfl rfl) ?_
   refine wl_nil (q_n (k712 _ _ ?_))
   refine sx_sub (Sub.c 2 rfl (.c 3 rfl (.c 11 rfl (.c 70 rfl .nil)))) ?_
   refine sx_condT rfl ?_
   refine sx_seq fun K713 k713 => sx_region ?_
   refine sp rfl (px_build rfl (xbld27x  _)) ?_
   have f717 := ((fb2.ext c554).ext c697).ext cwl699
   have f720 := ((f717.ext c703).ext c705).ext cb706
   have f721 := f720.chg cw708 (by omega)
   refine sx_store (vs := [.bool false, (.slice none 0 0), .int .i64 0]) rfl rfl f721 rfl Tryz.sizeOf27 (nbl rfl) (o3 rfl rfl rfl) (fun w714 sw714 fw714 cw714 => ?_)
   have zw714 := cw714.size
   have gw714 : Blk w714 b2 [.bool false, (.slice none 0 0), .int .i64 0] 27 := fw714
   refine av rfl rfl (wl_nil (q_n (k713 _ _ ?_)))
   refine sx_retc ?_
   refine q_r (sx_ret2 Tryz.results6 ⟨_, rfl, gw714.loadA (vs := [.bool false, (.slice none 0 0), .int .i64 0]) (look_lit rfl) Tryz.isAgg27 Tryz.sizeOf27⟩ rfl ?_)
   have hB := rdD_ibad (n := false) huS (hsg.trans (by first | rfl | exact (decide_eq_true h57).symm | exact (decide_eq_false h57).symm)) hsc (by
    rintro ⟨a1, a2, a3, a4⟩
    first
    | exact h74x1 a4
    | exact absurd h74 (by rw [a3]; decide))
   rw [hB]
   have q722 := Chg.step (l := 0) (h := 0) (Chg.zero (l := 0) (h := 0) ((((((cb2.t c554).t c697).t cwl699).t c703).t c705).t cb706)) cw708 (by omega)
   have q723 := Chg.step (l := 0) (h := 0) q722 cw714 (by omega)
   exact ⟨_, rfl, Own.nil _ _ _ _ _, by simp, q723⟩
  refine sx_guardT rfl rfl rfl ?_
  refine sp rfl (px_load rfl (gw708.loadA (vs := [.bool (nz false (dg (tnV (whT s)))), x703, .int .i64 0]) (look_lit rfl) Tryz.isAgg27 Tryz.sizeOf27)) ?_
  refine sx_guardT rfl rfl rfl ?_
  have f724 := hGT.ext cb2
  have f727 := ((f724.ext c554).ext c697).ext cwl699
  have f730 := ((f727.ext c703).ext c705).ext cb706
  have f731 := f730.chg cw708 (by omega)
  have f732 := f710.chg cw708 (by omega)
  refine sx_call rfl rfl Tryz.call7 (c_iDecText f731 f732.sv (by omega)) (fun v733 w733 p733 => ?_)
  obtain ⟨rfl, hsz733, c733⟩ := p733
  have zw733 := c733.size
  refine sx_guardT rfl rfl rfl ?_
  refine mv rfl rfl ?_
  refine sx_guardT rfl rfl rfl ?_
  refine sp rfl (px_neS rfl rfl) ?_
  refine sp rfl (px_pick rfl rfl) ?_
  refine wl_nil (q_n (k712 _ _ ?_))
  refine sx_sub (Sub.c 2 rfl (.c 3 rfl (.c 11 rfl (.c 70 rfl .nil)))) ?_
  refine sx_condP rfl (fun h74x1 => ?_) (fun h74x1 => ?_)
  ·
   refine sx_seq fun K734 k734 => sx_region ?_
   refine sp rfl (px_build rfl (xbld27x  _)) ?_
   have f738 := ((fb2.ext c554).ext c697).ext cwl699
   have f741 := ((f738.ext c703).ext c705).ext cb706
   have f742 := f741.chg cw708 (by omega)
   have f743 := f742.ext c733
   refine sx_store (vs := [.bool false, (.slice none 0 0), .int .i64 0]) rfl rfl f743 rfl Tryz.sizeOf27 (nbl rfl) (o3 rfl rfl rfl) (fun w735 sw735 fw735 cw735 => ?_)
   have zw735 := cw735.size
   have gw735 : Blk w735 b2 [.bool false, (.slice none 0 0), .int .i64 0] 27 := fw735
   refine av rfl rfl (wl_nil (q_n (k734 _ _ ?_)))
   refine sx_retc ?_
   refine q_r (sx_ret2 Tryz.results6 ⟨_, rfl, gw735.loadA (vs := [.bool false, (.slice none 0 0), .int .i64 0]) (look_lit rfl) Tryz.isAgg27 Tryz.sizeOf27⟩ rfl ?_)
   have hB := rdD_ibad (n := false) huS (hsg.trans (by first | rfl | exact (decide_eq_true h57).symm | exact (decide_eq_false h57).symm)) hsc (by
    rintro ⟨a1, a2, a3, a4⟩
    first
    | exact h74x1 a4
    | exact absurd h74 (by rw [a3]; decide))
   rw [hB]
   have q744 := Chg.step (l := 0) (h := 0) (Chg.zero (l := 0) (h := 0) ((((((cb2.t c554).t c697).t cwl699).t c703).t c705).t cb706)) cw708 (by omega)
   have q745 := Chg.step (l := 0) (h := 0) q744 c733 (by omega)
   have q746 := Chg.step (l := 0) (h := 0) q745 cw735 (by omega)
   exact ⟨_, rfl, Own.nil _ _ _ _ _, by simp, q746⟩
  refine sx_skip ?_
  refine q_n (k711 _ _ ?_)
  refine sx_seq fun K747 k747 => sx_region ?_
  have f748 := gw708.ext c733
  refine sp rfl (px_load rfl (f748.loadA (vs := [.bool (nz false (dg (tnV (whT s)))), x703, .int .i64 0]) (look_lit rfl) Tryz.isAgg27 Tryz.sizeOf27)) ?_
  have f752 := ((fb2.ext c554).ext c697).ext cwl699
  have f755 := ((f752.ext c703).ext c705).ext cb706
  have f756 := f755.chg cw708 (by omega)
  have f757 := f756.ext c733
  have f758 := f732.ext c733
  refine sx_store (vs := [.bool (nz false (dg (tnV (whT s)))), x703, .int .i64 0]) rfl rfl f757 rfl Tryz.sizeOf27 (nbl rfl) (one_cons rfl (one_cons f758.one (o1 rfl))) (fun w749 sw749 fw749 cw749 => ?_)
  have zw749 := cw749.size
  have gw749 : Blk w749 b2 [.bool (nz false (dg (tnV (whT s)))), x703, .int .i64 0] 27 := fw749
  refine av rfl rfl (wl_nil (q_n (k747 _ _ ?_)))
  refine sx_retc ?_
  refine sx_ret2 Tryz.results6 ⟨_, rfl, gw749.loadA (vs := [.bool (nz false (dg (tnV (whT s)))), x703, .int .i64 0]) (look_lit rfl) Tryz.isAgg27 Tryz.sizeOf27⟩ rfl ?_
  have hd2 := rdD_igood (s := s) (u := s) (n := false) huS hsc (by simpa using h74) (Decidable.not_not.1 h74x1)
  rw [hd2]
  have q759 := Chg.step (l := 0) (h := 0) (Chg.zero (l := 0) (h := 0) ((((((cb2.t c554).t c697).t cwl699).t c703).t c705).t cb706)) cw708 (by omega)
  have q760 := Chg.step (l := 0) (h := 0) q759 c733 (by omega)
  have q761 := Chg.step (l := 0) (h := 0) q760 cw749 (by omega)
  have f762 := f758.chg cw749 (by omega)
  exact ⟨_, rfl, (Own.mono f762 (by omega) (by omega)), by have := rdD_len s; rw [hd2] at this; exact this, q761⟩
 have ht : t = whT s := strip_doneL hst (by omega)
 subst ht
 have htl := tnV_len (whT s)
 refine sx_guardF rfl rfl rfl rfl rfl rfl ?_
 refine sx_guardF rfl rfl rfl rfl rfl rfl ?_
 refine sx_guardF rfl rfl rfl rfl rfl rfl ?_
 refine sp rfl (px_pick rfl rfl) ?_
 refine wl_nil (q_n (k701 _ _ ?_))
 refine sx_condF rfl ?_
 refine sx_exit ?_
 refine q_e (q_e (q_bx (q_n (k698 _ _ ?_))))
 refine sx_seq fun K763 k763 => sx_region ?_
 refine mv rfl rfl (sx_call rfl rfl Tryz.call32 (c_iTextNat (by omega)) (fun v764 w764 p764 => ?_))
 obtain ⟨x764, rfl, ox_764, c764⟩ := p764
 have zw764 := c764.size
 refine mv rfl rfl (sp rfl (px_ex2 rfl rfl) ?_)
 refine sp rfl (px_ex2 rfl rfl) ?_
 refine av rfl rfl (av rfl rfl (wl_nil (q_n (k763 _ _ ?_))))
 refine sx_sub (Sub.c 0 rfl (.c 2 rfl (.c 3 rfl (.c 4 rfl (.c 7 rfl (.c 9 rfl (.c 10 rfl .nil))))))) ?_
 refine sx_seq fun K765 k765 => sx_region ?_
 refine mv rfl rfl (mv rfl rfl (sx_call rfl rfl Tryz.call33 (c_signed ox_764.sv (by omega)) (fun v766 w766 p766 => ?_)))
 obtain ⟨rfl, c766⟩ := p766
 have zw766 := c766.size
 refine mv rfl rfl (sp rfl (px_build rfl (xbld27x0x1 rfl _)) ?_)
 refine sx_alloc [.bool false, (.slice none 0 0), .int .i64 0] rfl Tryz.zeroValue27 rfl (fun b767 w768 eb767 sb767 fb767 cb767 => ?_)
 have zw768 := cb767.size
 have f771 := (ox_764.ext c766).ext cb767
 refine sx_store (vs := [.bool (nz false (dg (tnV (whT s)))), x764, .int .i64 0]) rfl rfl fb767 rfl Tryz.sizeOf27 (nbl rfl) (one_cons rfl (one_cons f771.one (o1 rfl))) (fun w769 sw769 fw769 cw769 => ?_)
 have zw769 := cw769.size
 have gw769 : Blk w769 b767 [.bool (nz false (dg (tnV (whT s)))), x764, .int .i64 0] 27 := fw769
 refine wl_nil (q_n (k765 _ _ ?_))
 refine sx_seq fun K772 k772 => ?_
 refine sx_seq fun K773 k773 => sx_region ?_
 refine mv rfl rfl (sp rfl (px_not rfl) ?_)
 refine mv rfl rfl ?_
 refine sx_tmpB (t := 65) rfl (fun h74 => ?_) (fun h74 => ?_)
 ·
  refine sx_guardF rfl rfl rfl rfl rfl rfl ?_
  refine sx_guardF rfl rfl rfl rfl rfl rfl ?_
  refine sx_guardF rfl rfl rfl rfl rfl rfl ?_
  refine sx_guardF rfl rfl rfl rfl rfl rfl ?_
  refine sp rfl (px_pick rfl rfl) ?_
  refine wl_nil (q_n (k773 _ _ ?_))
  refine sx_sub (Sub.c 2 rfl (.c 3 rfl (.c 11 rfl (.c 70 rfl .nil)))) ?_
  refine sx_condT rfl ?_
  refine sx_seq fun K774 k774 => sx_region ?_
  refine sp rfl (px_build rfl (xbld27x  _)) ?_
  have f778 := ((fb2.ext c554).ext c697).ext cwl699
  have f781 := ((f778.ext c764).ext c766).ext cb767
  have f782 := f781.chg cw769 (by omega)
  refine sx_store (vs := [.bool false, (.slice none 0 0), .int .i64 0]) rfl rfl f782 rfl Tryz.sizeOf27 (nbl rfl) (o3 rfl rfl rfl) (fun w775 sw775 fw775 cw775 => ?_)
  have zw775 := cw775.size
  have gw775 : Blk w775 b2 [.bool false, (.slice none 0 0), .int .i64 0] 27 := fw775
  refine av rfl rfl (wl_nil (q_n (k774 _ _ ?_)))
  refine sx_retc ?_
  refine q_r (sx_ret2 Tryz.results6 ⟨_, rfl, gw775.loadA (vs := [.bool false, (.slice none 0 0), .int .i64 0]) (look_lit rfl) Tryz.isAgg27 Tryz.sizeOf27⟩ rfl ?_)
  have hB := rdD_ibad (n := false) huS (hsg.trans (by first | rfl | exact (decide_eq_true h57).symm | exact (decide_eq_false h57).symm)) hsc (by
   rintro ⟨a1, a2, a3, a4⟩
   first
   | exact h74x1 a4
   | exact absurd h74 (by rw [a3]; decide))
  rw [hB]
  have q783 := Chg.step (l := 0) (h := 0) (Chg.zero (l := 0) (h := 0) ((((((cb2.t c554).t c697).t cwl699).t c764).t c766).t cb767)) cw769 (by omega)
  have q784 := Chg.step (l := 0) (h := 0) q783 cw775 (by omega)
  exact ⟨_, rfl, Own.nil _ _ _ _ _, by simp, q784⟩
 refine sx_guardT rfl rfl rfl ?_
 refine sp rfl (px_load rfl (gw769.loadA (vs := [.bool (nz false (dg (tnV (whT s)))), x764, .int .i64 0]) (look_lit rfl) Tryz.isAgg27 Tryz.sizeOf27)) ?_
 refine sx_guardT rfl rfl rfl ?_
 have f785 := hGT.ext cb2
 have f788 := ((f785.ext c554).ext c697).ext cwl699
 have f791 := ((f788.ext c764).ext c766).ext cb767
 have f792 := f791.chg cw769 (by omega)
 have f793 := f771.chg cw769 (by omega)
 refine sx_call rfl rfl Tryz.call7 (c_iDecText f792 f793.sv (by omega)) (fun v794 w794 p794 => ?_)
 obtain ⟨rfl, hsz794, c794⟩ := p794
 have zw794 := c794.size
 refine sx_guardT rfl rfl rfl ?_
 refine mv rfl rfl ?_
 refine sx_guardT rfl rfl rfl ?_
 refine sp rfl (px_neS rfl rfl) ?_
 refine sp rfl (px_pick rfl rfl) ?_
 refine wl_nil (q_n (k773 _ _ ?_))
 refine sx_sub (Sub.c 2 rfl (.c 3 rfl (.c 11 rfl (.c 70 rfl .nil)))) ?_
 refine sx_condP rfl (fun h74x1 => ?_) (fun h74x1 => ?_)
 ·
  refine sx_seq fun K795 k795 => sx_region ?_
  refine sp rfl (px_build rfl (xbld27x  _)) ?_
  have f799 := ((fb2.ext c554).ext c697).ext cwl699
  have f802 := ((f799.ext c764).ext c766).ext cb767
  have f803 := f802.chg cw769 (by omega)
  have f804 := f803.ext c794
  refine sx_store (vs := [.bool false, (.slice none 0 0), .int .i64 0]) rfl rfl f804 rfl Tryz.sizeOf27 (nbl rfl) (o3 rfl rfl rfl) (fun w796 sw796 fw796 cw796 => ?_)
  have zw796 := cw796.size
  have gw796 : Blk w796 b2 [.bool false, (.slice none 0 0), .int .i64 0] 27 := fw796
  refine av rfl rfl (wl_nil (q_n (k795 _ _ ?_)))
  refine sx_retc ?_
  refine q_r (sx_ret2 Tryz.results6 ⟨_, rfl, gw796.loadA (vs := [.bool false, (.slice none 0 0), .int .i64 0]) (look_lit rfl) Tryz.isAgg27 Tryz.sizeOf27⟩ rfl ?_)
  have hB := rdD_ibad (n := false) huS (hsg.trans (by first | rfl | exact (decide_eq_true h57).symm | exact (decide_eq_false h57).symm)) hsc (by
   rintro ⟨a1, a2, a3, a4⟩
   first
   | exact h74x1 a4
   | exact absurd h74 (by rw [a3]; decide))
  rw [hB]
  have q805 := Chg.step (l := 0) (h := 0) (Chg.zero (l := 0) (h := 0) ((((((cb2.t c554).t c697).t cwl699).t c764).t c766).t cb767)) cw769 (by omega)
  have q806 := Chg.step (l := 0) (h := 0) q805 c794 (by omega)
  have q807 := Chg.step (l := 0) (h := 0) q806 cw796 (by omega)
  exact ⟨_, rfl, Own.nil _ _ _ _ _, by simp, q807⟩
 refine sx_skip ?_
 refine q_n (k772 _ _ ?_)
 refine sx_seq fun K808 k808 => sx_region ?_
 have f809 := gw769.ext c794
 refine sp rfl (px_load rfl (f809.loadA (vs := [.bool (nz false (dg (tnV (whT s)))), x764, .int .i64 0]) (look_lit rfl) Tryz.isAgg27 Tryz.sizeOf27)) ?_
 have f813 := ((fb2.ext c554).ext c697).ext cwl699
 have f816 := ((f813.ext c764).ext c766).ext cb767
 have f817 := f816.chg cw769 (by omega)
 have f818 := f817.ext c794
 have f819 := f793.ext c794
 refine sx_store (vs := [.bool (nz false (dg (tnV (whT s)))), x764, .int .i64 0]) rfl rfl f818 rfl Tryz.sizeOf27 (nbl rfl) (one_cons rfl (one_cons f819.one (o1 rfl))) (fun w810 sw810 fw810 cw810 => ?_)
 have zw810 := cw810.size
 have gw810 : Blk w810 b2 [.bool (nz false (dg (tnV (whT s)))), x764, .int .i64 0] 27 := fw810
 refine av rfl rfl (wl_nil (q_n (k808 _ _ ?_)))
 refine sx_retc ?_
 refine sx_ret2 Tryz.results6 ⟨_, rfl, gw810.loadA (vs := [.bool (nz false (dg (tnV (whT s)))), x764, .int .i64 0]) (look_lit rfl) Tryz.isAgg27 Tryz.sizeOf27⟩ rfl ?_
 have hd2 := rdD_igood (s := s) (u := s) (n := false) huS hsc (by simpa using h74) (Decidable.not_not.1 h74x1)
 rw [hd2]
 have q820 := Chg.step (l := 0) (h := 0) (Chg.zero (l := 0) (h := 0) ((((((cb2.t c554).t c697).t cwl699).t c764).t c766).t cb767)) cw769 (by omega)
 have q821 := Chg.step (l := 0) (h := 0) q820 c794 (by omega)
 have q822 := Chg.step (l := 0) (h := 0) q821 cw810 (by omega)
 have f823 := f819.chg cw810 (by omega)
 exact ⟨_, rfl, (Own.mono f823 (by omega) (by omega)), by have := rdD_len s; rw [hd2] at this; exact this, q822⟩

theorem c_iTextDecX {w : World} {s : ByteArray} (hGT : GlobP w) (hs : s.size ≤ 1048576) :
  Ret Tryz.prog 6 [.string s] w fun v w' => ∃ x, v = .tuple #[.agg #[.bool (ng (rdX s)), x, .int .i64 (rdP s)], .bool (rdK s)] ∧ OwnI w' w.heap.size w'.heap.size x intT (dg (rdX s).natAbs) ∧ ((dg (rdX s).natAbs).length ≤ 6) ∧ Chg 0 0 w w' := by
 have h := c_iTextDec hGT hs
 rw [(rdD_int s).1, (rdD_int s).2] at h
 exact h

theorem c_iTextDecD {w : World} {x : Int} {p : Int} (hGT : GlobP w) (hD : DOk (ng x) (dg x.natAbs) p) :
  Ret Tryz.prog 6 [.string (decT (ng x) (dg x.natAbs) p)] w fun v w' => ∃ s, v = .tuple #[.agg #[.bool (ng (x)), s, .int .i64 (p)], .bool (true)] ∧ OwnI w' w.heap.size w'.heap.size s intT (dg (x).natAbs) ∧ Chg 0 0 w w' := by
 have hs := decT_sz hD
 have h := c_iTextDec (s := decT (ng x) (dg x.natAbs) p) hGT (by omega); rw [rdD_yes hD rfl] at h
 exact Calls.mono h fun ev w' ⟨v, he, s, e1, o1, _, hc⟩ => ⟨v, he, s, e1, o1, hc⟩

end Go.Proofs.YtoeclobdbblohaaGreatDoor
