/- Contracts of functions of the program: what each call returns, and that it changes nothing that was. Conditions: as each says. -/
import Derived.Test.YtcghgfmickgnkaaDoorTy
import Derived.Test.YtcghgfmickgnkaaDoorNatO
import Derived.Test.YtcghgfmickgnkaaDoorNatL
import Derived.Test.YtcghgfmickgnkaaDoorSxD
import Derived.Test.YtcghgfmickgnkaaDoorPair
import Derived.Test.YtcghgfmickgnkaaDoorK0
set_option linter.unusedVariables false
set_option linter.unusedSimpArgs false
namespace Go.Proofs.YtcghgfmickgnkaaDoor
open Go Go.RowKit
set_option maxRecDepth 100000
theorem c_iRatesOk {w : World} {pv : ByteArray} {vt : Value} {lvt uvt : Nat} {ts : List Rt} {vvt : List Value} (hG0 : Glob w) (hvt : RtS w lvt uvt vt ts vvt) (h63 : ts.length ≤ 4611686018427387904) (hz : ∀ i, i < ts.length → (ts.getD i rt0).2.2.2.1.length ≤ 4611686018427387904) :
  Ret Tryd.prog 25 [.agg #[.string pv, vt]] w fun v w' => v = .bool (decide (RsOk pv ts)) ∧ Chg 0 0 w w' := by
 have hvt0 := hvt.fit
 refine sx_enter Tryd.func25 rfl Tryd.ntmps25 (Nat.le_of_ble_eq_true rfl) ?_
 refine sx_seq fun K1 k1 => sx_region ?_
 refine sx_box [.string pv, vt] rfl rfl rfl (fun b2 w3 eb2 sb2 fb2 cb2 => ?_)
 have zw3 := cb2.size
 refine sa rfl rfl rfl rfl ?_
 refine wl_nil (q_n (k1 _ _ ?_))
 refine sx_seq fun K4 k4 => ?_
 refine sx_seq fun K5 k5 => sx_region ?_
 refine sx_pure rfl rfl rfl (px_field rfl xfld30x0) ?_
 refine sx_pure rfl rfl rfl (px_load rfl (fb2.load1 rfl Tryd.isAgg9)) ?_
 have f6 := hG0.ext cb2
 refine sx_call rfl rfl Tryd.call26 (c_iCurKnown f6) (fun v7 w7 p7 => ?_)
 obtain ⟨rfl, c7⟩ := p7
 have zw7 := c7.size
 refine sx_pure rfl rfl rfl (px_notP rfl) ?_
 refine sm rfl rfl rfl rfl ?_
 refine sx_tmpP (t := 11) rfl (fun h41 => ?_) (fun h41 => ?_)
 ·
  refine sx_guardF rfl rfl rfl rfl rfl rfl ?_
  refine sx_guardF rfl rfl rfl rfl rfl rfl ?_
  refine sx_guardF rfl rfl rfl rfl rfl rfl ?_
  refine sx_guardF rfl rfl rfl rfl rfl rfl ?_
  refine sx_pure rfl rfl rfl (px_pick rfl rfl) ?_
  refine wl_nil (q_n (k5 _ _ ?_))
  refine sx_condT rfl ?_
  refine sx_seq fun K8 k8 => sx_region ?_
  refine sa rfl rfl rfl rfl ?_
  refine wl_nil (q_n (k8 _ _ ?_))
  refine sx_retc ?_
  refine q_r (sx_ret1 Tryd.results25 rfl ?_)
  exact ⟨bFalse (fun h => by first | exact absurd h.1 (by assumption) | (have := h.2.1; omega)), (cb2.t c7)⟩
 ·
  refine sx_guardT rfl rfl rfl ?_
  refine sx_pure rfl rfl rfl (px_field rfl xfld30x1) ?_
  refine sx_guardT rfl rfl rfl ?_
  have f9 := fb2.ext c7
  refine sx_pure rfl rfl rfl (px_load rfl (f9.load1 rfl Tryd.isAgg28)) ?_
  refine sx_guardT rfl rfl rfl ?_
  have f10 := hvt0.ext cb2
  have f11 := f10.ext c7
  refine sx_pure rfl rfl rfl (px_len rfl Tryd.underlying28 f11.sv) ?_
  refine sx_guardT rfl rfl rfl ?_
  refine sx_pure rfl rfl rfl (px_gt rfl rfl) ?_
  refine sx_pure rfl rfl rfl (px_pick rfl rfl) ?_
  refine wl_nil (q_n (k5 _ _ ?_))
  refine sx_condP rfl (fun h41x1 => ?_) (fun h41x1 => ?_)
  ·
   refine sx_seq fun K12 k12 => sx_region ?_
   refine sa rfl rfl rfl rfl ?_
   refine wl_nil (q_n (k12 _ _ ?_))
   refine sx_retc ?_
   refine q_r (sx_ret1 Tryd.results25 rfl ?_)
   exact ⟨bFalse (fun h => by first | exact absurd h.1 (by assumption) | (have := h.2.1; omega)), (cb2.t c7)⟩
  ·
   refine sx_skip ?_
   refine q_n (k4 _ _ ?_)
   refine sx_seq fun K13 k13 => sx_region ?_
   refine sx_makeMap rfl (fun b14 w15 eb14 sb14 fb14 cb14 => ?_)
   have zw15 := cb14.size
   refine sa rfl rfl rfl rfl ?_
   refine wl_nil (q_n (k13 _ _ ?_))
   refine sx_sub (Sub.cons (t := 1) rfl (.cons (t := 2) rfl (.cons (t := 3) rfl (.nil)))) ?_
   refine sx_seq fun K16 k16 => ?_
   refine sx_seq fun K17 k17 => sx_region ?_
   refine sx_pure rfl rfl rfl (px_field rfl xfld30x1) ?_
   have f18 := f9.ext cb14
   refine sx_pure rfl rfl rfl (px_load rfl (f18.load1 rfl Tryd.isAgg28)) ?_
   have f19 := f11.ext cb14
   refine sx_pure rfl rfl rfl (px_len rfl Tryd.underlying28 f19.sv) ?_
   refine sm rfl rfl rfl rfl ?_
   refine wl_nil (q_n (k17 _ _ ?_))
   refine sx_block ?_
   refine sx_loop (fun mm aa w' => ∃ (k : Nat), Agr 41 [(3, .map (some b14)), (19, vt), (20, .int .i64 (↑(ts).length)), (21, .int .i64 ↑k)] aa ∧ Chg b14 (b14 + 1) w15 w' ∧ Mp w' b14 (keysTo ts k) ∧ (mm = ts.length - k) ∧ (k ≤ ts.length) ∧ (AllTo ts k)) (_) (fun a ha => ⟨0, ha.sub (Sub.cons (t := 3) rfl (.cons (t := 19) rfl (.cons (t := 20) (look_int (t := 20) rfl (by first | omega | simp)) (.cons (t := 21) (look_int (t := 21) rfl (by first | omega | simp)) (.nil))))), Chg.refl _ _ _, (by rw [show keysTo ts 0 = [] by simp [keysTo]]; exact fb14), rfl, by omega, AllTo_zero ts⟩) ?_
   rintro mm aa wl20 ⟨k, hAwl20, cwl20, hs_Mb14, hm, hk, hall⟩
   refine (show cw Tryd.prog 41 _ _ _ wl20 from ?_) aa hAwl20
   clear hAwl20
   have zwl20 := cwl20.size
   refine sx_seq fun K21 k21 => sx_region ?_
   refine sx_pure rfl rfl rfl (px_lt rfl rfl) ?_
   refine wl_nil (q_n (k21 _ _ ?_))
   refine sx_seq fun K22 k22 => ?_
   refine sx_condP rfl (fun h45 => ?_) (fun h45 => ?_)
   ·
    refine sx_skip ?_
    refine q_n (k22 _ _ ?_)
    refine sx_seq fun K23 k23 => ?_
    refine sx_block ?_
    refine sx_seq fun K24 k24 => sx_region ?_
    have f25 := f19.chg cwl20 (by omega)
    refine sx_pure rfl rfl rfl (px_indexK (j := k) rfl rfl (by omega) Tryd.underlying28 Tryd.sizeOf57 f25.sv (by omega)) ?_
    refine sx_pure rfl rfl rfl (px_load rfl (f25.sv.loadA (rt_look f25.len (by omega)) Tryd.isAgg57 Tryd.sizeOf57)) ?_
    refine sx_alloc [.string (⟨#[]⟩), .string (⟨#[]⟩), .bool false, (.slice none 0 0), .int .i64 0] rfl Tryd.zeroValue57 rfl (fun b26 w27 eb26 sb26 fb26 cb26 => ?_)
    have zw27 := cb26.size
    have f29 := (f25.nest k (by omega)).ext cb26
    refine sx_store (vs := [.string ((ts.getD k rt0).1), .string ((ts.getD k rt0).2.1), .bool ((ts.getD k rt0).2.2.1), (vvt.getD k vz), .int .i64 ((ts.getD k rt0).2.2.2.2)]) rfl rfl fb26 rfl Tryd.sizeOf57 (Nat.le_of_ble_eq_true rfl) (one_cons rfl (one_cons rfl (one_cons rfl (one_cons f29.one (one_cons rfl one_nil))))) (fun w28 sw28 fw28 cw28 => ?_)
    have zw28 := cw28.size
    have gw28 : Blk w28 b26 [.string ((ts.getD k rt0).1), .string ((ts.getD k rt0).2.1), .bool ((ts.getD k rt0).2.2.1), (vvt.getD k vz), .int .i64 ((ts.getD k rt0).2.2.2.2)] 57 := fw28
    refine wl_nil (q_n (k24 _ _ ?_))
    refine sx_seq fun K30 k30 => sx_region ?_
    refine sx_pure rfl rfl rfl (px_field rfl xfld57x0) ?_
    refine sx_pure rfl rfl rfl (px_load rfl (gw28.load1 rfl Tryd.isAgg9)) ?_
    refine sx_pure rfl rfl rfl (px_field rfl xfld57x1) ?_
    refine sx_pure rfl rfl rfl (px_load rfl (gw28.load1 rfl Tryd.isAgg9)) ?_
    refine sx_pure rfl rfl rfl (px_build rfl (xbld72x0x1 rfl rfl _)) ?_
    refine sx_alloc [.string (⟨#[]⟩), .string (⟨#[]⟩)] rfl Tryd.zeroValue72 rfl (fun b31 w32 eb31 sb31 fb31 cb31 => ?_)
    have zw32 := cb31.size
    refine sx_store (vs := [.string ((ts.getD k rt0).1), .string ((ts.getD k rt0).2.1)]) rfl rfl fb31 rfl Tryd.sizeOf72 (Nat.le_of_ble_eq_true rfl) (one_cons rfl (one_cons rfl one_nil)) (fun w33 sw33 fw33 cw33 => ?_)
    have zw33 := cw33.size
    have gw33 : Blk w33 b31 [.string ((ts.getD k rt0).1), .string ((ts.getD k rt0).2.1)] 72 := fw33
    refine wl_nil (q_n (k30 _ _ ?_))
    refine sx_seq fun K34 k34 => ?_
    refine sx_seq fun K35 k35 => sx_region ?_
    have f36 := gw28.ext cb31
    have f37 := f36.chg cw33 (by omega)
    refine sx_pure rfl rfl rfl (px_load rfl (f37.loadA (vs := [.string ((ts.getD k rt0).1), .string ((ts.getD k rt0).2.1), .bool ((ts.getD k rt0).2.2.1), (vvt.getD k vz), .int .i64 ((ts.getD k rt0).2.2.2.2)]) (look_lit rfl) Tryd.isAgg57 Tryd.sizeOf57)) ?_
    have f38 := f6.ext c7
    have f39 := f38.ext cb14
    have f40 := f39.chg cwl20 (by omega)
    have f41 := f40.ext cb26
    have f42 := f41.chg cw28 (by omega)
    have f43 := f42.ext cb31
    have f44 := f43.chg cw33 (by omega)
    have f45 := f29.chg cw28 (by omega)
    have f46 := f45.ext cb31
    have f47 := f46.chg cw33 (by omega)
    refine sx_call rfl rfl Tryd.call35 (c_iRateOk f44 f47 (hz k (by omega))) (fun v48 w48 p48 => ?_)
    obtain ⟨rfl, c48⟩ := p48
    have zw48 := c48.size
    refine sx_pure rfl rfl rfl (px_notP rfl) ?_
    refine sm rfl rfl rfl rfl ?_
    refine sx_tmpP (t := 33) rfl (fun h47 => ?_) (fun h47 => ?_)
    ·
     refine sx_guardF rfl rfl rfl rfl rfl rfl ?_
     refine sx_guardF rfl rfl rfl rfl rfl rfl ?_
     refine sx_guardF rfl rfl rfl rfl rfl rfl ?_
     refine sx_pure rfl rfl rfl (px_pick rfl rfl) ?_
     refine wl_nil (q_n (k35 _ _ ?_))
     refine sx_sub (Sub.cons (t := 3) rfl (.cons (t := 6) rfl (.cons (t := 19) rfl (.cons (t := 20) rfl (.cons (t := 21) rfl (.cons (t := 37) rfl (.nil))))))) ?_
     refine sx_condT rfl ?_
     refine sx_seq fun K49 k49 => sx_region ?_
     refine sa rfl rfl rfl rfl ?_
     refine wl_nil (q_n (k49 _ _ ?_))
     refine sx_retc ?_
     refine q_r (q_br (q_r (q_r (q_br (q_r (sx_ret1 Tryd.results25 rfl ?_))))))
     have q50 := Chg.step (l := 0) (h := 0) (Chg.zero (l := 0) (h := 0) ((cb2.t c7).t cb14)) cwl20 (by omega)
     have q51 := Chg.step (l := 0) (h := 0) q50 cb26 (by omega)
     have q52 := Chg.step (l := 0) (h := 0) q51 cw28 (by omega)
     have q53 := Chg.step (l := 0) (h := 0) q52 cb31 (by omega)
     have q54 := Chg.step (l := 0) (h := 0) q53 cw33 (by omega)
     have q55 := Chg.step (l := 0) (h := 0) q54 c48 (by omega)
     exact ⟨(by first | exact bFalse (rsok_no_rate (k := k) (by omega) h47) | exact bFalse (rsok_no_key (k := k) (by omega) (fun hh => by obtain ⟨i, hi, hs⟩ := (mem_keysTo (by omega)).1 h47x1; exact hh i hi hs))), q55⟩
    ·
     refine sx_guardT rfl rfl rfl ?_
     refine sm rfl rfl rfl rfl ?_
     refine sx_guardT rfl rfl rfl ?_
     have f56 := gw33.ext c48
     refine sx_pure rfl rfl rfl (px_load rfl (f56.loadA (vs := [.string ((ts.getD k rt0).1), .string ((ts.getD k rt0).2.1)]) (look_lit rfl) Tryd.isAgg72 Tryd.sizeOf72)) ?_
     refine sx_guardT rfl rfl rfl ?_
     have f57 := hs_Mb14.ext cb26
     have f58 := f57.chg cw28 (by omega)
     have f59 := f58.ext cb31
     have f60 := f59.chg cw33 (by omega)
     have f61 := f60.ext c48
     refine sx_pure rfl rfl rfl (px_lookupM rfl rfl Tryd.underlying70 xpair72 Tryd.zeroValue4 f61) ?_
     refine sx_pure rfl rfl rfl (px_pick rfl rfl) ?_
     refine wl_nil (q_n (k35 _ _ ?_))
     refine sx_sub (Sub.cons (t := 3) rfl (.cons (t := 6) rfl (.cons (t := 19) rfl (.cons (t := 20) rfl (.cons (t := 21) rfl (.cons (t := 37) rfl (.nil))))))) ?_
     refine sx_condP rfl (fun h47x1 => ?_) (fun h47x1 => ?_)
     ·
      refine sx_seq fun K62 k62 => sx_region ?_
      refine sa rfl rfl rfl rfl ?_
      refine wl_nil (q_n (k62 _ _ ?_))
      refine sx_retc ?_
      refine q_r (q_br (q_r (q_r (q_br (q_r (sx_ret1 Tryd.results25 rfl ?_))))))
      have q63 := Chg.step (l := 0) (h := 0) (Chg.zero (l := 0) (h := 0) ((cb2.t c7).t cb14)) cwl20 (by omega)
      have q64 := Chg.step (l := 0) (h := 0) q63 cb26 (by omega)
      have q65 := Chg.step (l := 0) (h := 0) q64 cw28 (by omega)
      have q66 := Chg.step (l := 0) (h := 0) q65 cb31 (by omega)
      have q67 := Chg.step (l := 0) (h := 0) q66 cw33 (by omega)
      have q68 := Chg.step (l := 0) (h := 0) q67 c48 (by omega)
      exact ⟨(by first | exact bFalse (rsok_no_rate (k := k) (by omega) h47) | exact bFalse (rsok_no_key (k := k) (by omega) (fun hh => by obtain ⟨i, hi, hs⟩ := (mem_keysTo (by omega)).1 h47x1; exact hh i hi hs))), q68⟩
     ·
      refine sx_skip ?_
      refine q_n (k34 _ _ ?_)
      refine sx_region ?_
      refine sm rfl rfl rfl rfl ?_
      refine sx_pure rfl rfl rfl (px_load rfl (f56.loadA (vs := [.string ((ts.getD k rt0).1), .string ((ts.getD k rt0).2.1)]) (look_lit rfl) Tryd.isAgg72 Tryd.sizeOf72)) ?_
      refine sx_mapUpdateM rfl rfl rfl Tryd.underlying70 xpair72 f61 (by assumption) (fun w69 sw69 fw69 cw69 => ?_)
      have zw69 := cw69.size
      refine wl_nil ?_
      refine q_bn (q_n (k23 _ _ ?_))
      refine sx_region ?_
      refine sx_pure rfl rfl rfl (px_add rfl rfl (by omega)) ?_
      refine sm rfl rfl rfl rfl ?_
      refine wl_nil ?_
      have q70 := Chg.step (l := b14) (h := (b14 + 1)) cwl20 cb26 (by omega)
      have q71 := Chg.step (l := b14) (h := (b14 + 1)) q70 cw28 (by omega)
      have q72 := Chg.step (l := b14) (h := (b14 + 1)) q71 cb31 (by omega)
      have q73 := Chg.step (l := b14) (h := (b14 + 1)) q72 cw33 (by omega)
      have q74 := Chg.step (l := b14) (h := (b14 + 1)) q73 c48 (by omega)
      have q75 := Chg.step (l := b14) (h := (b14 + 1)) q74 cw69 (by omega)
      exact fun a ha => ⟨_, by omega, (k + 1), ha.sub (Sub.cons (t := 3) rfl (.cons (t := 19) rfl (.cons (t := 20) rfl (.cons (t := 21) (look_int (t := 21) rfl (by first | omega | simp)) (.nil))))), q75, (by rw [keysTo_succ (by omega)]; exact fw69), rfl, by omega, AllTo_succ hall (Decidable.not_not.1 h47) (fun i hi hs => h47x1 ((mem_keysTo (by omega)).2 ⟨i, hi, hs⟩))⟩
   ·
    refine sx_exit ?_
    refine q_e (q_e (q_bx (q_n (k16 _ _ ?_))))
    refine sx_seq fun K76 k76 => sx_region ?_
    refine sa rfl rfl rfl rfl ?_
    refine wl_nil (q_n (k76 _ _ ?_))
    refine sx_retc ?_
    refine sx_ret1 Tryd.results25 rfl ?_
    have ek : k = ts.length := by omega
    subst ek
    have q77 := Chg.step (l := 0) (h := 0) (Chg.zero (l := 0) (h := 0) ((cb2.t c7).t cb14)) cwl20 (by omega)
    exact ⟨bTrue ⟨Decidable.not_not.1 h41, by omega, hall⟩, q77⟩

theorem c_listed {w : World} {pv : ByteArray} {vt : Value} {lvt uvt : Nat} {ts : List Rt} {vvt : List Value} {a : ByteArray} {b : ByteArray} (hvt : RtS w lvt uvt vt ts vvt) (h63 : ts.length ≤ 4611686018427387904) :
  Ret Tryd.prog 37 [.agg #[.string pv, vt], .agg #[.string a, .string b]] w fun v w' => ∃ s, v = .tuple #[.agg #[.bool ((lst ts a b).1), s, .int .i64 ((lst ts a b).2.2.1)], .bool ((lst ts a b).2.2.2)] ∧ Sl w' (lvt) (w.heap.size) s ((lst ts a b).2.1) ∧ Chg 0 0 w w' := by
 have hvt0 := hvt.fit
 refine sx_enter Tryd.func37 rfl Tryd.ntmps37 (Nat.le_of_ble_eq_true rfl) ?_
 refine sx_seq fun K1 k1 => sx_region ?_
 refine sx_box [.string pv, vt] rfl rfl rfl (fun b2 w3 eb2 sb2 fb2 cb2 => ?_)
 have zw3 := cb2.size
 refine sx_box [.string a, .string b] rfl rfl rfl (fun b4 w5 eb4 sb4 fb4 cb4 => ?_)
 have zw5 := cb4.size
 refine sx_alloc [.bool false, (.slice none 0 0), .int .i64 0] rfl Tryd.zeroValue55 rfl (fun b6 w7 eb6 sb6 fb6 cb6 => ?_)
 have zw7 := cb6.size
 refine sa rfl rfl rfl rfl ?_
 refine wl_nil (q_n (k1 _ _ ?_))
 refine sx_seq fun K8 k8 => ?_
 refine sx_seq fun K9 k9 => sx_region ?_
 refine sx_pure rfl rfl rfl (px_field rfl xfld30x1) ?_
 have f10 := fb2.ext cb4
 have f11 := f10.ext cb6
 refine sx_pure rfl rfl rfl (px_load rfl (f11.load1 rfl Tryd.isAgg28)) ?_
 have f12 := hvt0.ext cb2
 have f13 := f12.ext cb4
 have f14 := f13.ext cb6
 refine sx_pure rfl rfl rfl (px_len rfl Tryd.underlying28 f14.sv) ?_
 refine sm rfl rfl rfl rfl ?_
 refine wl_nil (q_n (k9 _ _ ?_))
 refine sx_block ?_
 have f16 := fb4.ext cb6
 refine sx_loop (fun mm aa w' => ∃ (k : Nat), Agr 26 [(3, .pointer (some ⟨b4, 0, none⟩)), (4, .pointer (some ⟨b6, 0, none⟩)), (9, vt), (10, .int .i64 (↑(ts).length)), (11, .int .i64 ↑k)] aa ∧ Chg 0 0 w7 w' ∧ Blk w' b4 [.string a, .string b] 72 ∧ Blk w' b6 [.bool false, (.slice none 0 0), .int .i64 0] 55 ∧ (mm = ts.length - k) ∧ (k ≤ ts.length) ∧ (∀ i, i < k → ¬ ((ts.getD i rt0).1 = a ∧ (ts.getD i rt0).2.1 = b))) (_) (fun a ha => ⟨0, ha.sub (Sub.cons (t := 3) rfl (.cons (t := 4) rfl (.cons (t := 9) rfl (.cons (t := 10) (look_int (t := 10) rfl (by first | omega | simp)) (.cons (t := 11) (look_int (t := 11) rfl (by first | omega | simp)) (.nil)))))), Chg.refl _ _ _, f16, fb6, rfl, by omega, fun i hi => by omega⟩) ?_
 rintro mm aa wl15 ⟨k, hAwl15, cwl15, hb_b4, hb_b6, hm, hk, hn⟩
 refine (show cw Tryd.prog 26 _ _ _ wl15 from ?_) aa hAwl15
 clear hAwl15
 have zwl15 := cwl15.size
 refine sx_seq fun K17 k17 => sx_region ?_
 refine sx_pure rfl rfl rfl (px_lt rfl rfl) ?_
 refine wl_nil (q_n (k17 _ _ ?_))
 refine sx_seq fun K18 k18 => ?_
 refine sx_condP rfl (fun h69 => ?_) (fun h69 => ?_)
 ·
  refine sx_skip ?_
  refine q_n (k18 _ _ ?_)
  refine sx_seq fun K19 k19 => ?_
  refine sx_block ?_
  refine sx_seq fun K20 k20 => sx_region ?_
  have f21 := f14.ext cwl15
  refine sx_pure rfl rfl rfl (px_indexK (j := k) rfl rfl (by omega) Tryd.underlying28 Tryd.sizeOf57 f21.sv (by omega)) ?_
  refine sx_pure rfl rfl rfl (px_load rfl (f21.sv.loadA (rt_look f21.len (by omega)) Tryd.isAgg57 Tryd.sizeOf57)) ?_
  refine sx_alloc [.string (⟨#[]⟩), .string (⟨#[]⟩), .bool false, (.slice none 0 0), .int .i64 0] rfl Tryd.zeroValue57 rfl (fun b22 w23 eb22 sb22 fb22 cb22 => ?_)
  have zw23 := cb22.size
  have f25 := (f21.nest k (by omega)).ext cb22
  refine sx_store (vs := [.string ((ts.getD k rt0).1), .string ((ts.getD k rt0).2.1), .bool ((ts.getD k rt0).2.2.1), (vvt.getD k vz), .int .i64 ((ts.getD k rt0).2.2.2.2)]) rfl rfl fb22 rfl Tryd.sizeOf57 (Nat.le_of_ble_eq_true rfl) (one_cons rfl (one_cons rfl (one_cons rfl (one_cons f25.one (one_cons rfl one_nil))))) (fun w24 sw24 fw24 cw24 => ?_)
  have zw24 := cw24.size
  have gw24 : Blk w24 b22 [.string ((ts.getD k rt0).1), .string ((ts.getD k rt0).2.1), .bool ((ts.getD k rt0).2.2.1), (vvt.getD k vz), .int .i64 ((ts.getD k rt0).2.2.2.2)] 57 := fw24
  refine wl_nil (q_n (k20 _ _ ?_))
  refine sx_seq fun K26 k26 => sx_region ?_
  refine sx_pure rfl rfl rfl (px_field rfl xfld57x0) ?_
  refine sx_pure rfl rfl rfl (px_load rfl (gw24.load1 rfl Tryd.isAgg9)) ?_
  refine sx_pure rfl rfl rfl (px_field rfl xfld57x1) ?_
  refine sx_pure rfl rfl rfl (px_load rfl (gw24.load1 rfl Tryd.isAgg9)) ?_
  refine sx_pure rfl rfl rfl (px_build rfl (xbld72x0x1 rfl rfl _)) ?_
  have f27 := hb_b4.ext cb22
  have f28 := f27.chg cw24 (by omega)
  refine sx_pure rfl rfl rfl (px_load rfl (f28.loadA (vs := [.string a, .string b]) (look_lit rfl) Tryd.isAgg72 Tryd.sizeOf72)) ?_
  refine sx_pure rfl rfl rfl (px_eqPair rfl rfl xpair72) ?_
  refine wl_nil (q_n (k26 _ _ ?_))
  refine sx_sub (Sub.cons (t := 3) rfl (.cons (t := 4) rfl (.cons (t := 7) rfl (.cons (t := 9) rfl (.cons (t := 10) rfl (.cons (t := 11) rfl (.cons (t := 21) rfl (.nil)))))))) ?_
  refine sx_condP rfl (fun h70 => ?_) (fun h70 => ?_)
  ·
   refine sx_seq fun K29 k29 => sx_region ?_
   refine sx_pure rfl rfl rfl (px_field rfl xfld57x2) ?_
   refine sx_pure rfl rfl rfl (px_load rfl (gw24.loadA (vs := [.bool ((ts.getD k rt0).2.2.1), (vvt.getD k vz), .int .i64 ((ts.getD k rt0).2.2.2.2)]) (look_lit rfl) Tryd.isAgg55 Tryd.sizeOf55)) ?_
   have f31 := hb_b6.ext cb22
   have f32 := f31.chg cw24 (by omega)
   have f33 := f25.chg cw24 (by omega)
   refine sx_store (vs := [.bool ((ts.getD k rt0).2.2.1), (vvt.getD k vz), .int .i64 ((ts.getD k rt0).2.2.2.2)]) rfl rfl f32 rfl Tryd.sizeOf55 (Nat.le_of_ble_eq_true rfl) (one_cons rfl (one_cons f33.one (one_cons rfl one_nil))) (fun w30 sw30 fw30 cw30 => ?_)
   have zw30 := cw30.size
   have gw30 : Blk w30 b6 [.bool ((ts.getD k rt0).2.2.1), (vvt.getD k vz), .int .i64 ((ts.getD k rt0).2.2.2.2)] 55 := fw30
   refine sa rfl rfl rfl rfl ?_
   refine wl_nil (q_n (k29 _ _ ?_))
   refine sx_retc ?_
   refine q_br (q_r (q_r (q_br (q_r (sx_ret2 Tryd.results37 ⟨_, rfl, gw30.loadA (vs := [.bool ((ts.getD k rt0).2.2.1), (vvt.getD k vz), .int .i64 ((ts.getD k rt0).2.2.2.2)]) (look_lit rfl) Tryd.isAgg55 Tryd.sizeOf55⟩ rfl ?_)))))
   rw [lst_some (by omega) hn h70]
   have q34 := Chg.step (l := 0) (h := 0) (Chg.zero (l := 0) (h := 0) ((((cb2.t cb4).t cb6).t cwl15).t cb22)) cw24 (by omega)
   have q35 := Chg.step (l := 0) (h := 0) q34 cw30 (by omega)
   have f36 := f33.chg cw30 (by omega)
   exact ⟨_, rfl, (Sv.mono f36 (by omega) (by omega)), q35⟩
  ·
   refine sx_skip ?_
   refine q_bn (q_n (k19 _ _ ?_))
   refine sx_region ?_
   refine sx_pure rfl rfl rfl (px_add rfl rfl (by omega)) ?_
   refine sm rfl rfl rfl rfl ?_
   refine wl_nil ?_
   have q37 := Chg.step (l := 0) (h := 0) (Chg.zero (l := 0) (h := 0) (cwl15.t cb22)) cw24 (by omega)
   have f38 := hb_b6.ext cb22
   have f39 := f38.chg cw24 (by omega)
   exact fun a ha => ⟨_, by omega, (k + 1), ha.sub (Sub.cons (t := 3) rfl (.cons (t := 4) rfl (.cons (t := 9) rfl (.cons (t := 10) rfl (.cons (t := 11) (look_int (t := 11) rfl (by first | omega | simp)) (.nil)))))), q37, f28, f39, rfl, by omega, upto_next hn h70⟩
 ·
  refine sx_exit ?_
  refine q_e (q_e (q_bx (q_n (k8 _ _ ?_))))
  refine sx_seq fun K40 k40 => sx_region ?_
  refine sx_pure rfl rfl rfl (px_build rfl (xbld55x  _)) ?_
  refine sx_store (vs := [.bool false, (.slice none 0 0), .int .i64 0]) rfl rfl hb_b6 rfl Tryd.sizeOf55 (Nat.le_of_ble_eq_true rfl) (one_cons rfl (one_cons rfl (one_cons rfl one_nil))) (fun w41 sw41 fw41 cw41 => ?_)
  have zw41 := cw41.size
  have gw41 : Blk w41 b6 [.bool false, (.slice none 0 0), .int .i64 0] 55 := fw41
  refine sa rfl rfl rfl rfl ?_
  refine wl_nil (q_n (k40 _ _ ?_))
  refine sx_retc ?_
  refine sx_ret2 Tryd.results37 ⟨_, rfl, gw41.loadA (vs := [.bool false, (.slice none 0 0), .int .i64 0]) (look_lit rfl) Tryd.isAgg55 Tryd.sizeOf55⟩ rfl ?_
  rw [lst_none (fun i hi => hn i (by omega))]
  have q42 := Chg.step (l := 0) (h := 0) (Chg.zero (l := 0) (h := 0) (((cb2.t cb4).t cb6).t cwl15)) cw41 (by omega)
  exact ⟨_, rfl, Sv.nil _ _ _ _, q42⟩

theorem c_simple {w : World} {pv : ByteArray} {vt : Value} {lvt uvt : Nat} {ts : List Rt} {vvt : List Value} {a : ByteArray} {b : ByteArray} (hvt : RtS w lvt uvt vt ts vvt) (h63 : ts.length ≤ 4611686018427387904) :
  Ret Tryd.prog 27 [.agg #[.string pv, vt], .string a, .string b] w fun v w' => v = .int .i64 (leg ts a b) ∧ Chg 0 0 w w' := by
 have hvt0 := hvt.fit
 refine sx_enter Tryd.func27 rfl Tryd.ntmps27 (Nat.le_of_ble_eq_true rfl) ?_
 refine sx_seq fun K1 k1 => sx_region ?_
 refine sx_box [.string pv, vt] rfl rfl rfl (fun b2 w3 eb2 sb2 fb2 cb2 => ?_)
 have zw3 := cb2.size
 refine sa rfl rfl rfl rfl ?_
 refine wl_nil (q_n (k1 _ _ ?_))
 refine sx_seq fun K4 k4 => ?_
 refine sx_seq fun K5 k5 => sx_region ?_
 refine sx_pure rfl rfl rfl (px_load rfl (fb2.loadA (vs := [.string pv, vt]) (look_lit rfl) Tryd.isAgg30 Tryd.sizeOf30)) ?_
 refine sm rfl rfl rfl rfl ?_
 refine sm rfl rfl rfl rfl ?_
 refine sx_pure rfl rfl rfl (px_build rfl (xbld72x0x1 rfl rfl _)) ?_
 have f6 := hvt0.ext cb2
 refine sx_call rfl rfl Tryd.call37 (c_listed f6 (by omega)) (fun v7 w7 p7 => ?_)
 obtain ⟨s7, rfl, os_7, c7⟩ := p7
 have zw7 := c7.size
 refine sm rfl rfl rfl rfl ?_
 refine sx_pure rfl rfl rfl (px_extract (vs := [.agg #[.bool ((lst ts a b).1), s7, .int .i64 ((lst ts a b).2.2.1)], .bool ((lst ts a b).2.2.2)]) rfl rfl) ?_
 refine sx_pure rfl rfl rfl (px_extract (vs := [.agg #[.bool ((lst ts a b).1), s7, .int .i64 ((lst ts a b).2.2.1)], .bool ((lst ts a b).2.2.2)]) rfl rfl) ?_
 refine sx_alloc [.bool false, (.slice none 0 0), .int .i64 0] rfl Tryd.zeroValue55 rfl (fun b8 w9 eb8 sb8 fb8 cb8 => ?_)
 have zw9 := cb8.size
 have f11 := os_7.ext cb8
 refine sx_store (vs := [.bool ((lst ts a b).1), s7, .int .i64 ((lst ts a b).2.2.1)]) rfl rfl fb8 rfl Tryd.sizeOf55 (Nat.le_of_ble_eq_true rfl) (one_cons rfl (one_cons f11.one (one_cons rfl one_nil))) (fun w10 sw10 fw10 cw10 => ?_)
 have zw10 := cw10.size
 have gw10 : Blk w10 b8 [.bool ((lst ts a b).1), s7, .int .i64 ((lst ts a b).2.2.1)] 55 := fw10
 refine sa rfl rfl rfl rfl ?_
 refine wl_nil (q_n (k5 _ _ ?_))
 refine sx_sub (Sub.cons (t := 1) rfl (.cons (t := 2) rfl (.cons (t := 3) rfl (.cons (t := 6) rfl (.cons (t := 8) rfl (.nil)))))) ?_
 refine sx_seq fun K12 k12 => sx_region ?_
 refine sm rfl rfl rfl rfl ?_
 refine wl_nil (q_n (k12 _ _ ?_))
 refine sx_condB rfl (fun h98 => ?_) (fun h98 => ?_)
 ·
  refine sx_seq fun K13 k13 => sx_region ?_
  refine sa rfl rfl rfl rfl ?_
  refine wl_nil (q_n (k13 _ _ ?_))
  refine sx_retc ?_
  refine q_r (sx_ret1 Tryd.results27 rfl ?_)
  have q14 := Chg.step (l := 0) (h := 0) (Chg.zero (l := 0) (h := 0) ((cb2.t c7).t cb8)) cw10 (by omega)
  exact ⟨(by rw [leg_2 h98]), q14⟩
 ·
  refine sx_skip ?_
  refine q_n (k4 _ _ ?_)
  refine sx_seq fun K15 k15 => ?_
  refine sx_seq fun K16 k16 => sx_region ?_
  have f17 := fb2.ext c7
  have f18 := f17.ext cb8
  have f19 := f18.chg cw10 (by omega)
  refine sx_pure rfl rfl rfl (px_load rfl (f19.loadA (vs := [.string pv, vt]) (look_lit rfl) Tryd.isAgg30 Tryd.sizeOf30)) ?_
  refine sm rfl rfl rfl rfl ?_
  refine sm rfl rfl rfl rfl ?_
  refine sx_pure rfl rfl rfl (px_build rfl (xbld72x0x1 rfl rfl _)) ?_
  have f20 := f6.ext c7
  have f21 := f20.ext cb8
  have f22 := f21.chg cw10 (by omega)
  refine sx_call rfl rfl Tryd.call37 (c_listed f22 (by omega)) (fun v23 w23 p23 => ?_)
  obtain ⟨s23, rfl, os_23, c23⟩ := p23
  have zw23 := c23.size
  refine sm rfl rfl rfl rfl ?_
  refine sx_pure rfl rfl rfl (px_extract (vs := [.agg #[.bool ((lst ts b a).1), s23, .int .i64 ((lst ts b a).2.2.1)], .bool ((lst ts b a).2.2.2)]) rfl rfl) ?_
  refine sx_pure rfl rfl rfl (px_extract (vs := [.agg #[.bool ((lst ts b a).1), s23, .int .i64 ((lst ts b a).2.2.1)], .bool ((lst ts b a).2.2.2)]) rfl rfl) ?_
  refine sx_alloc [.bool false, (.slice none 0 0), .int .i64 0] rfl Tryd.zeroValue55 rfl (fun b24 w25 eb24 sb24 fb24 cb24 => ?_)
  have zw25 := cb24.size
  have f27 := os_23.ext cb24
  refine sx_store (vs := [.bool ((lst ts b a).1), s23, .int .i64 ((lst ts b a).2.2.1)]) rfl rfl fb24 rfl Tryd.sizeOf55 (Nat.le_of_ble_eq_true rfl) (one_cons rfl (one_cons f27.one (one_cons rfl one_nil))) (fun w26 sw26 fw26 cw26 => ?_)
  have zw26 := cw26.size
  have gw26 : Blk w26 b24 [.bool ((lst ts b a).1), s23, .int .i64 ((lst ts b a).2.2.1)] 55 := fw26
  refine sa rfl rfl rfl rfl ?_
  refine wl_nil (q_n (k16 _ _ ?_))
  refine sx_sub (Sub.cons (t := 6) rfl (.cons (t := 10) rfl (.nil))) ?_
  refine sx_seq fun K28 k28 => sx_region ?_
  refine sm rfl rfl rfl rfl ?_
  refine wl_nil (q_n (k28 _ _ ?_))
  refine sx_condB rfl (fun h101 => ?_) (fun h101 => ?_)
  ·
   refine sx_seq fun K29 k29 => sx_region ?_
   refine sa rfl rfl rfl rfl ?_
   refine wl_nil (q_n (k29 _ _ ?_))
   refine sx_retc ?_
   refine q_r (sx_ret1 Tryd.results27 rfl ?_)
   have q30 := Chg.step (l := 0) (h := 0) (Chg.zero (l := 0) (h := 0) ((cb2.t c7).t cb8)) cw10 (by omega)
   have q31 := Chg.step (l := 0) (h := 0) q30 (c23.t cb24) (by omega)
   have q32 := Chg.step (l := 0) (h := 0) q31 cw26 (by omega)
   exact ⟨(by rw [leg_3 h98 h101]), q32⟩
  ·
   refine sx_skip ?_
   refine q_n (k15 _ _ ?_)
   refine sx_seq fun K33 k33 => sx_region ?_
   refine sa rfl rfl rfl rfl ?_
   refine wl_nil (q_n (k33 _ _ ?_))
   refine sx_retc ?_
   refine sx_ret1 Tryd.results27 rfl ?_
   have q34 := Chg.step (l := 0) (h := 0) (Chg.zero (l := 0) (h := 0) ((cb2.t c7).t cb8)) cw10 (by omega)
   have q35 := Chg.step (l := 0) (h := 0) q34 (c23.t cb24) (by omega)
   have q36 := Chg.step (l := 0) (h := 0) q35 cw26 (by omega)
   exact ⟨(by rw [leg_0 h98 h101]), q36⟩

theorem c_iRateHow {w : World} {pv : ByteArray} {vt : Value} {lvt uvt : Nat} {ts : List Rt} {vvt : List Value} {a : ByteArray} {b : ByteArray} (hG0 : Glob w) (hvt : RtS w lvt uvt vt ts vvt) (h63 : ts.length ≤ 4611686018427387904) (hz : ∀ i, i < ts.length → (ts.getD i rt0).2.2.2.1.length ≤ 4611686018427387904) :
  Ret Tryd.prog 16 [.agg #[.string pv, vt], .string a, .string b] w fun v w' => v = .int .i64 (how pv ts a b) ∧ Chg 0 0 w w' := by
 have hvt0 := hvt.fit
 refine sx_enter Tryd.func16 rfl Tryd.ntmps16 (Nat.le_of_ble_eq_true rfl) ?_
 refine sx_seq fun K1 k1 => sx_region ?_
 refine sx_box [.string pv, vt] rfl rfl rfl (fun b2 w3 eb2 sb2 fb2 cb2 => ?_)
 have zw3 := cb2.size
 refine sa rfl rfl rfl rfl ?_
 refine wl_nil (q_n (k1 _ _ ?_))
 refine sx_seq fun K4 k4 => ?_
 refine sx_block ?_
 refine sx_seq fun K5 k5 => sx_region ?_
 refine sx_pure rfl rfl rfl (px_load rfl (fb2.loadA (vs := [.string pv, vt]) (look_lit rfl) Tryd.isAgg30 Tryd.sizeOf30)) ?_
 have f6 := hG0.ext cb2
 have f7 := hvt0.ext cb2
 refine sx_call rfl rfl Tryd.call25 (c_iRatesOk f6 f7 (by omega) (by first | assumption | exact fun i hi => Nat.le_trans (hzz i hi) (by omega))) (fun v8 w8 p8 => ?_)
 obtain ⟨rfl, c8⟩ := p8
 have zw8 := c8.size
 refine sx_pure rfl rfl rfl (px_notP rfl) ?_
 refine sm rfl rfl rfl rfl ?_
 refine sx_tmpP (t := 11) rfl (fun h110 => ?_) (fun h110 => ?_)
 ·
  refine sx_guardF rfl rfl rfl rfl rfl rfl ?_
  refine sx_guardF rfl rfl rfl rfl rfl rfl ?_
  refine sx_guardF rfl rfl rfl rfl rfl rfl ?_
  refine sx_pure rfl rfl rfl (px_pick rfl rfl) ?_
  refine sm rfl rfl rfl rfl ?_
  refine sx_guardF rfl rfl rfl rfl rfl rfl ?_
  refine sx_guardF rfl rfl rfl rfl rfl rfl ?_
  refine sx_guardF rfl rfl rfl rfl rfl rfl ?_
  refine sx_pure rfl rfl rfl (px_pick rfl rfl) ?_
  refine sa rfl rfl rfl rfl ?_
  refine wl_nil (q_n (k5 _ _ ?_))
  refine sx_sub (Sub.cons (t := 1) rfl (.cons (t := 2) rfl (.cons (t := 3) rfl (.cons (t := 6) rfl (.cons (t := 7) rfl (.nil)))))) ?_
  refine sx_condT rfl ?_
  refine sx_seq fun K9 k9 => sx_region ?_
  refine sa rfl rfl rfl rfl ?_
  refine wl_nil (q_n (k9 _ _ ?_))
  refine sx_retc ?_
  refine q_br (q_r (sx_ret1 Tryd.results16 rfl ?_))
  exact ⟨(by unfold how; first | grind | simp_all), (cb2.t c8)⟩
 ·
  refine sx_guardT rfl rfl rfl ?_
  refine sm rfl rfl rfl rfl ?_
  refine sx_guardT rfl rfl rfl ?_
  have f10 := f6.ext c8
  refine sx_call rfl rfl Tryd.call26 (c_iCurKnown f10) (fun v11 w11 p11 => ?_)
  obtain ⟨rfl, c11⟩ := p11
  have zw11 := c11.size
  refine sx_guardT rfl rfl rfl ?_
  refine sx_pure rfl rfl rfl (px_notP rfl) ?_
  refine sx_pure rfl rfl rfl (px_pick rfl rfl) ?_
  refine sm rfl rfl rfl rfl ?_
  refine sx_tmpP (t := 16) rfl (fun h110x1 => ?_) (fun h110x1 => ?_)
  ·
   refine sx_guardF rfl rfl rfl rfl rfl rfl ?_
   refine sx_guardF rfl rfl rfl rfl rfl rfl ?_
   refine sx_guardF rfl rfl rfl rfl rfl rfl ?_
   refine sx_pure rfl rfl rfl (px_pick rfl rfl) ?_
   refine sa rfl rfl rfl rfl ?_
   refine wl_nil (q_n (k5 _ _ ?_))
   refine sx_sub (Sub.cons (t := 1) rfl (.cons (t := 2) rfl (.cons (t := 3) rfl (.cons (t := 6) rfl (.cons (t := 7) rfl (.nil)))))) ?_
   refine sx_condT rfl ?_
   refine sx_seq fun K12 k12 => sx_region ?_
   refine sa rfl rfl rfl rfl ?_
   refine wl_nil (q_n (k12 _ _ ?_))
   refine sx_retc ?_
   refine q_br (q_r (sx_ret1 Tryd.results16 rfl ?_))
   exact ⟨(by unfold how; first | grind | simp_all), ((cb2.t c8).t c11)⟩
  ·
   refine sx_guardT rfl rfl rfl ?_
   refine sm rfl rfl rfl rfl ?_
   refine sx_guardT rfl rfl rfl ?_
   have f13 := f10.ext c11
   refine sx_call rfl rfl Tryd.call26 (c_iCurKnown f13) (fun v14 w14 p14 => ?_)
   obtain ⟨rfl, c14⟩ := p14
   have zw14 := c14.size
   refine sx_guardT rfl rfl rfl ?_
   refine sx_pure rfl rfl rfl (px_notP rfl) ?_
   refine sx_pure rfl rfl rfl (px_pick rfl rfl) ?_
   refine sa rfl rfl rfl rfl ?_
   refine wl_nil (q_n (k5 _ _ ?_))
   refine sx_sub (Sub.cons (t := 1) rfl (.cons (t := 2) rfl (.cons (t := 3) rfl (.cons (t := 6) rfl (.cons (t := 7) rfl (.nil)))))) ?_
   refine sx_condP rfl (fun h110x2 => ?_) (fun h110x2 => ?_)
   ·
    refine sx_seq fun K15 k15 => sx_region ?_
    refine sa rfl rfl rfl rfl ?_
    refine wl_nil (q_n (k15 _ _ ?_))
    refine sx_retc ?_
    refine q_br (q_r (sx_ret1 Tryd.results16 rfl ?_))
    exact ⟨(by unfold how; first | grind | simp_all), (((cb2.t c8).t c11).t c14)⟩
   ·
    refine sx_seq fun K16 k16 => sx_region ?_
    refine sm rfl rfl rfl rfl ?_
    refine sm rfl rfl rfl rfl ?_
    refine sx_pure rfl rfl rfl (px_eqS rfl rfl) ?_
    refine sa rfl rfl rfl rfl ?_
    refine wl_nil (q_n (k16 _ _ ?_))
    refine sx_condP rfl (fun h112 => ?_) (fun h112 => ?_)
    ·
     refine sx_seq fun K17 k17 => sx_region ?_
     refine sa rfl rfl rfl rfl ?_
     refine wl_nil (q_n (k17 _ _ ?_))
     refine sx_retc ?_
     refine q_br (q_r (sx_ret1 Tryd.results16 rfl ?_))
     exact ⟨(by unfold how; first | grind | simp_all), (((cb2.t c8).t c11).t c14)⟩
    ·
     refine sx_seq fun K18 k18 => sx_region ?_
     have f19 := fb2.ext c8
     have f20 := f19.ext c11
     have f21 := f20.ext c14
     refine sx_pure rfl rfl rfl (px_load rfl (f21.loadA (vs := [.string pv, vt]) (look_lit rfl) Tryd.isAgg30 Tryd.sizeOf30)) ?_
     refine sm rfl rfl rfl rfl ?_
     refine sm rfl rfl rfl rfl ?_
     have f22 := f7.ext c8
     have f23 := f22.ext c11
     have f24 := f23.ext c14
     refine sx_call rfl rfl Tryd.call27 (c_simple f24 (by omega)) (fun v25 w25 p25 => ?_)
     obtain ⟨rfl, c25⟩ := p25
     have zw25 := c25.size
     refine sx_pure rfl rfl rfl (px_ne rfl rfl) ?_
     refine sa rfl rfl rfl rfl ?_
     refine wl_nil (q_n (k18 _ _ ?_))
     refine sx_sub (Sub.cons (t := 1) rfl (.cons (t := 2) rfl (.cons (t := 3) rfl (.cons (t := 6) rfl (.cons (t := 25) rfl (.nil)))))) ?_
     refine sx_condP rfl (fun h114 => ?_) (fun h114 => ?_)
     ·
      refine sx_seq fun K26 k26 => sx_region ?_
      have f27 := f21.ext c25
      refine sx_pure rfl rfl rfl (px_load rfl (f27.loadA (vs := [.string pv, vt]) (look_lit rfl) Tryd.isAgg30 Tryd.sizeOf30)) ?_
      refine sm rfl rfl rfl rfl ?_
      refine sm rfl rfl rfl rfl ?_
      have f28 := f24.ext c25
      refine sx_call rfl rfl Tryd.call27 (c_simple f28 (by omega)) (fun v29 w29 p29 => ?_)
      obtain ⟨rfl, c29⟩ := p29
      have zw29 := c29.size
      refine sa rfl rfl rfl rfl ?_
      refine wl_nil (q_n (k26 _ _ ?_))
      refine sx_retc ?_
      refine q_br (q_r (sx_ret1 Tryd.results16 rfl ?_))
      exact ⟨(by unfold how; first | grind | simp_all), (((((cb2.t c8).t c11).t c14).t c25).t c29)⟩
     ·
      refine sx_seq fun K30 k30 => sx_region ?_
      refine sm rfl rfl rfl rfl ?_
      refine sx_pure rfl rfl rfl (px_field rfl xfld30x0) ?_
      have f31 := f21.ext c25
      refine sx_pure rfl rfl rfl (px_load rfl (f31.load1 rfl Tryd.isAgg9)) ?_
      refine sx_pure rfl rfl rfl (px_neS rfl rfl) ?_
      refine sm rfl rfl rfl rfl ?_
      refine sx_tmpP (t := 40) rfl (fun h116 => ?_) (fun h116 => ?_)
      ·
       refine sx_guardT rfl rfl rfl ?_
       refine sm rfl rfl rfl rfl ?_
       refine sx_guardT rfl rfl rfl ?_
       refine sx_pure rfl rfl rfl (px_field rfl xfld30x0) ?_
       refine sx_guardT rfl rfl rfl ?_
       refine sx_pure rfl rfl rfl (px_load rfl (f31.load1 rfl Tryd.isAgg9)) ?_
       refine sx_guardT rfl rfl rfl ?_
       refine sx_pure rfl rfl rfl (px_neS rfl rfl) ?_
       refine sx_pure rfl rfl rfl (px_pick rfl rfl) ?_
       refine sm rfl rfl rfl rfl ?_
       refine sx_tmpP (t := 46) rfl (fun h116x1 => ?_) (fun h116x1 => ?_)
       ·
        refine sx_guardT rfl rfl rfl ?_
        refine sx_pure rfl rfl rfl (px_load rfl (f31.loadA (vs := [.string pv, vt]) (look_lit rfl) Tryd.isAgg30 Tryd.sizeOf30)) ?_
        refine sx_guardT rfl rfl rfl ?_
        refine sm rfl rfl rfl rfl ?_
        refine sx_guardT rfl rfl rfl ?_
        refine sx_pure rfl rfl rfl (px_field rfl xfld30x0) ?_
        refine sx_guardT rfl rfl rfl ?_
        refine sx_pure rfl rfl rfl (px_load rfl (f31.load1 rfl Tryd.isAgg9)) ?_
        refine sx_guardT rfl rfl rfl ?_
        have f32 := f24.ext c25
        refine sx_call rfl rfl Tryd.call27 (c_simple f32 (by omega)) (fun v33 w33 p33 => ?_)
        obtain ⟨rfl, c33⟩ := p33
        have zw33 := c33.size
        refine sx_guardT rfl rfl rfl ?_
        refine sx_pure rfl rfl rfl (px_ne rfl rfl) ?_
        refine sx_pure rfl rfl rfl (px_pick rfl rfl) ?_
        refine sm rfl rfl rfl rfl ?_
        refine sx_tmpP (t := 54) rfl (fun h116x2 => ?_) (fun h116x2 => ?_)
        ·
         refine sx_guardT rfl rfl rfl ?_
         have f34 := f31.ext c33
         refine sx_pure rfl rfl rfl (px_load rfl (f34.loadA (vs := [.string pv, vt]) (look_lit rfl) Tryd.isAgg30 Tryd.sizeOf30)) ?_
         refine sx_guardT rfl rfl rfl ?_
         refine sx_pure rfl rfl rfl (px_field rfl xfld30x0) ?_
         refine sx_guardT rfl rfl rfl ?_
         refine sx_pure rfl rfl rfl (px_load rfl (f34.load1 rfl Tryd.isAgg9)) ?_
         refine sx_guardT rfl rfl rfl ?_
         refine sm rfl rfl rfl rfl ?_
         refine sx_guardT rfl rfl rfl ?_
         have f35 := f32.ext c33
         refine sx_call rfl rfl Tryd.call27 (c_simple f35 (by omega)) (fun v36 w36 p36 => ?_)
         obtain ⟨rfl, c36⟩ := p36
         have zw36 := c36.size
         refine sx_guardT rfl rfl rfl ?_
         refine sx_pure rfl rfl rfl (px_ne rfl rfl) ?_
         refine sx_pure rfl rfl rfl (px_pick rfl rfl) ?_
         refine sa rfl rfl rfl rfl ?_
         refine wl_nil (q_n (k30 _ _ ?_))
         refine sx_sub (Sub.cons (t := 6) rfl (.cons (t := 35) rfl (.nil))) ?_
         refine sx_condP rfl (fun h116x3 => ?_) (fun h116x3 => ?_)
         ·
          refine sx_seq fun K37 k37 => sx_region ?_
          refine sa rfl rfl rfl rfl ?_
          refine wl_nil (q_n (k37 _ _ ?_))
          refine sx_retc ?_
          refine q_br (q_r (sx_ret1 Tryd.results16 rfl ?_))
          exact ⟨(by unfold how; first | grind | simp_all), ((((((cb2.t c8).t c11).t c14).t c25).t c33).t c36)⟩
         ·
          refine sx_skip ?_
          refine q_bn (q_n (k4 _ _ ?_))
          refine sx_seq fun K38 k38 => sx_region ?_
          refine sa rfl rfl rfl rfl ?_
          refine wl_nil (q_n (k38 _ _ ?_))
          refine sx_retc ?_
          refine sx_ret1 Tryd.results16 rfl ?_
          exact ⟨(by unfold how; first | grind | simp_all), ((((((cb2.t c8).t c11).t c14).t c25).t c33).t c36)⟩
        ·
         refine sx_guardF rfl rfl rfl rfl rfl rfl ?_
         refine sx_guardF rfl rfl rfl rfl rfl rfl ?_
         refine sx_guardF rfl rfl rfl rfl rfl rfl ?_
         refine sx_guardF rfl rfl rfl rfl rfl rfl ?_
         refine sx_guardF rfl rfl rfl rfl rfl rfl ?_
         refine sx_guardF rfl rfl rfl rfl rfl rfl ?_
         refine sx_pure rfl rfl rfl (px_pick rfl rfl) ?_
         refine sa rfl rfl rfl rfl ?_
         refine wl_nil (q_n (k30 _ _ ?_))
         refine sx_sub (Sub.cons (t := 6) rfl (.cons (t := 35) rfl (.nil))) ?_
         refine sx_condF rfl ?_
         refine sx_skip ?_
         refine q_bn (q_n (k4 _ _ ?_))
         refine sx_seq fun K39 k39 => sx_region ?_
         refine sa rfl rfl rfl rfl ?_
         refine wl_nil (q_n (k39 _ _ ?_))
         refine sx_retc ?_
         refine sx_ret1 Tryd.results16 rfl ?_
         exact ⟨(by unfold how; first | grind | simp_all), (((((cb2.t c8).t c11).t c14).t c25).t c33)⟩
       ·
        refine sx_guardF rfl rfl rfl rfl rfl rfl ?_
        refine sx_guardF rfl rfl rfl rfl rfl rfl ?_
        refine sx_guardF rfl rfl rfl rfl rfl rfl ?_
        refine sx_guardF rfl rfl rfl rfl rfl rfl ?_
        refine sx_guardF rfl rfl rfl rfl rfl rfl ?_
        refine sx_guardF rfl rfl rfl rfl rfl rfl ?_
        refine sx_pure rfl rfl rfl (px_pick rfl rfl) ?_
        refine sm rfl rfl rfl rfl ?_
        refine sx_guardF rfl rfl rfl rfl rfl rfl ?_
        refine sx_guardF rfl rfl rfl rfl rfl rfl ?_
        refine sx_guardF rfl rfl rfl rfl rfl rfl ?_
        refine sx_guardF rfl rfl rfl rfl rfl rfl ?_
        refine sx_guardF rfl rfl rfl rfl rfl rfl ?_
        refine sx_guardF rfl rfl rfl rfl rfl rfl ?_
        refine sx_pure rfl rfl rfl (px_pick rfl rfl) ?_
        refine sa rfl rfl rfl rfl ?_
        refine wl_nil (q_n (k30 _ _ ?_))
        refine sx_sub (Sub.cons (t := 6) rfl (.cons (t := 35) rfl (.nil))) ?_
        refine sx_condF rfl ?_
        refine sx_skip ?_
        refine q_bn (q_n (k4 _ _ ?_))
        refine sx_seq fun K40 k40 => sx_region ?_
        refine sa rfl rfl rfl rfl ?_
        refine wl_nil (q_n (k40 _ _ ?_))
        refine sx_retc ?_
        refine sx_ret1 Tryd.results16 rfl ?_
        exact ⟨(by unfold how; first | grind | simp_all), ((((cb2.t c8).t c11).t c14).t c25)⟩
      ·
       refine sx_guardF rfl rfl rfl rfl rfl rfl ?_
       refine sx_guardF rfl rfl rfl rfl rfl rfl ?_
       refine sx_guardF rfl rfl rfl rfl rfl rfl ?_
       refine sx_guardF rfl rfl rfl rfl rfl rfl ?_
       refine sx_pure rfl rfl rfl (px_pick rfl rfl) ?_
       refine sm rfl rfl rfl rfl ?_
       refine sx_guardF rfl rfl rfl rfl rfl rfl ?_
       refine sx_guardF rfl rfl rfl rfl rfl rfl ?_
       refine sx_guardF rfl rfl rfl rfl rfl rfl ?_
       refine sx_guardF rfl rfl rfl rfl rfl rfl ?_
       refine sx_guardF rfl rfl rfl rfl rfl rfl ?_
       refine sx_guardF rfl rfl rfl rfl rfl rfl ?_
       refine sx_pure rfl rfl rfl (px_pick rfl rfl) ?_
       refine sm rfl rfl rfl rfl ?_
       refine sx_guardF rfl rfl rfl rfl rfl rfl ?_
       refine sx_guardF rfl rfl rfl rfl rfl rfl ?_
       refine sx_guardF rfl rfl rfl rfl rfl rfl ?_
       refine sx_guardF rfl rfl rfl rfl rfl rfl ?_
       refine sx_guardF rfl rfl rfl rfl rfl rfl ?_
       refine sx_guardF rfl rfl rfl rfl rfl rfl ?_
       refine sx_pure rfl rfl rfl (px_pick rfl rfl) ?_
       refine sa rfl rfl rfl rfl ?_
       refine wl_nil (q_n (k30 _ _ ?_))
       refine sx_sub (Sub.cons (t := 6) rfl (.cons (t := 35) rfl (.nil))) ?_
       refine sx_condF rfl ?_
       refine sx_skip ?_
       refine q_bn (q_n (k4 _ _ ?_))
       refine sx_seq fun K41 k41 => sx_region ?_
       refine sa rfl rfl rfl rfl ?_
       refine wl_nil (q_n (k41 _ _ ?_))
       refine sx_retc ?_
       refine sx_ret1 Tryd.results16 rfl ?_
       exact ⟨(by unfold how; first | grind | simp_all), ((((cb2.t c8).t c11).t c14).t c25)⟩

theorem c_iRatePath {w : World} {pv : ByteArray} {vt : Value} {lvt uvt : Nat} {ts : List Rt} {vvt : List Value} {a : ByteArray} {b : ByteArray} (hG0 : Glob w) (hvt : RtS w lvt uvt vt ts vvt) (h63 : ts.length ≤ 4611686018427387904) (hz : ∀ i, i < ts.length → (ts.getD i rt0).2.2.2.1.length ≤ 4611686018427387904) :
  Ret Tryd.prog 7 [.agg #[.string pv, vt], .string a, .string b] w fun v w' => ∃ s, v = s ∧ OwnS w' w.heap.size w'.heap.size s strT (path pv ts a b) ∧ ((path pv ts a b).length ≤ 3) ∧ Chg 0 0 w w' := by
 have hvt0 := hvt.fit
 refine sx_enter Tryd.func7 rfl Tryd.ntmps7 (Nat.le_of_ble_eq_true rfl) ?_
 refine sx_seq fun K1 k1 => sx_region ?_
 refine sx_box [.string pv, vt] rfl rfl rfl (fun b2 w3 eb2 sb2 fb2 cb2 => ?_)
 have zw3 := cb2.size
 refine sa rfl rfl rfl rfl ?_
 refine wl_nil (q_n (k1 _ _ ?_))
 refine sx_seq fun K4 k4 => ?_
 refine sx_seq fun K5 k5 => sx_region ?_
 refine sx_pure rfl rfl rfl (px_load rfl (fb2.loadA (vs := [.string pv, vt]) (look_lit rfl) Tryd.isAgg30 Tryd.sizeOf30)) ?_
 refine sm rfl rfl rfl rfl ?_
 refine sm rfl rfl rfl rfl ?_
 have f6 := hG0.ext cb2
 have f7 := hvt0.ext cb2
 refine sx_call rfl rfl Tryd.call16 (c_iRateHow f6 f7 (by omega) (by first | assumption | exact fun i hi => Nat.le_trans (hzz i hi) (by omega))) (fun v8 w8 p8 => ?_)
 obtain ⟨rfl, c8⟩ := p8
 have zw8 := c8.size
 refine wl_nil (q_n (k5 _ _ ?_))
 refine sx_block ?_
 refine sx_seq fun K9 k9 => sx_region ?_
 refine sx_pure rfl rfl rfl (px_eq rfl rfl) ?_
 refine sa rfl rfl rfl rfl ?_
 refine wl_nil (q_n (k9 _ _ ?_))
 refine sx_condP rfl (fun h146 => ?_) (fun h146 => ?_)
 ·
  refine sx_seq fun K10 k10 => sx_region ?_
  refine sm rfl rfl rfl rfl ?_
  refine sx_lit1 rfl xelt26 rfl rfl (fun s11 ws11 ss11 fs11 cs11 => ?_)
  have ns11 := Own.norm (f := Value.string) (zs := [a]) fs11
  have zws11 := cs11.size
  refine sa rfl rfl rfl rfl ?_
  refine wl_nil (q_n (k10 _ _ ?_))
  refine sx_retc ?_
  refine q_br (q_r (sx_ret1 Tryd.results7 rfl ?_))
  have hrl := path_len (pv := pv) (ts := ts) (a := a) (b := b)
  rw [path_1 h146] at hrl ⊢
  exact ⟨_, rfl, (Own.mono ns11 (by omega) (by omega)), hrl, ((cb2.t c8).t cs11)⟩
 ·
  refine sx_seq fun K12 k12 => ?_
  refine sx_seq fun K13 k13 => sx_region ?_
  refine sx_pure rfl rfl rfl (px_eq rfl rfl) ?_
  refine sa rfl rfl rfl rfl ?_
  refine wl_nil (q_n (k13 _ _ ?_))
  refine sx_condP rfl (fun h148 => ?_) (fun h148 => ?_)
  ·
   refine sx_skip ?_
   refine q_n (k12 _ _ ?_)
   refine sx_condP rfl (fun h148x1 => ?_) (fun h148x1 => ?_)
   ·
    refine sx_seq fun K14 k14 => sx_region ?_
    refine sm rfl rfl rfl rfl ?_
    refine sm rfl rfl rfl rfl ?_
    refine sx_lit2 rfl xelt26 rfl rfl rfl rfl (fun s15 ws15 ss15 fs15 cs15 => ?_)
    have ns15 := Own.norm (f := Value.string) (zs := [a, b]) fs15
    have zws15 := cs15.size
    refine sa rfl rfl rfl rfl ?_
    refine wl_nil (q_n (k14 _ _ ?_))
    refine sx_sub (Sub.cons (t := 6) rfl (.nil)) ?_
    refine sx_retc ?_
    refine q_br (q_r (sx_ret1 Tryd.results7 rfl ?_))
    have hrl := path_len (pv := pv) (ts := ts) (a := a) (b := b)
    rw [path_2 (by omega)] at hrl ⊢
    exact ⟨_, rfl, (Own.mono ns15 (by omega) (by omega)), hrl, ((cb2.t c8).t cs15)⟩
   ·
    refine sx_seq fun K16 k16 => sx_region ?_
    refine sx_pure rfl rfl rfl (px_eq rfl rfl) ?_
    refine sa rfl rfl rfl rfl ?_
    refine wl_nil (q_n (k16 _ _ ?_))
    refine sx_sub (Sub.cons (t := 1) rfl (.cons (t := 2) rfl (.cons (t := 3) rfl (.cons (t := 6) rfl (.cons (t := 21) rfl (.nil)))))) ?_
    refine sx_condP rfl (fun h150 => ?_) (fun h150 => ?_)
    ·
     refine sx_seq fun K17 k17 => sx_region ?_
     refine sm rfl rfl rfl rfl ?_
     refine sx_pure rfl rfl rfl (px_field rfl xfld30x0) ?_
     have f18 := fb2.ext c8
     refine sx_pure rfl rfl rfl (px_load rfl (f18.load1 rfl Tryd.isAgg9)) ?_
     refine sm rfl rfl rfl rfl ?_
     refine sx_lit3 rfl xelt26 rfl rfl rfl rfl rfl rfl (fun s19 ws19 ss19 fs19 cs19 => ?_)
     have ns19 := Own.norm (f := Value.string) (zs := [a, pv, b]) fs19
     have zws19 := cs19.size
     refine sa rfl rfl rfl rfl ?_
     refine wl_nil (q_n (k17 _ _ ?_))
     refine sx_retc ?_
     refine q_br (q_r (sx_ret1 Tryd.results7 rfl ?_))
     have hrl := path_len (pv := pv) (ts := ts) (a := a) (b := b)
     rw [path_4 h150] at hrl ⊢
     exact ⟨_, rfl, (Own.mono ns19 (by omega) (by omega)), hrl, ((cb2.t c8).t cs19)⟩
    ·
     refine sx_skip ?_
     refine q_bn (q_n (k4 _ _ ?_))
     refine sx_seq fun K20 k20 => sx_region ?_
     refine sa rfl rfl rfl rfl ?_
     refine wl_nil (q_n (k20 _ _ ?_))
     refine sx_retc ?_
     refine sx_ret1 Tryd.results7 rfl ?_
     have hrl := path_len (pv := pv) (ts := ts) (a := a) (b := b)
     rw [path_0 h146 (by omega) h150] at hrl ⊢
     exact ⟨_, rfl, (Own.nil _ _ _ _ _), hrl, (cb2.t c8)⟩
  ·
   refine sx_region ?_
   refine sx_pure rfl rfl rfl (px_eq rfl rfl) ?_
   refine sa rfl rfl rfl rfl ?_
   refine wl_nil (q_n (k12 _ _ ?_))
   refine sx_condP rfl (fun h148x1 => ?_) (fun h148x1 => ?_)
   ·
    refine sx_seq fun K21 k21 => sx_region ?_
    refine sm rfl rfl rfl rfl ?_
    refine sm rfl rfl rfl rfl ?_
    refine sx_lit2 rfl xelt26 rfl rfl rfl rfl (fun s22 ws22 ss22 fs22 cs22 => ?_)
    have ns22 := Own.norm (f := Value.string) (zs := [a, b]) fs22
    have zws22 := cs22.size
    refine sa rfl rfl rfl rfl ?_
    refine wl_nil (q_n (k21 _ _ ?_))
    refine sx_sub (Sub.cons (t := 6) rfl (.nil)) ?_
    refine sx_retc ?_
    refine q_br (q_r (sx_ret1 Tryd.results7 rfl ?_))
    have hrl := path_len (pv := pv) (ts := ts) (a := a) (b := b)
    rw [path_2 (by omega)] at hrl ⊢
    exact ⟨_, rfl, (Own.mono ns22 (by omega) (by omega)), hrl, ((cb2.t c8).t cs22)⟩
   ·
    refine sx_seq fun K23 k23 => sx_region ?_
    refine sx_pure rfl rfl rfl (px_eq rfl rfl) ?_
    refine sa rfl rfl rfl rfl ?_
    refine wl_nil (q_n (k23 _ _ ?_))
    refine sx_sub (Sub.cons (t := 1) rfl (.cons (t := 2) rfl (.cons (t := 3) rfl (.cons (t := 6) rfl (.cons (t := 21) rfl (.nil)))))) ?_
    refine sx_condP rfl (fun h150 => ?_) (fun h150 => ?_)
    ·
     refine sx_seq fun K24 k24 => sx_region ?_
     refine sm rfl rfl rfl rfl ?_
     refine sx_pure rfl rfl rfl (px_field rfl xfld30x0) ?_
     have f25 := fb2.ext c8
     refine sx_pure rfl rfl rfl (px_load rfl (f25.load1 rfl Tryd.isAgg9)) ?_
     refine sm rfl rfl rfl rfl ?_
     refine sx_lit3 rfl xelt26 rfl rfl rfl rfl rfl rfl (fun s26 ws26 ss26 fs26 cs26 => ?_)
     have ns26 := Own.norm (f := Value.string) (zs := [a, pv, b]) fs26
     have zws26 := cs26.size
     refine sa rfl rfl rfl rfl ?_
     refine wl_nil (q_n (k24 _ _ ?_))
     refine sx_retc ?_
     refine q_br (q_r (sx_ret1 Tryd.results7 rfl ?_))
     have hrl := path_len (pv := pv) (ts := ts) (a := a) (b := b)
     rw [path_4 h150] at hrl ⊢
     exact ⟨_, rfl, (Own.mono ns26 (by omega) (by omega)), hrl, ((cb2.t c8).t cs26)⟩
    ·
     refine sx_skip ?_
     refine q_bn (q_n (k4 _ _ ?_))
     refine sx_seq fun K27 k27 => sx_region ?_
     refine sa rfl rfl rfl rfl ?_
     refine wl_nil (q_n (k27 _ _ ?_))
     refine sx_retc ?_
     refine sx_ret1 Tryd.results7 rfl ?_
     have hrl := path_len (pv := pv) (ts := ts) (a := a) (b := b)
     rw [path_0 h146 (by omega) h150] at hrl ⊢
     exact ⟨_, rfl, (Own.nil _ _ _ _ _), hrl, (cb2.t c8)⟩

theorem c_eqStringS {w : World} {va : Value} {lva uva : Nat} {zs : List ByteArray} {vb : Value} {lvb uvb : Nat} {ys : List ByteArray} (hva : SlS w lva uva va (zs)) (hvb : SlS w lvb uvb vb (ys)) (h63 : zs.length ≤ 1048576 ∧ ys.length ≤ 1048576) :
  Ret Tryd.prog 8 [va, vb] w fun v w' => v = .bool (decide (zs = ys)) ∧ Chg 0 0 w w' := by
 have hva0 := hva.fit
 have hvb0 := hvb.fit
 have hneq : zs.length ≠ ys.length → zs ≠ ys := fun h e => h (by rw [e])
 refine sx_enter Tryd.func8 rfl Tryd.ntmps8 (Nat.le_of_ble_eq_true rfl) ?_
 refine sx_seq fun K1 k1 => sx_region ?_
 refine sa rfl rfl rfl rfl ?_
 refine wl_nil (q_n (k1 _ _ ?_))
 refine sx_seq fun K2 k2 => ?_
 refine sx_seq fun K3 k3 => sx_region ?_
 refine sm rfl rfl rfl rfl ?_
 refine sx_pure rfl rfl rfl (px_len rfl Tryd.underlying26 hva0) ?_
 refine sm rfl rfl rfl rfl ?_
 refine sx_pure rfl rfl rfl (px_len rfl Tryd.underlying26 hvb0) ?_
 refine sx_pure rfl rfl rfl (px_ne rfl rfl) ?_
 refine wl_nil (q_n (k3 _ _ ?_))
 refine sx_condP rfl (fun h150 => ?_) (fun h150 => ?_)
 ·
  refine sx_seq fun K4 k4 => sx_region ?_
  refine sa rfl rfl rfl rfl ?_
  refine wl_nil (q_n (k4 _ _ ?_))
  refine sx_retc ?_
  refine q_r (sx_ret1 Tryd.results8 rfl ?_)
  exact ⟨bFalse (hneq (by omega)), (Chg.refl 0 0 _)⟩
 ·
  refine sx_skip ?_
  refine q_n (k2 _ _ ?_)
  refine sx_seq fun K5 k5 => ?_
  refine sx_seq fun K6 k6 => sx_region ?_
  refine sa rfl rfl rfl rfl ?_
  refine wl_nil (q_n (k6 _ _ ?_))
  refine sx_block ?_
  refine sx_loop (fun mm aa w' => ∃ (k : Nat), Agr 26 [(0, va), (1, vb), (5, .int .i64 ↑k)] aa ∧ Chg 0 0 w w' ∧ (mm = zs.length - k) ∧ (k ≤ zs.length) ∧ (zs.take k = ys.take k)) (_) (fun a ha => ⟨0, ha.sub (Sub.cons (t := 0) rfl (.cons (t := 1) rfl (.cons (t := 5) (look_int (t := 5) rfl (by first | omega | simp)) (.nil)))), Chg.refl _ _ _, rfl, by omega, by simp⟩) ?_
  rintro mm aa wl7 ⟨k, hAwl7, cwl7, hm, hk, he⟩
  refine (show cw Tryd.prog 26 _ _ _ wl7 from ?_) aa hAwl7
  clear hAwl7
  have zwl7 := cwl7.size
  refine sx_seq fun K8 k8 => ?_
  refine sx_seq fun K9 k9 => sx_region ?_
  refine sm rfl rfl rfl rfl ?_
  refine sm rfl rfl rfl rfl ?_
  have f10 := hva0.ext cwl7
  refine sx_pure rfl rfl rfl (px_len rfl Tryd.underlying26 f10) ?_
  refine sx_pure rfl rfl rfl (px_lt rfl rfl) ?_
  refine wl_nil (q_n (k9 _ _ ?_))
  refine sx_condP rfl (fun h153 => ?_) (fun h153 => ?_)
  ·
   refine sx_skip ?_
   refine q_n (k8 _ _ ?_)
   refine sx_seq fun K11 k11 => ?_
   refine sx_block ?_
   refine sx_seq fun K12 k12 => ?_
   have f13 := hvb0.ext cwl7
   refine dx_region (fun w' => Chg 0 0 wl7 w') (by kernel_rfl) (Chg.zero (Chg.drew _)) ?_
   have d14 := Chg.drew wl7
   have s14 : Chg 0 0 wl7 (World.drew wl7) := Chg.zero (Chg.drew _)
   have y14 : (World.drew wl7).heap.size = wl7.heap.size := rfl
   generalize World.drew wl7 = w14 at *
   have zw14 := d14.size
   refine dx_take 0 rfl rfl rfl rfl (by kernel_rfl) (by kernel_rfl) (by kernel_rfl) s14 (fun _ hS => px_move rfl) ?_
   refine dx_take 1 rfl rfl rfl rfl (by kernel_rfl) (by kernel_rfl) (by kernel_rfl) s14 (fun _ hS => px_move rfl) ?_
   refine dx_take 2 rfl rfl rfl rfl (by kernel_rfl) (by kernel_rfl) (by kernel_rfl) s14 (fun _ hS => px_index1 (j := k) rfl rfl (by omega) Tryd.underlying26 Tryd.sizeOf9 ((f10).chg hS (by omega)) (by omega)) ?_
   refine dx_take 3 rfl rfl rfl rfl (by kernel_rfl) (by kernel_rfl) (by kernel_rfl) s14 (fun _ hS => px_load rfl (((f10).chg hS (by omega)).load1 (at_str (by omega)) Tryd.isAgg9)) ?_
   refine dx_take 4 rfl rfl rfl rfl (by kernel_rfl) (by kernel_rfl) (by kernel_rfl) s14 (fun _ hS => px_move rfl) ?_
   refine dx_take 5 rfl rfl rfl rfl (by kernel_rfl) (by kernel_rfl) (by kernel_rfl) s14 (fun _ hS => px_move rfl) ?_
   refine dx_take 6 rfl rfl rfl rfl (by kernel_rfl) (by kernel_rfl) (by kernel_rfl) s14 (fun _ hS => px_index1 (j := k) rfl rfl (by omega) Tryd.underlying26 Tryd.sizeOf9 ((f13).chg hS (by omega)) (by omega)) ?_
   refine dx_take 7 rfl rfl rfl rfl (by kernel_rfl) (by kernel_rfl) (by kernel_rfl) s14 (fun _ hS => px_load rfl (((f13).chg hS (by omega)).load1 (at_str (by omega)) Tryd.isAgg9)) ?_
   refine dx_take 8 rfl rfl rfl rfl (by kernel_rfl) (by kernel_rfl) (by kernel_rfl) s14 (fun _ hS => px_neS rfl rfl) ?_
   refine dx_done (by kernel_rfl) ?_
   refine q_n (k12 _ _ ?_)
   refine sx_sub (Sub.cons (t := 0) rfl (.cons (t := 1) rfl (.cons (t := 5) rfl (.cons (t := 25) rfl (.nil))))) ?_
   refine sx_condP rfl (fun h154 => ?_) (fun h154 => ?_)
   ·
    refine sx_seq fun K15 k15 => sx_region ?_
    refine sa rfl rfl rfl rfl ?_
    refine wl_nil (q_n (k15 _ _ ?_))
    refine sx_retc ?_
    refine q_br (q_r (q_r (q_br (q_r (sx_ret1 Tryd.results8 rfl ?_)))))
    exact ⟨bFalse (s_ne h154), (cwl7.t d14)⟩
   ·
    refine sx_skip ?_
    refine q_bn (q_n (k11 _ _ ?_))
    refine sx_region ?_
    refine sm rfl rfl rfl rfl ?_
    refine sx_pure rfl rfl rfl (px_add rfl rfl (by omega)) ?_
    refine sa rfl rfl rfl rfl ?_
    refine wl_nil ?_
    exact fun a ha => ⟨_, by omega, (k + 1), ha.sub (Sub.cons (t := 0) rfl (.cons (t := 1) rfl (.cons (t := 5) (look_int (t := 5) rfl (by first | omega | simp)) (.nil)))), (cwl7.t d14), rfl, by omega, s_take_succ_eq he (by omega) (by omega) (Decidable.not_not.1 h154)⟩
  ·
   refine sx_exit ?_
   refine q_e (q_e (q_bx (q_n (k5 _ _ ?_))))
   refine sx_seq fun K16 k16 => sx_region ?_
   refine sa rfl rfl rfl rfl ?_
   refine wl_nil (q_n (k16 _ _ ?_))
   refine sx_retc ?_
   refine sx_ret1 Tryd.results8 rfl ?_
   have e1 : k = zs.length := by omega
   rw [e1, List.take_length, List.take_of_length_le (by omega)] at he
   exact ⟨bTrue he, cwl7⟩

theorem c_eqIntS {w : World} {va : Value} {lva uva : Nat} {zs : List Int} {vb : Value} {lvb uvb : Nat} {ys : List Int} (hva : Sl w lva uva va (zs)) (hvb : Sl w lvb uvb vb (ys)) (h63 : zs.length ≤ 4611686018427387904 ∧ ys.length ≤ 4611686018427387904) :
  Ret Tryd.prog 54 [va, vb] w fun v w' => v = .bool (decide (zs = ys)) ∧ Chg 0 0 w w' := by
 have hva0 := hva.fit
 have hvb0 := hvb.fit
 have hneq : zs.length ≠ ys.length → zs ≠ ys := fun h e => h (by rw [e])
 refine sx_enter Tryd.func54 rfl Tryd.ntmps54 (Nat.le_of_ble_eq_true rfl) ?_
 refine sx_seq fun K1 k1 => sx_region ?_
 refine sa rfl rfl rfl rfl ?_
 refine wl_nil (q_n (k1 _ _ ?_))
 refine sx_seq fun K2 k2 => ?_
 refine sx_seq fun K3 k3 => sx_region ?_
 refine sm rfl rfl rfl rfl ?_
 refine sx_pure rfl rfl rfl (px_len rfl Tryd.underlying44 hva0) ?_
 refine sm rfl rfl rfl rfl ?_
 refine sx_pure rfl rfl rfl (px_len rfl Tryd.underlying44 hvb0) ?_
 refine sx_pure rfl rfl rfl (px_ne rfl rfl) ?_
 refine wl_nil (q_n (k3 _ _ ?_))
 refine sx_condP rfl (fun h210 => ?_) (fun h210 => ?_)
 ·
  refine sx_seq fun K4 k4 => sx_region ?_
  refine sa rfl rfl rfl rfl ?_
  refine wl_nil (q_n (k4 _ _ ?_))
  refine sx_retc ?_
  refine q_r (sx_ret1 Tryd.results54 rfl ?_)
  exact ⟨bFalse (hneq (by omega)), (Chg.refl 0 0 _)⟩
 ·
  refine sx_skip ?_
  refine q_n (k2 _ _ ?_)
  refine sx_seq fun K5 k5 => ?_
  refine sx_seq fun K6 k6 => sx_region ?_
  refine sa rfl rfl rfl rfl ?_
  refine wl_nil (q_n (k6 _ _ ?_))
  refine sx_block ?_
  refine sx_loop (fun mm aa w' => ∃ (k : Nat), Agr 26 [(0, va), (1, vb), (5, .int .i64 ↑k)] aa ∧ Chg 0 0 w w' ∧ (mm = zs.length - k) ∧ (k ≤ zs.length) ∧ (zs.take k = ys.take k)) (_) (fun a ha => ⟨0, ha.sub (Sub.cons (t := 0) rfl (.cons (t := 1) rfl (.cons (t := 5) (look_int (t := 5) rfl (by first | omega | simp)) (.nil)))), Chg.refl _ _ _, rfl, by omega, by simp⟩) ?_
  rintro mm aa wl7 ⟨k, hAwl7, cwl7, hm, hk, he⟩
  refine (show cw Tryd.prog 26 _ _ _ wl7 from ?_) aa hAwl7
  clear hAwl7
  have zwl7 := cwl7.size
  refine sx_seq fun K8 k8 => ?_
  refine sx_seq fun K9 k9 => sx_region ?_
  refine sm rfl rfl rfl rfl ?_
  refine sm rfl rfl rfl rfl ?_
  have f10 := hva0.ext cwl7
  refine sx_pure rfl rfl rfl (px_len rfl Tryd.underlying44 f10) ?_
  refine sx_pure rfl rfl rfl (px_lt rfl rfl) ?_
  refine wl_nil (q_n (k9 _ _ ?_))
  refine sx_condP rfl (fun h213 => ?_) (fun h213 => ?_)
  ·
   refine sx_skip ?_
   refine q_n (k8 _ _ ?_)
   refine sx_seq fun K11 k11 => ?_
   refine sx_block ?_
   refine sx_seq fun K12 k12 => ?_
   have f13 := hvb0.ext cwl7
   refine dx_region (fun w' => Chg 0 0 wl7 w') (by kernel_rfl) (Chg.zero (Chg.drew _)) ?_
   have d14 := Chg.drew wl7
   have s14 : Chg 0 0 wl7 (World.drew wl7) := Chg.zero (Chg.drew _)
   have y14 : (World.drew wl7).heap.size = wl7.heap.size := rfl
   generalize World.drew wl7 = w14 at *
   have zw14 := d14.size
   refine dx_take 0 rfl rfl rfl rfl (by kernel_rfl) (by kernel_rfl) (by kernel_rfl) s14 (fun _ hS => px_move rfl) ?_
   refine dx_take 1 rfl rfl rfl rfl (by kernel_rfl) (by kernel_rfl) (by kernel_rfl) s14 (fun _ hS => px_move rfl) ?_
   refine dx_take 2 rfl rfl rfl rfl (by kernel_rfl) (by kernel_rfl) (by kernel_rfl) s14 (fun _ hS => px_index1 (j := k) rfl rfl (by omega) Tryd.underlying44 Tryd.sizeOf3 ((f10).chg hS (by omega)) (by omega)) ?_
   refine dx_take 3 rfl rfl rfl rfl (by kernel_rfl) (by kernel_rfl) (by kernel_rfl) s14 (fun _ hS => px_load rfl (((f10).chg hS (by omega)).load1 (at_int (by omega)) Tryd.isAgg3)) ?_
   refine dx_take 4 rfl rfl rfl rfl (by kernel_rfl) (by kernel_rfl) (by kernel_rfl) s14 (fun _ hS => px_move rfl) ?_
   refine dx_take 5 rfl rfl rfl rfl (by kernel_rfl) (by kernel_rfl) (by kernel_rfl) s14 (fun _ hS => px_move rfl) ?_
   refine dx_take 6 rfl rfl rfl rfl (by kernel_rfl) (by kernel_rfl) (by kernel_rfl) s14 (fun _ hS => px_index1 (j := k) rfl rfl (by omega) Tryd.underlying44 Tryd.sizeOf3 ((f13).chg hS (by omega)) (by omega)) ?_
   refine dx_take 7 rfl rfl rfl rfl (by kernel_rfl) (by kernel_rfl) (by kernel_rfl) s14 (fun _ hS => px_load rfl (((f13).chg hS (by omega)).load1 (at_int (by omega)) Tryd.isAgg3)) ?_
   refine dx_take 8 rfl rfl rfl rfl (by kernel_rfl) (by kernel_rfl) (by kernel_rfl) s14 (fun _ hS => px_ne rfl rfl) ?_
   refine dx_done (by kernel_rfl) ?_
   refine q_n (k12 _ _ ?_)
   refine sx_sub (Sub.cons (t := 0) rfl (.cons (t := 1) rfl (.cons (t := 5) rfl (.cons (t := 25) rfl (.nil))))) ?_
   refine sx_condP rfl (fun h214 => ?_) (fun h214 => ?_)
   ·
    refine sx_seq fun K15 k15 => sx_region ?_
    refine sa rfl rfl rfl rfl ?_
    refine wl_nil (q_n (k15 _ _ ?_))
    refine sx_retc ?_
    refine q_br (q_r (q_r (q_br (q_r (sx_ret1 Tryd.results54 rfl ?_)))))
    exact ⟨bFalse (ne_of_getD h214), (cwl7.t d14)⟩
   ·
    refine sx_skip ?_
    refine q_bn (q_n (k11 _ _ ?_))
    refine sx_region ?_
    refine sm rfl rfl rfl rfl ?_
    refine sx_pure rfl rfl rfl (px_add rfl rfl (by omega)) ?_
    refine sa rfl rfl rfl rfl ?_
    refine wl_nil ?_
    exact fun a ha => ⟨_, by omega, (k + 1), ha.sub (Sub.cons (t := 0) rfl (.cons (t := 1) rfl (.cons (t := 5) (look_int (t := 5) rfl (by first | omega | simp)) (.nil)))), (cwl7.t d14), rfl, by omega, take_succ_eq he (by omega) (by omega) (Decidable.not_not.1 h214)⟩
  ·
   refine sx_exit ?_
   refine q_e (q_e (q_bx (q_n (k5 _ _ ?_))))
   refine sx_seq fun K16 k16 => sx_region ?_
   refine sa rfl rfl rfl rfl ?_
   refine wl_nil (q_n (k16 _ _ ?_))
   refine sx_retc ?_
   refine sx_ret1 Tryd.results54 rfl ?_
   have e1 : k = zs.length := by omega
   rw [e1, List.take_length, List.take_of_length_le (by omega)] at he
   exact ⟨bTrue he, cwl7⟩

theorem c_eqSigned {w : World} {n1 : Bool} {v1 : Value} {lv1 uv1 : Nat} {z1 : List Int} {n2 : Bool} {v2 : Value} {lv2 uv2 : Nat} {z2 : List Int} (hv1 : Sl w lv1 uv1 v1 (z1)) (hv2 : Sl w lv2 uv2 v2 (z2)) (h63 : z1.length ≤ 4611686018427387904 ∧ z2.length ≤ 4611686018427387904) :
  Ret Tryd.prog 46 [.agg #[.bool n1, v1], .agg #[.bool n2, v2]] w fun v w' => v = .bool (decide (n1 = n2 ∧ z1 = z2)) ∧ Chg 0 0 w w' := by
 have hv10 := hv1.fit
 have hv20 := hv2.fit
 refine sx_enter Tryd.func46 rfl Tryd.ntmps46 (Nat.le_of_ble_eq_true rfl) ?_
 refine sx_seq fun K1 k1 => sx_region ?_
 refine sx_box [.bool n1, v1] rfl rfl rfl (fun b2 w3 eb2 sb2 fb2 cb2 => ?_)
 have zw3 := cb2.size
 refine sx_box [.bool n2, v2] rfl rfl rfl (fun b4 w5 eb4 sb4 fb4 cb4 => ?_)
 have zw5 := cb4.size
 refine sa rfl rfl rfl rfl ?_
 refine wl_nil (q_n (k1 _ _ ?_))
 refine sx_seq fun K6 k6 => ?_
 refine sx_seq fun K7 k7 => sx_region ?_
 refine sx_pure rfl rfl rfl (px_field rfl xfld53x0) ?_
 have f8 := fb2.ext cb4
 refine sx_pure rfl rfl rfl (px_load rfl (f8.load1 rfl Tryd.isAgg4)) ?_
 refine sx_pure rfl rfl rfl (px_field rfl xfld53x0) ?_
 refine sx_pure rfl rfl rfl (px_load rfl (fb4.load1 rfl Tryd.isAgg4)) ?_
 refine sx_pure rfl rfl rfl (px_neB Tryd.underlying4 rfl rfl) ?_
 refine wl_nil (q_n (k7 _ _ ?_))
 refine sx_condB rfl (fun h263 => ?_) (fun h263 => ?_)
 ·
  refine sx_seq fun K9 k9 => sx_region ?_
  refine sa rfl rfl rfl rfl ?_
  refine wl_nil (q_n (k9 _ _ ?_))
  refine sx_retc ?_
  refine q_r (sx_ret1 Tryd.results46 rfl ?_)
  exact ⟨(by first | exact bTrue (by grind) | exact bFalse (by grind) | exact bIff (by grind)), (cb2.t cb4)⟩
 ·
  refine sx_skip ?_
  refine q_n (k6 _ _ ?_)
  refine sx_seq fun K10 k10 => ?_
  refine sx_seq fun K11 k11 => sx_region ?_
  refine sx_pure rfl rfl rfl (px_field rfl xfld53x1) ?_
  refine sx_pure rfl rfl rfl (px_load rfl (f8.load1 rfl Tryd.isAgg44)) ?_
  refine sx_pure rfl rfl rfl (px_field rfl xfld53x1) ?_
  refine sx_pure rfl rfl rfl (px_load rfl (fb4.load1 rfl Tryd.isAgg44)) ?_
  have f12 := hv10.ext cb2
  have f13 := f12.ext cb4
  have f14 := hv20.ext cb2
  have f15 := f14.ext cb4
  refine sx_call rfl rfl Tryd.call54 (c_eqIntS f13 f15 (by omega)) (fun v16 w16 p16 => ?_)
  obtain ⟨rfl, c16⟩ := p16
  have zw16 := c16.size
  refine sx_pure rfl rfl rfl (px_notP rfl) ?_
  refine wl_nil (q_n (k11 _ _ ?_))
  refine sx_sub (Sub.cons (t := 4) rfl (.cons (t := 15) rfl (.nil))) ?_
  refine sx_condP rfl (fun h266 => ?_) (fun h266 => ?_)
  ·
   refine sx_seq fun K17 k17 => sx_region ?_
   refine sa rfl rfl rfl rfl ?_
   refine wl_nil (q_n (k17 _ _ ?_))
   refine sx_retc ?_
   refine q_r (sx_ret1 Tryd.results46 rfl ?_)
   exact ⟨(by first | exact bTrue (by grind) | exact bFalse (by grind) | exact bIff (by grind)), ((cb2.t cb4).t c16)⟩
  ·
   refine sx_skip ?_
   refine q_n (k10 _ _ ?_)
   refine sx_seq fun K18 k18 => sx_region ?_
   refine sa rfl rfl rfl rfl ?_
   refine wl_nil (q_n (k18 _ _ ?_))
   refine sx_retc ?_
   refine sx_ret1 Tryd.results46 rfl ?_
   exact ⟨(by first | exact bTrue (by grind) | exact bFalse (by grind) | exact bIff (by grind)), ((cb2.t cb4).t c16)⟩

theorem c_eqDec {w : World} {n1 : Bool} {v1 : Value} {lv1 uv1 : Nat} {z1 : List Int} {p1 : Int} {n2 : Bool} {v2 : Value} {lv2 uv2 : Nat} {z2 : List Int} {p2 : Int} (hv1 : Sl w lv1 uv1 v1 (z1)) (hv2 : Sl w lv2 uv2 v2 (z2)) (h63 : z1.length ≤ 4611686018427387904 ∧ z2.length ≤ 4611686018427387904) :
  Ret Tryd.prog 38 [.agg #[.bool n1, v1, .int .i64 p1], .agg #[.bool n2, v2, .int .i64 p2]] w fun v w' => v = .bool (decide (n1 = n2 ∧ z1 = z2 ∧ p1 = p2)) ∧ Chg 0 0 w w' := by
 have hv10 := hv1.fit
 have hv20 := hv2.fit
 refine sx_enter Tryd.func38 rfl Tryd.ntmps38 (Nat.le_of_ble_eq_true rfl) ?_
 refine sx_seq fun K1 k1 => sx_region ?_
 refine sx_box [.bool n1, v1, .int .i64 p1] rfl rfl rfl (fun b2 w3 eb2 sb2 fb2 cb2 => ?_)
 have zw3 := cb2.size
 refine sx_box [.bool n2, v2, .int .i64 p2] rfl rfl rfl (fun b4 w5 eb4 sb4 fb4 cb4 => ?_)
 have zw5 := cb4.size
 refine sa rfl rfl rfl rfl ?_
 refine wl_nil (q_n (k1 _ _ ?_))
 refine sx_seq fun K6 k6 => ?_
 refine sx_seq fun K7 k7 => sx_region ?_
 refine sx_pure rfl rfl rfl (px_field rfl xfld55x0) ?_
 have f8 := fb2.ext cb4
 refine sx_pure rfl rfl rfl (px_load rfl (f8.loadA (vs := [.bool n1, v1]) (look_lit rfl) Tryd.isAgg53 Tryd.sizeOf53)) ?_
 refine sx_pure rfl rfl rfl (px_field rfl xfld55x0) ?_
 refine sx_pure rfl rfl rfl (px_load rfl (fb4.loadA (vs := [.bool n2, v2]) (look_lit rfl) Tryd.isAgg53 Tryd.sizeOf53)) ?_
 have f9 := hv10.ext cb2
 have f10 := f9.ext cb4
 have f11 := hv20.ext cb2
 have f12 := f11.ext cb4
 refine sx_call rfl rfl Tryd.call46 (c_eqSigned f10 f12 (by omega)) (fun v13 w13 p13 => ?_)
 obtain ⟨rfl, c13⟩ := p13
 have zw13 := c13.size
 refine sx_pure rfl rfl rfl (px_notP rfl) ?_
 refine wl_nil (q_n (k7 _ _ ?_))
 refine sx_condP rfl (fun h405 => ?_) (fun h405 => ?_)
 ·
  refine sx_seq fun K14 k14 => sx_region ?_
  refine sa rfl rfl rfl rfl ?_
  refine wl_nil (q_n (k14 _ _ ?_))
  refine sx_retc ?_
  refine q_r (sx_ret1 Tryd.results38 rfl ?_)
  exact ⟨(by first | exact bTrue (by grind) | exact bFalse (by grind) | exact bIff (by grind)), ((cb2.t cb4).t c13)⟩
 ·
  refine sx_skip ?_
  refine q_n (k6 _ _ ?_)
  refine sx_seq fun K15 k15 => ?_
  refine sx_seq fun K16 k16 => sx_region ?_
  refine sx_pure rfl rfl rfl (px_field rfl xfld55x1) ?_
  have f17 := f8.ext c13
  refine sx_pure rfl rfl rfl (px_load rfl (f17.load1 rfl Tryd.isAgg3)) ?_
  refine sx_pure rfl rfl rfl (px_field rfl xfld55x1) ?_
  have f18 := fb4.ext c13
  refine sx_pure rfl rfl rfl (px_load rfl (f18.load1 rfl Tryd.isAgg3)) ?_
  refine sx_pure rfl rfl rfl (px_ne rfl rfl) ?_
  refine wl_nil (q_n (k16 _ _ ?_))
  refine sx_sub (Sub.cons (t := 4) rfl (.cons (t := 15) rfl (.nil))) ?_
  refine sx_condP rfl (fun h408 => ?_) (fun h408 => ?_)
  ·
   refine sx_seq fun K19 k19 => sx_region ?_
   refine sa rfl rfl rfl rfl ?_
   refine wl_nil (q_n (k19 _ _ ?_))
   refine sx_retc ?_
   refine q_r (sx_ret1 Tryd.results38 rfl ?_)
   exact ⟨(by first | exact bTrue (by grind) | exact bFalse (by grind) | exact bIff (by grind)), ((cb2.t cb4).t c13)⟩
  ·
   refine sx_skip ?_
   refine q_n (k15 _ _ ?_)
   refine sx_seq fun K20 k20 => sx_region ?_
   refine sa rfl rfl rfl rfl ?_
   refine wl_nil (q_n (k20 _ _ ?_))
   refine sx_retc ?_
   refine sx_ret1 Tryd.results38 rfl ?_
   exact ⟨(by first | exact bTrue (by grind) | exact bFalse (by grind) | exact bIff (by grind)), ((cb2.t cb4).t c13)⟩

theorem c_eqRate {w : World} {f1 : ByteArray} {t1 : ByteArray} {n1 : Bool} {v1 : Value} {lv1 uv1 : Nat} {z1 : List Int} {p1 : Int} {f2 : ByteArray} {t2 : ByteArray} {n2 : Bool} {v2 : Value} {lv2 uv2 : Nat} {z2 : List Int} {p2 : Int} (hv1 : Sl w lv1 uv1 v1 (z1)) (hv2 : Sl w lv2 uv2 v2 (z2)) (h63 : z1.length ≤ 4611686018427387904 ∧ z2.length ≤ 4611686018427387904) :
  Ret Tryd.prog 28 [.agg #[.string f1, .string t1, .bool n1, v1, .int .i64 p1], .agg #[.string f2, .string t2, .bool n2, v2, .int .i64 p2]] w fun v w' => v = .bool (decide (f1 = f2 ∧ t1 = t2 ∧ n1 = n2 ∧ z1 = z2 ∧ p1 = p2)) ∧ Chg 0 0 w w' := by
 have hv10 := hv1.fit
 have hv20 := hv2.fit
 refine sx_enter Tryd.func28 rfl Tryd.ntmps28 (Nat.le_of_ble_eq_true rfl) ?_
 refine sx_seq fun K1 k1 => sx_region ?_
 refine sx_box [.string f1, .string t1, .bool n1, v1, .int .i64 p1] rfl rfl rfl (fun b2 w3 eb2 sb2 fb2 cb2 => ?_)
 have zw3 := cb2.size
 refine sx_box [.string f2, .string t2, .bool n2, v2, .int .i64 p2] rfl rfl rfl (fun b4 w5 eb4 sb4 fb4 cb4 => ?_)
 have zw5 := cb4.size
 refine sa rfl rfl rfl rfl ?_
 refine wl_nil (q_n (k1 _ _ ?_))
 refine sx_seq fun K6 k6 => ?_
 refine sx_seq fun K7 k7 => sx_region ?_
 refine sx_pure rfl rfl rfl (px_field rfl xfld57x0) ?_
 have f8 := fb2.ext cb4
 refine sx_pure rfl rfl rfl (px_load rfl (f8.load1 rfl Tryd.isAgg9)) ?_
 refine sx_pure rfl rfl rfl (px_field rfl xfld57x0) ?_
 refine sx_pure rfl rfl rfl (px_load rfl (fb4.load1 rfl Tryd.isAgg9)) ?_
 refine sx_pure rfl rfl rfl (px_neS rfl rfl) ?_
 refine wl_nil (q_n (k7 _ _ ?_))
 refine sx_condP rfl (fun h557 => ?_) (fun h557 => ?_)
 ·
  refine sx_seq fun K9 k9 => sx_region ?_
  refine sa rfl rfl rfl rfl ?_
  refine wl_nil (q_n (k9 _ _ ?_))
  refine sx_retc ?_
  refine q_r (sx_ret1 Tryd.results28 rfl ?_)
  exact ⟨(by first | exact bTrue (by grind) | exact bFalse (by grind) | exact bIff (by grind)), (cb2.t cb4)⟩
 ·
  refine sx_skip ?_
  refine q_n (k6 _ _ ?_)
  refine sx_seq fun K10 k10 => ?_
  refine sx_seq fun K11 k11 => sx_region ?_
  refine sx_pure rfl rfl rfl (px_field rfl xfld57x1) ?_
  refine sx_pure rfl rfl rfl (px_load rfl (f8.load1 rfl Tryd.isAgg9)) ?_
  refine sx_pure rfl rfl rfl (px_field rfl xfld57x1) ?_
  refine sx_pure rfl rfl rfl (px_load rfl (fb4.load1 rfl Tryd.isAgg9)) ?_
  refine sx_pure rfl rfl rfl (px_neS rfl rfl) ?_
  refine wl_nil (q_n (k11 _ _ ?_))
  refine sx_sub (Sub.cons (t := 2) rfl (.cons (t := 3) rfl (.cons (t := 4) rfl (.cons (t := 14) rfl (.nil))))) ?_
  refine sx_condP rfl (fun h560 => ?_) (fun h560 => ?_)
  ·
   refine sx_seq fun K12 k12 => sx_region ?_
   refine sa rfl rfl rfl rfl ?_
   refine wl_nil (q_n (k12 _ _ ?_))
   refine sx_retc ?_
   refine q_r (sx_ret1 Tryd.results28 rfl ?_)
   exact ⟨(by first | exact bTrue (by grind) | exact bFalse (by grind) | exact bIff (by grind)), (cb2.t cb4)⟩
  ·
   refine sx_skip ?_
   refine q_n (k10 _ _ ?_)
   refine sx_seq fun K13 k13 => ?_
   refine sx_seq fun K14 k14 => sx_region ?_
   refine sx_pure rfl rfl rfl (px_field rfl xfld57x2) ?_
   refine sx_pure rfl rfl rfl (px_load rfl (f8.loadA (vs := [.bool n1, v1, .int .i64 p1]) (look_lit rfl) Tryd.isAgg55 Tryd.sizeOf55)) ?_
   refine sx_pure rfl rfl rfl (px_field rfl xfld57x2) ?_
   refine sx_pure rfl rfl rfl (px_load rfl (fb4.loadA (vs := [.bool n2, v2, .int .i64 p2]) (look_lit rfl) Tryd.isAgg55 Tryd.sizeOf55)) ?_
   have f15 := hv10.ext cb2
   have f16 := f15.ext cb4
   have f17 := hv20.ext cb2
   have f18 := f17.ext cb4
   refine sx_call rfl rfl Tryd.call38 (c_eqDec f16 f18 (by omega)) (fun v19 w19 p19 => ?_)
   obtain ⟨rfl, c19⟩ := p19
   have zw19 := c19.size
   refine sx_pure rfl rfl rfl (px_notP rfl) ?_
   refine wl_nil (q_n (k14 _ _ ?_))
   refine sx_condP rfl (fun h563 => ?_) (fun h563 => ?_)
   ·
    refine sx_seq fun K20 k20 => sx_region ?_
    refine sa rfl rfl rfl rfl ?_
    refine wl_nil (q_n (k20 _ _ ?_))
    refine sx_retc ?_
    refine q_r (sx_ret1 Tryd.results28 rfl ?_)
    exact ⟨(by first | exact bTrue (by grind) | exact bFalse (by grind) | exact bIff (by grind)), ((cb2.t cb4).t c19)⟩
   ·
    refine sx_skip ?_
    refine q_n (k13 _ _ ?_)
    refine sx_seq fun K21 k21 => sx_region ?_
    refine sa rfl rfl rfl rfl ?_
    refine wl_nil (q_n (k21 _ _ ?_))
    refine sx_retc ?_
    refine sx_ret1 Tryd.results28 rfl ?_
    exact ⟨(by first | exact bTrue (by grind) | exact bFalse (by grind) | exact bIff (by grind)), ((cb2.t cb4).t c19)⟩

theorem c_eqRateS {w : World} {va : Value} {lva uva : Nat} {ts : List Rt} {vva : List Value} {vb : Value} {lvb uvb : Nat} {rs : List Rt} {vvb : List Value} (hva : RtS w lva uva va ts vva) (hvb : RtS w lvb uvb vb rs vvb) (h63 : ts.length ≤ 1048576 ∧ rs.length ≤ 1048576) (hz1 : ∀ i, i < ts.length → (ts.getD i rt0).2.2.2.1.length ≤ 1048576) (hz2 : ∀ i, i < rs.length → (rs.getD i rt0).2.2.2.1.length ≤ 1048576) :
  Ret Tryd.prog 17 [va, vb] w fun v w' => v = .bool (decide (ts = rs)) ∧ Chg 0 0 w w' := by
 have hva0 := hva.fit
 have hvb0 := hvb.fit
 refine sx_enter Tryd.func17 rfl Tryd.ntmps17 (Nat.le_of_ble_eq_true rfl) ?_
 refine sx_seq fun K1 k1 => sx_region ?_
 refine sa rfl rfl rfl rfl ?_
 refine wl_nil (q_n (k1 _ _ ?_))
 refine sx_seq fun K2 k2 => ?_
 refine sx_seq fun K3 k3 => sx_region ?_
 refine sm rfl rfl rfl rfl ?_
 refine sx_pure rfl rfl rfl (px_len rfl Tryd.underlying28 hva0.sv) ?_
 refine sm rfl rfl rfl rfl ?_
 refine sx_pure rfl rfl rfl (px_len rfl Tryd.underlying28 hvb0.sv) ?_
 refine sx_pure rfl rfl rfl (px_ne rfl rfl) ?_
 refine wl_nil (q_n (k3 _ _ ?_))
 refine sx_condP rfl (fun h611 => ?_) (fun h611 => ?_)
 ·
  refine sx_seq fun K4 k4 => sx_region ?_
  refine sa rfl rfl rfl rfl ?_
  refine wl_nil (q_n (k4 _ _ ?_))
  refine sx_retc ?_
  refine q_r (sx_ret1 Tryd.results17 rfl ?_)
  exact ⟨bFalse (len_ne_rt (by omega)), (Chg.refl 0 0 _)⟩
 ·
  refine sx_skip ?_
  refine q_n (k2 _ _ ?_)
  refine sx_seq fun K5 k5 => ?_
  refine sx_seq fun K6 k6 => sx_region ?_
  refine sa rfl rfl rfl rfl ?_
  refine wl_nil (q_n (k6 _ _ ?_))
  refine sx_block ?_
  refine sx_loop (fun mm aa w' => ∃ (k : Nat), Agr 27 [(0, va), (1, vb), (5, .int .i64 ↑k)] aa ∧ Chg 0 0 w w' ∧ (mm = ts.length - k) ∧ (k ≤ ts.length) ∧ (ts.take k = rs.take k)) (_) (fun a ha => ⟨0, ha.sub (Sub.cons (t := 0) rfl (.cons (t := 1) rfl (.cons (t := 5) (look_int (t := 5) rfl (by first | omega | simp)) (.nil)))), Chg.refl _ _ _, rfl, by omega, by simp⟩) ?_
  rintro mm aa wl7 ⟨k, hAwl7, cwl7, hm, hk, he⟩
  refine (show cw Tryd.prog 27 _ _ _ wl7 from ?_) aa hAwl7
  clear hAwl7
  have zwl7 := cwl7.size
  refine sx_seq fun K8 k8 => ?_
  refine sx_seq fun K9 k9 => sx_region ?_
  refine sm rfl rfl rfl rfl ?_
  refine sm rfl rfl rfl rfl ?_
  have f10 := hva0.ext cwl7
  refine sx_pure rfl rfl rfl (px_len rfl Tryd.underlying28 f10.sv) ?_
  refine sx_pure rfl rfl rfl (px_lt rfl rfl) ?_
  refine wl_nil (q_n (k9 _ _ ?_))
  refine sx_condP rfl (fun h614 => ?_) (fun h614 => ?_)
  ·
   refine sx_skip ?_
   refine q_n (k8 _ _ ?_)
   refine sx_seq fun K11 k11 => ?_
   refine sx_block ?_
   refine sx_seq fun K12 k12 => ?_
   have f13 := hvb0.ext cwl7
   refine dx_region (fun w' => Chg 0 0 wl7 w') (by kernel_rfl) (Chg.zero (Chg.drew _)) ?_
   have d14 := Chg.drew wl7
   have s14 : Chg 0 0 wl7 (World.drew wl7) := Chg.zero (Chg.drew _)
   have y14 : (World.drew wl7).heap.size = wl7.heap.size := rfl
   generalize World.drew wl7 = w14 at *
   have zw14 := d14.size
   refine dx_take 0 rfl rfl rfl rfl (by kernel_rfl) (by kernel_rfl) (by kernel_rfl) s14 (fun _ hS => px_move rfl) ?_
   refine dx_take 1 rfl rfl rfl rfl (by kernel_rfl) (by kernel_rfl) (by kernel_rfl) s14 (fun _ hS => px_move rfl) ?_
   refine dx_take 2 rfl rfl rfl rfl (by kernel_rfl) (by kernel_rfl) (by kernel_rfl) s14 (fun _ hS => px_indexK (j := k) rfl rfl (by omega) Tryd.underlying28 Tryd.sizeOf57 ((f10.sv).chg hS (by omega)) (by omega)) ?_
   refine dx_take 3 rfl rfl rfl rfl (by kernel_rfl) (by kernel_rfl) (by kernel_rfl) s14 (fun _ hS => px_load rfl (((f10.sv).chg hS (by omega)).loadA (rt_look f10.len (by omega)) Tryd.isAgg57 Tryd.sizeOf57)) ?_
   refine dx_take 4 rfl rfl rfl rfl (by kernel_rfl) (by kernel_rfl) (by kernel_rfl) s14 (fun _ hS => px_move rfl) ?_
   refine dx_take 5 rfl rfl rfl rfl (by kernel_rfl) (by kernel_rfl) (by kernel_rfl) s14 (fun _ hS => px_move rfl) ?_
   refine dx_take 6 rfl rfl rfl rfl (by kernel_rfl) (by kernel_rfl) (by kernel_rfl) s14 (fun _ hS => px_indexK (j := k) rfl rfl (by omega) Tryd.underlying28 Tryd.sizeOf57 ((f13.sv).chg hS (by omega)) (by omega)) ?_
   refine dx_take 7 rfl rfl rfl rfl (by kernel_rfl) (by kernel_rfl) (by kernel_rfl) s14 (fun _ hS => px_load rfl (((f13.sv).chg hS (by omega)).loadA (rt_look f13.len (by omega)) Tryd.isAgg57 Tryd.sizeOf57)) ?_
   refine dx_eff 8 rfl (by kernel_rfl) ?_
   have f15 := (f10.nest k (by omega)).ext d14
   have f16 := (f13.nest k (by omega)).ext d14
   refine sx_call rfl rfl Tryd.call28 (c_eqRate f15 f16 (by have h1 := hz1 k (by omega); have h2 := hz2 k (by omega); omega)) (fun v17 w17 p17 => ?_)
   obtain ⟨rfl, c17⟩ := p17
   have zw17 := c17.size
   have s18 : Chg 0 0 wl7 w17 := (d14.t c17)
   refine wl_nil ?_
   refine dx_next s18 ?_
   refine dx_take 9 rfl rfl rfl rfl (by kernel_rfl) (by kernel_rfl) (by kernel_rfl) s18 (fun _ hS => px_notP rfl) ?_
   refine dx_done (by kernel_rfl) ?_
   refine q_n (k12 _ _ ?_)
   refine sx_sub (Sub.cons (t := 0) rfl (.cons (t := 1) rfl (.cons (t := 5) rfl (.cons (t := 26) rfl (.nil))))) ?_
   refine sx_condP rfl (fun h615 => ?_) (fun h615 => ?_)
   ·
    refine sx_seq fun K19 k19 => sx_region ?_
    refine sa rfl rfl rfl rfl ?_
    refine wl_nil (q_n (k19 _ _ ?_))
    refine sx_retc ?_
    refine q_br (q_r (q_r (q_br (q_r (sx_ret1 Tryd.results17 rfl ?_)))))
    exact ⟨bFalse (rt_ne h615), ((cwl7.t d14).t c17)⟩
   ·
    refine sx_skip ?_
    refine q_bn (q_n (k11 _ _ ?_))
    refine sx_region ?_
    refine sm rfl rfl rfl rfl ?_
    refine sx_pure rfl rfl rfl (px_add rfl rfl (by omega)) ?_
    refine sa rfl rfl rfl rfl ?_
    refine wl_nil ?_
    exact fun a ha => ⟨_, by omega, (k + 1), ha.sub (Sub.cons (t := 0) rfl (.cons (t := 1) rfl (.cons (t := 5) (look_int (t := 5) rfl (by first | omega | simp)) (.nil)))), ((cwl7.t d14).t c17), rfl, by omega, rt_take_succ_eq he (by omega) (by omega) (rt_eq (Decidable.not_not.1 h615))⟩
  ·
   refine sx_exit ?_
   refine q_e (q_e (q_bx (q_n (k5 _ _ ?_))))
   refine sx_seq fun K20 k20 => sx_region ?_
   refine sa rfl rfl rfl rfl ?_
   refine wl_nil (q_n (k20 _ _ ?_))
   refine sx_retc ?_
   refine sx_ret1 Tryd.results17 rfl ?_
   have e1 : k = ts.length := by omega
   rw [e1, List.take_length, List.take_of_length_le (by omega)] at he
   exact ⟨bTrue he, cwl7⟩

theorem c_eqRates {w : World} {pv : ByteArray} {va : Value} {lva uva : Nat} {ts : List Rt} {vva : List Value} {qv : ByteArray} {vb : Value} {lvb uvb : Nat} {rs : List Rt} {vvb : List Value} (hva : RtS w lva uva va ts vva) (hvb : RtS w lvb uvb vb rs vvb) (h63 : ts.length ≤ 1048576 ∧ rs.length ≤ 1048576) (hz1 : ∀ i, i < ts.length → (ts.getD i rt0).2.2.2.1.length ≤ 1048576) (hz2 : ∀ i, i < rs.length → (rs.getD i rt0).2.2.2.1.length ≤ 1048576) :
  Ret Tryd.prog 9 [.agg #[.string pv, va], .agg #[.string qv, vb]] w fun v w' => v = .bool (decide (pv = qv ∧ ts = rs)) ∧ Chg 0 0 w w' := by
 have hva0 := hva.fit
 have hvb0 := hvb.fit
 refine sx_enter Tryd.func9 rfl Tryd.ntmps9 (Nat.le_of_ble_eq_true rfl) ?_
 refine sx_seq fun K1 k1 => sx_region ?_
 refine sx_box [.string pv, va] rfl rfl rfl (fun b2 w3 eb2 sb2 fb2 cb2 => ?_)
 have zw3 := cb2.size
 refine sx_box [.string qv, vb] rfl rfl rfl (fun b4 w5 eb4 sb4 fb4 cb4 => ?_)
 have zw5 := cb4.size
 refine sa rfl rfl rfl rfl ?_
 refine wl_nil (q_n (k1 _ _ ?_))
 refine sx_seq fun K6 k6 => ?_
 refine sx_seq fun K7 k7 => sx_region ?_
 refine sx_pure rfl rfl rfl (px_field rfl xfld30x0) ?_
 have f8 := fb2.ext cb4
 refine sx_pure rfl rfl rfl (px_load rfl (f8.load1 rfl Tryd.isAgg9)) ?_
 refine sx_pure rfl rfl rfl (px_field rfl xfld30x0) ?_
 refine sx_pure rfl rfl rfl (px_load rfl (fb4.load1 rfl Tryd.isAgg9)) ?_
 refine sx_pure rfl rfl rfl (px_neS rfl rfl) ?_
 refine wl_nil (q_n (k7 _ _ ?_))
 refine sx_condP rfl (fun h623 => ?_) (fun h623 => ?_)
 ·
  refine sx_seq fun K9 k9 => sx_region ?_
  refine sa rfl rfl rfl rfl ?_
  refine wl_nil (q_n (k9 _ _ ?_))
  refine sx_retc ?_
  refine q_r (sx_ret1 Tryd.results9 rfl ?_)
  exact ⟨(by first | exact bTrue (by grind) | exact bFalse (by grind) | exact bIff (by grind)), (cb2.t cb4)⟩
 ·
  refine sx_skip ?_
  refine q_n (k6 _ _ ?_)
  refine sx_seq fun K10 k10 => ?_
  refine sx_seq fun K11 k11 => sx_region ?_
  refine sx_pure rfl rfl rfl (px_field rfl xfld30x1) ?_
  refine sx_pure rfl rfl rfl (px_load rfl (f8.load1 rfl Tryd.isAgg28)) ?_
  refine sx_pure rfl rfl rfl (px_field rfl xfld30x1) ?_
  refine sx_pure rfl rfl rfl (px_load rfl (fb4.load1 rfl Tryd.isAgg28)) ?_
  have f12 := hva0.ext cb2
  have f13 := f12.ext cb4
  have f14 := hvb0.ext cb2
  have f15 := f14.ext cb4
  refine sx_call rfl rfl Tryd.call17 (c_eqRateS f13 f15 (by omega) (by assumption) (by assumption)) (fun v16 w16 p16 => ?_)
  obtain ⟨rfl, c16⟩ := p16
  have zw16 := c16.size
  refine sx_pure rfl rfl rfl (px_notP rfl) ?_
  refine wl_nil (q_n (k11 _ _ ?_))
  refine sx_sub (Sub.cons (t := 4) rfl (.cons (t := 15) rfl (.nil))) ?_
  refine sx_condP rfl (fun h626 => ?_) (fun h626 => ?_)
  ·
   refine sx_seq fun K17 k17 => sx_region ?_
   refine sa rfl rfl rfl rfl ?_
   refine wl_nil (q_n (k17 _ _ ?_))
   refine sx_retc ?_
   refine q_r (sx_ret1 Tryd.results9 rfl ?_)
   exact ⟨(by first | exact bTrue (by grind) | exact bFalse (by grind) | exact bIff (by grind)), ((cb2.t cb4).t c16)⟩
  ·
   refine sx_skip ?_
   refine q_n (k10 _ _ ?_)
   refine sx_seq fun K18 k18 => sx_region ?_
   refine sa rfl rfl rfl rfl ?_
   refine wl_nil (q_n (k18 _ _ ?_))
   refine sx_retc ?_
   refine sx_ret1 Tryd.results9 rfl ?_
   exact ⟨(by first | exact bTrue (by grind) | exact bFalse (by grind) | exact bIff (by grind)), ((cb2.t cb4).t c16)⟩

theorem c_markText {w : World} {n : Int} (hn : n ≤ 4611686018427387904) :
  Ret Tryd.prog 19 [.int .i64 n] w fun v w' => v = .string (mText n) ∧ Chg 0 0 w w' := by
 refine sx_enter Tryd.func19 rfl Tryd.ntmps19 (Nat.le_of_ble_eq_true rfl) ?_
 refine sx_seq fun K1 k1 => sx_region ?_
 refine sa rfl rfl rfl rfl ?_
 refine wl_nil (q_n (k1 _ _ ?_))
 refine sx_seq fun K2 k2 => ?_
 refine sx_seq fun K3 k3 => sx_region ?_
 refine sm rfl rfl rfl rfl ?_
 refine sx_pure rfl rfl rfl (px_le rfl rfl) ?_
 refine wl_nil (q_n (k3 _ _ ?_))
 refine sx_condP rfl (fun h138 => ?_) (fun h138 => ?_)
 ·
  refine sx_seq fun K4 k4 => sx_region ?_
  refine sa rfl rfl rfl rfl ?_
  refine wl_nil (q_n (k4 _ _ ?_))
  refine sx_retc ?_
  refine q_r (sx_ret1 Tryd.results19 rfl ?_)
  exact ⟨(by unfold mText; rw [if_pos (by omega)]), (Chg.refl 0 0 _)⟩
 ·
  refine sx_skip ?_
  refine q_n (k2 _ _ ?_)
  refine sx_seq fun K5 k5 => sx_region ?_
  refine sa rfl rfl rfl rfl ?_
  refine wl_nil (q_n (k5 _ _ ?_))
  refine sx_seq fun K6 k6 => ?_
  refine sx_block ?_
  refine sx_loop (fun mm aa w' => ∃ (m : Int) (s : ByteArray), Agr 20 [(0, .int .i64 m), (3, .string s)] aa ∧ Chg 0 0 w w' ∧ (mm = m.toNat) ∧ (0 ≤ m ∧ m ≤ 4611686018427387904) ∧ (↑s.size + m ≤ 4611686018427387904) ∧ (mdig m.toNat m s = mdig n.toNat n ⟨#[]⟩)) (_) (fun a ha => ⟨n, ⟨#[]⟩, ha.sub (Sub.cons (t := 0) (look_int (t := 0) rfl (by first | omega | simp)) (.cons (t := 3) rfl (.nil))), Chg.refl _ _ _, rfl, by omega, by have : (⟨#[]⟩ : ByteArray).size = 0 := rfl; omega, rfl⟩) ?_
  rintro mm aa wl7 ⟨m, s, hAwl7, cwl7, hm, hm0, hsz, hmd⟩
  refine (show cw Tryd.prog 20 _ _ _ wl7 from ?_) aa hAwl7
  clear hAwl7
  have zwl7 := cwl7.size
  refine sx_seq fun K8 k8 => ?_
  refine sx_seq fun K9 k9 => sx_region ?_
  refine sm rfl rfl rfl rfl ?_
  refine sx_pure rfl rfl rfl (px_gt rfl rfl) ?_
  refine wl_nil (q_n (k9 _ _ ?_))
  refine sx_condP rfl (fun h142 => ?_) (fun h142 => ?_)
  ·
   refine sx_skip ?_
   refine q_n (k8 _ _ ?_)
   refine sx_block ?_
   refine sx_seq fun K10 k10 => sx_region ?_
   refine sm rfl rfl rfl rfl ?_
   refine sx_pure rfl rfl rfl (px_rem rfl rfl (by omega) (by omega)) ?_
   refine sx_pure rfl rfl rfl (px_add rfl rfl (by omega)) ?_
   refine sx_pure rfl rfl rfl (px_convU8 Tryd.underlying3 Tryd.underlying5 rfl (by omega)) ?_
   refine sx_lit1 rfl xelt62 rfl rfl (fun s11 ws11 ss11 fs11 cs11 => ?_)
   have zws11 := cs11.size
   refine sx_pure rfl rfl rfl (px_convS1 Tryd.underlying62 Tryd.underlying9 Tryd.underlying5 rfl fs11.sv) ?_
   refine sm rfl rfl rfl rfl ?_
   refine sx_pure rfl rfl rfl (px_cat rfl rfl (by first | omega | (simp only [byteS_size]; omega) | (have : (⟨#[109]⟩ : ByteArray).size = 1 := rfl; omega))) ?_
   refine sa rfl rfl rfl rfl ?_
   refine wl_nil (q_n (k10 _ _ ?_))
   refine sx_region ?_
   refine sm rfl rfl rfl rfl ?_
   refine sx_pure rfl rfl rfl (px_quo rfl rfl (by omega) (by omega) (by omega)) ?_
   refine sa rfl rfl rfl rfl ?_
   refine wl_nil ?_
   exact q_bn (fun a ha => ⟨_, by omega, (m / 10), ((byteS (48 + (m % 10))) ++ s), ha.sub (Sub.cons (t := 0) (look_int (t := 0) rfl (by first | omega | simp)) (.cons (t := 3) rfl (.nil))), (cwl7.t cs11), rfl, by omega, by rw [ByteArray.size_append, byteS_size]; omega, (mdig_next (by omega)).symm.trans hmd⟩)
  ·
   refine sx_exit ?_
   refine q_e (q_e (q_bx (q_n (k6 _ _ ?_))))
   refine sx_seq fun K12 k12 => sx_region ?_
   refine sm rfl rfl rfl rfl ?_
   refine sx_pure rfl rfl rfl (px_cat rfl rfl (by first | omega | (simp only [byteS_size]; omega) | (have : (⟨#[109]⟩ : ByteArray).size = 1 := rfl; omega))) ?_
   refine sa rfl rfl rfl rfl ?_
   refine wl_nil (q_n (k12 _ _ ?_))
   refine sx_retc ?_
   refine sx_ret1 Tryd.results19 rfl ?_
   rw [mdig_end (m := m) (by omega) (by omega)] at hmd
   have hmt : mText n = ⟨#[109]⟩ ++ s := by unfold mText; rw [if_neg (by omega), ← hmd]
   exact ⟨by rw [hmt], cwl7⟩

theorem c_markIntS {w : World} {va : Value} {lva uva : Nat} {zs : List Int} {n : Int} (hva : OwnI w lva uva va intT (zs)) (h63 : zs.length ≤ 1048576) (hn : 0 ≤ n ∧ n ≤ 4611686018427387904) :
  Ret Tryd.prog 29 [va, .int .i64 n] w fun v w' => v = .int .i64 (n + ↑(zs).length) ∧ OwnI w' (lva) (uva) va intT (mk n (zs).length) ∧ Chg lva uva w w' := by
 refine sx_enter Tryd.func29 rfl Tryd.ntmps29 (Nat.le_of_ble_eq_true rfl) ?_
 refine sx_seq fun K1 k1 => sx_region ?_
 refine sa rfl rfl rfl rfl ?_
 refine wl_nil (q_n (k1 _ _ ?_))
 refine sx_seq fun K2 k2 => ?_
 refine sx_seq fun K3 k3 => sx_region ?_
 refine sa rfl rfl rfl rfl ?_
 refine wl_nil (q_n (k3 _ _ ?_))
 refine sx_block ?_
 refine sx_loop (fun mm aa w' => ∃ (k : Nat) (os : List Int), Agr 19 [(0, va), (1, .int .i64 (n + ↑k)), (5, .int .i64 ↑k)] aa ∧ Chg lva uva w w' ∧ Own w' lva uva va intT os.length 1 (os.map (Value.int .i64)) ∧ (mm = zs.length - k) ∧ (k ≤ zs.length) ∧ (os.length = zs.length) ∧ (os.take k = mk n k)) (_) (fun a ha => ⟨0, zs, ha.sub (Sub.cons (t := 0) rfl (.cons (t := 1) (look_int (t := 1) rfl (by first | omega | simp)) (.cons (t := 5) (look_int (t := 5) rfl (by first | omega | simp)) (.nil)))), Chg.refl _ _ _, hva, rfl, by omega, rfl, rfl⟩) ?_
 rintro mm aa wl4 ⟨k, os, hAwl4, cwl4, hs_va, hm, hk, ho, he⟩
 refine (show cw Tryd.prog 19 _ _ _ wl4 from ?_) aa hAwl4
 clear hAwl4
 have zwl4 := cwl4.size
 refine sx_seq fun K5 k5 => ?_
 refine sx_seq fun K6 k6 => sx_region ?_
 refine sm rfl rfl rfl rfl ?_
 refine sm rfl rfl rfl rfl ?_
 refine sx_pure rfl rfl rfl (px_len rfl Tryd.underlying44 hs_va.sv) ?_
 refine sx_pure rfl rfl rfl (px_lt rfl rfl) ?_
 refine wl_nil (q_n (k6 _ _ ?_))
 refine sx_condP rfl (fun h222 => ?_) (fun h222 => ?_)
 ·
  refine sx_skip ?_
  refine q_n (k5 _ _ ?_)
  refine sx_seq fun K7 k7 => ?_
  refine sx_block ?_
  refine sx_seq fun K8 k8 => sx_region ?_
  refine sm rfl rfl rfl rfl ?_
  refine sm rfl rfl rfl rfl ?_
  refine sm rfl rfl rfl rfl ?_
  refine sx_pure rfl rfl rfl (px_index1 (j := k) rfl rfl (by omega) Tryd.underlying44 Tryd.sizeOf3 hs_va.sv (by omega)) ?_
  refine sx_storeO rfl rfl hs_va (by first | omega | (simp only [List.length_map]; omega)) Tryd.sizeOf3 rfl (fun w9 sw9 fw9 cw9 => ?_)
  have zw9 := cw9.size
  have nw9 := fw9.set
  refine wl_nil (q_n (k8 _ _ ?_))
  refine sx_region ?_
  refine sm rfl rfl rfl rfl ?_
  refine sx_pure rfl rfl rfl (px_add rfl rfl (by omega)) ?_
  refine sa rfl rfl rfl rfl ?_
  refine wl_nil ?_
  refine q_bn (q_n (k7 _ _ ?_))
  refine sx_region ?_
  refine sm rfl rfl rfl rfl ?_
  refine sx_pure rfl rfl rfl (px_add rfl rfl (by omega)) ?_
  refine sa rfl rfl rfl rfl ?_
  refine wl_nil ?_
  have q10 := Chg.step (l := lva) (h := uva) cwl4 cw9 (by omega)
  exact fun a ha => ⟨_, by omega, (k + 1), (os.set k (n + ↑k)), ha.sub (Sub.cons (t := 0) rfl (.cons (t := 1) (look_int (t := 1) rfl (by first | omega | simp)) (.cons (t := 5) (look_int (t := 5) rfl (by first | omega | simp)) (.nil)))), q10, (nw9.mono (by omega) (by omega)), rfl, by omega, by simp [ho], mk_set he (by omega)⟩
 ·
  refine sx_exit ?_
  refine q_e (q_e (q_bx (q_n (k2 _ _ ?_))))
  refine sx_seq fun K11 k11 => sx_region ?_
  refine sm rfl rfl rfl rfl ?_
  refine sa rfl rfl rfl rfl ?_
  refine wl_nil (q_n (k11 _ _ ?_))
  refine sx_retc ?_
  refine sx_ret1 Tryd.results29 rfl ?_
  have ek : k = zs.length := by omega
  subst ek
  rw [← ho, List.take_length, ho] at he
  subst he
  exact ⟨rfl, hs_va, cwl4⟩

theorem c_markRateS {w : World} {vt : Value} {lvt uvt : Nat} {ts : List Rt} {vvt : List Value} {n : Int} (hvt : RtO w lvt uvt vt 57 intT ts vvt) (h63 : ts.length ≤ 1048576) (hzz : ∀ i, i < ts.length → (ts.getD i rt0).2.2.2.1.length ≤ 1048576) (hn : 0 ≤ n ∧ n ≤ 4000000000000000000) (hu : uvt ≤ w.heap.size) :
  Ret Tryd.prog 18 [vt, .int .i64 n] w fun v w' => ∃ ks, v = .int .i64 (n + ↑((ks : List Int)).length) ∧ (((ks : List Int)).length ≤ 1200000000000) ∧ Chg lvt uvt w w' := by
 obtain ⟨l1, h1, r, hvl, hvO, ha1, ha2, ha3, ha4, hvn⟩ := hvt
 refine sx_enter Tryd.func18 rfl Tryd.ntmps18 (Nat.le_of_ble_eq_true rfl) ?_
 refine sx_seq fun K1 k1 => sx_region ?_
 refine sa rfl rfl rfl rfl ?_
 refine wl_nil (q_n (k1 _ _ ?_))
 refine sx_seq fun K2 k2 => ?_
 refine sx_seq fun K3 k3 => sx_region ?_
 refine sa rfl rfl rfl rfl ?_
 refine wl_nil (q_n (k3 _ _ ?_))
 refine sx_block ?_
 refine sx_loop (fun mm aa w' => ∃ (k : Nat) (xs : List Value) (ks : List Int), Agr 57 [(0, vt), (1, .int .i64 (n + ↑ks.length)), (5, .int .i64 ↑k)] aa ∧ Chg lvt uvt w w' ∧ Own w' l1 h1 vt 57 ((ts).length) 5 (xs) ∧ (mm = ts.length - k) ∧ (k ≤ ts.length) ∧ (xs.length = ts.length * 5) ∧ (∀ i, k ≤ i → i < ts.length → xs[i * 5 + 3]? = some (vvt.getD i vz)) ∧ (∀ i, k ≤ i → i < ts.length → OwnI w' (r i) (r (i + 1)) (vvt.getD i vz) intT (ts.getD i rt0).2.2.2.1) ∧ (ks.length ≤ k * 1048580) ∧ (h1 ≤ r k)) (_) (fun a ha => ⟨0, rtCells ts vvt, [], ha.sub (Sub.cons (t := 0) rfl (.cons (t := 1) (look_int (t := 1) rfl (by first | omega | (simp only [List.length_append, List.length_replicate]; omega) | simp)) (.cons (t := 5) (look_int (t := 5) rfl (by first | omega | (simp only [List.length_append, List.length_replicate]; omega) | simp)) (.nil)))), Chg.refl _ _ _, hvO, rfl, by omega, rtCells_len hvl, rt_mag hvl rfl, fun i _ hi => hvn i hi, by simp, by omega⟩) ?_
 rintro mm aa wl4 ⟨k, xs, ks, hAwl4, cwl4, hs_vt, hm, hk, hxl, hx3, hne, hks, hrk⟩
 refine (show cw Tryd.prog 57 _ _ _ wl4 from ?_) aa hAwl4
 clear hAwl4
 have zwl4 := cwl4.size
 refine sx_seq fun K5 k5 => ?_
 refine sx_seq fun K6 k6 => sx_region ?_
 refine sm rfl rfl rfl rfl ?_
 refine sm rfl rfl rfl rfl ?_
 refine sx_pure rfl rfl rfl (px_len rfl Tryd.underlying28 hs_vt.sv) ?_
 refine sx_pure rfl rfl rfl (px_lt rfl rfl) ?_
 refine wl_nil (q_n (k6 _ _ ?_))
 refine sx_condP rfl (fun h633 => ?_) (fun h633 => ?_)
 ·
  have hzk := hzz k (by omega)
  have hlh : l1 ≤ h1 := by rcases hvO.2 with ⟨h5, _⟩ | ⟨b5, cap5, sp5, _, h5, h6, _⟩ <;> omega
  have hrk1 := ha3 k (by omega)
  have hru := mono_le ha3 (show k + 1 ≤ ts.length by omega) (Nat.le_refl _)
  refine sx_skip ?_
  refine q_n (k5 _ _ ?_)
  refine sx_seq fun K7 k7 => ?_
  refine sx_block ?_
  refine sx_seq fun K8 k8 => sx_region ?_
  refine sm rfl rfl rfl rfl ?_
  refine sm rfl rfl rfl rfl ?_
  refine sm rfl rfl rfl rfl ?_
  refine sx_call rfl rfl Tryd.call19 (c_markText (by omega)) (fun v9 w9 p9 => ?_)
  obtain ⟨rfl, c9⟩ := p9
  have zw9 := c9.size
  have f10 := hs_vt.ext c9
  refine sx_pure rfl rfl rfl (px_indexK (j := k) rfl rfl (by omega) Tryd.underlying28 Tryd.sizeOf57 f10.sv (by omega)) ?_
  refine sx_pure rfl rfl rfl (px_field rfl xfld57x0) ?_
  refine sx_storeO (j := (k * 5) + 0) rfl rfl f10 (by first | omega | (simp only [List.length_set]; omega)) Tryd.sizeOf9 rfl (fun w11 sw11 fw11 cw11 => ?_)
  have zw11 := cw11.size
  refine wl_nil (q_n (k8 _ _ ?_))
  refine sx_seq fun K12 k12 => sx_region ?_
  refine sm rfl rfl rfl rfl ?_
  refine sx_pure rfl rfl rfl (px_add rfl rfl (by omega)) ?_
  refine sa rfl rfl rfl rfl ?_
  refine wl_nil (q_n (k12 _ _ ?_))
  refine sx_sub (Sub.cons (t := 0) rfl (.cons (t := 1) rfl (.cons (t := 5) rfl (.nil)))) ?_
  refine sx_seq fun K13 k13 => sx_region ?_
  refine sm rfl rfl rfl rfl ?_
  refine sm rfl rfl rfl rfl ?_
  refine sm rfl rfl rfl rfl ?_
  refine sx_call rfl rfl Tryd.call19 (c_markText (by omega)) (fun v14 w14 p14 => ?_)
  obtain ⟨rfl, c14⟩ := p14
  have zw14 := c14.size
  have f15 := fw11.ext c14
  refine sx_pure rfl rfl rfl (px_indexK (j := k) rfl rfl (by omega) Tryd.underlying28 Tryd.sizeOf57 f15.sv (by omega)) ?_
  refine sx_pure rfl rfl rfl (px_field rfl xfld57x1) ?_
  refine sx_storeO (j := (k * 5) + 1) rfl rfl f15 (by first | omega | (simp only [List.length_set]; omega)) Tryd.sizeOf9 rfl (fun w16 sw16 fw16 cw16 => ?_)
  have zw16 := cw16.size
  refine wl_nil (q_n (k13 _ _ ?_))
  refine sx_seq fun K17 k17 => sx_region ?_
  refine sm rfl rfl rfl rfl ?_
  refine sx_pure rfl rfl rfl (px_add rfl rfl (by omega)) ?_
  refine sa rfl rfl rfl rfl ?_
  refine wl_nil (q_n (k17 _ _ ?_))
  refine sx_seq fun K18 k18 => sx_region ?_
  refine sm rfl rfl rfl rfl ?_
  refine sm rfl rfl rfl rfl ?_
  refine sm rfl rfl rfl rfl ?_
  refine sx_pure rfl rfl rfl (px_rem rfl rfl (by omega) (by omega)) ?_
  refine sx_pure rfl rfl rfl (px_eq rfl rfl) ?_
  refine sx_pure rfl rfl rfl (px_indexK (j := k) rfl rfl (by omega) Tryd.underlying28 Tryd.sizeOf57 fw16.sv (by omega)) ?_
  refine sx_pure rfl rfl rfl (px_field rfl xfld57x2) ?_
  refine sx_pure rfl rfl rfl (px_field rfl xfld55x0) ?_
  refine sx_pure rfl rfl rfl (px_field rfl xfld53x0) ?_
  refine sx_storeO (j := (((k * 5) + 2) + 0) + 0) rfl rfl fw16 (by first | omega | (simp only [List.length_set]; omega)) Tryd.sizeOf4 rfl (fun w19 sw19 fw19 cw19 => ?_)
  have zw19 := cw19.size
  refine wl_nil (q_n (k18 _ _ ?_))
  refine sx_sub (Sub.cons (t := 0) rfl (.cons (t := 1) rfl (.cons (t := 5) rfl (.nil)))) ?_
  refine sx_seq fun K20 k20 => sx_region ?_
  refine sm rfl rfl rfl rfl ?_
  refine sx_pure rfl rfl rfl (px_add rfl rfl (by omega)) ?_
  refine sa rfl rfl rfl rfl ?_
  refine wl_nil (q_n (k20 _ _ ?_))
  refine sx_seq fun K21 k21 => sx_region ?_
  refine sm rfl rfl rfl rfl ?_
  refine sm rfl rfl rfl rfl ?_
  refine sx_pure rfl rfl rfl (px_indexK (j := k) rfl rfl (by omega) Tryd.underlying28 Tryd.sizeOf57 fw19.sv (by omega)) ?_
  refine sx_pure rfl rfl rfl (px_field rfl xfld57x2) ?_
  refine sx_pure rfl rfl rfl (px_field rfl xfld55x0) ?_
  refine sx_pure rfl rfl rfl (px_field rfl xfld53x1) ?_
  refine sx_pure rfl rfl rfl (px_load rfl (fw19.sv.load1 (by show _[k * 5 + 3]? = _; rw [List.getElem?_set_ne (by omega), List.getElem?_set_ne (by omega), List.getElem?_set_ne (by omega)]; exact hx3 k (Nat.le_refl _) (by omega)) Tryd.isAgg44)) ?_
  refine sm rfl rfl rfl rfl ?_
  have f22 := (hne k (Nat.le_refl _) (by omega)).ext c9
  have f23 := f22.chg cw11 (by omega)
  have f24 := f23.ext c14
  have f25 := f24.chg cw16 (by omega)
  have f26 := f25.chg cw19 (by omega)
  refine sx_call rfl rfl Tryd.call29 (c_markIntS f26 (hzz k (by omega)) (by omega)) (fun v27 w27 p27 => ?_)
  obtain ⟨rfl, ova_27, c27⟩ := p27
  have zw27 := c27.size
  refine sa rfl rfl rfl rfl ?_
  refine wl_nil (q_n (k21 _ _ ?_))
  refine sx_seq fun K28 k28 => sx_region ?_
  refine sm rfl rfl rfl rfl ?_
  refine sm rfl rfl rfl rfl ?_
  refine sm rfl rfl rfl rfl ?_
  have f29 := fw19.chg c27 (by omega)
  refine sx_pure rfl rfl rfl (px_indexK (j := k) rfl rfl (by omega) Tryd.underlying28 Tryd.sizeOf57 f29.sv (by omega)) ?_
  refine sx_pure rfl rfl rfl (px_field rfl xfld57x2) ?_
  refine sx_pure rfl rfl rfl (px_field rfl xfld55x1) ?_
  refine sx_storeO (j := ((k * 5) + 2) + 2) rfl rfl f29 (by first | omega | (simp only [List.length_set]; omega)) Tryd.sizeOf3 rfl (fun w30 sw30 fw30 cw30 => ?_)
  have zw30 := cw30.size
  refine wl_nil (q_n (k28 _ _ ?_))
  refine sx_sub (Sub.cons (t := 0) rfl (.cons (t := 1) rfl (.cons (t := 5) rfl (.nil)))) ?_
  refine sx_region ?_
  refine sm rfl rfl rfl rfl ?_
  refine sx_pure rfl rfl rfl (px_add rfl rfl (by omega)) ?_
  refine sa rfl rfl rfl rfl ?_
  refine wl_nil ?_
  refine q_bn (q_n (k7 _ _ ?_))
  refine sx_region ?_
  refine sm rfl rfl rfl rfl ?_
  refine sx_pure rfl rfl rfl (px_add rfl rfl (by omega)) ?_
  refine sa rfl rfl rfl rfl ?_
  refine wl_nil ?_
  have q31 := Chg.step (l := l1) (h := (r (k + 1))) (Chg.zero (l := l1) (h := (r (k + 1))) c9) cw11 (by omega)
  have q32 := Chg.step (l := l1) (h := (r (k + 1))) q31 c14 (by omega)
  have q33 := Chg.step (l := l1) (h := (r (k + 1))) q32 cw16 (by omega)
  have q34 := Chg.step (l := l1) (h := (r (k + 1))) q33 cw19 (by omega)
  have q35 := Chg.step (l := l1) (h := (r (k + 1))) q34 c27 (by omega)
  have q36 := Chg.step (l := l1) (h := (r (k + 1))) q35 cw30 (by omega)
  have q37 := Chg.step (l := lvt) (h := uvt) cwl4 c9 (by omega)
  have q38 := Chg.step (l := lvt) (h := uvt) q37 cw11 (by omega)
  have q39 := Chg.step (l := lvt) (h := uvt) q38 c14 (by omega)
  have q40 := Chg.step (l := lvt) (h := uvt) q39 cw16 (by omega)
  have q41 := Chg.step (l := lvt) (h := uvt) q40 cw19 (by omega)
  have q42 := Chg.step (l := lvt) (h := uvt) q41 c27 (by omega)
  have q43 := Chg.step (l := lvt) (h := uvt) q42 cw30 (by omega)
  exact fun a ha => ⟨_, by omega, (k + 1), (((((xs).set ((k * 5) + 0) (.string (mText (n + ↑ks.length)))).set ((k * 5) + 1) (.string (mText ((n + ↑ks.length) + 1)))).set ((((k * 5) + 2) + 0) + 0) (.bool (decide (((((n + ↑ks.length) + 1) + 1) % 3 : Int) = 0)))).set (((k * 5) + 2) + 2) (.int .i64 (((((n + ↑ks.length) + 1) + 1) + 1) + ↑(((ts.getD k rt0).2.2.2.1)).length))), (ks ++ List.replicate (4 + ((ts.getD k rt0).2.2.2.1).length) 0), ha.sub (Sub.cons (t := 0) rfl (.cons (t := 1) (look_int (t := 1) rfl (by first | omega | (simp only [List.length_append, List.length_replicate]; omega) | simp)) (.cons (t := 5) (look_int (t := 5) rfl (by first | omega | (simp only [List.length_append, List.length_replicate]; omega) | simp)) (.nil)))), q43, (fw30.mono (by omega) (by omega)), rfl, by omega, by simp only [List.length_set]; exact hxl, cells_rest hx3 (fun j hj => by rw [List.getElem?_set_ne (by omega), List.getElem?_set_ne (by omega), List.getElem?_set_ne (by omega), List.getElem?_set_ne (by omega)]), nest_rest ha3 hne q36, by simp only [List.length_append, List.length_replicate]; omega, by omega⟩
 ·
  refine sx_exit ?_
  refine q_e (q_e (q_bx (q_n (k2 _ _ ?_))))
  refine sx_seq fun K44 k44 => sx_region ?_
  refine sm rfl rfl rfl rfl ?_
  refine sa rfl rfl rfl rfl ?_
  refine wl_nil (q_n (k44 _ _ ?_))
  refine sx_retc ?_
  refine sx_ret1 Tryd.results18 rfl ?_
  exact ⟨_, rfl, by omega, cwl4⟩

theorem c_markRates {w : World} {pv : ByteArray} {vt : Value} {lvt uvt : Nat} {ts : List Rt} {vvt : List Value} {n : Int} (hvt : RtO w lvt uvt vt 57 intT ts vvt) (h63 : ts.length ≤ 1048576) (hzz : ∀ i, i < ts.length → (ts.getD i rt0).2.2.2.1.length ≤ 1048576) (hn : 0 ≤ n ∧ n ≤ 4000000000000000000) (hu : uvt ≤ w.heap.size) :
  Ret Tryd.prog 10 [.agg #[.string pv, vt], .int .i64 n] w fun v w' => ∃ ks, v = .int .i64 (n + ↑((ks : List Int)).length) ∧ (((ks : List Int)).length ≤ 1200000000000) ∧ Chg lvt uvt w w' := by
 refine sx_enter Tryd.func10 rfl Tryd.ntmps10 (Nat.le_of_ble_eq_true rfl) ?_
 refine sx_seq fun K1 k1 => sx_region ?_
 refine sx_box [.string pv, vt] rfl rfl rfl (fun b2 w3 eb2 sb2 fb2 cb2 => ?_)
 have zw3 := cb2.size
 refine sa rfl rfl rfl rfl ?_
 refine wl_nil (q_n (k1 _ _ ?_))
 refine sx_seq fun K4 k4 => sx_region ?_
 refine sx_pure rfl rfl rfl (px_field rfl xfld30x1) ?_
 refine sx_pure rfl rfl rfl (px_load rfl (fb2.load1 rfl Tryd.isAgg28)) ?_
 refine sm rfl rfl rfl rfl ?_
 have f5 := hvt.ext cb2
 refine sx_call rfl rfl Tryd.call18 (c_markRateS f5 (by omega) (by assumption) (by omega) (by omega)) (fun v6 w6 p6 => ?_)
 obtain ⟨ks6, rfl, hk6, c6⟩ := p6
 have zw6 := c6.size
 refine sa rfl rfl rfl rfl ?_
 refine wl_nil (q_n (k4 _ _ ?_))
 refine sx_seq fun K7 k7 => sx_region ?_
 refine sm rfl rfl rfl rfl ?_
 refine sa rfl rfl rfl rfl ?_
 refine wl_nil (q_n (k7 _ _ ?_))
 refine sx_retc ?_
 refine sx_ret1 Tryd.results10 rfl ?_
 have q8 := Chg.step (l := lvt) (h := uvt) (Chg.zero (l := lvt) (h := uvt) cb2) c6 (by omega)
 exact ⟨_, rfl, by omega, q8⟩

theorem c_markStringS {w : World} {va : Value} {lva uva : Nat} {zs : List ByteArray} {n : Int} (hva : OwnS w lva uva va strT (zs)) (h63 : zs.length ≤ 1048576) (hn : 0 ≤ n ∧ n ≤ 4000000000000000000) :
  Ret Tryd.prog 11 [va, .int .i64 n] w fun v w' => v = .int .i64 (n + ↑(zs).length) ∧ OwnS w' (lva) (uva) va strT (mkS n (zs).length) ∧ Chg lva uva w w' := by
 refine sx_enter Tryd.func11 rfl Tryd.ntmps11 (Nat.le_of_ble_eq_true rfl) ?_
 refine sx_seq fun K1 k1 => sx_region ?_
 refine sa rfl rfl rfl rfl ?_
 refine wl_nil (q_n (k1 _ _ ?_))
 refine sx_seq fun K2 k2 => ?_
 refine sx_seq fun K3 k3 => sx_region ?_
 refine sa rfl rfl rfl rfl ?_
 refine wl_nil (q_n (k3 _ _ ?_))
 refine sx_block ?_
 refine sx_loop (fun mm aa w' => ∃ (k : Nat) (os : List ByteArray), Agr 20 [(0, va), (1, .int .i64 (n + ↑k)), (5, .int .i64 ↑k)] aa ∧ Chg lva uva w w' ∧ Own w' lva uva va strT os.length 1 (os.map Value.string) ∧ (mm = zs.length - k) ∧ (k ≤ zs.length) ∧ (os.length = zs.length) ∧ (os.take k = mkS n k)) (_) (fun a ha => ⟨0, zs, ha.sub (Sub.cons (t := 0) rfl (.cons (t := 1) (look_int (t := 1) rfl (by first | omega | simp)) (.cons (t := 5) (look_int (t := 5) rfl (by first | omega | simp)) (.nil)))), Chg.refl _ _ _, hva, rfl, by omega, rfl, rfl⟩) ?_
 rintro mm aa wl4 ⟨k, os, hAwl4, cwl4, hs_va, hm, hk, ho, he⟩
 refine (show cw Tryd.prog 20 _ _ _ wl4 from ?_) aa hAwl4
 clear hAwl4
 have zwl4 := cwl4.size
 refine sx_seq fun K5 k5 => ?_
 refine sx_seq fun K6 k6 => sx_region ?_
 refine sm rfl rfl rfl rfl ?_
 refine sm rfl rfl rfl rfl ?_
 refine sx_pure rfl rfl rfl (px_len rfl Tryd.underlying26 hs_va.sv) ?_
 refine sx_pure rfl rfl rfl (px_lt rfl rfl) ?_
 refine wl_nil (q_n (k6 _ _ ?_))
 refine sx_condP rfl (fun h162 => ?_) (fun h162 => ?_)
 ·
  refine sx_skip ?_
  refine q_n (k5 _ _ ?_)
  refine sx_seq fun K7 k7 => ?_
  refine sx_block ?_
  refine sx_seq fun K8 k8 => sx_region ?_
  refine sm rfl rfl rfl rfl ?_
  refine sm rfl rfl rfl rfl ?_
  refine sm rfl rfl rfl rfl ?_
  refine sx_call rfl rfl Tryd.call19 (c_markText (by omega)) (fun v9 w9 p9 => ?_)
  obtain ⟨rfl, c9⟩ := p9
  have zw9 := c9.size
  have f10 := hs_va.ext c9
  refine sx_pure rfl rfl rfl (px_index1 (j := k) rfl rfl (by omega) Tryd.underlying26 Tryd.sizeOf9 f10.sv (by omega)) ?_
  refine sx_storeO rfl rfl f10 (by first | omega | (simp only [List.length_map]; omega)) Tryd.sizeOf9 rfl (fun w11 sw11 fw11 cw11 => ?_)
  have zw11 := cw11.size
  have nw11 := fw11.set
  refine wl_nil (q_n (k8 _ _ ?_))
  refine sx_region ?_
  refine sm rfl rfl rfl rfl ?_
  refine sx_pure rfl rfl rfl (px_add rfl rfl (by omega)) ?_
  refine sa rfl rfl rfl rfl ?_
  refine wl_nil ?_
  refine q_bn (q_n (k7 _ _ ?_))
  refine sx_region ?_
  refine sm rfl rfl rfl rfl ?_
  refine sx_pure rfl rfl rfl (px_add rfl rfl (by omega)) ?_
  refine sa rfl rfl rfl rfl ?_
  refine wl_nil ?_
  have q12 := Chg.step (l := lva) (h := uva) cwl4 c9 (by omega)
  have q13 := Chg.step (l := lva) (h := uva) q12 cw11 (by omega)
  exact fun a ha => ⟨_, by omega, (k + 1), (os.set k (mText (n + ↑k))), ha.sub (Sub.cons (t := 0) rfl (.cons (t := 1) (look_int (t := 1) rfl (by first | omega | simp)) (.cons (t := 5) (look_int (t := 5) rfl (by first | omega | simp)) (.nil)))), q13, (nw11.mono (by omega) (by omega)), rfl, by omega, by simp [ho], mkS_set he (by omega)⟩
 ·
  refine sx_exit ?_
  refine q_e (q_e (q_bx (q_n (k2 _ _ ?_))))
  refine sx_seq fun K14 k14 => sx_region ?_
  refine sm rfl rfl rfl rfl ?_
  refine sa rfl rfl rfl rfl ?_
  refine wl_nil (q_n (k14 _ _ ?_))
  refine sx_retc ?_
  refine sx_ret1 Tryd.results11 rfl ?_
  have ek : k = zs.length := by omega
  subst ek
  rw [← ho, List.take_length, ho] at he
  subst he
  exact ⟨rfl, hs_va, cwl4⟩

theorem c_heldStringS {w : World} {va : Value} {lva uva : Nat} {zs : List ByteArray} {n : Int} (hva : SlS w lva uva va (zs)) (h63 : zs.length ≤ 1048576) (hn : 0 ≤ n ∧ n ≤ 4000000000000000000) (hz : zs = mkS n zs.length) :
  Ret Tryd.prog 12 [va, .int .i64 n] w fun v w' => v = .int .i64 (n + ↑(zs).length) ∧ Chg 0 0 w w' := by
 have hva0 := hva.fit
 refine sx_enter Tryd.func12 rfl Tryd.ntmps12 (Nat.le_of_ble_eq_true rfl) ?_
 refine sx_seq fun K1 k1 => sx_region ?_
 refine sa rfl rfl rfl rfl ?_
 refine wl_nil (q_n (k1 _ _ ?_))
 refine sx_seq fun K2 k2 => ?_
 refine sx_seq fun K3 k3 => sx_region ?_
 refine sa rfl rfl rfl rfl ?_
 refine wl_nil (q_n (k3 _ _ ?_))
 refine sx_block ?_
 refine sx_loop (fun mm aa w' => ∃ (k : Nat), Agr 22 [(0, va), (1, .int .i64 (n + ↑k)), (5, .int .i64 ↑k)] aa ∧ Chg 0 0 w w' ∧ (mm = zs.length - k) ∧ (k ≤ zs.length)) (_) (fun a ha => ⟨0, ha.sub (Sub.cons (t := 0) rfl (.cons (t := 1) (look_int (t := 1) rfl (by first | omega | simp)) (.cons (t := 5) (look_int (t := 5) rfl (by first | omega | simp)) (.nil)))), Chg.refl _ _ _, rfl, by omega⟩) ?_
 rintro mm aa wl4 ⟨k, hAwl4, cwl4, hm, hk⟩
 refine (show cw Tryd.prog 22 _ _ _ wl4 from ?_) aa hAwl4
 clear hAwl4
 have zwl4 := cwl4.size
 refine sx_seq fun K5 k5 => ?_
 refine sx_seq fun K6 k6 => sx_region ?_
 refine sm rfl rfl rfl rfl ?_
 refine sm rfl rfl rfl rfl ?_
 have f7 := hva0.ext cwl4
 refine sx_pure rfl rfl rfl (px_len rfl Tryd.underlying26 f7) ?_
 refine sx_pure rfl rfl rfl (px_lt rfl rfl) ?_
 refine wl_nil (q_n (k6 _ _ ?_))
 refine sx_condP rfl (fun h170 => ?_) (fun h170 => ?_)
 ·
  refine sx_skip ?_
  refine q_n (k5 _ _ ?_)
  refine sx_seq fun K8 k8 => ?_
  refine sx_block ?_
  refine sx_seq fun K9 k9 => ?_
  refine sx_seq fun K10 k10 => ?_
  refine dx_region (fun w' => Chg 0 0 wl4 w') (by kernel_rfl) (Chg.zero (Chg.drew _)) ?_
  have d11 := Chg.drew wl4
  have s11 : Chg 0 0 wl4 (World.drew wl4) := Chg.zero (Chg.drew _)
  have y11 : (World.drew wl4).heap.size = wl4.heap.size := rfl
  generalize World.drew wl4 = w11 at *
  have zw11 := d11.size
  refine dx_take 0 rfl rfl rfl rfl (by kernel_rfl) (by kernel_rfl) (by kernel_rfl) s11 (fun _ hS => px_move rfl) ?_
  refine dx_take 1 rfl rfl rfl rfl (by kernel_rfl) (by kernel_rfl) (by kernel_rfl) s11 (fun _ hS => px_move rfl) ?_
  refine dx_take 2 rfl rfl rfl rfl (by kernel_rfl) (by kernel_rfl) (by kernel_rfl) s11 (fun _ hS => px_index1 (j := k) rfl rfl (by omega) Tryd.underlying26 Tryd.sizeOf9 ((f7).chg hS (by omega)) (by omega)) ?_
  refine dx_take 3 rfl rfl rfl rfl (by kernel_rfl) (by kernel_rfl) (by kernel_rfl) s11 (fun _ hS => px_load rfl (((f7).chg hS (by omega)).load1 (at_str (by omega)) Tryd.isAgg9)) ?_
  refine dx_take 4 rfl rfl rfl rfl (by kernel_rfl) (by kernel_rfl) (by kernel_rfl) s11 (fun _ hS => px_move rfl) ?_
  refine dx_eff 5 rfl (by kernel_rfl) ?_
  refine sx_call rfl rfl Tryd.call19 (c_markText (by omega)) (fun v12 w12 p12 => ?_)
  obtain ⟨rfl, c12⟩ := p12
  have zw12 := c12.size
  have s13 : Chg 0 0 wl4 w12 := (d11.t c12)
  refine wl_nil ?_
  refine dx_next s13 ?_
  refine dx_take 6 rfl rfl rfl rfl (by kernel_rfl) (by kernel_rfl) (by kernel_rfl) s13 (fun _ hS => px_neS rfl rfl) ?_
  refine dx_done (by kernel_rfl) ?_
  refine q_n (k10 _ _ ?_)
  have h171 : ¬ ((zs).getD k ByteArray.empty ≠ mText (n + ↑k)) := fun h => h (by rw [hz]; exact mkS_getD (by omega))
  refine sx_condPF rfl h171 ?_
  refine sx_skip ?_
  refine q_n (k9 _ _ ?_)
  refine sx_region ?_
  refine sm rfl rfl rfl rfl ?_
  refine sx_pure rfl rfl rfl (px_add rfl rfl (by omega)) ?_
  refine sa rfl rfl rfl rfl ?_
  refine wl_nil ?_
  refine q_bn (q_n (k8 _ _ ?_))
  refine sx_sub (Sub.cons (t := 0) rfl (.cons (t := 1) rfl (.cons (t := 5) rfl (.nil)))) ?_
  refine sx_region ?_
  refine sm rfl rfl rfl rfl ?_
  refine sx_pure rfl rfl rfl (px_add rfl rfl (by omega)) ?_
  refine sa rfl rfl rfl rfl ?_
  refine wl_nil ?_
  exact fun a ha => ⟨_, by omega, (k + 1), ha.sub (Sub.cons (t := 0) rfl (.cons (t := 1) (look_int (t := 1) rfl (by first | omega | simp)) (.cons (t := 5) (look_int (t := 5) rfl (by first | omega | simp)) (.nil)))), ((cwl4.t d11).t c12), rfl, by omega⟩
 ·
  refine sx_exit ?_
  refine q_e (q_e (q_bx (q_n (k2 _ _ ?_))))
  refine sx_seq fun K14 k14 => sx_region ?_
  refine sm rfl rfl rfl rfl ?_
  refine sa rfl rfl rfl rfl ?_
  refine wl_nil (q_n (k14 _ _ ?_))
  refine sx_retc ?_
  refine sx_ret1 Tryd.results12 rfl ?_
  have ek : k = zs.length := by omega
  subst ek
  exact ⟨rfl, cwl4⟩

end Go.Proofs.YtcghgfmickgnkaaDoor
