/- Contracts of functions of the program: what each call returns, and that it changes nothing that was. Conditions: as each says. -/
import Derived.Test.YtlnemcbdbehehaaDoorTy
import Derived.Test.YtlnemcbdbehehaaDoorNatN
import Derived.Test.YtlnemcbdbehehaaDoorSxD
import Derived.Test.YtlnemcbdbehehaaDoorPair
import Derived.Test.YtlnemcbdbehehaaDoorSxW
import Derived.Test.YtlnemcbdbehehaaDoorNatS
import Derived.Test.YtlnemcbdbehehaaDoorSxG
import Derived.Test.YtlnemcbdbehehaaDoorNatT
import Derived.Test.YtlnemcbdbehehaaDoorNatO
import Derived.Test.YtlnemcbdbehehaaDoorNatV
import Derived.Test.YtlnemcbdbehehaaDoorSxP
import Derived.Test.YtlnemcbdbehehaaDoorM0
set_option linter.unusedVariables false
set_option linter.unusedSimpArgs false
namespace Go.Proofs.YtlnemcbdbehehaaDoor
open Go Go.RowKit
set_option maxRecDepth 100000
set_option maxHeartbeats 1000000
theorem c_l04MakeMin {w : World} {n : Bool} {va : Value} {lva uva : Nat} {zs : List Int} (hva : Sl w lva uva va (zs)) (hz : zs = dg (-9223372036854775808 : Int).natAbs) :
  Ret Tryd.prog 68 [.bool n, va] w fun v w' => ∃ s, v = .agg #[.bool (ng (capI n (-9223372036854775808 : Int).natAbs)), s] ∧ OwnI w' w.heap.size w'.heap.size s intT (dg (capI n (-9223372036854775808 : Int).natAbs).natAbs) ∧ Chg 0 0 w w' := by
 subst hz; exact c_l04Make hva (by rw [dg_min]; simp)

theorem c_l04MakeOk {w : World} {n : Bool} {va : Value} {lva uva : Nat} {zs : List Int} (hva : Sl w lva uva va (zs)) (hI : IOk n zs) :
  Ret Tryd.prog 68 [.bool n, va] w fun v w' => ∃ s, v = .agg #[.bool (n), s] ∧ OwnI w' w.heap.size w'.heap.size s intT (zs) ∧ Chg 0 0 w w' := by
 obtain ⟨x, rfl, rfl, hx⟩ := hI.int
 have h := c_l04Make (n := ng x) hva (by omega)
 rw [capI_sgI hx, sgI_ng] at h
 exact h

theorem c_l10Rate {w : World} {f1 : ByteArray} {t1 : ByteArray} {n1 : Bool} {v1 : Value} {lv1 uv1 : Nat} {z1 : List Int} {p1 : Int} (hv1 : Sl w lv1 uv1 v1 (z1)) (hI : IOk n1 z1) :
  Ret Tryd.prog 33 [.agg #[.string f1, .string t1, .bool n1, v1, .int .i64 p1]] w fun v w' => ∃ s, v = .agg #[.string (f1), .string (t1), .bool (n1), s, .int .i64 (p1)] ∧ OwnI w' w.heap.size w'.heap.size s intT (z1) ∧ Chg 0 0 w w' := by
 have hv10 := hv1.fit
 refine sx_enter Tryd.func33 rfl Tryd.ntmps33 (nbl rfl) ?_
 refine sx_seq fun K1 k1 => sx_region ?_
 refine sx_box [.string f1, .string t1, .bool n1, v1, .int .i64 p1] rfl rfl rfl (fun b2 w3 eb2 sb2 fb2 cb2 => ?_)
 have zw3 := cb2.size
 refine sx_alloc [.string (⟨#[]⟩), .string (⟨#[]⟩), .bool false, (.slice none 0 0), .int .i64 0] rfl Tryd.zeroValue44 rfl (fun b4 w5 eb4 sb4 fb4 cb4 => ?_)
 have zw5 := cb4.size
 refine wl_nil (q_n (k1 _ _ ?_))
 refine sx_seq fun K6 k6 => ?_
 have f7 := fb2.ext cb4
 have f8 := hv10.ext cb2
 have f9 := f8.ext cb4
 refine dx_region (fun w' => Chg b4 (b4 + 1) w5 w') (by kernel_rfl) (Chg.zero (Chg.drew _)) ?_
 have d10 := Chg.drew w5
 have s10 : Chg b4 (b4 + 1) w5 (World.drew w5) := Chg.zero (Chg.drew _)
 have y10 : (World.drew w5).heap.size = w5.heap.size := rfl
 generalize World.drew w5 = w10 at *
 have zw10 := d10.size
 refine dt 0 rfl rfl rfl rfl s10 (fun _ hS => px_field rfl xfld44x0) ?_
 refine dt 1 rfl rfl rfl rfl s10 (fun _ hS => px_load rfl ((f7.chg hS (by omega)).load1 rfl Tryd.isAgg9)) ?_
 refine dt 2 rfl rfl rfl rfl s10 (fun _ hS => px_field rfl xfld44x1) ?_
 refine dt 3 rfl rfl rfl rfl s10 (fun _ hS => px_load rfl ((f7.chg hS (by omega)).load1 rfl Tryd.isAgg9)) ?_
 refine dt 4 rfl rfl rfl rfl s10 (fun _ hS => px_field rfl xfld44x2) ?_
 refine dt 5 rfl rfl rfl rfl s10 (fun _ hS => px_field rfl xfld42x0) ?_
 refine dt 6 rfl rfl rfl rfl s10 (fun _ hS => px_field rfl xfld40x0) ?_
 refine dt 7 rfl rfl rfl rfl s10 (fun _ hS => px_load rfl ((f7.chg hS (by omega)).load1 rfl Tryd.isAgg4)) ?_
 refine dt 8 rfl rfl rfl rfl s10 (fun _ hS => px_field rfl xfld44x2) ?_
 refine dt 9 rfl rfl rfl rfl s10 (fun _ hS => px_field rfl xfld42x0) ?_
 refine dt 10 rfl rfl rfl rfl s10 (fun _ hS => px_field rfl xfld40x1) ?_
 refine dt 11 rfl rfl rfl rfl s10 (fun _ hS => px_load rfl ((f7.chg hS (by omega)).load1 rfl Tryd.isAgg25)) ?_
 refine dt 13 rfl rfl rfl rfl s10 (fun _ hS => px_field rfl xfld44x2) ?_
 refine dt 14 rfl rfl rfl rfl s10 (fun _ hS => px_field rfl xfld42x1) ?_
 refine dt 15 rfl rfl rfl rfl s10 (fun _ hS => px_load rfl ((f7.chg hS (by omega)).load1 rfl Tryd.isAgg3)) ?_
 refine dx_eff 12 rfl (by kernel_rfl) ?_
 have f11 := f9.ext d10
 refine sx_call rfl rfl Tryd.call68 (c_l04MakeOk f11 (by assumption)) (fun v12 w12 p12 => ?_)
 obtain ⟨s12, rfl, os_12, c12⟩ := p12
 have zw12 := c12.size
 have s13 : Chg b4 (b4 + 1) w5 w12 := (Chg.zero (l := b4) (h := (b4 + 1)) (d10.t c12))
 refine wl_nil ?_
 refine dx_next s13 ?_
 refine dt 16 rfl rfl rfl rfl s13 (fun _ hS => px_build rfl (xbld42x0x1 rfl _)) ?_
 refine dt 17 rfl rfl rfl rfl s13 (fun _ hS => px_build rfl (xbld44x0x1x2 rfl rfl _)) ?_
 refine dx_eff 18 rfl (by kernel_rfl) ?_
 have f16 := (fb4.ext d10).ext c12
 refine sx_store (vs := [.string f1, .string t1, .bool n1, s12, .int .i64 p1]) rfl rfl f16 rfl Tryd.sizeOf44 (nbl rfl) (one_cons rfl (one_cons rfl (one_cons rfl (one_cons os_12.one (o1 rfl))))) (fun w14 sw14 fw14 cw14 => ?_)
 have zw14 := cw14.size
 have gw14 : Blk w14 b4 [.string f1, .string t1, .bool n1, s12, .int .i64 p1] 44 := fw14
 have q18 := Chg.step (l := b4) (h := (b4 + 1)) (Chg.zero (l := b4) (h := (b4 + 1)) (d10.t c12)) cw14 (by omega)
 have s17 : Chg b4 (b4 + 1) w5 w14 := q18
 refine wl_nil ?_
 refine dx_next s17 ?_
 refine dx_done (by kernel_rfl) ?_
 refine q_n (k6 _ _ ?_)
 refine sx_sub (Sub.c 2 rfl .nil) ?_
 refine sx_retc ?_
 refine sx_ret1 Tryd.results33 ⟨_, rfl, gw14.loadA (vs := [.string f1, .string t1, .bool n1, s12, .int .i64 p1]) (look_lit rfl) Tryd.isAgg44 Tryd.sizeOf44⟩ ?_
 have q19 := Chg.step (l := 0) (h := 0) (Chg.zero (l := 0) (h := 0) (((cb2.t cb4).t d10).t c12)) cw14 (by omega)
 have f20 := os_12.chg cw14 (by omega)
 exact ⟨_, rfl, (Own.mono f20 (by omega) (by omega)), q19⟩

theorem c_l10Copy {w : World} {pv : ByteArray} {vt : Value} {lvt uvt : Nat} {ts : List Rt} {vvt : List Value} (hvt : RtS w lvt uvt vt ts vvt) (h63 : ts.length ≤ 1000000) (hI : ∀ i, i < ts.length → IOk (ts.getD i rt0).2.2.1 (ts.getD i rt0).2.2.2.1) :
  Ret Tryd.prog 31 [.agg #[.string pv, vt]] w fun v w' => ∃ s us, v = .agg #[.string (pv), s] ∧ RtG w' (w.heap.size) (w'.heap.size) s 44 intT (ts) us ∧ Chg 0 0 w w' := by
 have hvt0 := hvt.fit
 refine sx_enter Tryd.func31 rfl Tryd.ntmps31 (nbl rfl) ?_
 refine sx_seq fun K1 k1 => sx_region ?_
 refine sx_box [.string pv, vt] rfl rfl rfl (fun b2 w3 eb2 sb2 fb2 cb2 => ?_)
 have zw3 := cb2.size
 refine sx_alloc [.string (⟨#[]⟩), (.slice none 0 0)] rfl Tryd.zeroValue36 rfl (fun b4 w5 eb4 sb4 fb4 cb4 => ?_)
 have zw5 := cb4.size
 refine wl_nil (q_n (k1 _ _ ?_))
 refine sx_seq fun K6 k6 => sx_region ?_
 refine sp rfl (px_field rfl xfld36x0) ?_
 have f7 := fb2.ext cb4
 refine sp rfl (px_load rfl (f7.load1 rfl Tryd.isAgg9)) ?_
 refine sp rfl (px_build rfl (xbld36x0 rfl _)) ?_
 refine sx_alloc [.string (⟨#[]⟩), (.slice none 0 0)] rfl Tryd.zeroValue36 rfl (fun b8 w9 eb8 sb8 fb8 cb8 => ?_)
 have zw9 := cb8.size
 refine sx_store (vs := [.string pv, (.slice none 0 0)]) rfl rfl fb8 rfl Tryd.sizeOf36 (nbl rfl) (o2 rfl rfl) (fun w10 sw10 fw10 cw10 => ?_)
 have zw10 := cw10.size
 have gw10 : Blk w10 b8 [.string pv, (.slice none 0 0)] 36 := fw10
 refine wl_nil (q_n (k6 _ _ ?_))
 refine sx_seq fun K11 k11 => ?_
 refine sx_seq fun K12 k12 => sx_region ?_
 refine sp rfl (px_field rfl xfld36x1) ?_
 have f13 := f7.ext cb8
 have f14 := f13.chg cw10 (by omega)
 refine sp rfl (px_load rfl (f14.load1 rfl Tryd.isAgg34)) ?_
 have f15 := hvt0.ext cb2
 have f16 := f15.ext cb4
 have f17 := f16.ext cb8
 have f18 := f17.chg cw10 (by omega)
 refine sp rfl (px_len rfl Tryd.underlying34 f18.sv) ?_
 refine mv rfl rfl (wl_nil (q_n (k12 _ _ ?_)))
 refine sx_block ?_
 have f20 := fb4.ext cb8
 have f21 := f20.chg cw10 (by omega)
 have q22 := Chg.step (l := 0) (h := 0) (Chg.zero (l := 0) (h := 0) ((cb2.t cb4).t cb8)) cw10 (by omega)
 refine sx_loop (fun mm aa w' => ∃ (k : Nat) (s : Value) (us : List Value), Agr 25 [(2, .pointer (some ⟨b4, 0, none⟩)), (3, .pointer (some ⟨b8, 0, none⟩)), (10, vt), (11, .int .i64 (↑(ts).length)), (12, .int .i64 ↑k)] aa ∧ Chg 0 0 w w' ∧ Blk w' b4 [.string (⟨#[]⟩), (.slice none 0 0)] 36 ∧ Blk w' b8 [.string pv, s] 36 ∧ RtG w' w10.heap.size w'.heap.size s 44 intT (ts.take k) us ∧ (mm = ts.length - k) ∧ (k ≤ ts.length)) (_) (fun a ha => ⟨0, (.slice none 0 0), [], ha.sub (Sub.c 2 rfl (.c 3 rfl (.c 10 rfl (.c 11 (look_int (t := 11) rfl (by first | omega | simp)) (.c 12 (look_int (t := 12) rfl (by first | omega | simp)) .nil))))), q22, f21, gw10, ((RtG.nil w10 w10.heap.size w10.heap.size 44 intT (by omega))), rfl, by omega⟩) ?_
 rintro mm aa wl19 ⟨k, s, us, hAwl19, cwl19, hb_b4, hb_b8, hs_s, hm, hk⟩
 refine (show cw Tryd.prog 25 _ _ _ wl19 from ?_) aa hAwl19
 clear hAwl19
 have zwl19 := cwl19.size
 have lt23 := hb_b4.lt
 have lt24 := hb_b8.lt
 have hIk := fun (h : k < ts.length) => hI k h
 have hlk : (ts.take k).length = k := by rw [List.length_take]; omega
 refine sx_seq fun K25 k25 => sx_region ?_
 refine sp rfl (px_lt rfl rfl) ?_
 refine wl_nil (q_n (k25 _ _ ?_))
 refine sx_seq fun K26 k26 => ?_
 refine sx_condP rfl (fun h38 => ?_) (fun h38 => ?_)
 ·
  refine sx_skip ?_
  refine q_n (k26 _ _ ?_)
  refine sx_seq fun K27 k27 => ?_
  refine sx_block ?_
  refine sx_seq fun K28 k28 => sx_region ?_
  have f29 := hvt0.ext cwl19
  refine sp rfl (px_indexK (j := k) rfl rfl (by omega) Tryd.underlying34 Tryd.sizeOf44 f29.sv (by omega)) ?_
  refine sp rfl (px_load rfl (f29.sv.loadA (rt_look f29.len (by omega)) Tryd.isAgg44 Tryd.sizeOf44)) ?_
  refine sx_alloc [.string (⟨#[]⟩), .string (⟨#[]⟩), .bool false, (.slice none 0 0), .int .i64 0] rfl Tryd.zeroValue44 rfl (fun b30 w31 eb30 sb30 fb30 cb30 => ?_)
  have zw31 := cb30.size
  have f33 := (f29.nest k (by omega)).ext cb30
  refine sx_store (vs := [.string ((ts.getD k rt0).1), .string ((ts.getD k rt0).2.1), .bool ((ts.getD k rt0).2.2.1), (vvt.getD k vz), .int .i64 ((ts.getD k rt0).2.2.2.2)]) rfl rfl fb30 rfl Tryd.sizeOf44 (nbl rfl) (one_cons rfl (one_cons rfl (one_cons rfl (one_cons f33.one (o1 rfl))))) (fun w32 sw32 fw32 cw32 => ?_)
  have zw32 := cw32.size
  have gw32 : Blk w32 b30 [.string ((ts.getD k rt0).1), .string ((ts.getD k rt0).2.1), .bool ((ts.getD k rt0).2.2.1), (vvt.getD k vz), .int .i64 ((ts.getD k rt0).2.2.2.2)] 44 := fw32
  refine wl_nil (q_n (k28 _ _ ?_))
  have f34 := hs_s.ext cb30
  have f35 := f34.chg cw32 (by omega)
  have f36 := hb_b4.ext cb30
  have f37 := f36.chg cw32 (by omega)
  have f38 := f29.ext cb30
  have f39 := f38.chg cw32 (by omega)
  have f40 := f33.chg cw32 (by omega)
  refine dx_region (fun w' => Chg b8 (wl19.heap.size) w32 w') (by kernel_rfl) (Chg.zero (Chg.drew _)) ?_
  have d41 := Chg.drew w32
  have s41 : Chg b8 (wl19.heap.size) w32 (World.drew w32) := Chg.zero (Chg.drew _)
  have y41 : (World.drew w32).heap.size = w32.heap.size := rfl
  generalize World.drew w32 = w41 at *
  have zw41 := d41.size
  refine dt 0 rfl rfl rfl rfl s41 (fun _ hS => px_field rfl xfld36x1) ?_
  refine dt 2 rfl rfl rfl rfl s41 (fun _ hS => px_load rfl ((gw32.chg hS (by omega)).loadA (vs := [.string ((ts.getD k rt0).1), .string ((ts.getD k rt0).2.1), .bool ((ts.getD k rt0).2.2.1), (vvt.getD k vz), .int .i64 ((ts.getD k rt0).2.2.2.2)]) (look_lit rfl) Tryd.isAgg44 Tryd.sizeOf44)) ?_
  refine dx_eff2 1 3 rfl rfl (by kernel_rfl) ?_ ?_
  ·
   have f42 := hb_b8.ext cb30
   have f43 := f42.chg cw32 (by omega)
   have f44 := f43.ext d41
   refine sp rfl (px_load rfl (f44.load1 rfl Tryd.isAgg34)) ?_
   have s45 : Chg b8 (wl19.heap.size) w32 w41 := (Chg.zero (l := b8) (h := (wl19.heap.size)) (d41))
   refine wl_nil ?_
   refine dx_next s45 ?_
   refine dx_eff 3 rfl (by kernel_rfl) ?_
   have f46 := f40.ext d41
   refine sx_call rfl rfl Tryd.call33 (c_l10Rate f46 (hIk (by omega))) (fun v47 w47 p47 => ?_)
   obtain ⟨s47, rfl, os_47, c47⟩ := p47
   have zw47 := c47.size
   have s48 : Chg b8 (wl19.heap.size) w32 w47 := (Chg.zero (l := b8) (h := (wl19.heap.size)) (d41.t c47))
   refine wl_nil ?_
   refine dx_next s48 ?_
   refine dx_eff 4 rfl (by kernel_rfl) ?_
   refine sx_lit1A5 rfl xelt34 rfl (fun s49 ws49 ss49 fs49 cs49 => ?_)
   have zws49 := cs49.size
   have s50 : Chg b8 (wl19.heap.size) w32 ws49 := (Chg.zero (l := b8) (h := (wl19.heap.size)) ((d41.t c47).t cs49))
   refine wl_nil ?_
   refine dx_next s50 ?_
   refine dx_eff 5 rfl (by kernel_rfl) ?_
   have f54 := ((f35.ext d41).ext c47).ext cs49
   have f55 := os_47.ext cs49
   refine sx_appendRt (xb := b8) (r := (((ts.getD k rt0).1), ((ts.getD k rt0).2.1), ((ts.getD k rt0).2.2.1), ((ts.getD k rt0).2.2.2.1), ((ts.getD k rt0).2.2.2.2))) rfl xelt34 rfl rfl f54 fs49.sv f55 (by omega) (by omega) (by omega) (by unfold maxLen; omega) (fun a51 w51 fw51 cw51 => ?_)
   have zw51 := cw51.size
   have q57 := Chg.step (l := b8) (h := (wl19.heap.size)) (Chg.zero (l := b8) (h := (wl19.heap.size)) ((d41.t c47).t cs49)) cw51 (by omega)
   have s56 : Chg b8 (wl19.heap.size) w32 w51 := q57
   refine wl_nil ?_
   refine dx_next s56 ?_
   refine dt 6 rfl rfl rfl rfl s56 (fun _ hS => px_field rfl xfld36x1) ?_
   refine dx_eff 7 rfl (by kernel_rfl) ?_
   have f60 := (f44.ext c47).ext cs49
   have f61 := f60.chg cw51 (by omega)
   refine sx_store (vs := [a51]) rfl rfl f61 (cells_one (fw51).toS.one) Tryd.sizeOf34 (nbl rfl) (one_cons (fw51).toS.one one_nil) (fun w58 sw58 fw58 cw58 => ?_)
   have zw58 := cw58.size
   have gw58 : Blk w58 b8 [.string pv, a51] 36 := fw58
   have q63 := Chg.step (l := b8) (h := (wl19.heap.size)) (Chg.zero (l := b8) (h := (wl19.heap.size)) ((d41.t c47).t cs49)) cw51 (by omega)
   have q64 := Chg.step (l := b8) (h := (wl19.heap.size)) q63 cw58 (by omega)
   have s62 : Chg b8 (wl19.heap.size) w32 w58 := q64
   refine wl_nil ?_
   refine dx_next s62 ?_
   refine dx_done (by kernel_rfl) ?_
   refine q_bn (q_n (k27 _ _ ?_))
   refine sx_sub (Sub.c 2 rfl (.c 3 rfl (.c 10 rfl (.c 11 rfl (.c 12 rfl .nil))))) ?_
   refine sx_region ?_
   refine sp rfl (px_add rfl rfl (by omega)) ?_
   refine mv rfl rfl (wl_nil ?_)
   have q65 := Chg.step (l := 0) (h := 0) (Chg.zero (l := 0) (h := 0) (cwl19.t cb30)) cw32 (by omega)
   have q66 := Chg.step (l := 0) (h := 0) q65 ((d41.t c47).t cs49) (by omega)
   have q67 := Chg.step (l := 0) (h := 0) q66 cw51 (by omega)
   have q68 := Chg.step (l := 0) (h := 0) q67 cw58 (by omega)
   have f71 := ((f37.ext d41).ext c47).ext cs49
   have f72 := f71.chg cw51 (by omega)
   have f73 := f72.chg cw58 (by omega)
   have f74 := fw51.chgX cw58
   exact fun a ha => ⟨_, by omega, (k + 1), a51, (us ++ [s47]), ha.sub (Sub.c 2 rfl (.c 3 rfl (.c 10 rfl (.c 11 rfl (.c 12 (look_int (t := 12) rfl (by first | omega | simp)) .nil))))), q68, f73, gw58, (by rw [take_snoc (by omega)]; exact (f74).mono (by omega) (by omega)), rfl, by omega⟩
  have f75 := f40.ext d41
  refine sx_call rfl rfl Tryd.call33 (c_l10Rate f75 (hIk (by omega))) (fun v76 w76 p76 => ?_)
  obtain ⟨s76, rfl, os_76, c76⟩ := p76
  have zw76 := c76.size
  have s77 : Chg b8 (wl19.heap.size) w32 w76 := (Chg.zero (l := b8) (h := (wl19.heap.size)) (d41.t c76))
  refine wl_nil ?_
  refine dx_next s77 ?_
  refine dx_eff2 1 4 rfl rfl (by kernel_rfl) ?_ ?_
  ·
   have f78 := hb_b8.ext cb30
   have f79 := f78.chg cw32 (by omega)
   have f81 := (f79.ext d41).ext c76
   refine sp rfl (px_load rfl (f81.load1 rfl Tryd.isAgg34)) ?_
   have s82 : Chg b8 (wl19.heap.size) w32 w76 := (Chg.zero (l := b8) (h := (wl19.heap.size)) (d41.t c76))
   refine wl_nil ?_
   refine dx_next s82 ?_
   refine dx_eff 4 rfl (by kernel_rfl) ?_
   refine sx_lit1A5 rfl xelt34 rfl (fun s83 ws83 ss83 fs83 cs83 => ?_)
   have zws83 := cs83.size
   have s84 : Chg b8 (wl19.heap.size) w32 ws83 := (Chg.zero (l := b8) (h := (wl19.heap.size)) ((d41.t c76).t cs83))
   refine wl_nil ?_
   refine dx_next s84 ?_
   refine dx_eff 5 rfl (by kernel_rfl) ?_
   have f88 := ((f35.ext d41).ext c76).ext cs83
   have f89 := os_76.ext cs83
   refine sx_appendRt (xb := b8) (r := (((ts.getD k rt0).1), ((ts.getD k rt0).2.1), ((ts.getD k rt0).2.2.1), ((ts.getD k rt0).2.2.2.1), ((ts.getD k rt0).2.2.2.2))) rfl xelt34 rfl rfl f88 fs83.sv f89 (by omega) (by omega) (by omega) (by unfold maxLen; omega) (fun a85 w85 fw85 cw85 => ?_)
   have zw85 := cw85.size
   have q91 := Chg.step (l := b8) (h := (wl19.heap.size)) (Chg.zero (l := b8) (h := (wl19.heap.size)) ((d41.t c76).t cs83)) cw85 (by omega)
   have s90 : Chg b8 (wl19.heap.size) w32 w85 := q91
   refine wl_nil ?_
   refine dx_next s90 ?_
   refine dt 6 rfl rfl rfl rfl s90 (fun _ hS => px_field rfl xfld36x1) ?_
   refine dx_eff 7 rfl (by kernel_rfl) ?_
   have f93 := f81.ext cs83
   have f94 := f93.chg cw85 (by omega)
   refine sx_store (vs := [a85]) rfl rfl f94 (cells_one (fw85).toS.one) Tryd.sizeOf34 (nbl rfl) (one_cons (fw85).toS.one one_nil) (fun w92 sw92 fw92 cw92 => ?_)
   have zw92 := cw92.size
   have gw92 : Blk w92 b8 [.string pv, a85] 36 := fw92
   have q96 := Chg.step (l := b8) (h := (wl19.heap.size)) (Chg.zero (l := b8) (h := (wl19.heap.size)) ((d41.t c76).t cs83)) cw85 (by omega)
   have q97 := Chg.step (l := b8) (h := (wl19.heap.size)) q96 cw92 (by omega)
   have s95 : Chg b8 (wl19.heap.size) w32 w92 := q97
   refine wl_nil ?_
   refine dx_next s95 ?_
   refine dx_done (by kernel_rfl) ?_
   refine q_bn (q_n (k27 _ _ ?_))
   refine sx_sub (Sub.c 2 rfl (.c 3 rfl (.c 10 rfl (.c 11 rfl (.c 12 rfl .nil))))) ?_
   refine sx_region ?_
   refine sp rfl (px_add rfl rfl (by omega)) ?_
   refine mv rfl rfl (wl_nil ?_)
   have q98 := Chg.step (l := 0) (h := 0) (Chg.zero (l := 0) (h := 0) (cwl19.t cb30)) cw32 (by omega)
   have q99 := Chg.step (l := 0) (h := 0) q98 ((d41.t c76).t cs83) (by omega)
   have q100 := Chg.step (l := 0) (h := 0) q99 cw85 (by omega)
   have q101 := Chg.step (l := 0) (h := 0) q100 cw92 (by omega)
   have f104 := ((f37.ext d41).ext c76).ext cs83
   have f105 := f104.chg cw85 (by omega)
   have f106 := f105.chg cw92 (by omega)
   have f107 := fw85.chgX cw92
   exact fun a ha => ⟨_, by omega, (k + 1), a85, (us ++ [s76]), ha.sub (Sub.c 2 rfl (.c 3 rfl (.c 10 rfl (.c 11 rfl (.c 12 (look_int (t := 12) rfl (by first | omega | simp)) .nil))))), q101, f106, gw92, (by rw [take_snoc (by omega)]; exact (f107).mono (by omega) (by omega)), rfl, by omega⟩
  refine sx_lit1A5 rfl xelt34 rfl (fun s108 ws108 ss108 fs108 cs108 => ?_)
  have zws108 := cs108.size
  have s109 : Chg b8 (wl19.heap.size) w32 ws108 := (Chg.zero (l := b8) (h := (wl19.heap.size)) ((d41.t c76).t cs108))
  refine wl_nil ?_
  refine dx_next s109 ?_
  refine dx_eff 1 rfl (by kernel_rfl) ?_
  have f110 := hb_b8.ext cb30
  have f111 := f110.chg cw32 (by omega)
  have f114 := ((f111.ext d41).ext c76).ext cs108
  refine sp rfl (px_load rfl (f114.load1 rfl Tryd.isAgg34)) ?_
  have s115 : Chg b8 (wl19.heap.size) w32 ws108 := (Chg.zero (l := b8) (h := (wl19.heap.size)) ((d41.t c76).t cs108))
  refine wl_nil ?_
  refine dx_next s115 ?_
  refine dx_eff 5 rfl (by kernel_rfl) ?_
  have f119 := ((f35.ext d41).ext c76).ext cs108
  have f120 := os_76.ext cs108
  refine sx_appendRt (xb := b8) (r := (((ts.getD k rt0).1), ((ts.getD k rt0).2.1), ((ts.getD k rt0).2.2.1), ((ts.getD k rt0).2.2.2.1), ((ts.getD k rt0).2.2.2.2))) rfl xelt34 rfl rfl f119 fs108.sv f120 (by omega) (by omega) (by omega) (by unfold maxLen; omega) (fun a116 w116 fw116 cw116 => ?_)
  have zw116 := cw116.size
  have q122 := Chg.step (l := b8) (h := (wl19.heap.size)) (Chg.zero (l := b8) (h := (wl19.heap.size)) ((d41.t c76).t cs108)) cw116 (by omega)
  have s121 : Chg b8 (wl19.heap.size) w32 w116 := q122
  refine wl_nil ?_
  refine dx_next s121 ?_
  refine dt 6 rfl rfl rfl rfl s121 (fun _ hS => px_field rfl xfld36x1) ?_
  refine dx_eff 7 rfl (by kernel_rfl) ?_
  have f124 := f114.chg cw116 (by omega)
  refine sx_store (vs := [a116]) rfl rfl f124 (cells_one (fw116).toS.one) Tryd.sizeOf34 (nbl rfl) (one_cons (fw116).toS.one one_nil) (fun w123 sw123 fw123 cw123 => ?_)
  have zw123 := cw123.size
  have gw123 : Blk w123 b8 [.string pv, a116] 36 := fw123
  have q126 := Chg.step (l := b8) (h := (wl19.heap.size)) (Chg.zero (l := b8) (h := (wl19.heap.size)) ((d41.t c76).t cs108)) cw116 (by omega)
  have q127 := Chg.step (l := b8) (h := (wl19.heap.size)) q126 cw123 (by omega)
  have s125 : Chg b8 (wl19.heap.size) w32 w123 := q127
  refine wl_nil ?_
  refine dx_next s125 ?_
  refine dx_done (by kernel_rfl) ?_
  refine q_bn (q_n (k27 _ _ ?_))
  refine sx_sub (Sub.c 2 rfl (.c 3 rfl (.c 10 rfl (.c 11 rfl (.c 12 rfl .nil))))) ?_
  refine sx_region ?_
  refine sp rfl (px_add rfl rfl (by omega)) ?_
  refine mv rfl rfl (wl_nil ?_)
  have q128 := Chg.step (l := 0) (h := 0) (Chg.zero (l := 0) (h := 0) (cwl19.t cb30)) cw32 (by omega)
  have q129 := Chg.step (l := 0) (h := 0) q128 ((d41.t c76).t cs108) (by omega)
  have q130 := Chg.step (l := 0) (h := 0) q129 cw116 (by omega)
  have q131 := Chg.step (l := 0) (h := 0) q130 cw123 (by omega)
  have f134 := ((f37.ext d41).ext c76).ext cs108
  have f135 := f134.chg cw116 (by omega)
  have f136 := f135.chg cw123 (by omega)
  have f137 := fw116.chgX cw123
  exact fun a ha => ⟨_, by omega, (k + 1), a116, (us ++ [s76]), ha.sub (Sub.c 2 rfl (.c 3 rfl (.c 10 rfl (.c 11 rfl (.c 12 (look_int (t := 12) rfl (by first | omega | simp)) .nil))))), q131, f136, gw123, (by rw [take_snoc (by omega)]; exact (f137).mono (by omega) (by omega)), rfl, by omega⟩
 refine sx_exit ?_
 refine q_e (q_e (q_bx (q_n (k11 _ _ ?_))))
 refine sx_seq fun K138 k138 => sx_region ?_
 refine sp rfl (px_load rfl (hb_b8.loadA (vs := [.string pv, s]) (look_lit rfl) Tryd.isAgg36 Tryd.sizeOf36)) ?_
 refine sx_store (vs := [.string pv, s]) rfl rfl hb_b4 rfl Tryd.sizeOf36 (nbl rfl) (one_cons rfl (one_cons (hs_s).toS.one one_nil)) (fun w139 sw139 fw139 cw139 => ?_)
 have zw139 := cw139.size
 have gw139 : Blk w139 b4 [.string pv, s] 36 := fw139
 refine wl_nil (q_n (k138 _ _ ?_))
 refine sx_retc ?_
 refine sx_ret1 Tryd.results31 ⟨_, rfl, gw139.loadA (vs := [.string pv, s]) (look_lit rfl) Tryd.isAgg36 Tryd.sizeOf36⟩ ?_
 have ek : k = ts.length := by omega
 subst ek
 have f140 := hs_s.chg cw139 (by omega)
 have hO := f140
 rw [List.take_length] at hO
 have q141 := Chg.step (l := 0) (h := 0) (Chg.zero (l := 0) (h := 0) cwl19) cw139 (by omega)
 exact ⟨_, _, rfl, hO.mono (by omega) (by omega), q141⟩

theorem c_sRatePut {w : World} {pv : ByteArray} {vt : Value} {lvt uvt : Nat} {ts : List Rt} {vvt : List Value} {f1 : ByteArray} {t1 : ByteArray} {n1 : Bool} {v1 : Value} {lv1 uv1 : Nat} {z1 : List Int} {p1 : Int} (hvt : RtS w lvt uvt vt ts vvt) (hv1 : Sl w lv1 uv1 v1 (z1)) (h63 : ts.length ≤ 4611686018427387904) (hz : ∀ i, i < ts.length → (ts.getD i rt0).2.2.2.1.length ≤ 4611686018427387904) (hz1 : z1.length ≤ 4611686018427387904) :
  Ret Tryd.prog 7 [.agg #[.string pv, vt], .agg #[.string f1, .string t1, .bool n1, v1, .int .i64 p1]] w fun v w' => ∃ s us, v = .tuple #[.agg #[.string ((rPut pv ts (f1, t1, n1, z1, p1)).1), s], .bool ((rPut pv ts (f1, t1, n1, z1, p1)).2.2)] ∧ RtG w' (w.heap.size) (w'.heap.size) s 44 intT ((rPut pv ts (f1, t1, n1, z1, p1)).2.1) us ∧ Chg 0 0 w w' := by
 have hvt0 := hvt.fit
 have hv10 := hv1.fit
 refine sx_enter Tryd.func7 rfl Tryd.ntmps7 (nbl rfl) ?_
 refine sx_seq fun K1 k1 => sx_region ?_
 refine sx_box [.string pv, vt] rfl rfl rfl (fun b2 w3 eb2 sb2 fb2 cb2 => ?_)
 have zw3 := cb2.size
 refine sx_box [.string f1, .string t1, .bool n1, v1, .int .i64 p1] rfl rfl rfl (fun b4 w5 eb4 sb4 fb4 cb4 => ?_)
 have zw5 := cb4.size
 refine sx_alloc [.string (⟨#[]⟩), (.slice none 0 0)] rfl Tryd.zeroValue36 rfl (fun b6 w7 eb6 sb6 fb6 cb6 => ?_)
 have zw7 := cb6.size
 refine av rfl rfl (wl_nil (q_n (k1 _ _ ?_)))
 refine sx_seq fun K8 k8 => ?_
 refine sx_seq fun K9 k9 => sx_region ?_
 have f10 := fb2.ext cb4
 have f11 := f10.ext cb6
 refine sp rfl (px_load rfl (f11.loadA (vs := [.string pv, vt]) (look_lit rfl) Tryd.isAgg36 Tryd.sizeOf36)) ?_
 have f12 := hvt0.ext cb2
 have f13 := f12.ext cb4
 have f14 := f13.ext cb6
 refine sx_call rfl rfl Tryd.call29 (c_sRatesOk f14 (by first | omega | (rw [← hput]; have := putR_len (ts := ts) (r := (f1, t1, n1, z1, p1)); omega)) (by first | assumption | (rw [← hput]; exact putR_hz hz hz1))) (fun v15 w15 p15 => ?_)
 obtain ⟨rfl, c15⟩ := p15
 have zw15 := c15.size
 refine sp rfl (px_notP rfl) ?_
 refine mv rfl rfl ?_
 refine sx_tmpP (t := 11) rfl (fun h46 => ?_) (fun h46 => ?_)
 ·
  refine sx_guardF rfl rfl rfl rfl rfl rfl ?_
  refine sx_guardF rfl rfl rfl rfl rfl rfl ?_
  refine sx_guardF rfl rfl rfl rfl rfl rfl ?_
  refine sp rfl (px_pick rfl rfl) ?_
  refine wl_nil (q_n (k9 _ _ ?_))
  refine sx_condT rfl ?_
  refine sx_seq fun K16 k16 => sx_region ?_
  refine sp rfl (px_build rfl (xbld36x  _)) ?_
  have f18 := fb6.ext c15
  refine sx_store (vs := [.string (⟨#[]⟩), (.slice none 0 0)]) rfl rfl f18 rfl Tryd.sizeOf36 (nbl rfl) (o2 rfl rfl) (fun w17 sw17 fw17 cw17 => ?_)
  have zw17 := cw17.size
  have gw17 : Blk w17 b6 [.string (⟨#[]⟩), (.slice none 0 0)] 36 := fw17
  refine av rfl rfl (wl_nil (q_n (k16 _ _ ?_)))
  refine sx_sub (Sub.c 2 rfl (.c 3 rfl (.c 4 rfl (.c 5 rfl .nil)))) ?_
  refine sx_retc ?_
  refine q_r (sx_ret2 Tryd.results7 ⟨_, rfl, gw17.loadA (vs := [.string (⟨#[]⟩), (.slice none 0 0)]) (look_lit rfl) Tryd.isAgg36 Tryd.sizeOf36⟩ rfl ?_)
  rw [rPut_no (fun h => by first | exact h46 h.1 | exact h46x1 h.2)]
  have q19 := Chg.step (l := 0) (h := 0) (Chg.zero (l := 0) (h := 0) (((cb2.t cb4).t cb6).t c15)) cw17 (by omega)
  exact ⟨_, [], rfl, RtG.nil _ _ _ _ _ (by omega), q19⟩
 refine sx_guardT rfl rfl rfl ?_
 have f20 := fb4.ext cb6
 have f21 := f20.ext c15
 refine sp rfl (px_load rfl (f21.loadA (vs := [.string f1, .string t1, .bool n1, v1, .int .i64 p1]) (look_lit rfl) Tryd.isAgg44 Tryd.sizeOf44)) ?_
 refine sx_guardT rfl rfl rfl ?_
 have f22 := hv10.ext cb2
 have f23 := f22.ext cb4
 have f24 := f23.ext cb6
 have f25 := f24.ext c15
 refine sx_call rfl rfl Tryd.call30 (c_sRateOk f25 (by omega)) (fun v26 w26 p26 => ?_)
 obtain ⟨rfl, c26⟩ := p26
 have zw26 := c26.size
 refine sx_guardT rfl rfl rfl ?_
 refine sp rfl (px_notP rfl) ?_
 refine sp rfl (px_pick rfl rfl) ?_
 refine wl_nil (q_n (k9 _ _ ?_))
 refine sx_condP rfl (fun h46x1 => ?_) (fun h46x1 => ?_)
 ·
  refine sx_seq fun K27 k27 => sx_region ?_
  refine sp rfl (px_build rfl (xbld36x  _)) ?_
  have f30 := (fb6.ext c15).ext c26
  refine sx_store (vs := [.string (⟨#[]⟩), (.slice none 0 0)]) rfl rfl f30 rfl Tryd.sizeOf36 (nbl rfl) (o2 rfl rfl) (fun w28 sw28 fw28 cw28 => ?_)
  have zw28 := cw28.size
  have gw28 : Blk w28 b6 [.string (⟨#[]⟩), (.slice none 0 0)] 36 := fw28
  refine av rfl rfl (wl_nil (q_n (k27 _ _ ?_)))
  refine sx_sub (Sub.c 2 rfl (.c 3 rfl (.c 4 rfl (.c 5 rfl .nil)))) ?_
  refine sx_retc ?_
  refine q_r (sx_ret2 Tryd.results7 ⟨_, rfl, gw28.loadA (vs := [.string (⟨#[]⟩), (.slice none 0 0)]) (look_lit rfl) Tryd.isAgg36 Tryd.sizeOf36⟩ rfl ?_)
  rw [rPut_no (fun h => by first | exact h46 h.1 | exact h46x1 h.2)]
  have q31 := Chg.step (l := 0) (h := 0) (Chg.zero (l := 0) (h := 0) ((((cb2.t cb4).t cb6).t c15).t c26)) cw28 (by omega)
  exact ⟨_, [], rfl, RtG.nil _ _ _ _ _ (by omega), q31⟩
 have hT := Decidable.not_not.1 h46
 have hP := Decidable.not_not.1 h46x1
 have hl12 := hT.2.1
 have hI : ∀ i, i < ts.length → IOk (ts.getD i rt0).2.2.1 (ts.getD i rt0).2.2.2.1 := fun i hi => (hT.2.2.1 i hi).2.2.2.1.1
 have hI1 : IOk n1 z1 := hP.2.2.2.1.1
 have hrg := atI_range (ts := ts) (a := f1) (b := t1)
 refine sx_skip ?_
 refine q_n (k8 _ _ ?_)
 refine sx_seq fun K32 k32 => sx_region ?_
 have f34 := (f11.ext c15).ext c26
 refine sp rfl (px_load rfl (f34.loadA (vs := [.string pv, vt]) (look_lit rfl) Tryd.isAgg36 Tryd.sizeOf36)) ?_
 have f36 := (f14.ext c15).ext c26
 refine sx_call rfl rfl Tryd.call31 (c_l10Copy f36 (by omega) (by assumption)) (fun v37 w37 p37 => ?_)
 obtain ⟨s37, us37, rfl, os_37, c37⟩ := p37
 have zw37 := c37.size
 refine sx_alloc [.string (⟨#[]⟩), (.slice none 0 0)] rfl Tryd.zeroValue36 rfl (fun b38 w39 eb38 sb38 fb38 cb38 => ?_)
 have zw39 := cb38.size
 have f41 := os_37.ext cb38
 refine sx_store (vs := [.string pv, s37]) rfl rfl fb38 rfl Tryd.sizeOf36 (nbl rfl) (one_cons rfl (one_cons (f41).toS.one one_nil)) (fun w40 sw40 fw40 cw40 => ?_)
 have zw40 := cw40.size
 have gw40 : Blk w40 b38 [.string pv, s37] 36 := fw40
 refine wl_nil (q_n (k32 _ _ ?_))
 refine sx_sub (Sub.c 2 rfl (.c 3 rfl (.c 4 rfl (.c 5 rfl (.c 6 rfl .nil))))) ?_
 refine sx_seq fun K42 k42 => sx_region ?_
 refine sp rfl (px_field rfl xfld36x1) ?_
 have f44 := (f34.ext c37).ext cb38
 have f45 := f44.chg cw40 (by omega)
 refine sp rfl (px_load rfl (f45.load1 rfl Tryd.isAgg34)) ?_
 refine sp rfl (px_field rfl xfld44x0) ?_
 have f48 := ((f21.ext c26).ext c37).ext cb38
 have f49 := f48.chg cw40 (by omega)
 refine sp rfl (px_load rfl (f49.load1 rfl Tryd.isAgg9)) ?_
 refine sp rfl (px_field rfl xfld44x1) ?_
 refine sp rfl (px_load rfl (f49.load1 rfl Tryd.isAgg9)) ?_
 have f51 := (f36.ext c37).ext cb38
 have f52 := f51.chg cw40 (by omega)
 refine sx_call rfl rfl Tryd.call32 (c_l10At f52 (by omega)) (fun v53 w53 p53 => ?_)
 obtain ⟨rfl, c53⟩ := p53
 have zw53 := c53.size
 refine av rfl rfl (wl_nil (q_n (k42 _ _ ?_)))
 refine sx_seq fun K54 k54 => ?_
 refine sx_seq fun K55 k55 => sx_region ?_
 refine mv rfl rfl (sp rfl (px_ge rfl rfl) ?_)
 refine wl_nil (q_n (k55 _ _ ?_))
 refine sx_sub (Sub.c 3 rfl (.c 4 rfl (.c 5 rfl (.c 6 rfl (.c 7 rfl (.c 27 rfl .nil)))))) ?_
 refine sx_condP rfl (fun h51 => ?_) (fun h51 => ?_)
 ·
  have hput : putR ts (f1, t1, n1, z1, p1) = ts.set (atI ts f1 t1).toNat (f1, t1, n1, z1, p1) := by unfold putR; rw [if_pos (show 0 ≤ atI ts f1 t1 from h51)]
  have f56 := f45.ext c53
  have f57 := f49.ext c53
  have f61 := (((fb6.ext c15).ext c26).ext c37).ext cb38
  have f62 := f61.chg cw40 (by omega)
  have f63 := f62.ext c53
  have f64 := gw40.ext c53
  have f65 := f52.ext c53
  have f68 := ((f25.ext c26).ext c37).ext cb38
  have f69 := f68.chg cw40 (by omega)
  have f71 := f41.chg cw40 (by omega)
  have f72 := f71.ext c53
  refine dx_region (fun w' => Chg w26.heap.size (w37.heap.size) w53 w') (by kernel_rfl) (Chg.zero (Chg.drew _)) ?_
  have d73 := Chg.drew w53
  have s73 : Chg w26.heap.size (w37.heap.size) w53 (World.drew w53) := Chg.zero (Chg.drew _)
  have y73 : (World.drew w53).heap.size = w53.heap.size := rfl
  generalize World.drew w53 = w73 at *
  have zw73 := d73.size
  refine dt 0 rfl rfl rfl rfl s73 (fun _ hS => px_field rfl xfld36x1) ?_
  refine dt 1 rfl rfl rfl rfl s73 (fun _ hS => px_load rfl ((f64.chg hS (by omega)).load1 rfl Tryd.isAgg34)) ?_
  refine dt 2 rfl rfl rfl rfl s73 (fun _ hS => px_move rfl) ?_
  refine dt 3 rfl rfl rfl rfl s73 (fun _ hS => px_load rfl ((f57.chg hS (by omega)).loadA (vs := [.string f1, .string t1, .bool n1, v1, .int .i64 p1]) (look_lit rfl) Tryd.isAgg44 Tryd.sizeOf44)) ?_
  refine dx_eff 4 rfl (by kernel_rfl) ?_
  have f74 := (f69.ext c53).ext d73
  refine sx_call rfl rfl Tryd.call33 (c_l10Rate f74 (by assumption)) (fun v75 w75 p75 => ?_)
  obtain ⟨s75, rfl, os_75, c75⟩ := p75
  have zw75 := c75.size
  have s76 : Chg w26.heap.size (w37.heap.size) w53 w75 := (Chg.zero (l := w26.heap.size) (h := (w37.heap.size)) (d73.t c75))
  refine wl_nil ?_
  refine dx_next s76 ?_
  refine dt 5 rfl rfl rfl rfl s76 (fun _ hS => px_indexKw (j := (atI ts f1 t1).toNat) rfl rfl (by omega) Tryd.underlying34 Tryd.sizeOf44 (f72).toS.sv (by omega)) ?_
  refine dx_eff 6 rfl (by kernel_rfl) ?_
  have f79 := (f72.ext d73).ext c75
  refine sx_storeRt (r := (f1, t1, n1, z1, p1)) (q := s75) (k := ((atI ts f1 t1).toNat)) rfl rfl f79 rfl (by omega) os_75 (by omega) Tryd.sizeOf44 (fun w77 sw77 fw77 cw77 => ?_)
  have zw77 := cw77.size
  have q81 := Chg.step (l := w26.heap.size) (h := (w37.heap.size)) (Chg.zero (l := w26.heap.size) (h := (w37.heap.size)) (d73.t c75)) cw77 (by omega)
  have s80 : Chg w26.heap.size (w37.heap.size) w53 w77 := q81
  refine wl_nil ?_
  refine dx_next s80 ?_
  refine dx_done (by kernel_rfl) ?_
  refine q_n (k54 _ _ ?_)
  refine sx_seq fun K82 k82 => ?_
  refine sx_seq fun K83 k83 => sx_region ?_
  have f86 := ((f64.ext d73).ext c75).chg cw77 (by omega)
  refine sp rfl (px_load rfl (f86.loadA (vs := [.string pv, s37]) (look_lit rfl) Tryd.isAgg36 Tryd.sizeOf36)) ?_
  refine sx_call rfl rfl Tryd.call29 (c_sRatesOk (fw77).toS (by first | omega | (rw [← hput]; have := putR_len (ts := ts) (r := (f1, t1, n1, z1, p1)); omega)) (by first | assumption | (rw [← hput]; exact putR_hz hz hz1))) (fun v87 w87 p87 => ?_)
  obtain ⟨rfl, c87⟩ := p87
  have zw87 := c87.size
  refine sp rfl (px_notP rfl) ?_
  refine wl_nil (q_n (k83 _ _ ?_))
  refine sx_sub (Sub.c 4 rfl (.c 5 rfl (.c 6 rfl (.c 43 rfl .nil)))) ?_
  refine sx_condP rfl (fun h56 => ?_) (fun h56 => ?_)
  ·
   refine sx_seq fun K88 k88 => sx_region ?_
   refine sp rfl (px_build rfl (xbld36x  _)) ?_
   have f92 := ((f63.ext d73).ext c75).chg cw77 (by omega)
   have f93 := f92.ext c87
   refine sx_store (vs := [.string (⟨#[]⟩), (.slice none 0 0)]) rfl rfl f93 rfl Tryd.sizeOf36 (nbl rfl) (o2 rfl rfl) (fun w89 sw89 fw89 cw89 => ?_)
   have zw89 := cw89.size
   have gw89 : Blk w89 b6 [.string (⟨#[]⟩), (.slice none 0 0)] 36 := fw89
   refine av rfl rfl (wl_nil (q_n (k88 _ _ ?_)))
   refine sx_retc ?_
   refine q_r (sx_ret2 Tryd.results7 ⟨_, rfl, gw89.loadA (vs := [.string (⟨#[]⟩), (.slice none 0 0)]) (look_lit rfl) Tryd.isAgg36 Tryd.sizeOf36⟩ rfl ?_)
   rw [rPut_bad (fun h => h56 (by rw [← hput]; exact h))]
   have q94 := Chg.step (l := 0) (h := 0) (Chg.zero (l := 0) (h := 0) ((((((cb2.t cb4).t cb6).t c15).t c26).t c37).t cb38)) cw40 (by omega)
   have q95 := Chg.step (l := 0) (h := 0) q94 ((c53.t d73).t c75) (by omega)
   have q96 := Chg.step (l := 0) (h := 0) q95 cw77 (by omega)
   have q97 := Chg.step (l := 0) (h := 0) q96 c87 (by omega)
   have q98 := Chg.step (l := 0) (h := 0) q97 cw89 (by omega)
   exact ⟨_, [], rfl, RtG.nil _ _ _ _ _ (by omega), q98⟩
  refine sx_skip ?_
  refine q_n (k82 _ _ ?_)
  refine sx_seq fun K99 k99 => sx_region ?_
  have f100 := f86.ext c87
  refine sp rfl (px_load rfl (f100.loadA (vs := [.string pv, s37]) (look_lit rfl) Tryd.isAgg36 Tryd.sizeOf36)) ?_
  have f104 := ((f63.ext d73).ext c75).chg cw77 (by omega)
  have f105 := f104.ext c87
  have f106 := fw77.ext c87
  refine sx_store (vs := [.string pv, s37]) rfl rfl f105 rfl Tryd.sizeOf36 (nbl rfl) (one_cons rfl (one_cons (f106).toS.one one_nil)) (fun w101 sw101 fw101 cw101 => ?_)
  have zw101 := cw101.size
  have gw101 : Blk w101 b6 [.string pv, s37] 36 := fw101
  refine av rfl rfl (wl_nil (q_n (k99 _ _ ?_)))
  refine sx_retc ?_
  refine sx_ret2 Tryd.results7 ⟨_, rfl, gw101.loadA (vs := [.string pv, s37]) (look_lit rfl) Tryd.isAgg36 Tryd.sizeOf36⟩ rfl ?_
  have f107 := f106.chg cw101 (by omega)
  have hG := f107
  rw [← hput] at hG
  rw [rPut_ok hT hP (by rw [hput]; exact Decidable.not_not.1 h56)]
  have q108 := Chg.step (l := 0) (h := 0) (Chg.zero (l := 0) (h := 0) ((((((cb2.t cb4).t cb6).t c15).t c26).t c37).t cb38)) cw40 (by omega)
  have q109 := Chg.step (l := 0) (h := 0) q108 ((c53.t d73).t c75) (by omega)
  have q110 := Chg.step (l := 0) (h := 0) q109 cw77 (by omega)
  have q111 := Chg.step (l := 0) (h := 0) q110 c87 (by omega)
  have q112 := Chg.step (l := 0) (h := 0) q111 cw101 (by omega)
  exact ⟨_, _, rfl, hG.mono (by omega) (by omega), q112⟩
 have hput : putR ts (f1, t1, n1, z1, p1) = ts ++ [(f1, t1, n1, z1, p1)] := by unfold putR; rw [if_neg (show ¬ 0 ≤ atI ts f1 t1 from h51)]
 refine sx_cut k54 (fun fr w' => ∃ (gs113x0 : Value) (gv113x0 : List Value) (gu113x0 : Nat), fr = [(4, .pointer (some ⟨b6, 0, none⟩)), (5, .bool false), (6, .pointer (some ⟨b38, 0, none⟩))] ∧ Chg w26.heap.size (b38 + 1) w53 w' ∧ (RtG w' w26.heap.size gu113x0 gs113x0 44 intT (ts ++ [(f1, t1, n1, z1, p1)]) gv113x0) ∧ (Blk w' b38 [.string pv, gs113x0] 36) ∧ (gu113x0 ≤ w'.heap.size)) (fun kc113 => ?_) ?_
 ·
  have f114 := f41.chg cw40 (by omega)
  have f115 := f114.ext c53
  have f116 := f45.ext c53
  have f117 := f49.ext c53
  have f121 := (((fb6.ext c15).ext c26).ext c37).ext cb38
  have f122 := f121.chg cw40 (by omega)
  have f123 := f122.ext c53
  have f124 := f52.ext c53
  have f127 := ((f25.ext c26).ext c37).ext cb38
  have f128 := f127.chg cw40 (by omega)
  have f129 := f128.ext c53
  refine dx_region (fun w' => Chg w26.heap.size (b38 + 1) w53 w') (by kernel_rfl) (Chg.zero (Chg.drew _)) ?_
  have d130 := Chg.drew w53
  have s130 : Chg w26.heap.size (b38 + 1) w53 (World.drew w53) := Chg.zero (Chg.drew _)
  have y130 : (World.drew w53).heap.size = w53.heap.size := rfl
  generalize World.drew w53 = w130 at *
  have zw130 := d130.size
  refine dt 0 rfl rfl rfl rfl s130 (fun _ hS => px_field rfl xfld36x1) ?_
  refine dt 2 rfl rfl rfl rfl s130 (fun _ hS => px_load rfl ((f117.chg hS (by omega)).loadA (vs := [.string f1, .string t1, .bool n1, v1, .int .i64 p1]) (look_lit rfl) Tryd.isAgg44 Tryd.sizeOf44)) ?_
  refine dx_eff2 1 3 rfl rfl (by kernel_rfl) ?_ ?_
  ·
   have f132 := (gw40.ext c53).ext d130
   refine sp rfl (px_load rfl (f132.load1 rfl Tryd.isAgg34)) ?_
   have s133 : Chg w26.heap.size (b38 + 1) w53 w130 := (Chg.zero (l := w26.heap.size) (h := (b38 + 1)) (d130))
   refine wl_nil ?_
   refine dx_next s133 ?_
   refine dx_eff 3 rfl (by kernel_rfl) ?_
   have f134 := f129.ext d130
   refine sx_call rfl rfl Tryd.call33 (c_l10Rate f134 (by assumption)) (fun v135 w135 p135 => ?_)
   obtain ⟨s135, rfl, os_135, c135⟩ := p135
   have zw135 := c135.size
   have s136 : Chg w26.heap.size (b38 + 1) w53 w135 := (Chg.zero (l := w26.heap.size) (h := (b38 + 1)) (d130.t c135))
   refine wl_nil ?_
   refine dx_next s136 ?_
   refine dx_eff 4 rfl (by kernel_rfl) ?_
   refine sx_lit1A5 rfl xelt34 rfl (fun s137 ws137 ss137 fs137 cs137 => ?_)
   have zws137 := cs137.size
   have s138 : Chg w26.heap.size (b38 + 1) w53 ws137 := (Chg.zero (l := w26.heap.size) (h := (b38 + 1)) ((d130.t c135).t cs137))
   refine wl_nil ?_
   refine dx_next s138 ?_
   refine dx_eff 5 rfl (by kernel_rfl) ?_
   have f142 := ((f115.ext d130).ext c135).ext cs137
   have f143 := os_135.ext cs137
   refine sx_appendRt (xb := b38) (r := (f1, t1, n1, z1, p1)) rfl xelt34 rfl rfl f142 fs137.sv f143 (by omega) (by omega) (by omega) (by unfold maxLen; omega) (fun a139 w139 fw139 cw139 => ?_)
   have zw139 := cw139.size
   have q145 := Chg.step (l := w26.heap.size) (h := (b38 + 1)) (Chg.zero (l := w26.heap.size) (h := (b38 + 1)) ((d130.t c135).t cs137)) cw139 (by omega)
   have s144 : Chg w26.heap.size (b38 + 1) w53 w139 := q145
   refine wl_nil ?_
   refine dx_next s144 ?_
   refine dt 6 rfl rfl rfl rfl s144 (fun _ hS => px_field rfl xfld36x1) ?_
   refine dx_eff 7 rfl (by kernel_rfl) ?_
   have f148 := (f132.ext c135).ext cs137
   have f149 := f148.chg cw139 (by omega)
   refine sx_store (vs := [a139]) rfl rfl f149 (cells_one (fw139).toS.one) Tryd.sizeOf34 (nbl rfl) (one_cons (fw139).toS.one one_nil) (fun w146 sw146 fw146 cw146 => ?_)
   have zw146 := cw146.size
   have gw146 : Blk w146 b38 [.string pv, a139] 36 := fw146
   have q151 := Chg.step (l := w26.heap.size) (h := (b38 + 1)) (Chg.zero (l := w26.heap.size) (h := (b38 + 1)) ((d130.t c135).t cs137)) cw139 (by omega)
   have q152 := Chg.step (l := w26.heap.size) (h := (b38 + 1)) q151 cw146 (by omega)
   have s150 : Chg w26.heap.size (b38 + 1) w53 w146 := q152
   refine wl_nil ?_
   refine dx_next s150 ?_
   refine dx_done (by kernel_rfl) ?_
   have f153 := fw139.chgX cw146
   have q154 := Chg.step (l := w26.heap.size) (h := (b38 + 1)) (Chg.zero (l := w26.heap.size) (h := (b38 + 1)) ((d130.t c135).t cs137)) cw139 (by omega)
   have q155 := Chg.step (l := w26.heap.size) (h := (b38 + 1)) q154 cw146 (by omega)
   exact q_n (kw_sub (Sub.c 4 rfl (.c 5 rfl (.c 6 rfl .nil))) (kc113 _ _ ⟨a139, us37 ++ [s135], w139.heap.size, rfl, q155, (f153.mono (Nat.le_refl _) (Nat.le_refl _)), gw146, by omega⟩))
  have f156 := f129.ext d130
  refine sx_call rfl rfl Tryd.call33 (c_l10Rate f156 (by assumption)) (fun v157 w157 p157 => ?_)
  obtain ⟨s157, rfl, os_157, c157⟩ := p157
  have zw157 := c157.size
  have s158 : Chg w26.heap.size (b38 + 1) w53 w157 := (Chg.zero (l := w26.heap.size) (h := (b38 + 1)) (d130.t c157))
  refine wl_nil ?_
  refine dx_next s158 ?_
  refine dx_eff2 1 4 rfl rfl (by kernel_rfl) ?_ ?_
  ·
   have f161 := ((gw40.ext c53).ext d130).ext c157
   refine sp rfl (px_load rfl (f161.load1 rfl Tryd.isAgg34)) ?_
   have s162 : Chg w26.heap.size (b38 + 1) w53 w157 := (Chg.zero (l := w26.heap.size) (h := (b38 + 1)) (d130.t c157))
   refine wl_nil ?_
   refine dx_next s162 ?_
   refine dx_eff 4 rfl (by kernel_rfl) ?_
   refine sx_lit1A5 rfl xelt34 rfl (fun s163 ws163 ss163 fs163 cs163 => ?_)
   have zws163 := cs163.size
   have s164 : Chg w26.heap.size (b38 + 1) w53 ws163 := (Chg.zero (l := w26.heap.size) (h := (b38 + 1)) ((d130.t c157).t cs163))
   refine wl_nil ?_
   refine dx_next s164 ?_
   refine dx_eff 5 rfl (by kernel_rfl) ?_
   have f168 := ((f115.ext d130).ext c157).ext cs163
   have f169 := os_157.ext cs163
   refine sx_appendRt (xb := b38) (r := (f1, t1, n1, z1, p1)) rfl xelt34 rfl rfl f168 fs163.sv f169 (by omega) (by omega) (by omega) (by unfold maxLen; omega) (fun a165 w165 fw165 cw165 => ?_)
   have zw165 := cw165.size
   have q171 := Chg.step (l := w26.heap.size) (h := (b38 + 1)) (Chg.zero (l := w26.heap.size) (h := (b38 + 1)) ((d130.t c157).t cs163)) cw165 (by omega)
   have s170 : Chg w26.heap.size (b38 + 1) w53 w165 := q171
   refine wl_nil ?_
   refine dx_next s170 ?_
   refine dt 6 rfl rfl rfl rfl s170 (fun _ hS => px_field rfl xfld36x1) ?_
   refine dx_eff 7 rfl (by kernel_rfl) ?_
   have f173 := f161.ext cs163
   have f174 := f173.chg cw165 (by omega)
   refine sx_store (vs := [a165]) rfl rfl f174 (cells_one (fw165).toS.one) Tryd.sizeOf34 (nbl rfl) (one_cons (fw165).toS.one one_nil) (fun w172 sw172 fw172 cw172 => ?_)
   have zw172 := cw172.size
   have gw172 : Blk w172 b38 [.string pv, a165] 36 := fw172
   have q176 := Chg.step (l := w26.heap.size) (h := (b38 + 1)) (Chg.zero (l := w26.heap.size) (h := (b38 + 1)) ((d130.t c157).t cs163)) cw165 (by omega)
   have q177 := Chg.step (l := w26.heap.size) (h := (b38 + 1)) q176 cw172 (by omega)
   have s175 : Chg w26.heap.size (b38 + 1) w53 w172 := q177
   refine wl_nil ?_
   refine dx_next s175 ?_
   refine dx_done (by kernel_rfl) ?_
   have f178 := fw165.chgX cw172
   have q179 := Chg.step (l := w26.heap.size) (h := (b38 + 1)) (Chg.zero (l := w26.heap.size) (h := (b38 + 1)) ((d130.t c157).t cs163)) cw165 (by omega)
   have q180 := Chg.step (l := w26.heap.size) (h := (b38 + 1)) q179 cw172 (by omega)
   exact q_n (kw_sub (Sub.c 4 rfl (.c 5 rfl (.c 6 rfl .nil))) (kc113 _ _ ⟨a165, us37 ++ [s157], w165.heap.size, rfl, q180, (f178.mono (Nat.le_refl _) (Nat.le_refl _)), gw172, by omega⟩))
  refine sx_lit1A5 rfl xelt34 rfl (fun s181 ws181 ss181 fs181 cs181 => ?_)
  have zws181 := cs181.size
  have s182 : Chg w26.heap.size (b38 + 1) w53 ws181 := (Chg.zero (l := w26.heap.size) (h := (b38 + 1)) ((d130.t c157).t cs181))
  refine wl_nil ?_
  refine dx_next s182 ?_
  refine dx_eff 1 rfl (by kernel_rfl) ?_
  have f186 := (((gw40.ext c53).ext d130).ext c157).ext cs181
  refine sp rfl (px_load rfl (f186.load1 rfl Tryd.isAgg34)) ?_
  have s187 : Chg w26.heap.size (b38 + 1) w53 ws181 := (Chg.zero (l := w26.heap.size) (h := (b38 + 1)) ((d130.t c157).t cs181))
  refine wl_nil ?_
  refine dx_next s187 ?_
  refine dx_eff 5 rfl (by kernel_rfl) ?_
  have f191 := ((f115.ext d130).ext c157).ext cs181
  have f192 := os_157.ext cs181
  refine sx_appendRt (xb := b38) (r := (f1, t1, n1, z1, p1)) rfl xelt34 rfl rfl f191 fs181.sv f192 (by omega) (by omega) (by omega) (by unfold maxLen; omega) (fun a188 w188 fw188 cw188 => ?_)
  have zw188 := cw188.size
  have q194 := Chg.step (l := w26.heap.size) (h := (b38 + 1)) (Chg.zero (l := w26.heap.size) (h := (b38 + 1)) ((d130.t c157).t cs181)) cw188 (by omega)
  have s193 : Chg w26.heap.size (b38 + 1) w53 w188 := q194
  refine wl_nil ?_
  refine dx_next s193 ?_
  refine dt 6 rfl rfl rfl rfl s193 (fun _ hS => px_field rfl xfld36x1) ?_
  refine dx_eff 7 rfl (by kernel_rfl) ?_
  have f196 := f186.chg cw188 (by omega)
  refine sx_store (vs := [a188]) rfl rfl f196 (cells_one (fw188).toS.one) Tryd.sizeOf34 (nbl rfl) (one_cons (fw188).toS.one one_nil) (fun w195 sw195 fw195 cw195 => ?_)
  have zw195 := cw195.size
  have gw195 : Blk w195 b38 [.string pv, a188] 36 := fw195
  have q198 := Chg.step (l := w26.heap.size) (h := (b38 + 1)) (Chg.zero (l := w26.heap.size) (h := (b38 + 1)) ((d130.t c157).t cs181)) cw188 (by omega)
  have q199 := Chg.step (l := w26.heap.size) (h := (b38 + 1)) q198 cw195 (by omega)
  have s197 : Chg w26.heap.size (b38 + 1) w53 w195 := q199
  refine wl_nil ?_
  refine dx_next s197 ?_
  refine dx_done (by kernel_rfl) ?_
  have f200 := fw188.chgX cw195
  have q201 := Chg.step (l := w26.heap.size) (h := (b38 + 1)) (Chg.zero (l := w26.heap.size) (h := (b38 + 1)) ((d130.t c157).t cs181)) cw188 (by omega)
  have q202 := Chg.step (l := w26.heap.size) (h := (b38 + 1)) q201 cw195 (by omega)
  exact q_n (kw_sub (Sub.c 4 rfl (.c 5 rfl (.c 6 rfl .nil))) (kc113 _ _ ⟨a188, us37 ++ [s157], w188.heap.size, rfl, q202, (f200.mono (Nat.le_refl _) (Nat.le_refl _)), gw195, by omega⟩))
 rintro fr w'113 ⟨gs113x0, gv113x0, gu113x0, rfl, cw'113, xgs113x0, xb38, ygs113x0⟩
 have zw'113 := cw'113.size
 refine sx_seq fun K203 k203 => ?_
 refine sx_seq fun K204 k204 => sx_region ?_
 refine sp rfl (px_load rfl (xb38.loadA (vs := [.string pv, gs113x0]) (look_lit rfl) Tryd.isAgg36 Tryd.sizeOf36)) ?_
 refine sx_call rfl rfl Tryd.call29 (c_sRatesOk (xgs113x0).toS (by first | omega | (rw [← hput]; have := putR_len (ts := ts) (r := (f1, t1, n1, z1, p1)); omega)) (by first | assumption | (rw [← hput]; exact putR_hz hz hz1))) (fun v205 w205 p205 => ?_)
 obtain ⟨rfl, c205⟩ := p205
 have zw205 := c205.size
 refine sp rfl (px_notP rfl) ?_
 refine wl_nil (q_n (k204 _ _ ?_))
 refine sx_condP rfl (fun h56 => ?_) (fun h56 => ?_)
 ·
  refine sx_seq fun K206 k206 => sx_region ?_
  refine sp rfl (px_build rfl (xbld36x  _)) ?_
  have f211 := (((fb6.ext c15).ext c26).ext c37).ext cb38
  have f212 := f211.chg cw40 (by omega)
  have f214 := (f212.ext c53).chg cw'113 (by omega)
  have f215 := f214.ext c205
  refine sx_store (vs := [.string (⟨#[]⟩), (.slice none 0 0)]) rfl rfl f215 rfl Tryd.sizeOf36 (nbl rfl) (o2 rfl rfl) (fun w207 sw207 fw207 cw207 => ?_)
  have zw207 := cw207.size
  have gw207 : Blk w207 b6 [.string (⟨#[]⟩), (.slice none 0 0)] 36 := fw207
  refine av rfl rfl (wl_nil (q_n (k206 _ _ ?_)))
  refine sx_retc ?_
  refine q_r (sx_ret2 Tryd.results7 ⟨_, rfl, gw207.loadA (vs := [.string (⟨#[]⟩), (.slice none 0 0)]) (look_lit rfl) Tryd.isAgg36 Tryd.sizeOf36⟩ rfl ?_)
  rw [rPut_bad (fun h => h56 (by rw [← hput]; exact h))]
  have q216 := Chg.step (l := 0) (h := 0) (Chg.zero (l := 0) (h := 0) ((((((cb2.t cb4).t cb6).t c15).t c26).t c37).t cb38)) cw40 (by omega)
  have q217 := Chg.step (l := 0) (h := 0) q216 c53 (by omega)
  have q218 := Chg.step (l := 0) (h := 0) q217 cw'113 (by omega)
  have q219 := Chg.step (l := 0) (h := 0) q218 c205 (by omega)
  have q220 := Chg.step (l := 0) (h := 0) q219 cw207 (by omega)
  exact ⟨_, [], rfl, RtG.nil _ _ _ _ _ (by omega), q220⟩
 refine sx_skip ?_
 refine q_n (k203 _ _ ?_)
 refine sx_seq fun K221 k221 => sx_region ?_
 have f222 := xb38.ext c205
 refine sp rfl (px_load rfl (f222.loadA (vs := [.string pv, gs113x0]) (look_lit rfl) Tryd.isAgg36 Tryd.sizeOf36)) ?_
 have f227 := (((fb6.ext c15).ext c26).ext c37).ext cb38
 have f228 := f227.chg cw40 (by omega)
 have f230 := (f228.ext c53).chg cw'113 (by omega)
 have f231 := f230.ext c205
 have f232 := xgs113x0.ext c205
 refine sx_store (vs := [.string pv, gs113x0]) rfl rfl f231 rfl Tryd.sizeOf36 (nbl rfl) (one_cons rfl (one_cons (f232).toS.one one_nil)) (fun w223 sw223 fw223 cw223 => ?_)
 have zw223 := cw223.size
 have gw223 : Blk w223 b6 [.string pv, gs113x0] 36 := fw223
 refine av rfl rfl (wl_nil (q_n (k221 _ _ ?_)))
 refine sx_retc ?_
 refine sx_ret2 Tryd.results7 ⟨_, rfl, gw223.loadA (vs := [.string pv, gs113x0]) (look_lit rfl) Tryd.isAgg36 Tryd.sizeOf36⟩ rfl ?_
 have f233 := f232.chg cw223 (by omega)
 have hG := f233
 rw [← hput] at hG
 rw [rPut_ok hT hP (by rw [hput]; exact Decidable.not_not.1 h56)]
 have q234 := Chg.step (l := 0) (h := 0) (Chg.zero (l := 0) (h := 0) ((((((cb2.t cb4).t cb6).t c15).t c26).t c37).t cb38)) cw40 (by omega)
 have q235 := Chg.step (l := 0) (h := 0) q234 c53 (by omega)
 have q236 := Chg.step (l := 0) (h := 0) q235 cw'113 (by omega)
 have q237 := Chg.step (l := 0) (h := 0) q236 c205 (by omega)
 have q238 := Chg.step (l := 0) (h := 0) q237 cw223 (by omega)
 exact ⟨_, _, rfl, hG.mono (by omega) (by omega), q238⟩

theorem c_sRatePutT {w : World} {pv : ByteArray} {vt : Value} {lvt uvt : Nat} {ts : List Rt} {vvt : List Value} {f1 : ByteArray} {t1 : ByteArray} {n1 : Bool} {v1 : Value} {lv1 uv1 : Nat} {z1 : List Int} {p1 : Int} (hvt : RtS w lvt uvt vt ts vvt) (hv1 : Sl w lv1 uv1 v1 (z1)) (h63 : ts.length ≤ 4611686018427387904) (hz : ∀ i, i < ts.length → (ts.getD i rt0).2.2.2.1.length ≤ 4611686018427387904) (hz1 : z1.length ≤ 4611686018427387904) (hT : RsOk pv ts) (hsm : ∀ i, i < (ts).length → SmR ((ts).getD i rt0)) (hsr : SmR (f1, t1, n1, z1, p1)) :
  Ret Tryd.prog 7 [.agg #[.string pv, vt], .agg #[.string f1, .string t1, .bool n1, v1, .int .i64 p1]] w fun v w' => ∃ s qv ts2 us ok, v = .tuple #[.agg #[.string (qv), s], .bool (ok)] ∧ RtG w' (w.heap.size) (w'.heap.size) s 44 intT (ts2) us ∧ (ok = true → pv = qv ∧ RsOk pv ts2 ∧ ∀ i, i < (ts2).length → SmR ((ts2).getD i rt0)) ∧ Chg 0 0 w w' := by
 refine Calls.mono (c_sRatePut (n1 := n1) (p1 := p1) (f1 := f1) (t1 := t1) (pv := pv) hvt hv1 h63 hz hz1) fun e w' ⟨v, he, s, us, h1, h2, hc⟩ => ⟨v, he, s, _, _, us, _, h1, h2, fun hk => rput_true hT hsm hsr hk, hc⟩

theorem c_toIntS {w : World} {va : Value} {lva uva : Nat} {zs : List Int} (hva : Sl w lva uva va (zs)) (h63 : zs.length ≤ 1048576) :
  Ret Tryd.prog 99 [va] w fun v w' => ∃ s, v = s ∧ OwnI w' w.heap.size w'.heap.size s intT (zs) ∧ Chg 0 0 w w' := by
 have hva0 := hva.fit
 refine sx_enter Tryd.func99 rfl Tryd.ntmps99 (nbl rfl) ?_
 refine sx_seq fun K1 k1 => sx_region ?_
 refine av rfl rfl (wl_nil (q_n (k1 _ _ ?_)))
 refine sx_seq fun K2 k2 => sx_region ?_
 refine mv rfl rfl (sp rfl (px_len rfl Tryd.underlying25 hva0) ?_)
 refine sx_make (c := (zs).length) rfl xelt25 (rfl) (rfl) (by omega) (by unfold maxLen; omega) (fun s3 ws3 fs3 cs3 ls3 => ?_)
 have ns3 := fs3.made
 have zws3 := cs3.size
 refine av rfl rfl (wl_nil (q_n (k2 _ _ ?_)))
 refine sx_seq fun K4 k4 => ?_
 refine sx_seq fun K5 k5 => sx_region ?_
 refine av rfl rfl (wl_nil (q_n (k5 _ _ ?_)))
 refine sx_block ?_
 refine sx_loop (fun mm aa w' => ∃ (k : Nat) (os : List Int), Agr 22 [(0, va), (3, s3), (4, .int .i64 ↑k)] aa ∧ Chg w.heap.size ws3.heap.size ws3 w' ∧ Own w' w.heap.size ws3.heap.size s3 3 os.length 1 (os.map (Value.int .i64)) ∧ (mm = zs.length - k) ∧ (k ≤ zs.length) ∧ (os.length = zs.length) ∧ (os.take k = zs.take k)) (_) (fun a ha => ⟨0, List.replicate zs.length 0, ha.sub (Sub.c 0 rfl (.c 3 rfl (.c 4 (look_int (t := 4) rfl (by first | omega | simp)) .nil))), Chg.refl _ _ _, (ns3.mono (by omega) (by omega)), rfl, by omega, by simp, by simp⟩) ?_
 rintro mm aa wl6 ⟨k, os, hAwl6, cwl6, hs_s3, hm, hk, ho, he⟩
 refine (show cw Tryd.prog 22 _ _ _ wl6 from ?_) aa hAwl6
 clear hAwl6
 have zwl6 := cwl6.size
 refine sx_seq fun K7 k7 => ?_
 refine sx_seq fun K8 k8 => sx_region ?_
 refine mv rfl rfl (mv rfl rfl ?_)
 have f9 := hva0.ext cs3
 have f10 := f9.chg cwl6 (by omega)
 refine sp rfl (px_len rfl Tryd.underlying25 f10) ?_
 refine sp rfl (px_lt rfl rfl) ?_
 refine wl_nil (q_n (k8 _ _ ?_))
 refine sx_condP rfl (fun h203 => ?_) (fun h203 => ?_)
 ·
  refine sx_skip ?_
  refine q_n (k7 _ _ ?_)
  refine sx_seq fun K11 k11 => ?_
  refine sx_block ?_
  refine sx_region ?_
  refine mv rfl rfl (mv rfl rfl (mv rfl rfl (mv rfl rfl (sp rfl (px_index1 (j := k) rfl rfl (by omega) Tryd.underlying25 Tryd.sizeOf3 f10 (by omega)) ?_))))
  refine sp rfl (px_load rfl (f10.load1 (at_int (by omega)) Tryd.isAgg3)) ?_
  refine sp rfl (px_index1 (j := k) rfl rfl (by omega) Tryd.underlying25 Tryd.sizeOf3 hs_s3.sv (by omega)) ?_
  refine sx_storeO rfl rfl hs_s3 (by simp only [List.length_map]; omega) Tryd.sizeOf3 rfl (fun w12 sw12 fw12 cw12 => ?_)
  have zw12 := cw12.size
  have nw12 := fw12.set
  refine wl_nil ?_
  refine q_bn (q_n (k11 _ _ ?_))
  refine sx_region ?_
  refine mv rfl rfl (sp rfl (px_add rfl rfl (by omega)) ?_)
  refine av rfl rfl (wl_nil ?_)
  have q13 := Chg.step (l := w.heap.size) (h := ws3.heap.size) cwl6 cw12 (by omega)
  exact fun a ha => ⟨_, by omega, (k + 1), (os.set k (zs.getD k 0)), ha.sub (Sub.c 0 rfl (.c 3 rfl (.c 4 (look_int (t := 4) rfl (by first | omega | simp)) .nil))), q13, (nw12.mono (by omega) (by omega)), rfl, by omega, by simp [ho], take_set_succ he (by omega) (by omega)⟩
 refine sx_exit ?_
 refine q_e (q_e (q_bx (q_n (k4 _ _ ?_))))
 refine sx_seq fun K14 k14 => sx_region ?_
 refine mv rfl rfl (av rfl rfl (wl_nil (q_n (k14 _ _ ?_))))
 refine sx_retc ?_
 refine sx_ret1 Tryd.results99 rfl ?_
 have e1 : k = zs.length := by omega
 rw [e1, List.take_length, List.take_of_length_le (by omega)] at he
 subst he
 have q15 := Chg.step (l := 0) (h := 0) (Chg.zero (l := 0) (h := 0) cs3) cwl6 (by omega)
 exact ⟨_, rfl, Own.mono hs_s3 (by omega) (by omega), q15⟩

theorem c_toSigned {w : World} {n1 : Bool} {v1 : Value} {lv1 uv1 : Nat} {z1 : List Int} (hv1 : Sl w lv1 uv1 v1 (z1)) (bz1 : z1.length ≤ 1048576) :
  Ret Tryd.prog 69 [.agg #[.bool n1, v1]] w fun v w' => ∃ s1, v = .agg #[.bool (n1), s1] ∧ OwnI w' w.heap.size w'.heap.size s1 intT (z1) ∧ Chg 0 0 w w' := by
 have hv10 := hv1.fit
 refine sx_enter Tryd.func69 rfl Tryd.ntmps69 (nbl rfl) ?_
 refine sx_seq fun K1 k1 => sx_region ?_
 refine sx_box [.bool n1, v1] rfl rfl rfl (fun b2 w3 eb2 sb2 fb2 cb2 => ?_)
 have zw3 := cb2.size
 refine sx_alloc [.bool false, (.slice none 0 0)] rfl Tryd.zeroValue40 rfl (fun b4 w5 eb4 sb4 fb4 cb4 => ?_)
 have zw5 := cb4.size
 refine wl_nil (q_n (k1 _ _ ?_))
 refine sx_seq fun K6 k6 => sx_region ?_
 refine sx_alloc [.bool false, (.slice none 0 0)] rfl Tryd.zeroValue40 rfl (fun b7 w8 eb7 sb7 fb7 cb7 => ?_)
 have zw8 := cb7.size
 refine wl_nil (q_n (k6 _ _ ?_))
 refine sx_seq fun K9 k9 => sx_region ?_
 refine sp rfl (px_field rfl xfld27x0) ?_
 have f10 := fb2.ext cb4
 have f11 := f10.ext cb7
 refine sp rfl (px_load rfl (f11.load1 rfl Tryd.isAgg4)) ?_
 refine sp rfl (px_field rfl xfld40x0) ?_
 refine sx_store (vs := [.bool n1]) rfl rfl fb7 rfl Tryd.sizeOf4 (nbl rfl) (o1 rfl) (fun w12 sw12 fw12 cw12 => ?_)
 have zw12 := cw12.size
 have gw12 : Blk w12 b7 [.bool n1, (.slice none 0 0)] 40 := fw12
 refine wl_nil (q_n (k9 _ _ ?_))
 refine sx_seq fun K13 k13 => sx_region ?_
 refine sp rfl (px_field rfl xfld27x1) ?_
 have f14 := f11.chg cw12 (by omega)
 refine sp rfl (px_load rfl (f14.load1 rfl Tryd.isAgg25)) ?_
 have f15 := hv10.ext cb2
 have f16 := f15.ext cb4
 have f17 := f16.ext cb7
 have f18 := f17.chg cw12 (by omega)
 refine sx_call rfl rfl Tryd.call99 (c_toIntS f18 (by omega)) (fun v19 w19 p19 => ?_)
 obtain ⟨s19, rfl, os_19, c19⟩ := p19
 have zw19 := c19.size
 refine sp rfl (px_field rfl xfld40x1) ?_
 have f21 := gw12.ext c19
 refine sx_store (vs := [v19]) rfl rfl f21 (cells_one os_19.one) Tryd.sizeOf25 (nbl rfl) (one_cons os_19.one one_nil) (fun w20 sw20 fw20 cw20 => ?_)
 have zw20 := cw20.size
 have gw20 : Blk w20 b7 [.bool n1, v19] 40 := fw20
 refine wl_nil (q_n (k13 _ _ ?_))
 refine sx_seq fun K22 k22 => sx_region ?_
 refine sp rfl (px_load rfl (gw20.loadA (vs := [.bool n1, v19]) (look_lit rfl) Tryd.isAgg40 Tryd.sizeOf40)) ?_
 have f24 := fb4.ext cb7
 have f25 := f24.chg cw12 (by omega)
 have f27 := (f25.ext c19).chg cw20 (by omega)
 have f28 := os_19.chg cw20 (by omega)
 refine sx_store (vs := [.bool n1, v19]) rfl rfl f27 rfl Tryd.sizeOf40 (nbl rfl) (one_cons rfl (one_cons f28.one one_nil)) (fun w23 sw23 fw23 cw23 => ?_)
 have zw23 := cw23.size
 have gw23 : Blk w23 b4 [.bool n1, v19] 40 := fw23
 refine wl_nil (q_n (k22 _ _ ?_))
 refine sx_retc ?_
 refine sx_ret1 Tryd.results69 ⟨_, rfl, gw23.loadA (vs := [.bool n1, v19]) (look_lit rfl) Tryd.isAgg40 Tryd.sizeOf40⟩ ?_
 have q29 := Chg.step (l := 0) (h := 0) (Chg.zero (l := 0) (h := 0) ((cb2.t cb4).t cb7)) cw12 (by omega)
 have q30 := Chg.step (l := 0) (h := 0) q29 c19 (by omega)
 have q31 := Chg.step (l := 0) (h := 0) q30 cw20 (by omega)
 have q32 := Chg.step (l := 0) (h := 0) q31 cw23 (by omega)
 have f33 := f28.chg cw23 (by omega)
 exact ⟨_, rfl, Own.mono f33 (by omega) (by omega), q32⟩

theorem c_toDec {w : World} {n1 : Bool} {v1 : Value} {lv1 uv1 : Nat} {z1 : List Int} {p1 : Int} (hv1 : Sl w lv1 uv1 v1 (z1)) (bz1 : z1.length ≤ 1048576) :
  Ret Tryd.prog 35 [.agg #[.bool n1, v1, .int .i64 p1]] w fun v w' => ∃ s1, v = .agg #[.bool (n1), s1, .int .i64 (p1)] ∧ OwnI w' w.heap.size w'.heap.size s1 intT (z1) ∧ Chg 0 0 w w' := by
 have hv10 := hv1.fit
 refine sx_enter Tryd.func35 rfl Tryd.ntmps35 (nbl rfl) ?_
 refine sx_seq fun K1 k1 => sx_region ?_
 refine sx_box [.bool n1, v1, .int .i64 p1] rfl rfl rfl (fun b2 w3 eb2 sb2 fb2 cb2 => ?_)
 have zw3 := cb2.size
 refine sx_alloc [.bool false, (.slice none 0 0), .int .i64 0] rfl Tryd.zeroValue42 rfl (fun b4 w5 eb4 sb4 fb4 cb4 => ?_)
 have zw5 := cb4.size
 refine wl_nil (q_n (k1 _ _ ?_))
 refine sx_seq fun K6 k6 => sx_region ?_
 refine sx_alloc [.bool false, (.slice none 0 0), .int .i64 0] rfl Tryd.zeroValue42 rfl (fun b7 w8 eb7 sb7 fb7 cb7 => ?_)
 have zw8 := cb7.size
 refine wl_nil (q_n (k6 _ _ ?_))
 refine sx_seq fun K9 k9 => sx_region ?_
 refine sp rfl (px_field rfl xfld29x0) ?_
 have f10 := fb2.ext cb4
 have f11 := f10.ext cb7
 refine sp rfl (px_load rfl (f11.loadA (vs := [.bool n1, v1]) (look_lit rfl) Tryd.isAgg27 Tryd.sizeOf27)) ?_
 have f12 := hv10.ext cb2
 have f13 := f12.ext cb4
 have f14 := f13.ext cb7
 refine sx_call rfl rfl Tryd.call69 (c_toSigned f14 (by omega)) (fun v15 w15 p15 => ?_)
 obtain ⟨s115, rfl, os1_15, c15⟩ := p15
 have zw15 := c15.size
 refine sp rfl (px_field rfl xfld42x0) ?_
 have f17 := fb7.ext c15
 refine sx_store (vs := [.bool n1, s115]) rfl rfl f17 rfl Tryd.sizeOf40 (nbl rfl) (one_cons rfl (one_cons os1_15.one one_nil)) (fun w16 sw16 fw16 cw16 => ?_)
 have zw16 := cw16.size
 have gw16 : Blk w16 b7 [.bool n1, s115, .int .i64 0] 42 := fw16
 refine wl_nil (q_n (k9 _ _ ?_))
 refine sx_seq fun K18 k18 => sx_region ?_
 refine sp rfl (px_field rfl xfld29x1) ?_
 have f20 := (f11.ext c15).chg cw16 (by omega)
 refine sp rfl (px_load rfl (f20.load1 rfl Tryd.isAgg3)) ?_
 refine sp rfl (px_field rfl xfld42x1) ?_
 refine sx_store (vs := [.int .i64 p1]) rfl rfl gw16 rfl Tryd.sizeOf3 (nbl rfl) (o1 rfl) (fun w21 sw21 fw21 cw21 => ?_)
 have zw21 := cw21.size
 have gw21 : Blk w21 b7 [.bool n1, s115, .int .i64 p1] 42 := fw21
 refine wl_nil (q_n (k18 _ _ ?_))
 refine sx_seq fun K22 k22 => sx_region ?_
 refine sp rfl (px_load rfl (gw21.loadA (vs := [.bool n1, s115, .int .i64 p1]) (look_lit rfl) Tryd.isAgg42 Tryd.sizeOf42)) ?_
 have f24 := fb4.ext cb7
 have f26 := (f24.ext c15).chg cw16 (by omega)
 have f27 := f26.chg cw21 (by omega)
 have f28 := os1_15.chg cw16 (by omega)
 have f29 := f28.chg cw21 (by omega)
 refine sx_store (vs := [.bool n1, s115, .int .i64 p1]) rfl rfl f27 rfl Tryd.sizeOf42 (nbl rfl) (one_cons rfl (one_cons f29.one (o1 rfl))) (fun w23 sw23 fw23 cw23 => ?_)
 have zw23 := cw23.size
 have gw23 : Blk w23 b4 [.bool n1, s115, .int .i64 p1] 42 := fw23
 refine wl_nil (q_n (k22 _ _ ?_))
 refine sx_retc ?_
 refine sx_ret1 Tryd.results35 ⟨_, rfl, gw23.loadA (vs := [.bool n1, s115, .int .i64 p1]) (look_lit rfl) Tryd.isAgg42 Tryd.sizeOf42⟩ ?_
 have q30 := Chg.step (l := 0) (h := 0) (Chg.zero (l := 0) (h := 0) (((cb2.t cb4).t cb7).t c15)) cw16 (by omega)
 have q31 := Chg.step (l := 0) (h := 0) q30 cw21 (by omega)
 have q32 := Chg.step (l := 0) (h := 0) q31 cw23 (by omega)
 have f33 := f29.chg cw23 (by omega)
 exact ⟨_, rfl, Own.mono f33 (by omega) (by omega), q32⟩

theorem c_toRate {w : World} {f1 : ByteArray} {t1 : ByteArray} {n1 : Bool} {v1 : Value} {lv1 uv1 : Nat} {z1 : List Int} {p1 : Int} (hv1 : Sl w lv1 uv1 v1 (z1)) (bz1 : z1.length ≤ 1048576) :
  Ret Tryd.prog 9 [.agg #[.string f1, .string t1, .bool n1, v1, .int .i64 p1]] w fun v w' => ∃ s, v = .agg #[.string (f1), .string (t1), .bool (n1), s, .int .i64 (p1)] ∧ OwnI w' w.heap.size w'.heap.size s intT (z1) ∧ Chg 0 0 w w' := by
 have hv10 := hv1.fit
 refine sx_enter Tryd.func9 rfl Tryd.ntmps9 (nbl rfl) ?_
 refine sx_seq fun K1 k1 => sx_region ?_
 refine sx_box [.string f1, .string t1, .bool n1, v1, .int .i64 p1] rfl rfl rfl (fun b2 w3 eb2 sb2 fb2 cb2 => ?_)
 have zw3 := cb2.size
 refine sx_alloc [.string (⟨#[]⟩), .string (⟨#[]⟩), .bool false, (.slice none 0 0), .int .i64 0] rfl Tryd.zeroValue44 rfl (fun b4 w5 eb4 sb4 fb4 cb4 => ?_)
 have zw5 := cb4.size
 refine wl_nil (q_n (k1 _ _ ?_))
 refine sx_seq fun K6 k6 => sx_region ?_
 refine sx_alloc [.string (⟨#[]⟩), .string (⟨#[]⟩), .bool false, (.slice none 0 0), .int .i64 0] rfl Tryd.zeroValue44 rfl (fun b7 w8 eb7 sb7 fb7 cb7 => ?_)
 have zw8 := cb7.size
 refine wl_nil (q_n (k6 _ _ ?_))
 refine sx_seq fun K9 k9 => sx_region ?_
 refine sp rfl (px_field rfl xfld31x0) ?_
 have f10 := fb2.ext cb4
 have f11 := f10.ext cb7
 refine sp rfl (px_load rfl (f11.load1 rfl Tryd.isAgg9)) ?_
 refine sp rfl (px_field rfl xfld44x0) ?_
 refine sx_store (vs := [.string f1]) rfl rfl fb7 rfl Tryd.sizeOf9 (nbl rfl) (o1 rfl) (fun w12 sw12 fw12 cw12 => ?_)
 have zw12 := cw12.size
 have gw12 : Blk w12 b7 [.string f1, .string (⟨#[]⟩), .bool false, (.slice none 0 0), .int .i64 0] 44 := fw12
 refine wl_nil (q_n (k9 _ _ ?_))
 refine sx_seq fun K13 k13 => sx_region ?_
 refine sp rfl (px_field rfl xfld31x1) ?_
 have f14 := f11.chg cw12 (by omega)
 refine sp rfl (px_load rfl (f14.load1 rfl Tryd.isAgg9)) ?_
 refine sp rfl (px_field rfl xfld44x1) ?_
 refine sx_store (vs := [.string t1]) rfl rfl gw12 rfl Tryd.sizeOf9 (nbl rfl) (o1 rfl) (fun w15 sw15 fw15 cw15 => ?_)
 have zw15 := cw15.size
 have gw15 : Blk w15 b7 [.string f1, .string t1, .bool false, (.slice none 0 0), .int .i64 0] 44 := fw15
 refine wl_nil (q_n (k13 _ _ ?_))
 refine sx_seq fun K16 k16 => sx_region ?_
 refine sp rfl (px_field rfl xfld31x2) ?_
 have f17 := f14.chg cw15 (by omega)
 refine sp rfl (px_load rfl (f17.loadA (vs := [.bool n1, v1, .int .i64 p1]) (look_lit rfl) Tryd.isAgg29 Tryd.sizeOf29)) ?_
 have f18 := hv10.ext cb2
 have f19 := f18.ext cb4
 have f20 := f19.ext cb7
 have f21 := f20.chg cw12 (by omega)
 have f22 := f21.chg cw15 (by omega)
 refine sx_call rfl rfl Tryd.call35 (c_toDec f22 (by omega)) (fun v23 w23 p23 => ?_)
 obtain ⟨s123, rfl, os1_23, c23⟩ := p23
 have zw23 := c23.size
 refine sp rfl (px_field rfl xfld44x2) ?_
 have f25 := gw15.ext c23
 refine sx_store (vs := [.bool n1, s123, .int .i64 p1]) rfl rfl f25 rfl Tryd.sizeOf42 (nbl rfl) (one_cons rfl (one_cons os1_23.one (o1 rfl))) (fun w24 sw24 fw24 cw24 => ?_)
 have zw24 := cw24.size
 have gw24 : Blk w24 b7 [.string f1, .string t1, .bool n1, s123, .int .i64 p1] 44 := fw24
 refine wl_nil (q_n (k16 _ _ ?_))
 refine sx_seq fun K26 k26 => sx_region ?_
 refine sp rfl (px_load rfl (gw24.loadA (vs := [.string f1, .string t1, .bool n1, s123, .int .i64 p1]) (look_lit rfl) Tryd.isAgg44 Tryd.sizeOf44)) ?_
 have f28 := fb4.ext cb7
 have f29 := f28.chg cw12 (by omega)
 have f30 := f29.chg cw15 (by omega)
 have f32 := (f30.ext c23).chg cw24 (by omega)
 have f33 := os1_23.chg cw24 (by omega)
 refine sx_store (vs := [.string f1, .string t1, .bool n1, s123, .int .i64 p1]) rfl rfl f32 rfl Tryd.sizeOf44 (nbl rfl) (one_cons rfl (one_cons rfl (one_cons rfl (one_cons f33.one (o1 rfl))))) (fun w27 sw27 fw27 cw27 => ?_)
 have zw27 := cw27.size
 have gw27 : Blk w27 b4 [.string f1, .string t1, .bool n1, s123, .int .i64 p1] 44 := fw27
 refine wl_nil (q_n (k26 _ _ ?_))
 refine sx_sub (Sub.c 2 rfl .nil) ?_
 refine sx_retc ?_
 refine sx_ret1 Tryd.results9 ⟨_, rfl, gw27.loadA (vs := [.string f1, .string t1, .bool n1, s123, .int .i64 p1]) (look_lit rfl) Tryd.isAgg44 Tryd.sizeOf44⟩ ?_
 have q34 := Chg.step (l := 0) (h := 0) (Chg.zero (l := 0) (h := 0) ((cb2.t cb4).t cb7)) cw12 (by omega)
 have q35 := Chg.step (l := 0) (h := 0) q34 cw15 (by omega)
 have q36 := Chg.step (l := 0) (h := 0) q35 c23 (by omega)
 have q37 := Chg.step (l := 0) (h := 0) q36 cw24 (by omega)
 have q38 := Chg.step (l := 0) (h := 0) q37 cw27 (by omega)
 have f39 := f33.chg cw27 (by omega)
 exact ⟨_, rfl, (Own.mono f39 (by omega) (by omega)), q38⟩

theorem c_toRateS {w : World} {vt : Value} {lvt uvt : Nat} {ts : List Rt} {vvt : List Value} (hvt : RtS w lvt uvt vt ts vvt) (h63 : ts.length ≤ 1048576) (hzz : ∀ i, i < ts.length → (ts.getD i rt0).2.2.2.1.length ≤ 1048576) :
  Ret Tryd.prog 34 [vt] w fun v w' => ∃ s us, v = s ∧ RtO w' (w.heap.size) (w'.heap.size) s 44 intT (ts) us ∧ Chg 0 0 w w' := by
 have hvt0 := hvt.fit
 refine sx_enter Tryd.func34 rfl Tryd.ntmps34 (nbl rfl) ?_
 refine sx_seq fun K1 k1 => sx_region ?_
 refine av rfl rfl (wl_nil (q_n (k1 _ _ ?_)))
 refine sx_seq fun K2 k2 => sx_region ?_
 refine mv rfl rfl (sp rfl (px_len rfl Tryd.underlying22 hvt0.sv) ?_)
 refine sx_make (c := (ts).length) rfl xelt34 (rfl) (rfl) (by omega) (by unfold maxLen; omega) (fun s3 ws3 fs3 cs3 ls3 => ?_)
 have zws3 := cs3.size
 refine av rfl rfl (wl_nil (q_n (k2 _ _ ?_)))
 refine sx_seq fun K4 k4 => ?_
 refine sx_seq fun K5 k5 => sx_region ?_
 refine av rfl rfl (wl_nil (q_n (k5 _ _ ?_)))
 refine sx_block ?_
 obtain ⟨xs0, hxs0⟩ : ∃ xs, Own ws3 w.heap.size ws3.heap.size s3 44 ts.length 5 xs := ⟨_, fs3⟩
 refine sx_loop (fun mm aa w' => ∃ (k : Nat) (us : List Value) (xs : List Value) (r : Nat → Nat), Agr 23 [(0, vt), (3, s3), (4, .int .i64 ↑k)] aa ∧ Chg w.heap.size ws3.heap.size ws3 w' ∧ Own w' w.heap.size ws3.heap.size s3 44 ts.length 5 (xs) ∧ (mm = ts.length - k) ∧ (k ≤ ts.length) ∧ (us.length = k) ∧ (xs.take (k * 5) = rtCells (ts.take k) us) ∧ (ws3.heap.size ≤ r 0) ∧ (∀ i, i < k → r i ≤ r (i + 1)) ∧ (r k ≤ w'.heap.size) ∧ (∀ i, i < k → OwnI w' (r i) (r (i + 1)) (us.getD i vz) intT (ts.getD i rt0).2.2.2.1)) (_) (fun a ha => ⟨0, [], xs0, (fun _ => ws3.heap.size), ha.sub (Sub.c 0 rfl (.c 3 rfl (.c 4 (look_int (t := 4) rfl (by first | omega | simp)) .nil))), Chg.refl _ _ _, hxs0, rfl, by omega, rfl, by simp [rtCells], (show ws3.heap.size ≤ ws3.heap.size from by omega), fun i hi => by omega, Nat.le_refl _, fun i hi => by omega⟩) ?_
 rintro mm aa wl7 ⟨k, us, xs, r, hAwl7, cwl7, hs_s3, hm, hk, hul, hxt, hr0, hrm, hrk, hne⟩
 refine (show cw Tryd.prog 23 _ _ _ wl7 from ?_) aa hAwl7
 clear hAwl7
 have zwl7 := cwl7.size
 refine sx_seq fun K8 k8 => ?_
 refine sx_seq fun K9 k9 => sx_region ?_
 refine mv rfl rfl (mv rfl rfl ?_)
 have f10 := hvt0.ext cs3
 have f11 := f10.chg cwl7 (by omega)
 refine sp rfl (px_len rfl Tryd.underlying22 f11.sv) ?_
 refine sp rfl (px_lt rfl rfl) ?_
 refine wl_nil (q_n (k9 _ _ ?_))
 refine sx_condP rfl (fun h571 => ?_) (fun h571 => ?_)
 ·
  refine sx_skip ?_
  refine q_n (k8 _ _ ?_)
  refine sx_seq fun K12 k12 => ?_
  refine sx_block ?_
  have hxl := (hs_s3).1
  refine sx_region ?_
  refine mv rfl rfl (mv rfl rfl (mv rfl rfl (mv rfl rfl (sp rfl (px_indexK (j := k) rfl rfl (by omega) Tryd.underlying22 Tryd.sizeOf31 f11.sv (by omega)) ?_))))
  refine sp rfl (px_load rfl (f11.sv.loadA (rt_look f11.len (by omega)) Tryd.isAgg31 Tryd.sizeOf31)) ?_
  refine sx_call rfl rfl Tryd.call9 (c_toRate (f11.nest k (by omega)) (hzz k (by omega))) (fun v13 w13 p13 => ?_)
  obtain ⟨s13, rfl, os_13, c13⟩ := p13
  have zw13 := c13.size
  have f14 := hs_s3.ext c13
  refine sp rfl (px_indexK (j := k) rfl rfl (by omega) Tryd.underlying34 Tryd.sizeOf44 f14.sv (by omega)) ?_
  refine sx_storeOA (vs := [.string ((ts.getD k rt0).1), .string ((ts.getD k rt0).2.1), .bool ((ts.getD k rt0).2.2.1), s13, .int .i64 ((ts.getD k rt0).2.2.2.2)]) rfl rfl f14 rfl (by simp) (by simp only [List.length_cons, List.length_nil]; omega) Tryd.sizeOf44 (one_cons rfl (one_cons rfl (one_cons rfl (one_cons os_13.one (o1 rfl))))) (fun w15 sw15 fw15 cw15 => ?_)
  have zw15 := cw15.size
  refine wl_nil ?_
  refine q_bn (q_n (k12 _ _ ?_))
  refine sx_sub (Sub.c 0 rfl (.c 3 rfl (.c 4 rfl .nil))) ?_
  refine sx_region ?_
  refine mv rfl rfl (sp rfl (px_add rfl rfl (by omega)) ?_)
  refine av rfl rfl (wl_nil ?_)
  have q16 := Chg.step (l := w.heap.size) (h := ws3.heap.size) (Chg.zero (l := w.heap.size) (h := ws3.heap.size) c13) cw15 (by omega)
  have f17 := os_13.chg cw15 (by omega)
  have q18 := Chg.step (l := w.heap.size) (h := ws3.heap.size) cwl7 c13 (by omega)
  have q19 := Chg.step (l := w.heap.size) (h := ws3.heap.size) q18 cw15 (by omega)
  exact fun a ha => ⟨_, by omega, (k + 1), (us ++ [s13]), ((xs).take (k * 5) ++ [.string ((ts.getD k rt0).1), .string ((ts.getD k rt0).2.1), .bool ((ts.getD k rt0).2.2.1), s13, .int .i64 ((ts.getD k rt0).2.2.2.2)] ++ (xs).drop (k * 5 + 5)), (rset r k w15.heap.size), ha.sub (Sub.c 0 rfl (.c 3 rfl (.c 4 (look_int (t := 4) rfl (by first | omega | simp)) .nil))), q19, (fw15.mono (by omega) (by omega)), rfl, by omega, by rw [List.length_append, hul]; rfl, rt_put (by omega) hul (by omega) hxt rfl, by rw [rset_le (Nat.zero_le _)]; exact hr0, rset_mono hrm (by omega), by rw [rset_at]; exact Nat.le_refl _, nesto_next hul hrm hne q16 hr0 (Own.mono f17 (by omega) (by omega))⟩
 refine sx_exit ?_
 refine q_e (q_e (q_bx (q_n (k4 _ _ ?_))))
 refine sx_seq fun K20 k20 => sx_region ?_
 refine mv rfl rfl (av rfl rfl (wl_nil (q_n (k20 _ _ ?_))))
 refine sx_retc ?_
 refine sx_ret1 Tryd.results34 rfl ?_
 have ek : k = ts.length := by omega
 subst ek
 have hO := hs_s3
 have q21 := Chg.step (l := 0) (h := 0) (Chg.zero (l := 0) (h := 0) cs3) cwl7 (by omega)
 exact ⟨_, us, rfl, rto_copied hO hul hxt hr0 hrm hrk hne (by omega), q21⟩

theorem c_toRates {w : World} {pv : ByteArray} {vt : Value} {lvt uvt : Nat} {ts : List Rt} {vvt : List Value} (hvt : RtS w lvt uvt vt ts vvt) (h63 : ts.length ≤ 1048576) (hzz : ∀ i, i < ts.length → (ts.getD i rt0).2.2.2.1.length ≤ 1048576) :
  Ret Tryd.prog 8 [.agg #[.string pv, vt]] w fun v w' => ∃ s us, v = .agg #[.string (pv), s] ∧ RtO w' (w.heap.size) (w'.heap.size) s 44 intT (ts) us ∧ Chg 0 0 w w' := by
 have hvt0 := hvt.fit
 refine sx_enter Tryd.func8 rfl Tryd.ntmps8 (nbl rfl) ?_
 refine sx_seq fun K1 k1 => sx_region ?_
 refine sx_box [.string pv, vt] rfl rfl rfl (fun b2 w3 eb2 sb2 fb2 cb2 => ?_)
 have zw3 := cb2.size
 refine sx_alloc [.string (⟨#[]⟩), (.slice none 0 0)] rfl Tryd.zeroValue36 rfl (fun b4 w5 eb4 sb4 fb4 cb4 => ?_)
 have zw5 := cb4.size
 refine wl_nil (q_n (k1 _ _ ?_))
 refine sx_seq fun K6 k6 => sx_region ?_
 refine sx_alloc [.string (⟨#[]⟩), (.slice none 0 0)] rfl Tryd.zeroValue36 rfl (fun b7 w8 eb7 sb7 fb7 cb7 => ?_)
 have zw8 := cb7.size
 refine wl_nil (q_n (k6 _ _ ?_))
 refine sx_seq fun K9 k9 => sx_region ?_
 refine sp rfl (px_field rfl xfld24x0) ?_
 have f10 := fb2.ext cb4
 have f11 := f10.ext cb7
 refine sp rfl (px_load rfl (f11.load1 rfl Tryd.isAgg9)) ?_
 refine sp rfl (px_field rfl xfld36x0) ?_
 refine sx_store (vs := [.string pv]) rfl rfl fb7 rfl Tryd.sizeOf9 (nbl rfl) (o1 rfl) (fun w12 sw12 fw12 cw12 => ?_)
 have zw12 := cw12.size
 have gw12 : Blk w12 b7 [.string pv, (.slice none 0 0)] 36 := fw12
 refine wl_nil (q_n (k9 _ _ ?_))
 refine sx_seq fun K13 k13 => sx_region ?_
 refine sp rfl (px_field rfl xfld24x1) ?_
 have f14 := f11.chg cw12 (by omega)
 refine sp rfl (px_load rfl (f14.load1 rfl Tryd.isAgg22)) ?_
 have f15 := hvt0.ext cb2
 have f16 := f15.ext cb4
 have f17 := f16.ext cb7
 have f18 := f17.chg cw12 (by omega)
 refine sx_call rfl rfl Tryd.call34 (c_toRateS f18 (by omega) (by assumption)) (fun v19 w19 p19 => ?_)
 obtain ⟨s19, us19, rfl, os_19, c19⟩ := p19
 have zw19 := c19.size
 refine sp rfl (px_field rfl xfld36x1) ?_
 have f21 := gw12.ext c19
 refine sx_store (vs := [v19]) rfl rfl f21 (cells_one (os_19).toS.one) Tryd.sizeOf34 (nbl rfl) (one_cons (os_19).toS.one one_nil) (fun w20 sw20 fw20 cw20 => ?_)
 have zw20 := cw20.size
 have gw20 : Blk w20 b7 [.string pv, v19] 36 := fw20
 refine wl_nil (q_n (k13 _ _ ?_))
 refine sx_seq fun K22 k22 => sx_region ?_
 refine sp rfl (px_load rfl (gw20.loadA (vs := [.string pv, v19]) (look_lit rfl) Tryd.isAgg36 Tryd.sizeOf36)) ?_
 have f24 := fb4.ext cb7
 have f25 := f24.chg cw12 (by omega)
 have f27 := (f25.ext c19).chg cw20 (by omega)
 have f28 := os_19.chg cw20 (by omega)
 refine sx_store (vs := [.string pv, v19]) rfl rfl f27 rfl Tryd.sizeOf36 (nbl rfl) (one_cons rfl (one_cons (f28).toS.one one_nil)) (fun w23 sw23 fw23 cw23 => ?_)
 have zw23 := cw23.size
 have gw23 : Blk w23 b4 [.string pv, v19] 36 := fw23
 refine wl_nil (q_n (k22 _ _ ?_))
 refine sx_retc ?_
 refine sx_ret1 Tryd.results8 ⟨_, rfl, gw23.loadA (vs := [.string pv, v19]) (look_lit rfl) Tryd.isAgg36 Tryd.sizeOf36⟩ ?_
 have f29 := f28.chg cw23 (by omega)
 have q30 := Chg.step (l := 0) (h := 0) (Chg.zero (l := 0) (h := 0) ((cb2.t cb4).t cb7)) cw12 (by omega)
 have q31 := Chg.step (l := 0) (h := 0) q30 c19 (by omega)
 have q32 := Chg.step (l := 0) (h := 0) q31 cw20 (by omega)
 have q33 := Chg.step (l := 0) (h := 0) q32 cw23 (by omega)
 exact ⟨_, _, rfl, (f29).mono (by omega) (by omega), q33⟩

theorem c_eqIntS {w : World} {va : Value} {lva uva : Nat} {zs : List Int} {vb : Value} {lvb uvb : Nat} {ys : List Int} (hva : Sl w lva uva va (zs)) (hvb : Sl w lvb uvb vb (ys)) (h63 : zs.length ≤ 4611686018427387904 ∧ ys.length ≤ 4611686018427387904) :
  Ret Tryd.prog 101 [va, vb] w fun v w' => v = .bool (decide (zs = ys)) ∧ Chg 0 0 w w' := by
 have hva0 := hva.fit
 have hvb0 := hvb.fit
 have hneq : zs.length ≠ ys.length → zs ≠ ys := fun h e => h (by rw [e])
 refine sx_enter Tryd.func101 rfl Tryd.ntmps101 (nbl rfl) ?_
 refine sx_seq fun K1 k1 => sx_region ?_
 refine av rfl rfl (wl_nil (q_n (k1 _ _ ?_)))
 refine sx_seq fun K2 k2 => ?_
 refine sx_seq fun K3 k3 => sx_region ?_
 refine mv rfl rfl (sp rfl (px_len rfl Tryd.underlying25 hva0) ?_)
 refine mv rfl rfl (sp rfl (px_len rfl Tryd.underlying25 hvb0) ?_)
 refine sp rfl (px_ne rfl rfl) ?_
 refine wl_nil (q_n (k3 _ _ ?_))
 refine sx_condP rfl (fun h210 => ?_) (fun h210 => ?_)
 ·
  refine sx_seq fun K4 k4 => sx_region ?_
  refine av rfl rfl (wl_nil (q_n (k4 _ _ ?_)))
  refine sx_retc ?_
  refine q_r (sx_ret1 Tryd.results101 rfl ?_)
  exact ⟨bFalse (hneq (by omega)), (Chg.refl 0 0 _)⟩
 refine sx_skip ?_
 refine q_n (k2 _ _ ?_)
 refine sx_seq fun K5 k5 => ?_
 refine sx_seq fun K6 k6 => sx_region ?_
 refine av rfl rfl (wl_nil (q_n (k6 _ _ ?_)))
 refine sx_block ?_
 refine sx_loop (fun mm aa w' => ∃ (k : Nat), Agr 26 [(0, va), (1, vb), (5, .int .i64 ↑k)] aa ∧ Chg 0 0 w w' ∧ (mm = zs.length - k) ∧ (k ≤ zs.length) ∧ (zs.take k = ys.take k)) (_) (fun a ha => ⟨0, ha.sub (Sub.c 0 rfl (.c 1 rfl (.c 5 (look_int (t := 5) rfl (by first | omega | simp)) .nil))), Chg.refl _ _ _, rfl, by omega, by simp⟩) ?_
 rintro mm aa wl7 ⟨k, hAwl7, cwl7, hm, hk, he⟩
 refine (show cw Tryd.prog 26 _ _ _ wl7 from ?_) aa hAwl7
 clear hAwl7
 have zwl7 := cwl7.size
 refine sx_seq fun K8 k8 => ?_
 refine sx_seq fun K9 k9 => sx_region ?_
 refine mv rfl rfl (mv rfl rfl ?_)
 have f10 := hva0.ext cwl7
 refine sp rfl (px_len rfl Tryd.underlying25 f10) ?_
 refine sp rfl (px_lt rfl rfl) ?_
 refine wl_nil (q_n (k9 _ _ ?_))
 refine sx_condP rfl (fun h213 => ?_) (fun h213 => ?_)
 ·
  refine sx_skip ?_
  refine q_n (k8 _ _ ?_)
  refine sx_seq fun K11 k11 => ?_
  refine sx_block ?_
  refine sx_seq fun K12 k12 => ?_
  have f13 := hvb0.ext cwl7
  refine dx_region (fun w' => Chg 0 0 wl7 w') (by kernel_rfl) (Chg.zero (Chg.drew _)) ?_
  have d14 := Chg.drew wl7
  have s14 : Chg 0 0 wl7 (World.drew wl7) := Chg.zero (Chg.drew _)
  have y14 : (World.drew wl7).heap.size = wl7.heap.size := rfl
  generalize World.drew wl7 = w14 at *
  have zw14 := d14.size
  refine dt 0 rfl rfl rfl rfl s14 (fun _ hS => px_move rfl) ?_
  refine dt 1 rfl rfl rfl rfl s14 (fun _ hS => px_move rfl) ?_
  refine dt 2 rfl rfl rfl rfl s14 (fun _ hS => px_index1 (j := k) rfl rfl (by omega) Tryd.underlying25 Tryd.sizeOf3 ((f10).chg hS (by omega)) (by omega)) ?_
  refine dt 3 rfl rfl rfl rfl s14 (fun _ hS => px_load rfl (((f10).chg hS (by omega)).load1 (at_int (by omega)) Tryd.isAgg3)) ?_
  refine dt 4 rfl rfl rfl rfl s14 (fun _ hS => px_move rfl) ?_
  refine dt 5 rfl rfl rfl rfl s14 (fun _ hS => px_move rfl) ?_
  refine dt 6 rfl rfl rfl rfl s14 (fun _ hS => px_index1 (j := k) rfl rfl (by omega) Tryd.underlying25 Tryd.sizeOf3 ((f13).chg hS (by omega)) (by omega)) ?_
  refine dt 7 rfl rfl rfl rfl s14 (fun _ hS => px_load rfl (((f13).chg hS (by omega)).load1 (at_int (by omega)) Tryd.isAgg3)) ?_
  refine dt 8 rfl rfl rfl rfl s14 (fun _ hS => px_ne rfl rfl) ?_
  refine dx_done (by kernel_rfl) ?_
  refine q_n (k12 _ _ ?_)
  refine sx_sub (Sub.c 0 rfl (.c 1 rfl (.c 5 rfl (.c 25 rfl .nil)))) ?_
  refine sx_condP rfl (fun h214 => ?_) (fun h214 => ?_)
  ·
   refine sx_seq fun K15 k15 => sx_region ?_
   refine av rfl rfl (wl_nil (q_n (k15 _ _ ?_)))
   refine sx_retc ?_
   refine q_br (q_r (q_r (q_br (q_r (sx_ret1 Tryd.results101 rfl ?_)))))
   exact ⟨bFalse (ne_of_getD h214), (cwl7.t d14)⟩
  refine sx_skip ?_
  refine q_bn (q_n (k11 _ _ ?_))
  refine sx_region ?_
  refine mv rfl rfl (sp rfl (px_add rfl rfl (by omega)) ?_)
  refine av rfl rfl (wl_nil ?_)
  exact fun a ha => ⟨_, by omega, (k + 1), ha.sub (Sub.c 0 rfl (.c 1 rfl (.c 5 (look_int (t := 5) rfl (by first | omega | simp)) .nil))), (cwl7.t d14), rfl, by omega, take_succ_eq he (by omega) (by omega) (Decidable.not_not.1 h214)⟩
 refine sx_exit ?_
 refine q_e (q_e (q_bx (q_n (k5 _ _ ?_))))
 refine sx_seq fun K16 k16 => sx_region ?_
 refine av rfl rfl (wl_nil (q_n (k16 _ _ ?_)))
 refine sx_retc ?_
 refine sx_ret1 Tryd.results101 rfl ?_
 have e1 : k = zs.length := by omega
 rw [e1, List.take_length, List.take_of_length_le (by omega)] at he
 exact ⟨bTrue he, cwl7⟩

theorem c_eqSigned {w : World} {n1 : Bool} {v1 : Value} {lv1 uv1 : Nat} {z1 : List Int} {n2 : Bool} {v2 : Value} {lv2 uv2 : Nat} {z2 : List Int} (hv1 : Sl w lv1 uv1 v1 (z1)) (hv2 : Sl w lv2 uv2 v2 (z2)) (h63 : z1.length ≤ 4611686018427387904 ∧ z2.length ≤ 4611686018427387904) :
  Ret Tryd.prog 71 [.agg #[.bool n1, v1], .agg #[.bool n2, v2]] w fun v w' => v = .bool (decide (n1 = n2 ∧ z1 = z2)) ∧ Chg 0 0 w w' := by
 have hv10 := hv1.fit
 have hv20 := hv2.fit
 refine sx_enter Tryd.func71 rfl Tryd.ntmps71 (nbl rfl) ?_
 refine sx_seq fun K1 k1 => sx_region ?_
 refine sx_box [.bool n1, v1] rfl rfl rfl (fun b2 w3 eb2 sb2 fb2 cb2 => ?_)
 have zw3 := cb2.size
 refine sx_box [.bool n2, v2] rfl rfl rfl (fun b4 w5 eb4 sb4 fb4 cb4 => ?_)
 have zw5 := cb4.size
 refine av rfl rfl (wl_nil (q_n (k1 _ _ ?_)))
 refine sx_seq fun K6 k6 => ?_
 refine sx_seq fun K7 k7 => sx_region ?_
 refine sp rfl (px_field rfl xfld40x0) ?_
 have f8 := fb2.ext cb4
 refine sp rfl (px_load rfl (f8.load1 rfl Tryd.isAgg4)) ?_
 refine sp rfl (px_field rfl xfld40x0) ?_
 refine sp rfl (px_load rfl (fb4.load1 rfl Tryd.isAgg4)) ?_
 refine sp rfl (px_neB Tryd.underlying4 rfl rfl) ?_
 refine wl_nil (q_n (k7 _ _ ?_))
 refine sx_condB rfl (fun h263 => ?_) (fun h263 => ?_)
 ·
  refine sx_seq fun K9 k9 => sx_region ?_
  refine av rfl rfl (wl_nil (q_n (k9 _ _ ?_)))
  refine sx_retc ?_
  refine q_r (sx_ret1 Tryd.results71 rfl ?_)
  exact ⟨(by first | exact bTrue (by grind) | exact bFalse (by grind) | exact bIff (by grind)), (cb2.t cb4)⟩
 refine sx_skip ?_
 refine q_n (k6 _ _ ?_)
 refine sx_seq fun K10 k10 => ?_
 refine sx_seq fun K11 k11 => sx_region ?_
 refine sp rfl (px_field rfl xfld40x1) ?_
 refine sp rfl (px_load rfl (f8.load1 rfl Tryd.isAgg25)) ?_
 refine sp rfl (px_field rfl xfld40x1) ?_
 refine sp rfl (px_load rfl (fb4.load1 rfl Tryd.isAgg25)) ?_
 have f12 := hv10.ext cb2
 have f13 := f12.ext cb4
 have f14 := hv20.ext cb2
 have f15 := f14.ext cb4
 refine sx_call rfl rfl Tryd.call101 (c_eqIntS f13 f15 (by omega)) (fun v16 w16 p16 => ?_)
 obtain ⟨rfl, c16⟩ := p16
 have zw16 := c16.size
 refine sp rfl (px_notP rfl) ?_
 refine wl_nil (q_n (k11 _ _ ?_))
 refine sx_sub (Sub.c 4 rfl (.c 15 rfl .nil)) ?_
 refine sx_condP rfl (fun h266 => ?_) (fun h266 => ?_)
 ·
  refine sx_seq fun K17 k17 => sx_region ?_
  refine av rfl rfl (wl_nil (q_n (k17 _ _ ?_)))
  refine sx_retc ?_
  refine q_r (sx_ret1 Tryd.results71 rfl ?_)
  exact ⟨(by first | exact bTrue (by grind) | exact bFalse (by grind) | exact bIff (by grind)), ((cb2.t cb4).t c16)⟩
 refine sx_skip ?_
 refine q_n (k10 _ _ ?_)
 refine sx_seq fun K18 k18 => sx_region ?_
 refine av rfl rfl (wl_nil (q_n (k18 _ _ ?_)))
 refine sx_retc ?_
 refine sx_ret1 Tryd.results71 rfl ?_
 exact ⟨(by first | exact bTrue (by grind) | exact bFalse (by grind) | exact bIff (by grind)), ((cb2.t cb4).t c16)⟩

theorem c_eqDec {w : World} {n1 : Bool} {v1 : Value} {lv1 uv1 : Nat} {z1 : List Int} {p1 : Int} {n2 : Bool} {v2 : Value} {lv2 uv2 : Nat} {z2 : List Int} {p2 : Int} (hv1 : Sl w lv1 uv1 v1 (z1)) (hv2 : Sl w lv2 uv2 v2 (z2)) (h63 : z1.length ≤ 4611686018427387904 ∧ z2.length ≤ 4611686018427387904) :
  Ret Tryd.prog 41 [.agg #[.bool n1, v1, .int .i64 p1], .agg #[.bool n2, v2, .int .i64 p2]] w fun v w' => v = .bool (decide (n1 = n2 ∧ z1 = z2 ∧ p1 = p2)) ∧ Chg 0 0 w w' := by
 have hv10 := hv1.fit
 have hv20 := hv2.fit
 refine sx_enter Tryd.func41 rfl Tryd.ntmps41 (nbl rfl) ?_
 refine sx_seq fun K1 k1 => sx_region ?_
 refine sx_box [.bool n1, v1, .int .i64 p1] rfl rfl rfl (fun b2 w3 eb2 sb2 fb2 cb2 => ?_)
 have zw3 := cb2.size
 refine sx_box [.bool n2, v2, .int .i64 p2] rfl rfl rfl (fun b4 w5 eb4 sb4 fb4 cb4 => ?_)
 have zw5 := cb4.size
 refine av rfl rfl (wl_nil (q_n (k1 _ _ ?_)))
 refine sx_seq fun K6 k6 => ?_
 refine sx_seq fun K7 k7 => sx_region ?_
 refine sp rfl (px_field rfl xfld42x0) ?_
 have f8 := fb2.ext cb4
 refine sp rfl (px_load rfl (f8.loadA (vs := [.bool n1, v1]) (look_lit rfl) Tryd.isAgg40 Tryd.sizeOf40)) ?_
 refine sp rfl (px_field rfl xfld42x0) ?_
 refine sp rfl (px_load rfl (fb4.loadA (vs := [.bool n2, v2]) (look_lit rfl) Tryd.isAgg40 Tryd.sizeOf40)) ?_
 have f9 := hv10.ext cb2
 have f10 := f9.ext cb4
 have f11 := hv20.ext cb2
 have f12 := f11.ext cb4
 refine sx_call rfl rfl Tryd.call71 (c_eqSigned f10 f12 (by omega)) (fun v13 w13 p13 => ?_)
 obtain ⟨rfl, c13⟩ := p13
 have zw13 := c13.size
 refine sp rfl (px_notP rfl) ?_
 refine wl_nil (q_n (k7 _ _ ?_))
 refine sx_condP rfl (fun h405 => ?_) (fun h405 => ?_)
 ·
  refine sx_seq fun K14 k14 => sx_region ?_
  refine av rfl rfl (wl_nil (q_n (k14 _ _ ?_)))
  refine sx_retc ?_
  refine q_r (sx_ret1 Tryd.results41 rfl ?_)
  exact ⟨(by first | exact bTrue (by grind) | exact bFalse (by grind) | exact bIff (by grind)), ((cb2.t cb4).t c13)⟩
 refine sx_skip ?_
 refine q_n (k6 _ _ ?_)
 refine sx_seq fun K15 k15 => ?_
 refine sx_seq fun K16 k16 => sx_region ?_
 refine sp rfl (px_field rfl xfld42x1) ?_
 have f17 := f8.ext c13
 refine sp rfl (px_load rfl (f17.load1 rfl Tryd.isAgg3)) ?_
 refine sp rfl (px_field rfl xfld42x1) ?_
 have f18 := fb4.ext c13
 refine sp rfl (px_load rfl (f18.load1 rfl Tryd.isAgg3)) ?_
 refine sp rfl (px_ne rfl rfl) ?_
 refine wl_nil (q_n (k16 _ _ ?_))
 refine sx_sub (Sub.c 4 rfl (.c 15 rfl .nil)) ?_
 refine sx_condP rfl (fun h408 => ?_) (fun h408 => ?_)
 ·
  refine sx_seq fun K19 k19 => sx_region ?_
  refine av rfl rfl (wl_nil (q_n (k19 _ _ ?_)))
  refine sx_retc ?_
  refine q_r (sx_ret1 Tryd.results41 rfl ?_)
  exact ⟨(by first | exact bTrue (by grind) | exact bFalse (by grind) | exact bIff (by grind)), ((cb2.t cb4).t c13)⟩
 refine sx_skip ?_
 refine q_n (k15 _ _ ?_)
 refine sx_seq fun K20 k20 => sx_region ?_
 refine av rfl rfl (wl_nil (q_n (k20 _ _ ?_)))
 refine sx_retc ?_
 refine sx_ret1 Tryd.results41 rfl ?_
 exact ⟨(by first | exact bTrue (by grind) | exact bFalse (by grind) | exact bIff (by grind)), ((cb2.t cb4).t c13)⟩

theorem c_eqRate {w : World} {f1 : ByteArray} {t1 : ByteArray} {n1 : Bool} {v1 : Value} {lv1 uv1 : Nat} {z1 : List Int} {p1 : Int} {f2 : ByteArray} {t2 : ByteArray} {n2 : Bool} {v2 : Value} {lv2 uv2 : Nat} {z2 : List Int} {p2 : Int} (hv1 : Sl w lv1 uv1 v1 (z1)) (hv2 : Sl w lv2 uv2 v2 (z2)) (h63 : z1.length ≤ 4611686018427387904 ∧ z2.length ≤ 4611686018427387904) :
  Ret Tryd.prog 12 [.agg #[.string f1, .string t1, .bool n1, v1, .int .i64 p1], .agg #[.string f2, .string t2, .bool n2, v2, .int .i64 p2]] w fun v w' => v = .bool (decide (f1 = f2 ∧ t1 = t2 ∧ n1 = n2 ∧ z1 = z2 ∧ p1 = p2)) ∧ Chg 0 0 w w' := by
 have hv10 := hv1.fit
 have hv20 := hv2.fit
 refine sx_enter Tryd.func12 rfl Tryd.ntmps12 (nbl rfl) ?_
 refine sx_seq fun K1 k1 => sx_region ?_
 refine sx_box [.string f1, .string t1, .bool n1, v1, .int .i64 p1] rfl rfl rfl (fun b2 w3 eb2 sb2 fb2 cb2 => ?_)
 have zw3 := cb2.size
 refine sx_box [.string f2, .string t2, .bool n2, v2, .int .i64 p2] rfl rfl rfl (fun b4 w5 eb4 sb4 fb4 cb4 => ?_)
 have zw5 := cb4.size
 refine av rfl rfl (wl_nil (q_n (k1 _ _ ?_)))
 refine sx_seq fun K6 k6 => ?_
 refine sx_seq fun K7 k7 => sx_region ?_
 refine sp rfl (px_field rfl xfld44x0) ?_
 have f8 := fb2.ext cb4
 refine sp rfl (px_load rfl (f8.load1 rfl Tryd.isAgg9)) ?_
 refine sp rfl (px_field rfl xfld44x0) ?_
 refine sp rfl (px_load rfl (fb4.load1 rfl Tryd.isAgg9)) ?_
 refine sp rfl (px_neS rfl rfl) ?_
 refine wl_nil (q_n (k7 _ _ ?_))
 refine sx_condP rfl (fun h557 => ?_) (fun h557 => ?_)
 ·
  refine sx_seq fun K9 k9 => sx_region ?_
  refine av rfl rfl (wl_nil (q_n (k9 _ _ ?_)))
  refine sx_retc ?_
  refine q_r (sx_ret1 Tryd.results12 rfl ?_)
  exact ⟨(by first | exact bTrue (by grind) | exact bFalse (by grind) | exact bIff (by grind)), (cb2.t cb4)⟩
 refine sx_skip ?_
 refine q_n (k6 _ _ ?_)
 refine sx_seq fun K10 k10 => ?_
 refine sx_seq fun K11 k11 => sx_region ?_
 refine sp rfl (px_field rfl xfld44x1) ?_
 refine sp rfl (px_load rfl (f8.load1 rfl Tryd.isAgg9)) ?_
 refine sp rfl (px_field rfl xfld44x1) ?_
 refine sp rfl (px_load rfl (fb4.load1 rfl Tryd.isAgg9)) ?_
 refine sp rfl (px_neS rfl rfl) ?_
 refine wl_nil (q_n (k11 _ _ ?_))
 refine sx_sub (Sub.c 2 rfl (.c 3 rfl (.c 4 rfl (.c 14 rfl .nil)))) ?_
 refine sx_condP rfl (fun h560 => ?_) (fun h560 => ?_)
 ·
  refine sx_seq fun K12 k12 => sx_region ?_
  refine av rfl rfl (wl_nil (q_n (k12 _ _ ?_)))
  refine sx_retc ?_
  refine q_r (sx_ret1 Tryd.results12 rfl ?_)
  exact ⟨(by first | exact bTrue (by grind) | exact bFalse (by grind) | exact bIff (by grind)), (cb2.t cb4)⟩
 refine sx_skip ?_
 refine q_n (k10 _ _ ?_)
 refine sx_seq fun K13 k13 => ?_
 refine sx_seq fun K14 k14 => sx_region ?_
 refine sp rfl (px_field rfl xfld44x2) ?_
 refine sp rfl (px_load rfl (f8.loadA (vs := [.bool n1, v1, .int .i64 p1]) (look_lit rfl) Tryd.isAgg42 Tryd.sizeOf42)) ?_
 refine sp rfl (px_field rfl xfld44x2) ?_
 refine sp rfl (px_load rfl (fb4.loadA (vs := [.bool n2, v2, .int .i64 p2]) (look_lit rfl) Tryd.isAgg42 Tryd.sizeOf42)) ?_
 have f15 := hv10.ext cb2
 have f16 := f15.ext cb4
 have f17 := hv20.ext cb2
 have f18 := f17.ext cb4
 refine sx_call rfl rfl Tryd.call41 (c_eqDec f16 f18 (by omega)) (fun v19 w19 p19 => ?_)
 obtain ⟨rfl, c19⟩ := p19
 have zw19 := c19.size
 refine sp rfl (px_notP rfl) ?_
 refine wl_nil (q_n (k14 _ _ ?_))
 refine sx_condP rfl (fun h563 => ?_) (fun h563 => ?_)
 ·
  refine sx_seq fun K20 k20 => sx_region ?_
  refine av rfl rfl (wl_nil (q_n (k20 _ _ ?_)))
  refine sx_retc ?_
  refine q_r (sx_ret1 Tryd.results12 rfl ?_)
  exact ⟨(by first | exact bTrue (by grind) | exact bFalse (by grind) | exact bIff (by grind)), ((cb2.t cb4).t c19)⟩
 refine sx_skip ?_
 refine q_n (k13 _ _ ?_)
 refine sx_seq fun K21 k21 => sx_region ?_
 refine av rfl rfl (wl_nil (q_n (k21 _ _ ?_)))
 refine sx_retc ?_
 refine sx_ret1 Tryd.results12 rfl ?_
 exact ⟨(by first | exact bTrue (by grind) | exact bFalse (by grind) | exact bIff (by grind)), ((cb2.t cb4).t c19)⟩

theorem c_eqRateS {w : World} {va : Value} {lva uva : Nat} {ts : List Rt} {vva : List Value} {vb : Value} {lvb uvb : Nat} {rs : List Rt} {vvb : List Value} (hva : RtS w lva uva va ts vva) (hvb : RtS w lvb uvb vb rs vvb) (h63 : ts.length ≤ 1048576 ∧ rs.length ≤ 1048576) (hz1 : ∀ i, i < ts.length → (ts.getD i rt0).2.2.2.1.length ≤ 1048576) (hz2 : ∀ i, i < rs.length → (rs.getD i rt0).2.2.2.1.length ≤ 1048576) :
  Ret Tryd.prog 40 [va, vb] w fun v w' => v = .bool (decide (ts = rs)) ∧ Chg 0 0 w w' := by
 have hva0 := hva.fit
 have hvb0 := hvb.fit
 refine sx_enter Tryd.func40 rfl Tryd.ntmps40 (nbl rfl) ?_
 refine sx_seq fun K1 k1 => sx_region ?_
 refine av rfl rfl (wl_nil (q_n (k1 _ _ ?_)))
 refine sx_seq fun K2 k2 => ?_
 refine sx_seq fun K3 k3 => sx_region ?_
 refine mv rfl rfl (sp rfl (px_len rfl Tryd.underlying34 hva0.sv) ?_)
 refine mv rfl rfl (sp rfl (px_len rfl Tryd.underlying34 hvb0.sv) ?_)
 refine sp rfl (px_ne rfl rfl) ?_
 refine wl_nil (q_n (k3 _ _ ?_))
 refine sx_condP rfl (fun h611 => ?_) (fun h611 => ?_)
 ·
  refine sx_seq fun K4 k4 => sx_region ?_
  refine av rfl rfl (wl_nil (q_n (k4 _ _ ?_)))
  refine sx_retc ?_
  refine q_r (sx_ret1 Tryd.results40 rfl ?_)
  exact ⟨bFalse (len_ne_rt (by omega)), (Chg.refl 0 0 _)⟩
 refine sx_skip ?_
 refine q_n (k2 _ _ ?_)
 refine sx_seq fun K5 k5 => ?_
 refine sx_seq fun K6 k6 => sx_region ?_
 refine av rfl rfl (wl_nil (q_n (k6 _ _ ?_)))
 refine sx_block ?_
 refine sx_loop (fun mm aa w' => ∃ (k : Nat), Agr 27 [(0, va), (1, vb), (5, .int .i64 ↑k)] aa ∧ Chg 0 0 w w' ∧ (mm = ts.length - k) ∧ (k ≤ ts.length) ∧ (ts.take k = rs.take k)) (_) (fun a ha => ⟨0, ha.sub (Sub.c 0 rfl (.c 1 rfl (.c 5 (look_int (t := 5) rfl (by first | omega | simp)) .nil))), Chg.refl _ _ _, rfl, by omega, by simp⟩) ?_
 rintro mm aa wl7 ⟨k, hAwl7, cwl7, hm, hk, he⟩
 refine (show cw Tryd.prog 27 _ _ _ wl7 from ?_) aa hAwl7
 clear hAwl7
 have zwl7 := cwl7.size
 refine sx_seq fun K8 k8 => ?_
 refine sx_seq fun K9 k9 => sx_region ?_
 refine mv rfl rfl (mv rfl rfl ?_)
 have f10 := hva0.ext cwl7
 refine sp rfl (px_len rfl Tryd.underlying34 f10.sv) ?_
 refine sp rfl (px_lt rfl rfl) ?_
 refine wl_nil (q_n (k9 _ _ ?_))
 refine sx_condP rfl (fun h614 => ?_) (fun h614 => ?_)
 ·
  refine sx_skip ?_
  refine q_n (k8 _ _ ?_)
  refine sx_seq fun K11 k11 => ?_
  refine sx_block ?_
  refine sx_seq fun K12 k12 => ?_
  have f13 := hvb0.ext cwl7
  refine dx_region (fun w' => Chg 0 0 wl7 w') (by kernel_rfl) (Chg.zero (Chg.drew _)) ?_
  have d14 := Chg.drew wl7
  have s14 : Chg 0 0 wl7 (World.drew wl7) := Chg.zero (Chg.drew _)
  have y14 : (World.drew wl7).heap.size = wl7.heap.size := rfl
  generalize World.drew wl7 = w14 at *
  have zw14 := d14.size
  refine dt 0 rfl rfl rfl rfl s14 (fun _ hS => px_move rfl) ?_
  refine dt 1 rfl rfl rfl rfl s14 (fun _ hS => px_move rfl) ?_
  refine dt 2 rfl rfl rfl rfl s14 (fun _ hS => px_indexK (j := k) rfl rfl (by omega) Tryd.underlying34 Tryd.sizeOf44 ((f10.sv).chg hS (by omega)) (by omega)) ?_
  refine dt 3 rfl rfl rfl rfl s14 (fun _ hS => px_load rfl (((f10.sv).chg hS (by omega)).loadA (rt_look f10.len (by omega)) Tryd.isAgg44 Tryd.sizeOf44)) ?_
  refine dt 4 rfl rfl rfl rfl s14 (fun _ hS => px_move rfl) ?_
  refine dt 5 rfl rfl rfl rfl s14 (fun _ hS => px_move rfl) ?_
  refine dt 6 rfl rfl rfl rfl s14 (fun _ hS => px_indexK (j := k) rfl rfl (by omega) Tryd.underlying34 Tryd.sizeOf44 ((f13.sv).chg hS (by omega)) (by omega)) ?_
  refine dt 7 rfl rfl rfl rfl s14 (fun _ hS => px_load rfl (((f13.sv).chg hS (by omega)).loadA (rt_look f13.len (by omega)) Tryd.isAgg44 Tryd.sizeOf44)) ?_
  refine dx_eff 8 rfl (by kernel_rfl) ?_
  have f15 := (f10.nest k (by omega)).ext d14
  have f16 := (f13.nest k (by omega)).ext d14
  refine sx_call rfl rfl Tryd.call12 (c_eqRate f15 f16 (by have h1 := hz1 k (by omega); have h2 := hz2 k (by omega); omega)) (fun v17 w17 p17 => ?_)
  obtain ⟨rfl, c17⟩ := p17
  have zw17 := c17.size
  have s18 : Chg 0 0 wl7 w17 := (d14.t c17)
  refine wl_nil ?_
  refine dx_next s18 ?_
  refine dt 9 rfl rfl rfl rfl s18 (fun _ hS => px_notP rfl) ?_
  refine dx_done (by kernel_rfl) ?_
  refine q_n (k12 _ _ ?_)
  refine sx_sub (Sub.c 0 rfl (.c 1 rfl (.c 5 rfl (.c 26 rfl .nil)))) ?_
  refine sx_condP rfl (fun h615 => ?_) (fun h615 => ?_)
  ·
   refine sx_seq fun K19 k19 => sx_region ?_
   refine av rfl rfl (wl_nil (q_n (k19 _ _ ?_)))
   refine sx_retc ?_
   refine q_br (q_r (q_r (q_br (q_r (sx_ret1 Tryd.results40 rfl ?_)))))
   exact ⟨bFalse (rt_ne h615), ((cwl7.t d14).t c17)⟩
  refine sx_skip ?_
  refine q_bn (q_n (k11 _ _ ?_))
  refine sx_region ?_
  refine mv rfl rfl (sp rfl (px_add rfl rfl (by omega)) ?_)
  refine av rfl rfl (wl_nil ?_)
  exact fun a ha => ⟨_, by omega, (k + 1), ha.sub (Sub.c 0 rfl (.c 1 rfl (.c 5 (look_int (t := 5) rfl (by first | omega | simp)) .nil))), ((cwl7.t d14).t c17), rfl, by omega, rt_take_succ_eq he (by omega) (by omega) (rt_eq (Decidable.not_not.1 h615))⟩
 refine sx_exit ?_
 refine q_e (q_e (q_bx (q_n (k5 _ _ ?_))))
 refine sx_seq fun K20 k20 => sx_region ?_
 refine av rfl rfl (wl_nil (q_n (k20 _ _ ?_)))
 refine sx_retc ?_
 refine sx_ret1 Tryd.results40 rfl ?_
 have e1 : k = ts.length := by omega
 rw [e1, List.take_length, List.take_of_length_le (by omega)] at he
 exact ⟨bTrue he, cwl7⟩

theorem c_eqRates {w : World} {pv : ByteArray} {va : Value} {lva uva : Nat} {ts : List Rt} {vva : List Value} {qv : ByteArray} {vb : Value} {lvb uvb : Nat} {rs : List Rt} {vvb : List Value} (hva : RtS w lva uva va ts vva) (hvb : RtS w lvb uvb vb rs vvb) (h63 : ts.length ≤ 1048576 ∧ rs.length ≤ 1048576) (hz1 : ∀ i, i < ts.length → (ts.getD i rt0).2.2.2.1.length ≤ 1048576) (hz2 : ∀ i, i < rs.length → (rs.getD i rt0).2.2.2.1.length ≤ 1048576) :
  Ret Tryd.prog 11 [.agg #[.string pv, va], .agg #[.string qv, vb]] w fun v w' => v = .bool (decide (pv = qv ∧ ts = rs)) ∧ Chg 0 0 w w' := by
 have hva0 := hva.fit
 have hvb0 := hvb.fit
 refine sx_enter Tryd.func11 rfl Tryd.ntmps11 (nbl rfl) ?_
 refine sx_seq fun K1 k1 => sx_region ?_
 refine sx_box [.string pv, va] rfl rfl rfl (fun b2 w3 eb2 sb2 fb2 cb2 => ?_)
 have zw3 := cb2.size
 refine sx_box [.string qv, vb] rfl rfl rfl (fun b4 w5 eb4 sb4 fb4 cb4 => ?_)
 have zw5 := cb4.size
 refine av rfl rfl (wl_nil (q_n (k1 _ _ ?_)))
 refine sx_seq fun K6 k6 => ?_
 refine sx_seq fun K7 k7 => sx_region ?_
 refine sp rfl (px_field rfl xfld36x0) ?_
 have f8 := fb2.ext cb4
 refine sp rfl (px_load rfl (f8.load1 rfl Tryd.isAgg9)) ?_
 refine sp rfl (px_field rfl xfld36x0) ?_
 refine sp rfl (px_load rfl (fb4.load1 rfl Tryd.isAgg9)) ?_
 refine sp rfl (px_neS rfl rfl) ?_
 refine wl_nil (q_n (k7 _ _ ?_))
 refine sx_condP rfl (fun h623 => ?_) (fun h623 => ?_)
 ·
  refine sx_seq fun K9 k9 => sx_region ?_
  refine av rfl rfl (wl_nil (q_n (k9 _ _ ?_)))
  refine sx_retc ?_
  refine q_r (sx_ret1 Tryd.results11 rfl ?_)
  exact ⟨(by first | exact bTrue (by grind) | exact bFalse (by grind) | exact bIff (by grind)), (cb2.t cb4)⟩
 refine sx_skip ?_
 refine q_n (k6 _ _ ?_)
 refine sx_seq fun K10 k10 => ?_
 refine sx_seq fun K11 k11 => sx_region ?_
 refine sp rfl (px_field rfl xfld36x1) ?_
 refine sp rfl (px_load rfl (f8.load1 rfl Tryd.isAgg34)) ?_
 refine sp rfl (px_field rfl xfld36x1) ?_
 refine sp rfl (px_load rfl (fb4.load1 rfl Tryd.isAgg34)) ?_
 have f12 := hva0.ext cb2
 have f13 := f12.ext cb4
 have f14 := hvb0.ext cb2
 have f15 := f14.ext cb4
 refine sx_call rfl rfl Tryd.call40 (c_eqRateS f13 f15 (by omega) (by assumption) (by assumption)) (fun v16 w16 p16 => ?_)
 obtain ⟨rfl, c16⟩ := p16
 have zw16 := c16.size
 refine sp rfl (px_notP rfl) ?_
 refine wl_nil (q_n (k11 _ _ ?_))
 refine sx_sub (Sub.c 4 rfl (.c 15 rfl .nil)) ?_
 refine sx_condP rfl (fun h626 => ?_) (fun h626 => ?_)
 ·
  refine sx_seq fun K17 k17 => sx_region ?_
  refine av rfl rfl (wl_nil (q_n (k17 _ _ ?_)))
  refine sx_retc ?_
  refine q_r (sx_ret1 Tryd.results11 rfl ?_)
  exact ⟨(by first | exact bTrue (by grind) | exact bFalse (by grind) | exact bIff (by grind)), ((cb2.t cb4).t c16)⟩
 refine sx_skip ?_
 refine q_n (k10 _ _ ?_)
 refine sx_seq fun K18 k18 => sx_region ?_
 refine av rfl rfl (wl_nil (q_n (k18 _ _ ?_)))
 refine sx_retc ?_
 refine sx_ret1 Tryd.results11 rfl ?_
 exact ⟨(by first | exact bTrue (by grind) | exact bFalse (by grind) | exact bIff (by grind)), ((cb2.t cb4).t c16)⟩

theorem c_szIntS {w : World} {va : Value} {lva uva : Nat} {zs : List Int} {n : Int} (hva : Sl w lva uva va (zs)) (bzs : zs.length ≤ 9223372036854775807) (hn : 0 ≤ n ∧ n ≤ 1048576) :
  Ret Tryd.prog 93 [va, .int .i64 n] w fun v w' => ∃ r, v = .int .i64 (r) ∧ (r < 0 ∨ (0 ≤ r ∧ r = n - (zs).length)) ∧ Chg 0 0 w w' := by
 have hva0 := hva.fit
 refine sx_enter Tryd.func93 rfl Tryd.ntmps93 (nbl rfl) ?_
 refine sx_seq fun K1 k1 => sx_region ?_
 refine av rfl rfl (wl_nil (q_n (k1 _ _ ?_)))
 refine sx_seq fun K2 k2 => sx_region ?_
 refine mv rfl rfl (mv rfl rfl (sp rfl (px_len rfl Tryd.underlying25 hva0) ?_))
 refine sp rfl (px_sub rfl rfl (by omega)) ?_
 refine av rfl rfl (wl_nil (q_n (k2 _ _ ?_)))
 refine sx_seq fun K3 k3 => ?_
 refine sx_seq fun K4 k4 => sx_region ?_
 refine mv rfl rfl (sp rfl (px_lt rfl rfl) ?_)
 refine wl_nil (q_n (k4 _ _ ?_))
 refine sx_condP rfl (fun h248 => ?_) (fun h248 => ?_)
 ·
  refine sx_seq fun K5 k5 => sx_region ?_
  refine av rfl rfl (wl_nil (q_n (k5 _ _ ?_)))
  refine sx_retc ?_
  refine q_r (sx_ret1 Tryd.results93 rfl ?_)
  exact ⟨_, rfl, by omega, (Chg.refl 0 0 _)⟩
 refine sx_skip ?_
 refine q_n (k3 _ _ ?_)
 refine sx_seq fun K6 k6 => sx_region ?_
 refine mv rfl rfl (av rfl rfl (wl_nil (q_n (k6 _ _ ?_))))
 refine sx_retc ?_
 refine sx_ret1 Tryd.results93 rfl ?_
 exact ⟨_, rfl, by omega, (Chg.refl 0 0 _)⟩

theorem c_szSigned {w : World} {n1 : Bool} {v1 : Value} {lv1 uv1 : Nat} {z1 : List Int} {n : Int} (hv1 : Sl w lv1 uv1 v1 (z1)) (bz1 : z1.length ≤ 9223372036854775807) (hn : 0 ≤ n ∧ n ≤ 1048576) :
  Ret Tryd.prog 64 [.agg #[.bool n1, v1], .int .i64 n] w fun v w' => ∃ r, v = .int .i64 (r) ∧ (r < 0 ∨ (0 ≤ r ∧ r = n - (z1).length)) ∧ Chg 0 0 w w' := by
 have hv10 := hv1.fit
 refine sx_enter Tryd.func64 rfl Tryd.ntmps64 (nbl rfl) ?_
 refine sx_seq fun K1 k1 => sx_region ?_
 refine sx_box [.bool n1, v1] rfl rfl rfl (fun b2 w3 eb2 sb2 fb2 cb2 => ?_)
 have zw3 := cb2.size
 refine av rfl rfl (wl_nil (q_n (k1 _ _ ?_)))
 refine sx_seq fun K4 k4 => sx_region ?_
 refine sp rfl (px_field rfl xfld27x1) ?_
 refine sp rfl (px_load rfl (fb2.load1 rfl Tryd.isAgg25)) ?_
 refine mv rfl rfl ?_
 have f5 := hv10.ext cb2
 refine sx_call rfl rfl Tryd.call93 (c_szIntS f5 (by omega) (by omega)) (fun v6 w6 p6 => ?_)
 obtain ⟨r6, rfl, hr6, c6⟩ := p6
 have zw6 := c6.size
 refine av rfl rfl (wl_nil (q_n (k4 _ _ ?_)))
 refine sx_seq fun K7 k7 => ?_
 refine sx_seq fun K8 k8 => sx_region ?_
 refine mv rfl rfl (sp rfl (px_lt rfl rfl) ?_)
 refine wl_nil (q_n (k8 _ _ ?_))
 refine sx_condP rfl (fun h256 => ?_) (fun h256 => ?_)
 ·
  refine sx_seq fun K9 k9 => sx_region ?_
  refine av rfl rfl (wl_nil (q_n (k9 _ _ ?_)))
  refine sx_retc ?_
  refine q_r (sx_ret1 Tryd.results64 rfl ?_)
  exact ⟨_, rfl, by omega, (cb2.t c6)⟩
 refine sx_skip ?_
 refine q_n (k7 _ _ ?_)
 refine sx_seq fun K10 k10 => sx_region ?_
 refine mv rfl rfl (av rfl rfl (wl_nil (q_n (k10 _ _ ?_))))
 refine sx_retc ?_
 refine sx_ret1 Tryd.results64 rfl ?_
 exact ⟨_, rfl, by omega, (cb2.t c6)⟩

theorem c_szDec {w : World} {n1 : Bool} {v1 : Value} {lv1 uv1 : Nat} {z1 : List Int} {p1 : Int} {n : Int} (hv1 : Sl w lv1 uv1 v1 (z1)) (bz1 : z1.length ≤ 9223372036854775807) (hn : 0 ≤ n ∧ n ≤ 1048576) :
  Ret Tryd.prog 28 [.agg #[.bool n1, v1, .int .i64 p1], .int .i64 n] w fun v w' => ∃ r, v = .int .i64 (r) ∧ (r < 0 ∨ (0 ≤ r ∧ r = n - (z1).length)) ∧ Chg 0 0 w w' := by
 have hv10 := hv1.fit
 refine sx_enter Tryd.func28 rfl Tryd.ntmps28 (nbl rfl) ?_
 refine sx_seq fun K1 k1 => sx_region ?_
 refine sx_box [.bool n1, v1, .int .i64 p1] rfl rfl rfl (fun b2 w3 eb2 sb2 fb2 cb2 => ?_)
 have zw3 := cb2.size
 refine av rfl rfl (wl_nil (q_n (k1 _ _ ?_)))
 refine sx_seq fun K4 k4 => sx_region ?_
 refine sp rfl (px_field rfl xfld29x0) ?_
 refine sp rfl (px_load rfl (fb2.loadA (vs := [.bool n1, v1]) (look_lit rfl) Tryd.isAgg27 Tryd.sizeOf27)) ?_
 refine mv rfl rfl ?_
 have f5 := hv10.ext cb2
 refine sx_call rfl rfl Tryd.call64 (c_szSigned f5 (by omega) (by omega)) (fun v6 w6 p6 => ?_)
 obtain ⟨r6, rfl, hr6, c6⟩ := p6
 have zw6 := c6.size
 refine av rfl rfl (wl_nil (q_n (k4 _ _ ?_)))
 refine sx_seq fun K7 k7 => ?_
 refine sx_seq fun K8 k8 => sx_region ?_
 refine mv rfl rfl (sp rfl (px_lt rfl rfl) ?_)
 refine wl_nil (q_n (k8 _ _ ?_))
 refine sx_condP rfl (fun h398 => ?_) (fun h398 => ?_)
 ·
  refine sx_seq fun K9 k9 => sx_region ?_
  refine av rfl rfl (wl_nil (q_n (k9 _ _ ?_)))
  refine sx_retc ?_
  refine q_r (sx_ret1 Tryd.results28 rfl ?_)
  exact ⟨_, rfl, by omega, (cb2.t c6)⟩
 refine sx_skip ?_
 refine q_n (k7 _ _ ?_)
 refine sx_seq fun K10 k10 => sx_region ?_
 refine mv rfl rfl (av rfl rfl (wl_nil (q_n (k10 _ _ ?_))))
 refine sx_retc ?_
 refine sx_ret1 Tryd.results28 rfl ?_
 exact ⟨_, rfl, by omega, (cb2.t c6)⟩

theorem c_szRate {w : World} {f1 : ByteArray} {t1 : ByteArray} {n1 : Bool} {v1 : Value} {lv1 uv1 : Nat} {z1 : List Int} {p1 : Int} {n : Int} (hv1 : Sl w lv1 uv1 v1 (z1)) (bf1 : f1.size ≤ 9223372036854775807) (bt1 : t1.size ≤ 9223372036854775807) (bz1 : z1.length ≤ 9223372036854775807) (hn : 0 ≤ n ∧ n ≤ 1048576) :
  Ret Tryd.prog 6 [.agg #[.string f1, .string t1, .bool n1, v1, .int .i64 p1], .int .i64 n] w fun v w' => ∃ r, v = .int .i64 (r) ∧ (r < 0 ∨ (0 ≤ r ∧ r ≤ n - (z1).length)) ∧ Chg 0 0 w w' := by
 have hv10 := hv1.fit
 refine sx_enter Tryd.func6 rfl Tryd.ntmps6 (nbl rfl) ?_
 refine sx_seq fun K1 k1 => sx_region ?_
 refine sx_box [.string f1, .string t1, .bool n1, v1, .int .i64 p1] rfl rfl rfl (fun b2 w3 eb2 sb2 fb2 cb2 => ?_)
 have zw3 := cb2.size
 refine av rfl rfl (wl_nil (q_n (k1 _ _ ?_)))
 refine sx_seq fun K4 k4 => sx_region ?_
 refine mv rfl rfl (sp rfl (px_field rfl xfld31x0) ?_)
 refine sp rfl (px_load rfl (fb2.load1 rfl Tryd.isAgg9)) ?_
 refine sp rfl (px_lenS rfl Tryd.underlying9) ?_
 refine sp rfl (px_sub rfl rfl (by omega)) ?_
 refine av rfl rfl (wl_nil (q_n (k4 _ _ ?_)))
 refine sx_seq fun K5 k5 => ?_
 refine sx_seq fun K6 k6 => sx_region ?_
 refine mv rfl rfl (sp rfl (px_lt rfl rfl) ?_)
 refine wl_nil (q_n (k6 _ _ ?_))
 refine sx_condP rfl (fun h542 => ?_) (fun h542 => ?_)
 ·
  refine sx_seq fun K7 k7 => sx_region ?_
  refine av rfl rfl (wl_nil (q_n (k7 _ _ ?_)))
  refine sx_retc ?_
  refine q_r (sx_ret1 Tryd.results6 rfl ?_)
  exact ⟨_, rfl, by omega, cb2⟩
 refine sx_skip ?_
 refine q_n (k5 _ _ ?_)
 refine sx_seq fun K8 k8 => sx_region ?_
 refine mv rfl rfl (sp rfl (px_field rfl xfld31x1) ?_)
 refine sp rfl (px_load rfl (fb2.load1 rfl Tryd.isAgg9)) ?_
 refine sp rfl (px_lenS rfl Tryd.underlying9) ?_
 refine sp rfl (px_sub rfl rfl (by omega)) ?_
 refine av rfl rfl (wl_nil (q_n (k8 _ _ ?_)))
 refine sx_sub (Sub.c 1 rfl (.c 2 rfl (.c 4 rfl .nil))) ?_
 refine sx_seq fun K9 k9 => ?_
 refine sx_seq fun K10 k10 => sx_region ?_
 refine mv rfl rfl (sp rfl (px_lt rfl rfl) ?_)
 refine wl_nil (q_n (k10 _ _ ?_))
 refine sx_condP rfl (fun h546 => ?_) (fun h546 => ?_)
 ·
  refine sx_seq fun K11 k11 => sx_region ?_
  refine av rfl rfl (wl_nil (q_n (k11 _ _ ?_)))
  refine sx_retc ?_
  refine q_r (sx_ret1 Tryd.results6 rfl ?_)
  exact ⟨_, rfl, by omega, cb2⟩
 refine sx_skip ?_
 refine q_n (k9 _ _ ?_)
 refine sx_seq fun K12 k12 => sx_region ?_
 refine sp rfl (px_field rfl xfld31x2) ?_
 refine sp rfl (px_load rfl (fb2.loadA (vs := [.bool n1, v1, .int .i64 p1]) (look_lit rfl) Tryd.isAgg29 Tryd.sizeOf29)) ?_
 refine mv rfl rfl ?_
 have f13 := hv10.ext cb2
 refine sx_call rfl rfl Tryd.call28 (c_szDec f13 (by omega) (by omega)) (fun v14 w14 p14 => ?_)
 obtain ⟨r14, rfl, hr14, c14⟩ := p14
 have zw14 := c14.size
 refine av rfl rfl (wl_nil (q_n (k12 _ _ ?_)))
 refine sx_seq fun K15 k15 => ?_
 refine sx_seq fun K16 k16 => sx_region ?_
 refine mv rfl rfl (sp rfl (px_lt rfl rfl) ?_)
 refine wl_nil (q_n (k16 _ _ ?_))
 refine sx_condP rfl (fun h550 => ?_) (fun h550 => ?_)
 ·
  refine sx_seq fun K17 k17 => sx_region ?_
  refine av rfl rfl (wl_nil (q_n (k17 _ _ ?_)))
  refine sx_retc ?_
  refine q_r (sx_ret1 Tryd.results6 rfl ?_)
  exact ⟨_, rfl, by omega, (cb2.t c14)⟩
 refine sx_skip ?_
 refine q_n (k15 _ _ ?_)
 refine sx_seq fun K18 k18 => sx_region ?_
 refine mv rfl rfl (av rfl rfl (wl_nil (q_n (k18 _ _ ?_))))
 refine sx_retc ?_
 refine sx_ret1 Tryd.results6 rfl ?_
 exact ⟨_, rfl, by omega, (cb2.t c14)⟩

theorem c_szRateS {w : World} {vt : Value} {lvt uvt : Nat} {ts : List Rt} {vvt : List Value} {n : Int} (hvt : RtS w lvt uvt vt ts vvt) (bts : ts.length ≤ 9223372036854775807) (hb : ∀ i, i < ts.length → RB (ts.getD i rt0)) (hn : 0 ≤ n ∧ n ≤ 1048576) :
  Ret Tryd.prog 27 [vt, .int .i64 n] w fun v w' => ∃ r, v = .int .i64 (r) ∧ (r < 0 ∨ (0 ≤ r ∧ r ≤ n - (ts).length)) ∧ (0 ≤ r → ∀ i, i < (ts).length → ((ts).getD i rt0).2.2.2.1.length ≤ 1048576) ∧ Chg 0 0 w w' := by
 have hvt0 := hvt.fit
 refine sx_enter Tryd.func27 rfl Tryd.ntmps27 (nbl rfl) ?_
 refine sx_seq fun K1 k1 => sx_region ?_
 refine av rfl rfl (wl_nil (q_n (k1 _ _ ?_)))
 refine sx_seq fun K2 k2 => sx_region ?_
 refine mv rfl rfl (mv rfl rfl (sp rfl (px_len rfl Tryd.underlying22 hvt0.sv) ?_))
 refine sp rfl (px_sub rfl rfl (by omega)) ?_
 refine av rfl rfl (wl_nil (q_n (k2 _ _ ?_)))
 refine sx_seq fun K3 k3 => ?_
 refine sx_seq fun K4 k4 => sx_region ?_
 refine mv rfl rfl (sp rfl (px_lt rfl rfl) ?_)
 refine wl_nil (q_n (k4 _ _ ?_))
 refine sx_condP rfl (fun h586 => ?_) (fun h586 => ?_)
 ·
  refine sx_seq fun K5 k5 => sx_region ?_
  refine av rfl rfl (wl_nil (q_n (k5 _ _ ?_)))
  refine sx_retc ?_
  refine q_r (sx_ret1 Tryd.results27 rfl ?_)
  exact ⟨_, rfl, by omega, fun h => by omega, (Chg.refl 0 0 _)⟩
 refine sx_skip ?_
 refine q_n (k3 _ _ ?_)
 refine sx_seq fun K6 k6 => ?_
 refine sx_seq fun K7 k7 => sx_region ?_
 refine av rfl rfl (wl_nil (q_n (k7 _ _ ?_)))
 refine sx_block ?_
 refine sx_loop (fun mm aa w' => ∃ (k : Nat) (c : Int), Agr 27 [(0, vt), (1, .int .i64 c), (5, .int .i64 ↑k)] aa ∧ Chg 0 0 w w' ∧ (mm = ts.length - k) ∧ (k ≤ ts.length) ∧ (0 ≤ c ∧ c ≤ n - ↑ts.length) ∧ (∀ i, i < k → (ts.getD i rt0).2.2.2.1.length ≤ 1048576)) (_) (fun a ha => ⟨0, (n - (↑((ts).length))), ha.sub (Sub.c 0 rfl (.c 1 (look_int (t := 1) rfl (by first | omega | simp)) (.c 5 (look_int (t := 5) rfl (by first | omega | simp)) .nil))), Chg.refl _ _ _, rfl, by omega, by omega, fun i hi => by omega⟩) ?_
 rintro mm aa wl8 ⟨k, c, hAwl8, cwl8, hm, hk, hc, hzz⟩
 refine (show cw Tryd.prog 27 _ _ _ wl8 from ?_) aa hAwl8
 clear hAwl8
 have zwl8 := cwl8.size
 refine sx_seq fun K9 k9 => ?_
 refine sx_seq fun K10 k10 => sx_region ?_
 refine mv rfl rfl (mv rfl rfl ?_)
 have f11 := hvt0.ext cwl8
 refine sp rfl (px_len rfl Tryd.underlying22 f11.sv) ?_
 refine sp rfl (px_lt rfl rfl) ?_
 refine wl_nil (q_n (k10 _ _ ?_))
 refine sx_condP rfl (fun h589 => ?_) (fun h589 => ?_)
 ·
  have hbk := hb k (by omega)
  refine sx_skip ?_
  refine q_n (k9 _ _ ?_)
  refine sx_seq fun K12 k12 => ?_
  refine sx_block ?_
  refine sx_seq fun K13 k13 => sx_region ?_
  refine mv rfl rfl (mv rfl rfl (sp rfl (px_indexK (j := k) rfl rfl (by omega) Tryd.underlying22 Tryd.sizeOf31 f11.sv (by omega)) ?_))
  refine sp rfl (px_load rfl (f11.sv.loadA (rt_look f11.len (by omega)) Tryd.isAgg31 Tryd.sizeOf31)) ?_
  refine mv rfl rfl (sx_call rfl rfl Tryd.call6 (c_szRate (f11.nest k (by omega)) (hbk.1) (hbk.2.1) (hbk.2.2) (by omega)) (fun v14 w14 p14 => ?_))
  obtain ⟨r14, rfl, hr14, c14⟩ := p14
  have zw14 := c14.size
  refine av rfl rfl (wl_nil (q_n (k13 _ _ ?_)))
  refine sx_seq fun K15 k15 => sx_region ?_
  refine mv rfl rfl (sp rfl (px_lt rfl rfl) ?_)
  refine wl_nil (q_n (k15 _ _ ?_))
  refine sx_sub (Sub.c 0 rfl (.c 1 rfl (.c 5 rfl (.c 25 rfl .nil)))) ?_
  refine sx_condP rfl (fun h591 => ?_) (fun h591 => ?_)
  ·
   refine sx_seq fun K16 k16 => sx_region ?_
   refine av rfl rfl (wl_nil (q_n (k16 _ _ ?_)))
   refine sx_retc ?_
   refine q_br (q_r (q_r (q_br (q_r (sx_ret1 Tryd.results27 rfl ?_)))))
   exact ⟨_, rfl, by omega, fun h => by omega, (cwl8.t c14)⟩
  refine sx_skip ?_
  refine q_bn (q_n (k12 _ _ ?_))
  refine sx_region ?_
  refine mv rfl rfl (sp rfl (px_add rfl rfl (by omega)) ?_)
  refine av rfl rfl (wl_nil ?_)
  exact fun a ha => ⟨_, by omega, (k + 1), r14, ha.sub (Sub.c 0 rfl (.c 1 (look_int (t := 1) rfl (by first | omega | simp)) (.c 5 (look_int (t := 5) rfl (by first | omega | simp)) .nil))), (cwl8.t c14), rfl, by omega, by omega, sz_next hzz (by omega)⟩
 refine sx_exit ?_
 refine q_e (q_e (q_bx (q_n (k6 _ _ ?_))))
 refine sx_seq fun K17 k17 => sx_region ?_
 refine mv rfl rfl (av rfl rfl (wl_nil (q_n (k17 _ _ ?_))))
 refine sx_retc ?_
 refine sx_ret1 Tryd.results27 rfl ?_
 have ek : k = ts.length := by omega
 subst ek
 exact ⟨_, rfl, by omega, fun _ => hzz, cwl8⟩

theorem c_szRates {w : World} {pv : ByteArray} {vt : Value} {lvt uvt : Nat} {ts : List Rt} {vvt : List Value} {n : Int} (hvt : RtS w lvt uvt vt ts vvt) (bpv : pv.size ≤ 9223372036854775807) (bts : ts.length ≤ 9223372036854775807) (hb : ∀ i, i < ts.length → RB (ts.getD i rt0)) (hn : 0 ≤ n ∧ n ≤ 1048576) :
  Ret Tryd.prog 5 [.agg #[.string pv, vt], .int .i64 n] w fun v w' => ∃ r, v = .int .i64 (r) ∧ (r < 0 ∨ (0 ≤ r ∧ r ≤ n - (ts).length)) ∧ (0 ≤ r → ∀ i, i < (ts).length → ((ts).getD i rt0).2.2.2.1.length ≤ 1048576) ∧ Chg 0 0 w w' := by
 have hvt0 := hvt.fit
 refine sx_enter Tryd.func5 rfl Tryd.ntmps5 (nbl rfl) ?_
 refine sx_seq fun K1 k1 => sx_region ?_
 refine sx_box [.string pv, vt] rfl rfl rfl (fun b2 w3 eb2 sb2 fb2 cb2 => ?_)
 have zw3 := cb2.size
 refine av rfl rfl (wl_nil (q_n (k1 _ _ ?_)))
 refine sx_seq fun K4 k4 => sx_region ?_
 refine mv rfl rfl (sp rfl (px_field rfl xfld24x0) ?_)
 refine sp rfl (px_load rfl (fb2.load1 rfl Tryd.isAgg9)) ?_
 refine sp rfl (px_lenS rfl Tryd.underlying9) ?_
 refine sp rfl (px_sub rfl rfl (by omega)) ?_
 refine av rfl rfl (wl_nil (q_n (k4 _ _ ?_)))
 refine sx_seq fun K5 k5 => ?_
 refine sx_seq fun K6 k6 => sx_region ?_
 refine mv rfl rfl (sp rfl (px_lt rfl rfl) ?_)
 refine wl_nil (q_n (k6 _ _ ?_))
 refine sx_condP rfl (fun h600 => ?_) (fun h600 => ?_)
 ·
  refine sx_seq fun K7 k7 => sx_region ?_
  refine av rfl rfl (wl_nil (q_n (k7 _ _ ?_)))
  refine sx_retc ?_
  refine q_r (sx_ret1 Tryd.results5 rfl ?_)
  exact ⟨_, rfl, by omega, fun h => by omega, cb2⟩
 refine sx_skip ?_
 refine q_n (k5 _ _ ?_)
 refine sx_seq fun K8 k8 => sx_region ?_
 refine sp rfl (px_field rfl xfld24x1) ?_
 refine sp rfl (px_load rfl (fb2.load1 rfl Tryd.isAgg22)) ?_
 refine mv rfl rfl ?_
 have f9 := hvt0.ext cb2
 refine sx_call rfl rfl Tryd.call27 (c_szRateS f9 (by omega) (by assumption) (by omega)) (fun v10 w10 p10 => ?_)
 obtain ⟨r10, rfl, hr10, hzz10, c10⟩ := p10
 have zw10 := c10.size
 have hzs := hzz10
 refine av rfl rfl (wl_nil (q_n (k8 _ _ ?_)))
 refine sx_sub (Sub.c 1 rfl (.c 4 rfl .nil)) ?_
 refine sx_seq fun K11 k11 => ?_
 refine sx_seq fun K12 k12 => sx_region ?_
 refine mv rfl rfl (sp rfl (px_lt rfl rfl) ?_)
 refine wl_nil (q_n (k12 _ _ ?_))
 refine sx_condP rfl (fun h604 => ?_) (fun h604 => ?_)
 ·
  refine sx_seq fun K13 k13 => sx_region ?_
  refine av rfl rfl (wl_nil (q_n (k13 _ _ ?_)))
  refine sx_retc ?_
  refine q_r (sx_ret1 Tryd.results5 rfl ?_)
  exact ⟨_, rfl, by omega, fun h => by omega, (cb2.t c10)⟩
 refine sx_skip ?_
 refine q_n (k11 _ _ ?_)
 refine sx_seq fun K14 k14 => sx_region ?_
 refine mv rfl rfl (av rfl rfl (wl_nil (q_n (k14 _ _ ?_))))
 refine sx_retc ?_
 refine sx_ret1 Tryd.results5 rfl ?_
 exact ⟨_, rfl, by omega, fun h => hzs h, (cb2.t c10)⟩

theorem c_markIntS {w : World} {va : Value} {lva uva : Nat} {zs : List Int} {n : Int} (hva : OwnI w lva uva va intT (zs)) (h63 : zs.length ≤ 1048576) (hn : 0 ≤ n ∧ n ≤ 4611686018427387904) :
  Ret Tryd.prog 73 [va, .int .i64 n] w fun v w' => v = .int .i64 (n + ↑(zs).length) ∧ OwnI w' (lva) (uva) va intT (mk n (zs).length) ∧ Chg lva uva w w' := by
 refine sx_enter Tryd.func73 rfl Tryd.ntmps73 (nbl rfl) ?_
 refine sx_seq fun K1 k1 => sx_region ?_
 refine av rfl rfl (wl_nil (q_n (k1 _ _ ?_)))
 refine sx_seq fun K2 k2 => ?_
 refine sx_seq fun K3 k3 => sx_region ?_
 refine av rfl rfl (wl_nil (q_n (k3 _ _ ?_)))
 refine sx_block ?_
 refine sx_loop (fun mm aa w' => ∃ (k : Nat) (os : List Int), Agr 19 [(0, va), (1, .int .i64 (n + ↑k)), (5, .int .i64 ↑k)] aa ∧ Chg lva uva w w' ∧ Own w' lva uva va intT os.length 1 (os.map (Value.int .i64)) ∧ (mm = zs.length - k) ∧ (k ≤ zs.length) ∧ (os.length = zs.length) ∧ (os.take k = mk n k)) (_) (fun a ha => ⟨0, zs, ha.sub (Sub.c 0 rfl (.c 1 (look_int (t := 1) rfl (by first | omega | simp)) (.c 5 (look_int (t := 5) rfl (by first | omega | simp)) .nil))), Chg.refl _ _ _, hva, rfl, by omega, rfl, rfl⟩) ?_
 rintro mm aa wl4 ⟨k, os, hAwl4, cwl4, hs_va, hm, hk, ho, he⟩
 refine (show cw Tryd.prog 19 _ _ _ wl4 from ?_) aa hAwl4
 clear hAwl4
 have zwl4 := cwl4.size
 refine sx_seq fun K5 k5 => ?_
 refine sx_seq fun K6 k6 => sx_region ?_
 refine mv rfl rfl (mv rfl rfl (sp rfl (px_len rfl Tryd.underlying25 hs_va.sv) ?_))
 refine sp rfl (px_lt rfl rfl) ?_
 refine wl_nil (q_n (k6 _ _ ?_))
 refine sx_condP rfl (fun h222 => ?_) (fun h222 => ?_)
 ·
  refine sx_skip ?_
  refine q_n (k5 _ _ ?_)
  refine sx_seq fun K7 k7 => ?_
  refine sx_block ?_
  refine sx_seq fun K8 k8 => sx_region ?_
  refine mv rfl rfl (mv rfl rfl (mv rfl rfl (sp rfl (px_index1 (j := k) rfl rfl (by omega) Tryd.underlying25 Tryd.sizeOf3 hs_va.sv (by omega)) ?_)))
  refine sx_storeO rfl rfl hs_va (by first | omega | (simp only [List.length_map]; omega)) Tryd.sizeOf3 rfl (fun w9 sw9 fw9 cw9 => ?_)
  have zw9 := cw9.size
  have nw9 := fw9.set
  refine wl_nil (q_n (k8 _ _ ?_))
  refine sx_region ?_
  refine mv rfl rfl (sp rfl (px_add rfl rfl (by omega)) ?_)
  refine av rfl rfl (wl_nil ?_)
  refine q_bn (q_n (k7 _ _ ?_))
  refine sx_region ?_
  refine mv rfl rfl (sp rfl (px_add rfl rfl (by omega)) ?_)
  refine av rfl rfl (wl_nil ?_)
  have q10 := Chg.step (l := lva) (h := uva) cwl4 cw9 (by omega)
  exact fun a ha => ⟨_, by omega, (k + 1), (os.set k (n + ↑k)), ha.sub (Sub.c 0 rfl (.c 1 (look_int (t := 1) rfl (by first | omega | simp)) (.c 5 (look_int (t := 5) rfl (by first | omega | simp)) .nil))), q10, (nw9.mono (by omega) (by omega)), rfl, by omega, by simp [ho], mk_set he (by omega)⟩
 refine sx_exit ?_
 refine q_e (q_e (q_bx (q_n (k2 _ _ ?_))))
 refine sx_seq fun K11 k11 => sx_region ?_
 refine mv rfl rfl (av rfl rfl (wl_nil (q_n (k11 _ _ ?_))))
 refine sx_retc ?_
 refine sx_ret1 Tryd.results73 rfl ?_
 have ek : k = zs.length := by omega
 subst ek
 rw [← ho, List.take_length, ho] at he
 subst he
 exact ⟨rfl, hs_va, cwl4⟩

theorem c_heldIntS {w : World} {va : Value} {lva uva : Nat} {zs : List Int} {n : Int} (hva : Sl w lva uva va (zs)) (h63 : zs.length ≤ 1048576) (hn : 0 ≤ n ∧ n ≤ 4611686018427387904) (hz : zs = mk n zs.length) :
  Ret Tryd.prog 75 [va, .int .i64 n] w fun v w' => v = .int .i64 (n + ↑(zs).length) ∧ Chg 0 0 w w' := by
 have hva0 := hva.fit
 refine sx_enter Tryd.func75 rfl Tryd.ntmps75 (nbl rfl) ?_
 refine sx_seq fun K1 k1 => sx_region ?_
 refine av rfl rfl (wl_nil (q_n (k1 _ _ ?_)))
 refine sx_seq fun K2 k2 => ?_
 refine sx_seq fun K3 k3 => sx_region ?_
 refine av rfl rfl (wl_nil (q_n (k3 _ _ ?_)))
 refine sx_block ?_
 refine sx_loop (fun mm aa w' => ∃ (k : Nat), Agr 21 [(0, va), (1, .int .i64 (n + ↑k)), (5, .int .i64 ↑k)] aa ∧ Chg 0 0 w w' ∧ (mm = zs.length - k) ∧ (k ≤ zs.length)) (_) (fun a ha => ⟨0, ha.sub (Sub.c 0 rfl (.c 1 (look_int (t := 1) rfl (by first | omega | simp)) (.c 5 (look_int (t := 5) rfl (by first | omega | simp)) .nil))), Chg.refl _ _ _, rfl, by omega⟩) ?_
 rintro mm aa wl4 ⟨k, hAwl4, cwl4, hm, hk⟩
 refine (show cw Tryd.prog 21 _ _ _ wl4 from ?_) aa hAwl4
 clear hAwl4
 have zwl4 := cwl4.size
 refine sx_seq fun K5 k5 => ?_
 refine sx_seq fun K6 k6 => sx_region ?_
 refine mv rfl rfl (mv rfl rfl ?_)
 have f7 := hva0.ext cwl4
 refine sp rfl (px_len rfl Tryd.underlying25 f7) ?_
 refine sp rfl (px_lt rfl rfl) ?_
 refine wl_nil (q_n (k6 _ _ ?_))
 refine sx_condP rfl (fun h230 => ?_) (fun h230 => ?_)
 ·
  refine sx_skip ?_
  refine q_n (k5 _ _ ?_)
  refine sx_seq fun K8 k8 => ?_
  refine sx_block ?_
  refine sx_seq fun K9 k9 => ?_
  refine sx_seq fun K10 k10 => sx_region ?_
  refine mv rfl rfl (mv rfl rfl (sp rfl (px_index1 (j := k) rfl rfl (by omega) Tryd.underlying25 Tryd.sizeOf3 f7 (by omega)) ?_))
  refine sp rfl (px_load rfl (f7.load1 (at_int (by omega)) Tryd.isAgg3)) ?_
  refine mv rfl rfl (sp rfl (px_ne rfl rfl) ?_)
  refine wl_nil (q_n (k10 _ _ ?_))
  have h231 : ¬ (((zs).getD k 0 : Int) ≠ n + ↑k) := fun h => h (by rw [hz]; exact mk_getD (by omega))
  refine sx_condPF rfl h231 ?_
  refine sx_skip ?_
  refine q_n (k9 _ _ ?_)
  refine sx_region ?_
  refine mv rfl rfl (sp rfl (px_add rfl rfl (by omega)) ?_)
  refine av rfl rfl (wl_nil ?_)
  refine q_bn (q_n (k8 _ _ ?_))
  refine sx_sub (Sub.c 0 rfl (.c 1 rfl (.c 5 rfl .nil))) ?_
  refine sx_region ?_
  refine mv rfl rfl (sp rfl (px_add rfl rfl (by omega)) ?_)
  refine av rfl rfl (wl_nil ?_)
  exact fun a ha => ⟨_, by omega, (k + 1), ha.sub (Sub.c 0 rfl (.c 1 (look_int (t := 1) rfl (by first | omega | simp)) (.c 5 (look_int (t := 5) rfl (by first | omega | simp)) .nil))), cwl4, rfl, by omega⟩
 refine sx_exit ?_
 refine q_e (q_e (q_bx (q_n (k2 _ _ ?_))))
 refine sx_seq fun K11 k11 => sx_region ?_
 refine mv rfl rfl (av rfl rfl (wl_nil (q_n (k11 _ _ ?_))))
 refine sx_retc ?_
 refine sx_ret1 Tryd.results75 rfl ?_
 have ek : k = zs.length := by omega
 subst ek
 exact ⟨rfl, cwl4⟩

theorem c_markText {w : World} {n : Int} (hn : n ≤ 4611686018427387904) :
  Ret Tryd.prog 72 [.int .i64 n] w fun v w' => v = .string (mText n) ∧ Chg 0 0 w w' := by
 refine sx_enter Tryd.func72 rfl Tryd.ntmps72 (nbl rfl) ?_
 refine sx_seq fun K1 k1 => sx_region ?_
 refine av rfl rfl (wl_nil (q_n (k1 _ _ ?_)))
 refine sx_seq fun K2 k2 => ?_
 refine sx_seq fun K3 k3 => sx_region ?_
 refine mv rfl rfl (sp rfl (px_le rfl rfl) ?_)
 refine wl_nil (q_n (k3 _ _ ?_))
 refine sx_condP rfl (fun h138 => ?_) (fun h138 => ?_)
 ·
  refine sx_seq fun K4 k4 => sx_region ?_
  refine av rfl rfl (wl_nil (q_n (k4 _ _ ?_)))
  refine sx_retc ?_
  refine q_r (sx_ret1 Tryd.results72 rfl ?_)
  exact ⟨(by unfold mText; rw [if_pos (by omega)]), (Chg.refl 0 0 _)⟩
 refine sx_skip ?_
 refine q_n (k2 _ _ ?_)
 refine sx_seq fun K5 k5 => sx_region ?_
 refine av rfl rfl (wl_nil (q_n (k5 _ _ ?_)))
 refine sx_seq fun K6 k6 => ?_
 refine sx_block ?_
 refine sx_loop (fun mm aa w' => ∃ (m : Int) (s : ByteArray), Agr 20 [(0, .int .i64 m), (3, .string s)] aa ∧ Chg 0 0 w w' ∧ (mm = m.toNat) ∧ (0 ≤ m ∧ m ≤ 4611686018427387904) ∧ (↑s.size + m ≤ 4611686018427387904) ∧ (mdig m.toNat m s = mdig n.toNat n ⟨#[]⟩)) (_) (fun a ha => ⟨n, ⟨#[]⟩, ha.sub (Sub.c 0 (look_int (t := 0) rfl (by first | omega | simp)) (.c 3 rfl .nil)), Chg.refl _ _ _, rfl, by omega, by have : (⟨#[]⟩ : ByteArray).size = 0 := rfl; omega, rfl⟩) ?_
 rintro mm aa wl7 ⟨m, s, hAwl7, cwl7, hm, hm0, hsz, hmd⟩
 refine (show cw Tryd.prog 20 _ _ _ wl7 from ?_) aa hAwl7
 clear hAwl7
 have zwl7 := cwl7.size
 refine sx_seq fun K8 k8 => ?_
 refine sx_seq fun K9 k9 => sx_region ?_
 refine mv rfl rfl (sp rfl (px_gt rfl rfl) ?_)
 refine wl_nil (q_n (k9 _ _ ?_))
 refine sx_condP rfl (fun h142 => ?_) (fun h142 => ?_)
 ·
  refine sx_skip ?_
  refine q_n (k8 _ _ ?_)
  refine sx_block ?_
  refine sx_seq fun K10 k10 => sx_region ?_
  refine mv rfl rfl (sp rfl (px_rem rfl rfl (by omega) (by omega)) ?_)
  refine sp rfl (px_add rfl rfl (by omega)) ?_
  refine sp rfl (px_convU8 Tryd.underlying3 Tryd.underlying5 rfl (by omega)) ?_
  refine sx_lit1 rfl xelt51 rfl rfl (fun s11 ws11 ss11 fs11 cs11 => ?_)
  have zws11 := cs11.size
  refine sp rfl (px_convS1 Tryd.underlying51 Tryd.underlying9 Tryd.underlying5 rfl fs11.sv) ?_
  refine mv rfl rfl (sp rfl (px_cat rfl rfl (by first | omega | (simp only [byteS_size]; omega) | (have : (⟨#[109]⟩ : ByteArray).size = 1 := rfl; omega))) ?_)
  refine av rfl rfl (wl_nil (q_n (k10 _ _ ?_)))
  refine sx_region ?_
  refine mv rfl rfl (sp rfl (px_quo rfl rfl (by omega) (by omega) (by omega)) ?_)
  refine av rfl rfl (wl_nil ?_)
  exact q_bn (fun a ha => ⟨_, by omega, (m / 10), ((byteS (48 + (m % 10))) ++ s), ha.sub (Sub.c 0 (look_int (t := 0) rfl (by first | omega | simp)) (.c 3 rfl .nil)), (cwl7.t cs11), rfl, by omega, by rw [ByteArray.size_append, byteS_size]; omega, (mdig_next (by omega)).symm.trans hmd⟩)
 refine sx_exit ?_
 refine q_e (q_e (q_bx (q_n (k6 _ _ ?_))))
 refine sx_seq fun K12 k12 => sx_region ?_
 refine mv rfl rfl (sp rfl (px_cat rfl rfl (by first | omega | (simp only [byteS_size]; omega) | (have : (⟨#[109]⟩ : ByteArray).size = 1 := rfl; omega))) ?_)
 refine av rfl rfl (wl_nil (q_n (k12 _ _ ?_)))
 refine sx_retc ?_
 refine sx_ret1 Tryd.results72 rfl ?_
 rw [mdig_end (m := m) (by omega) (by omega)] at hmd
 have hmt : mText n = ⟨#[109]⟩ ++ s := by unfold mText; rw [if_neg (by omega), ← hmd]
 exact ⟨by rw [hmt], cwl7⟩

end Go.Proofs.YtlnemcbdbehehaaDoor
