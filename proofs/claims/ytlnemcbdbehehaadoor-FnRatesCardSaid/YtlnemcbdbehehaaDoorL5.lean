/- Contracts of functions of the program: what each call returns, and that it changes nothing that was. Conditions: as each says. -/
import Derived.Test.YtlnemcbdbehehaaDoorTy
import Derived.Test.YtlnemcbdbehehaaDoorNatN
import Derived.Test.YtlnemcbdbehehaaDoorSxD
import Derived.Test.YtlnemcbdbehehaaDoorPair
import Derived.Test.YtlnemcbdbehehaaDoorSxW
import Derived.Test.YtlnemcbdbehehaaDoorNatS
import Derived.Test.YtlnemcbdbehehaaDoorSxG
import Derived.Test.YtlnemcbdbehehaaDoorNatT
import Derived.Test.YtlnemcbdbehehaaDoorNatO
import Derived.Test.YtlnemcbdbehehaaDoorNatV
import Derived.Test.YtlnemcbdbehehaaDoorSxP
set_option linter.unusedVariables false
set_option linter.unusedSimpArgs false
namespace Go.Proofs.YtlnemcbdbehehaaDoor
open Go Go.RowKit
set_option maxRecDepth 100000
theorem c_must {w : World} {n : Bool} {va : Value} {lva uva : Nat} {z : List Int} {vd : Value} {lvd uvd : Nat} {y : List Int} (hva : Sl w lva uva va (z)) (hvd : Sl w lvd uvd vd (y)) :
  Ret Tryd.prog 22 [.agg #[.bool n, va, vd], .bool true] w fun v w' => v = .agg #[.bool (n), va, vd] ∧ Chg 0 0 w w' := by
 have hva0 := hva.fit
 have hvd0 := hvd.fit
 refine sx_enter Tryd.func22 rfl Tryd.ntmps22 (nbl rfl) ?_
 refine sx_seq fun K1 k1 => sx_region ?_
 refine sx_box [.bool n, va, vd] rfl rfl rfl (fun b2 w3 eb2 sb2 fb2 cb2 => ?_)
 have zw3 := cb2.size
 refine sx_alloc [.bool false, (.slice none 0 0), (.slice none 0 0)] rfl Tryd.zeroValue55 rfl (fun b4 w5 eb4 sb4 fb4 cb4 => ?_)
 have zw5 := cb4.size
 refine wl_nil (q_n (k1 _ _ ?_))
 refine sx_seq fun K6 k6 => ?_
 refine sx_seq fun K7 k7 => sx_region ?_
 refine mv rfl rfl (sp rfl (px_not rfl) ?_)
 refine wl_nil (q_n (k7 _ _ ?_))
 refine sx_condF rfl ?_
 refine sx_skip ?_
 refine q_n (k6 _ _ ?_)
 refine sx_seq fun K8 k8 => sx_region ?_
 have f9 := fb2.ext cb4
 refine sp rfl (px_load rfl (f9.loadA (vs := [.bool n, va, vd]) (look_lit rfl) Tryd.isAgg55 Tryd.sizeOf55)) ?_
 have f11 := hvd0.ext cb2
 have f12 := f11.ext cb4
 have f13 := hva0.ext cb2
 have f14 := f13.ext cb4
 refine sx_store (vs := [.bool n, va, vd]) rfl rfl fb4 rfl Tryd.sizeOf55 (nbl rfl) (one_cons rfl (one_cons f14.one (one_cons f12.one one_nil))) (fun w10 sw10 fw10 cw10 => ?_)
 have zw10 := cw10.size
 have gw10 : Blk w10 b4 [.bool n, va, vd] 55 := fw10
 refine wl_nil (q_n (k8 _ _ ?_))
 refine sx_retc ?_
 refine sx_ret1 Tryd.results22 ⟨_, rfl, gw10.loadA (vs := [.bool n, va, vd]) (look_lit rfl) Tryd.isAgg55 Tryd.sizeOf55⟩ ?_
 have q15 := Chg.step (l := 0) (h := 0) (Chg.zero (l := 0) (h := 0) (cb2.t cb4)) cw10 (by omega)
 exact ⟨rfl, q15⟩

end Go.Proofs.YtlnemcbdbehehaaDoor
