/- Contracts of functions of the program: what each call returns, and that it changes nothing that was. Conditions: as each says. -/
import Derived.Test.YtoeclobdbblohaaDoorTy
import Derived.Test.YtoeclobdbblohaaDoorNatI
import Derived.Test.YtoeclobdbblohaaDoorNatQ
import Derived.Test.YtoeclobdbblohaaDoorSxW
import Derived.Test.YtoeclobdbblohaaDoorSxB
import Derived.Test.YtoeclobdbblohaaDoorTab
import Derived.Test.YtoeclobdbblohaaDoorLay
import Derived.Test.YtoeclobdbblohaaDoorLayB
import Derived.Test.YtoeclobdbblohaaDoorNatX
import Derived.Test.YtoeclobdbblohaaDoorSxP
set_option linter.unusedVariables false
set_option linter.unusedSimpArgs false
namespace Go.Proofs.YtoeclobdbblohaaDoor
open Go Go.RowKit
set_option maxRecDepth 100000
theorem c_IndexByte {w : World} {t : ByteArray} {c : Int} :
  Ret Tryd.prog 101 [.string t, .int .u8 c] w fun v w' => v = .int .i64 (Lib.indexByte (t).data.toList (c).toNat.toUInt8) ∧ Chg 0 0 w w' := by
 have h := Any.strings_IndexByte lays137 t c w
 exact Calls.mono h fun e w' ⟨he, hw⟩ => ⟨_, he, rfl, hw ▸ Chg.refl _ _ _⟩

theorem c_iCutAtP {w : World} {s : ByteArray} {bb : ByteArray} (hs : s.size ≤ 1048576) (hbb : bb = ⟨#[46]⟩) :
  Ret Tryd.prog 66 [.string s, .string bb] w fun v w' => ∃ x, v = x ∧ OwnS w' w.heap.size w'.heap.size x strT (cutT 46 s) ∧ Chg 0 0 w w' := by
 refine sx_enter Tryd.func66 rfl Tryd.ntmps66 (nbl rfl) ?_
 refine sx_seq fun K1 k1 => sx_region ?_
 refine av rfl rfl (wl_nil (q_n (k1 _ _ ?_)))
 refine sx_seq fun K2 k2 => sx_region ?_
 refine sx_lit0 rfl xelt54 (fun s3 ws3 ss3 fs3 cs3 => ?_)
 have zws3 := cs3.size
 refine av rfl rfl (wl_nil (q_n (k2 _ _ ?_)))
 refine sx_seq fun K4 k4 => sx_region ?_
 refine av rfl rfl (wl_nil (q_n (k4 _ _ ?_)))
 refine sx_seq fun K5 k5 => ?_
 refine sx_seq fun K6 k6 => sx_region ?_
 refine av rfl rfl (wl_nil (q_n (k6 _ _ ?_)))
 refine sx_block ?_
 refine sx_loop (fun mm aa w' => ∃ (s1 : Value) (os : List ByteArray) (k : Nat) (f : Nat), Agr 36 [(0, .string s), (1, .string bb), (5, s1), (6, .int .i64 ↑f), (7, .int .i64 ↑k)] aa ∧ Chg w.heap.size ws3.heap.size ws3 w' ∧ Own w' w.heap.size w'.heap.size s1 strT os.length 1 (os.map Value.string) ∧ (mm = s.size - k) ∧ (k ≤ s.size ∧ f ≤ k) ∧ (os = (cutGo 46 s k).1) ∧ (f = (cutGo 46 s k).2) ∧ (os.length ≤ k)) (_) (fun a ha => ⟨s3, [], 0, 0, ha.sub (Sub.c 0 rfl (.c 1 rfl (.c 5 rfl (.c 6 (look_int (t := 6) rfl (by first | omega | simp)) (.c 7 (look_int (t := 7) rfl (by first | omega | simp)) .nil))))), Chg.refl _ _ _, (fs3.mono (by omega) (by omega)), rfl, by omega, rfl, rfl, Nat.le_refl _⟩) ?_
 rintro mm aa wl7 ⟨s1, os, k, f, hAwl7, cwl7, hs_s1, hm, hk, hos, hf, hol⟩
 refine (show cw Tryd.prog 36 _ _ _ wl7 from ?_) aa hAwl7
 clear hAwl7
 have zwl7 := cwl7.size
 refine sx_seq fun K8 k8 => ?_
 refine sx_seq fun K9 k9 => sx_region ?_
 refine mv rfl rfl (mv rfl rfl (sp rfl (px_lenS rfl Tryd.underlying9) ?_))
 refine sp rfl (px_lt rfl rfl) ?_
 refine wl_nil (q_n (k9 _ _ ?_))
 refine sx_condP rfl (fun h72 => ?_) (fun h72 => ?_)
 ·
  refine sx_skip ?_
  refine q_n (k8 _ _ ?_)
  refine sx_seq fun K10 k10 => ?_
  refine sx_block ?_
  refine sx_seq fun K11 k11 => sx_region ?_
  refine mv rfl rfl (mv rfl rfl (mv rfl rfl (sp rfl (px_indexS (j := k) rfl rfl (by omega) Tryd.underlying9 (by omega)) ?_)))
  refine sx_call rfl rfl Tryd.call101 (c_IndexByte) (fun v12 w12 p12 => ?_)
  obtain ⟨rfl, c12⟩ := p12
  have zw12 := c12.size
  refine sp rfl (px_ge rfl rfl) ?_
  refine wl_nil (q_n (k11 _ _ ?_))
  refine sx_sub (Sub.c 0 rfl (.c 1 rfl (.c 5 rfl (.c 6 rfl (.c 7 rfl (.c 20 rfl .nil)))))) ?_
  refine sx_condP rfl (fun h73 => ?_) (fun h73 => ?_)
  ·
   have hc : strB s k = 46 := (idx_str hbb s k).1 h73
   refine sx_seq fun K13 k13 => sx_region ?_
   refine mv rfl rfl (mv rfl rfl (mv rfl rfl (mv rfl rfl (sp rfl (px_strMid (l := f) (h := k) rfl rfl rfl (by omega) (by omega) Tryd.underlying9 (by omega) (by omega)) ?_))))
   refine sx_lit1 rfl xelt54 rfl rfl (fun s14 ws14 ss14 fs14 cs14 => ?_)
   have ns14 := Own.norm (f := Value.string) (zs := [s.extract f k]) fs14
   have zws14 := cs14.size
   have f17 := (hs_s1.ext c12).ext cs14
   refine sx_append rfl xelt54 rfl rfl f17 ns14.sv one_str (by omega) (by simp only [List.length_cons, List.length_nil]; omega) (by unfold maxLen; simp only [List.length_cons, List.length_nil]; omega) (fun a15 w15 fw15 cw15 => ?_)
   have nw15 := Own.app (f := Value.string) (a := os) (b := [s.extract f k]) fw15
   have zw15 := cw15.size
   refine av rfl rfl (wl_nil (q_n (k13 _ _ ?_)))
   refine sx_region ?_
   refine mv rfl rfl (sp rfl (px_add rfl rfl (by omega)) ?_)
   refine av rfl rfl (wl_nil ?_)
   refine q_bn (q_n (k10 _ _ ?_))
   refine sx_sub (Sub.c 0 rfl (.c 1 rfl (.c 5 rfl (.c 6 rfl (.c 7 rfl .nil))))) ?_
   refine sx_region ?_
   refine mv rfl rfl (sp rfl (px_add rfl rfl (by omega)) ?_)
   refine av rfl rfl (wl_nil ?_)
   have q18 := Chg.step (l := w.heap.size) (h := ws3.heap.size) cwl7 (c12.t cs14) (by omega)
   have q19 := Chg.step (l := w.heap.size) (h := ws3.heap.size) q18 cw15 (by omega)
   exact fun a ha => ⟨_, by omega, a15, (os ++ ([s.extract f k])), (k + 1), (k + 1), ha.sub (Sub.c 0 rfl (.c 1 rfl (.c 5 rfl (.c 6 (look_int (t := 6) rfl (by first | omega | simp)) (.c 7 (look_int (t := 7) rfl (by first | omega | simp)) .nil))))), q19, (nw15.mono (by omega) (by omega)), rfl, by omega, by first | (rw [cutGo_yes (by omega), hos, hf]) | (rw [cutGo_no (by omega)]; exact hos), by first | (rw [cutGo_yes (by omega)]) | (rw [cutGo_no (by omega)]; exact hf), by first | omega | (simp only [List.length_append, List.length_singleton]; omega)⟩
  have hc : ¬ strB s k = 46 := fun e => h73 ((idx_str hbb s k).2 e)
  refine sx_skip ?_
  refine q_bn (q_n (k10 _ _ ?_))
  refine sx_region ?_
  refine mv rfl rfl (sp rfl (px_add rfl rfl (by omega)) ?_)
  refine av rfl rfl (wl_nil ?_)
  have q20 := Chg.step (l := w.heap.size) (h := ws3.heap.size) cwl7 c12 (by omega)
  have f21 := hs_s1.ext c12
  exact fun a ha => ⟨_, by omega, s1, os, (k + 1), f, ha.sub (Sub.c 0 rfl (.c 1 rfl (.c 5 rfl (.c 6 rfl (.c 7 (look_int (t := 7) rfl (by first | omega | simp)) .nil))))), q20, (f21.mono (by omega) (by omega)), rfl, by omega, by first | (rw [cutGo_yes (by omega), hos, hf]) | (rw [cutGo_no (by omega)]; exact hos), by first | (rw [cutGo_yes (by omega)]) | (rw [cutGo_no (by omega)]; exact hf), by first | omega | (simp only [List.length_append, List.length_singleton]; omega)⟩
 refine sx_exit ?_
 refine q_e (q_e (q_bx (q_n (k5 _ _ ?_))))
 refine sx_seq fun K22 k22 => sx_region ?_
 refine mv rfl rfl (mv rfl rfl (mv rfl rfl (sp rfl (px_strFrom (l := f) rfl rfl (by omega) Tryd.underlying9 (by omega)) ?_)))
 refine sx_lit1 rfl xelt54 rfl rfl (fun s23 ws23 ss23 fs23 cs23 => ?_)
 have ns23 := Own.norm (f := Value.string) (zs := [s.extract f s.size]) fs23
 have zws23 := cs23.size
 have f25 := hs_s1.ext cs23
 refine sx_append rfl xelt54 rfl rfl f25 ns23.sv one_str (by omega) (by simp only [List.length_cons, List.length_nil]; omega) (by unfold maxLen; simp only [List.length_cons, List.length_nil]; omega) (fun a24 w24 fw24 cw24 => ?_)
 have nw24 := Own.app (f := Value.string) (a := os) (b := [s.extract f s.size]) fw24
 have zw24 := cw24.size
 refine av rfl rfl (wl_nil (q_n (k22 _ _ ?_)))
 refine sx_sub (Sub.c 4 rfl .nil) ?_
 refine sx_retc ?_
 refine sx_ret1 Tryd.results66 rfl ?_
 have ek : k = s.size := by omega
 subst ek
 have e : os ++ [s.extract f s.size] = cutT 46 s := by unfold cutT; rw [hos, hf]
 have hs := nw24
 rw [e] at hs
 have q26 := Chg.step (l := 0) (h := 0) (Chg.zero (l := 0) (h := 0) cs3) cwl7 (by omega)
 have q27 := Chg.step (l := 0) (h := 0) q26 cs23 (by omega)
 have q28 := Chg.step (l := 0) (h := 0) q27 cw24 (by omega)
 exact ⟨_, rfl, hs.mono (by omega) (by omega), q28⟩

theorem c_iCutAtB {w : World} {s : ByteArray} {bb : ByteArray} (hs : s.size ≤ 1048576) (hbb : bb = ⟨#[32]⟩) :
  Ret Tryd.prog 66 [.string s, .string bb] w fun v w' => ∃ x, v = x ∧ OwnS w' w.heap.size w'.heap.size x strT (cutT 32 s) ∧ Chg 0 0 w w' := by
 refine sx_enter Tryd.func66 rfl Tryd.ntmps66 (nbl rfl) ?_
 refine sx_seq fun K1 k1 => sx_region ?_
 refine av rfl rfl (wl_nil (q_n (k1 _ _ ?_)))
 refine sx_seq fun K2 k2 => sx_region ?_
 refine sx_lit0 rfl xelt54 (fun s3 ws3 ss3 fs3 cs3 => ?_)
 have zws3 := cs3.size
 refine av rfl rfl (wl_nil (q_n (k2 _ _ ?_)))
 refine sx_seq fun K4 k4 => sx_region ?_
 refine av rfl rfl (wl_nil (q_n (k4 _ _ ?_)))
 refine sx_seq fun K5 k5 => ?_
 refine sx_seq fun K6 k6 => sx_region ?_
 refine av rfl rfl (wl_nil (q_n (k6 _ _ ?_)))
 refine sx_block ?_
 refine sx_loop (fun mm aa w' => ∃ (s1 : Value) (os : List ByteArray) (k : Nat) (f : Nat), Agr 36 [(0, .string s), (1, .string bb), (5, s1), (6, .int .i64 ↑f), (7, .int .i64 ↑k)] aa ∧ Chg w.heap.size ws3.heap.size ws3 w' ∧ Own w' w.heap.size w'.heap.size s1 strT os.length 1 (os.map Value.string) ∧ (mm = s.size - k) ∧ (k ≤ s.size ∧ f ≤ k) ∧ (os = (cutGo 32 s k).1) ∧ (f = (cutGo 32 s k).2) ∧ (os.length ≤ k)) (_) (fun a ha => ⟨s3, [], 0, 0, ha.sub (Sub.c 0 rfl (.c 1 rfl (.c 5 rfl (.c 6 (look_int (t := 6) rfl (by first | omega | simp)) (.c 7 (look_int (t := 7) rfl (by first | omega | simp)) .nil))))), Chg.refl _ _ _, (fs3.mono (by omega) (by omega)), rfl, by omega, rfl, rfl, Nat.le_refl _⟩) ?_
 rintro mm aa wl7 ⟨s1, os, k, f, hAwl7, cwl7, hs_s1, hm, hk, hos, hf, hol⟩
 refine (show cw Tryd.prog 36 _ _ _ wl7 from ?_) aa hAwl7
 clear hAwl7
 have zwl7 := cwl7.size
 refine sx_seq fun K8 k8 => ?_
 refine sx_seq fun K9 k9 => sx_region ?_
 refine mv rfl rfl (mv rfl rfl (sp rfl (px_lenS rfl Tryd.underlying9) ?_))
 refine sp rfl (px_lt rfl rfl) ?_
 refine wl_nil (q_n (k9 _ _ ?_))
 refine sx_condP rfl (fun h72 => ?_) (fun h72 => ?_)
 ·
  refine sx_skip ?_
  refine q_n (k8 _ _ ?_)
  refine sx_seq fun K10 k10 => ?_
  refine sx_block ?_
  refine sx_seq fun K11 k11 => sx_region ?_
  refine mv rfl rfl (mv rfl rfl (mv rfl rfl (sp rfl (px_indexS (j := k) rfl rfl (by omega) Tryd.underlying9 (by omega)) ?_)))
  refine sx_call rfl rfl Tryd.call101 (c_IndexByte) (fun v12 w12 p12 => ?_)
  obtain ⟨rfl, c12⟩ := p12
  have zw12 := c12.size
  refine sp rfl (px_ge rfl rfl) ?_
  refine wl_nil (q_n (k11 _ _ ?_))
  refine sx_sub (Sub.c 0 rfl (.c 1 rfl (.c 5 rfl (.c 6 rfl (.c 7 rfl (.c 20 rfl .nil)))))) ?_
  refine sx_condP rfl (fun h73 => ?_) (fun h73 => ?_)
  ·
   have hc : strB s k = 32 := (idx_str hbb s k).1 h73
   refine sx_seq fun K13 k13 => sx_region ?_
   refine mv rfl rfl (mv rfl rfl (mv rfl rfl (mv rfl rfl (sp rfl (px_strMid (l := f) (h := k) rfl rfl rfl (by omega) (by omega) Tryd.underlying9 (by omega) (by omega)) ?_))))
   refine sx_lit1 rfl xelt54 rfl rfl (fun s14 ws14 ss14 fs14 cs14 => ?_)
   have ns14 := Own.norm (f := Value.string) (zs := [s.extract f k]) fs14
   have zws14 := cs14.size
   have f17 := (hs_s1.ext c12).ext cs14
   refine sx_append rfl xelt54 rfl rfl f17 ns14.sv one_str (by omega) (by simp only [List.length_cons, List.length_nil]; omega) (by unfold maxLen; simp only [List.length_cons, List.length_nil]; omega) (fun a15 w15 fw15 cw15 => ?_)
   have nw15 := Own.app (f := Value.string) (a := os) (b := [s.extract f k]) fw15
   have zw15 := cw15.size
   refine av rfl rfl (wl_nil (q_n (k13 _ _ ?_)))
   refine sx_region ?_
   refine mv rfl rfl (sp rfl (px_add rfl rfl (by omega)) ?_)
   refine av rfl rfl (wl_nil ?_)
   refine q_bn (q_n (k10 _ _ ?_))
   refine sx_sub (Sub.c 0 rfl (.c 1 rfl (.c 5 rfl (.c 6 rfl (.c 7 rfl .nil))))) ?_
   refine sx_region ?_
   refine mv rfl rfl (sp rfl (px_add rfl rfl (by omega)) ?_)
   refine av rfl rfl (wl_nil ?_)
   have q18 := Chg.step (l := w.heap.size) (h := ws3.heap.size) cwl7 (c12.t cs14) (by omega)
   have q19 := Chg.step (l := w.heap.size) (h := ws3.heap.size) q18 cw15 (by omega)
   exact fun a ha => ⟨_, by omega, a15, (os ++ ([s.extract f k])), (k + 1), (k + 1), ha.sub (Sub.c 0 rfl (.c 1 rfl (.c 5 rfl (.c 6 (look_int (t := 6) rfl (by first | omega | simp)) (.c 7 (look_int (t := 7) rfl (by first | omega | simp)) .nil))))), q19, (nw15.mono (by omega) (by omega)), rfl, by omega, by first | (rw [cutGo_yes hc, hos, hf]) | (rw [cutGo_no hc]; exact hos), by first | (rw [cutGo_yes hc]) | (rw [cutGo_no hc]; exact hf), by first | omega | (simp only [List.length_append, List.length_singleton]; omega)⟩
  have hc : ¬ strB s k = 32 := fun e => h73 ((idx_str hbb s k).2 e)
  refine sx_skip ?_
  refine q_bn (q_n (k10 _ _ ?_))
  refine sx_region ?_
  refine mv rfl rfl (sp rfl (px_add rfl rfl (by omega)) ?_)
  refine av rfl rfl (wl_nil ?_)
  have q20 := Chg.step (l := w.heap.size) (h := ws3.heap.size) cwl7 c12 (by omega)
  have f21 := hs_s1.ext c12
  exact fun a ha => ⟨_, by omega, s1, os, (k + 1), f, ha.sub (Sub.c 0 rfl (.c 1 rfl (.c 5 rfl (.c 6 rfl (.c 7 (look_int (t := 7) rfl (by first | omega | simp)) .nil))))), q20, (f21.mono (by omega) (by omega)), rfl, by omega, by first | (rw [cutGo_yes hc, hos, hf]) | (rw [cutGo_no hc]; exact hos), by first | (rw [cutGo_yes hc]) | (rw [cutGo_no hc]; exact hf), by first | omega | (simp only [List.length_append, List.length_singleton]; omega)⟩
 refine sx_exit ?_
 refine q_e (q_e (q_bx (q_n (k5 _ _ ?_))))
 refine sx_seq fun K22 k22 => sx_region ?_
 refine mv rfl rfl (mv rfl rfl (mv rfl rfl (sp rfl (px_strFrom (l := f) rfl rfl (by omega) Tryd.underlying9 (by omega)) ?_)))
 refine sx_lit1 rfl xelt54 rfl rfl (fun s23 ws23 ss23 fs23 cs23 => ?_)
 have ns23 := Own.norm (f := Value.string) (zs := [s.extract f s.size]) fs23
 have zws23 := cs23.size
 have f25 := hs_s1.ext cs23
 refine sx_append rfl xelt54 rfl rfl f25 ns23.sv one_str (by omega) (by simp only [List.length_cons, List.length_nil]; omega) (by unfold maxLen; simp only [List.length_cons, List.length_nil]; omega) (fun a24 w24 fw24 cw24 => ?_)
 have nw24 := Own.app (f := Value.string) (a := os) (b := [s.extract f s.size]) fw24
 have zw24 := cw24.size
 refine av rfl rfl (wl_nil (q_n (k22 _ _ ?_)))
 refine sx_sub (Sub.c 4 rfl .nil) ?_
 refine sx_retc ?_
 refine sx_ret1 Tryd.results66 rfl ?_
 have ek : k = s.size := by omega
 subst ek
 have e : os ++ [s.extract f s.size] = cutT 32 s := by unfold cutT; rw [hos, hf]
 have hs := nw24
 rw [e] at hs
 have q26 := Chg.step (l := 0) (h := 0) (Chg.zero (l := 0) (h := 0) cs3) cwl7 (by omega)
 have q27 := Chg.step (l := 0) (h := 0) q26 cs23 (by omega)
 have q28 := Chg.step (l := 0) (h := 0) q27 cw24 (by omega)
 exact ⟨_, rfl, hs.mono (by omega) (by omega), q28⟩

theorem c_Join {w : World} {va : Value} {lva uva : Nat} {zs : List ByteArray} {bb : ByteArray} (hva : SlS w lva uva va (zs)) (hbb : bb = ⟨#[]⟩) (hj : (jnT zs).length ≤ 2000000 ∧ zs.length ≤ 2000000) :
  Ret Tryd.prog 102 [va, .string bb] w fun v w' => v = .string (bl (jnT zs)) ∧ Chg 0 0 w w' := by
 subst hbb
 have hjn := jn_join zs
 rcases hva.2 with ⟨h0, a, c, e⟩ | ⟨b, off, cap, cs, T, fz, e, ⟨h1, h1x⟩, h2, h3, h4⟩
 ·
  have ez : zs = [] := List.eq_nil_of_length_eq_zero h0
  subst ez; subst e
  have h := Any.strings_Join_none lays156 extraB2 a c ⟨#[]⟩ w
  exact Calls.mono h fun e w' ⟨he, hw⟩ => ⟨_, he, rfl, hw ▸ Chg.refl _ _ _⟩
 subst e
 have hb : b < w.heap.size := by
  rcases Nat.lt_or_ge b w.heap.size with h' | h'
  ·
   exact h'
  simp [Array.getElem?_eq_none h'] at h3
 have h := Any.strings_Join lays156 extraB2 b off cap zs ⟨#[]⟩ w (fun j x hx => by simp [World.cell?, h3, h4 j (.string x) (by simp [hx])]) hb (by omega) h1 (by show (Lib.join (zs.map fun s => s.data.toList) []).length ≤ _; rw [hjn]; omega)
 exact Calls.mono h fun e w' ⟨he, hq⟩ => ⟨_, he, congrArg (fun l => Value.string (bl l)) hjn, hq.os, hq.tape, hq.output, hq.size, fun i hi _ => hq.block i hi⟩

theorem c_iJoin {w : World} {va : Value} {lva uva : Nat} {zs : List ByteArray} {bb : ByteArray} (hva : SlS w lva uva va (zs)) (hbb : bb = ⟨#[]⟩) (hj : (jnT zs).length ≤ 2000000 ∧ zs.length ≤ 2000000) :
  Ret Tryd.prog 67 [va, .string bb] w fun v w' => v = .string (bl (jnT zs)) ∧ Chg 0 0 w w' := by
 have hva0 := hva.fit
 refine sx_enter Tryd.func67 rfl Tryd.ntmps67 (nbl rfl) ?_
 refine sx_seq fun K1 k1 => sx_region ?_
 refine av rfl rfl (wl_nil (q_n (k1 _ _ ?_)))
 refine sx_seq fun K2 k2 => sx_region ?_
 refine mv rfl rfl (mv rfl rfl (sx_call rfl rfl Tryd.call102 (c_Join hva0 (hbb) (hj)) (fun v3 w3 p3 => ?_)))
 obtain ⟨rfl, c3⟩ := p3
 have zw3 := c3.size
 refine av rfl rfl (wl_nil (q_n (k2 _ _ ?_)))
 refine sx_retc ?_
 refine sx_ret1 Tryd.results67 rfl ?_
 exact ⟨rfl, c3⟩

theorem c_isDigit {w : World} {b : Int} :
  Ret Tryd.prog 121 [.int .u8 b] w fun v w' => v = .bool (decide (48 ≤ b ∧ b ≤ 57)) ∧ Chg 0 0 w w' := by
 refine sx_enter Tryd.func121 rfl Tryd.ntmps121 (nbl rfl) ?_
 refine sx_seq fun K1 k1 => sx_region ?_
 refine av rfl rfl (wl_nil (q_n (k1 _ _ ?_)))
 refine sx_seq fun K2 k2 => sx_region ?_
 refine mv rfl rfl (sp rfl (px_ge rfl rfl) ?_)
 refine mv rfl rfl ?_
 refine sx_tmpP (t := 5) rfl (fun h24 => ?_) (fun h24 => ?_)
 ·
  refine sx_guardT rfl rfl rfl ?_
  refine mv rfl rfl ?_
  refine sx_guardT rfl rfl rfl ?_
  refine sp rfl (px_le rfl rfl) ?_
  refine sp rfl (px_pick rfl rfl) ?_
  refine av rfl rfl (wl_nil (q_n (k2 _ _ ?_)))
  refine sx_retc ?_
  refine sx_ret1 Tryd.results121 rfl ?_
  exact ⟨by simp [*], (Chg.refl 0 0 _)⟩
 refine sx_guardF rfl rfl rfl rfl rfl rfl ?_
 refine sx_guardF rfl rfl rfl rfl rfl rfl ?_
 refine sp rfl (px_pick rfl rfl) ?_
 refine av rfl rfl (wl_nil (q_n (k2 _ _ ?_)))
 refine sx_retc ?_
 refine sx_ret1 Tryd.results121 rfl ?_
 exact ⟨by simp [*], (Chg.refl 0 0 _)⟩

theorem c_iIsDigits {w : World} {s : ByteArray} (hs : s.size ≤ 1048576) :
  Ret Tryd.prog 103 [.string s] w fun v w' => v = .bool (dgK s) ∧ Chg 0 0 w w' := by
 refine sx_enter Tryd.func103 rfl Tryd.ntmps103 (nbl rfl) ?_
 refine sx_seq fun K1 k1 => sx_region ?_
 refine av rfl rfl (wl_nil (q_n (k1 _ _ ?_)))
 refine sx_seq fun K2 k2 => ?_
 refine sx_seq fun K3 k3 => sx_region ?_
 refine av rfl rfl (wl_nil (q_n (k3 _ _ ?_)))
 refine sx_block ?_
 refine sx_loop (fun mm aa w' => ∃ (k : Nat), Agr 17 [(0, .string s), (3, .int .i64 ↑k)] aa ∧ Chg 0 0 w w' ∧ (mm = s.size - k) ∧ (k ≤ s.size) ∧ (∀ j, j < k → 48 ≤ strB s j ∧ strB s j ≤ 57)) (_) (fun a ha => ⟨0, ha.sub (Sub.c 0 rfl (.c 3 (look_int (t := 3) rfl (by first | omega | simp)) .nil)), Chg.refl _ _ _, rfl, by omega, fun j hj => absurd hj (by omega)⟩) ?_
 rintro mm aa wl4 ⟨k, hAwl4, cwl4, hm, hk, hd⟩
 refine (show cw Tryd.prog 17 _ _ _ wl4 from ?_) aa hAwl4
 clear hAwl4
 have zwl4 := cwl4.size
 have hb8 := strB_range s k
 refine sx_seq fun K5 k5 => ?_
 refine sx_seq fun K6 k6 => sx_region ?_
 refine mv rfl rfl (mv rfl rfl (sp rfl (px_lenS rfl Tryd.underlying9) ?_))
 refine sp rfl (px_lt rfl rfl) ?_
 refine wl_nil (q_n (k6 _ _ ?_))
 refine sx_condP rfl (fun h31 => ?_) (fun h31 => ?_)
 ·
  refine sx_skip ?_
  refine q_n (k5 _ _ ?_)
  refine sx_seq fun K7 k7 => ?_
  refine sx_block ?_
  refine sx_seq fun K8 k8 => sx_region ?_
  refine mv rfl rfl (mv rfl rfl (sp rfl (px_indexS (j := k) rfl rfl (by omega) Tryd.underlying9 (by omega)) ?_))
  refine sx_call rfl rfl Tryd.call121 (c_isDigit) (fun v9 w9 p9 => ?_)
  obtain ⟨rfl, c9⟩ := p9
  have zw9 := c9.size
  refine sp rfl (px_notP rfl) ?_
  refine wl_nil (q_n (k8 _ _ ?_))
  refine sx_condP rfl (fun h32 => ?_) (fun h32 => ?_)
  ·
   refine sx_seq fun K10 k10 => sx_region ?_
   refine av rfl rfl (wl_nil (q_n (k10 _ _ ?_)))
   refine sx_retc ?_
   refine q_br (q_r (q_r (q_br (q_r (sx_ret1 Tryd.results103 rfl ?_)))))
   rw [dgK_no (j := k) (by omega) (by omega)]
   exact ⟨rfl, (cwl4.t c9)⟩
  refine sx_skip ?_
  refine q_bn (q_n (k7 _ _ ?_))
  refine sx_region ?_
  refine mv rfl rfl (sp rfl (px_add rfl rfl (by omega)) ?_)
  refine av rfl rfl (wl_nil ?_)
  exact fun a ha => ⟨_, by omega, (k + 1), ha.sub (Sub.c 0 rfl (.c 3 (look_int (t := 3) rfl (by first | omega | simp)) .nil)), (cwl4.t c9), rfl, by omega, fun j hj => by
   rcases Nat.lt_or_ge j k with hl | hl
   · exact hd j hl
   · rw [show j = k by omega]; omega⟩
 refine sx_exit ?_
 refine q_e (q_e (q_bx (q_n (k2 _ _ ?_))))
 refine sx_seq fun K11 k11 => sx_region ?_
 refine mv rfl rfl (sp rfl (px_neS rfl rfl) ?_)
 refine av rfl rfl (wl_nil (q_n (k11 _ _ ?_)))
 refine sx_retc ?_
 refine sx_ret1 Tryd.results103 rfl ?_
 rw [dgK_end (fun j hj => hd j (by omega))]
 exact ⟨congrArg Value.bool (sz_ne s), cwl4⟩

theorem c_trim {w : World} {va : Value} {lva uva : Nat} {zs : List Int} (hva : OwnI w lva uva va intT (zs)) (hz : Lm zs) (h63 : zs.length ≤ 1000000) :
  Ret Tryd.prog 104 [va] w fun v w' => ∃ s, v = s ∧ OwnI w' (lva) (uva) s intT (dg (vl zs)) ∧ Chg 0 0 w w' := by
 refine sx_enter Tryd.func104 rfl Tryd.ntmps104 (nbl rfl) ?_
 refine sx_seq fun K1 k1 => sx_region ?_
 refine av rfl rfl (wl_nil (q_n (k1 _ _ ?_)))
 refine sx_seq fun K2 k2 => ?_
 refine sx_block ?_
 refine sx_loop (fun mm aa w' => ∃ (k : Nat) (s : Value), Agr 21 [(0, s)] aa ∧ Chg 0 0 w w' ∧ Own w' lva uva s intT ((zs.take k).length) 1 ((zs.take k).map (Value.int .i64)) ∧ (mm = k) ∧ (k ≤ zs.length) ∧ (vl (zs.take k) = vl zs)) (_) (fun a ha => ⟨zs.length, va, ha.sub (Sub.c 0 rfl .nil), Chg.refl _ _ _, (by rw [List.take_length]; exact hva), rfl, by omega, vl_take_all zs⟩) ?_
 rintro mm aa wl3 ⟨k, s, hAwl3, cwl3, hs_s, hm, hk, hv⟩
 refine (show cw Tryd.prog 21 _ _ _ wl3 from ?_) aa hAwl3
 clear hAwl3
 have zwl3 := cwl3.size
 have hlt : (zs.take k).length = k := by rw [List.length_take]; omega
 refine sx_seq fun K4 k4 => ?_
 refine sx_seq fun K5 k5 => sx_region ?_
 refine mv rfl rfl (sp rfl (px_len rfl Tryd.underlying22 hs_s.sv) ?_)
 refine sp rfl (px_gt rfl rfl) ?_
 refine mv rfl rfl ?_
 refine sx_tmpP (t := 6) rfl (fun h29 => ?_) (fun h29 => ?_)
 ·
  refine sx_guardT rfl rfl rfl ?_
  refine mv rfl rfl ?_
  refine sx_guardT rfl rfl rfl ?_
  refine mv rfl rfl ?_
  refine sx_guardT rfl rfl rfl ?_
  refine sp rfl (px_len rfl Tryd.underlying22 hs_s.sv) ?_
  refine sx_guardT rfl rfl rfl ?_
  refine sp rfl (px_sub rfl rfl (by omega)) ?_
  refine sx_guardT rfl rfl rfl ?_
  refine sp rfl (px_index1 (j := (k - 1)) rfl rfl (by omega) Tryd.underlying22 Tryd.sizeOf3 hs_s.sv (by omega)) ?_
  refine sx_guardT rfl rfl rfl ?_
  refine sp rfl (px_load rfl (hs_s.sv.load1 (at_int (by omega)) Tryd.isAgg3)) ?_
  refine sx_guardT rfl rfl rfl ?_
  refine sp rfl (px_eq rfl rfl) ?_
  refine sp rfl (px_pick rfl rfl) ?_
  refine wl_nil (q_n (k5 _ _ ?_))
  refine sx_condP rfl (fun h29x1 => ?_) (fun h29x1 => ?_)
  ·
   refine sx_skip ?_
   refine q_n (k4 _ _ ?_)
   refine sx_block ?_
   refine sx_region ?_
   refine mv rfl rfl (mv rfl rfl (sp rfl (px_len rfl Tryd.underlying22 hs_s.sv) ?_))
   refine sp rfl (px_sub rfl rfl (by omega)) ?_
   refine sp rfl (px_sliceTo (h := (k - 1)) rfl rfl (by omega) Tryd.underlying22 Tryd.sizeOf3 hs_s.sv (by omega)) ?_
   refine av rfl rfl (wl_nil ?_)
   exact q_bn (fun a ha => ⟨_, by omega, (k - 1), (vtake s (k - 1)), ha.sub (Sub.c 0 rfl .nil), cwl3, (by have hh := (Own.takeI hs_s (h := (k - 1)) (by omega)); rwa [List.take_take, Nat.min_eq_left (by omega)] at hh), rfl, by omega, trim_step (by omega) hk h29x1 hv⟩)
  refine sx_exit ?_
  refine q_e (q_e (q_bx (q_n (k2 _ _ ?_))))
  refine sx_seq fun K6 k6 => sx_region ?_
  refine mv rfl rfl (av rfl rfl (wl_nil (q_n (k6 _ _ ?_))))
  refine sx_sub (Sub.c 2 rfl .nil) ?_
  refine sx_retc ?_
  refine sx_ret1 Tryd.results104 rfl ?_
  have hd := trim_done hz hk hv (by first | exact .inl (by omega) | exact .inr (by assumption))
  rw [← hd]
  exact ⟨_, rfl, hs_s, cwl3⟩
 refine sx_guardF rfl rfl rfl rfl rfl rfl ?_
 refine sx_guardF rfl rfl rfl rfl rfl rfl ?_
 refine sx_guardF rfl rfl rfl rfl rfl rfl ?_
 refine sx_guardF rfl rfl rfl rfl rfl rfl ?_
 refine sx_guardF rfl rfl rfl rfl rfl rfl ?_
 refine sx_guardF rfl rfl rfl rfl rfl rfl ?_
 refine sx_guardF rfl rfl rfl rfl rfl rfl ?_
 refine sp rfl (px_pick rfl rfl) ?_
 refine wl_nil (q_n (k5 _ _ ?_))
 refine sx_condF rfl ?_
 refine sx_exit ?_
 refine q_e (q_e (q_bx (q_n (k2 _ _ ?_))))
 refine sx_seq fun K7 k7 => sx_region ?_
 refine mv rfl rfl (av rfl rfl (wl_nil (q_n (k7 _ _ ?_))))
 refine sx_sub (Sub.c 2 rfl .nil) ?_
 refine sx_retc ?_
 refine sx_ret1 Tryd.results104 rfl ?_
 have hd := trim_done hz hk hv (by first | exact .inl (by omega) | exact .inr (by assumption))
 rw [← hd]
 exact ⟨_, rfl, hs_s, cwl3⟩

theorem c_iTextNat {w : World} {s : ByteArray} (hs : s.size ≤ 1048576) :
  Ret Tryd.prog 68 [.string s] w fun v w' => ∃ x, v = .tuple #[x, .bool (tnK s)] ∧ OwnI w' w.heap.size w'.heap.size x intT (dg (tnV s)) ∧ Chg 0 0 w w' := by
 refine sx_enter Tryd.func68 rfl Tryd.ntmps68 (nbl rfl) ?_
 refine sx_seq fun K1 k1 => sx_region ?_
 refine av rfl rfl (av rfl rfl (wl_nil (q_n (k1 _ _ ?_))))
 refine sx_seq fun K2 k2 => ?_
 refine sx_seq fun K3 k3 => sx_region ?_
 refine mv rfl rfl (sx_call rfl rfl Tryd.call103 (c_iIsDigits (by omega)) (fun v4 w4 p4 => ?_))
 obtain ⟨rfl, c4⟩ := p4
 have zw4 := c4.size
 refine sp rfl (px_not rfl) ?_
 refine mv rfl rfl ?_
 refine sx_tmpB (t := 12) rfl (fun h210 => ?_) (fun h210 => ?_)
 ·
  refine sx_guardF rfl rfl rfl rfl rfl rfl ?_
  refine sx_guardF rfl rfl rfl rfl rfl rfl ?_
  refine sx_guardF rfl rfl rfl rfl rfl rfl ?_
  refine sp rfl (px_pick rfl rfl) ?_
  refine mv rfl rfl ?_
  refine sx_guardF rfl rfl rfl rfl rfl rfl ?_
  refine sx_guardF rfl rfl rfl rfl rfl rfl ?_
  refine sx_guardF rfl rfl rfl rfl rfl rfl ?_
  refine sx_guardF rfl rfl rfl rfl rfl rfl ?_
  refine sx_guardFU rfl rfl rfl rfl rfl ?_
  refine sx_guardFU rfl rfl rfl rfl rfl ?_
  refine sx_guardFU rfl rfl rfl rfl rfl ?_
  refine sx_guardF rfl rfl rfl rfl rfl rfl ?_
  refine sp rfl (px_pick rfl rfl) ?_
  refine wl_nil (q_n (k3 _ _ ?_))
  refine sx_sub (Sub.c 0 rfl (.c 2 rfl (.c 3 rfl (.c 26 rfl .nil)))) ?_
  refine sx_condT rfl ?_
  refine sx_seq fun K5 k5 => sx_region ?_
  refine av rfl rfl (av rfl rfl (wl_nil (q_n (k5 _ _ ?_))))
  refine sx_retc ?_
  refine q_r (sx_ret2 Tryd.results68 rfl rfl ?_)
  have hK : tnK s = false := tnK_no (by rintro ⟨a, b, c⟩; rcases Nat.lt_or_ge 1 s.size with h1 | h1 <;> (first | (have := c h1; omega) | omega | simp_all))
  rw [tnV_no hK, hK, dg_zero]
  exact ⟨_, rfl, Own.nil _ _ _ _ _, c4⟩
 have hdk : dgK s = true := by simpa using h210
 have hdg := dgK_yes hdk
 have hD := hdg.1
 refine sx_guardT rfl rfl rfl ?_
 refine mv rfl rfl ?_
 refine sx_guardT rfl rfl rfl ?_
 refine sp rfl (px_lenS rfl Tryd.underlying9) ?_
 refine sx_guardT rfl rfl rfl ?_
 refine sp rfl (px_gt rfl rfl) ?_
 refine sp rfl (px_pick rfl rfl) ?_
 refine mv rfl rfl ?_
 refine sx_tmpP (t := 17) rfl (fun h210x1 => ?_) (fun h210x1 => ?_)
 ·
  refine sx_guardF rfl rfl rfl rfl rfl rfl ?_
  refine sx_guardF rfl rfl rfl rfl rfl rfl ?_
  refine sx_guardF rfl rfl rfl rfl rfl rfl ?_
  refine sx_guardF rfl rfl rfl rfl rfl rfl ?_
  refine sx_guardFU rfl rfl rfl rfl rfl ?_
  refine sx_guardFU rfl rfl rfl rfl rfl ?_
  refine sx_guardFU rfl rfl rfl rfl rfl ?_
  refine sx_guardF rfl rfl rfl rfl rfl rfl ?_
  refine sp rfl (px_pick rfl rfl) ?_
  refine wl_nil (q_n (k3 _ _ ?_))
  refine sx_sub (Sub.c 0 rfl (.c 2 rfl (.c 3 rfl (.c 26 rfl .nil)))) ?_
  refine sx_condT rfl ?_
  refine sx_seq fun K6 k6 => sx_region ?_
  refine av rfl rfl (av rfl rfl (wl_nil (q_n (k6 _ _ ?_))))
  refine sx_retc ?_
  refine q_r (sx_ret2 Tryd.results68 rfl rfl ?_)
  have hK : tnK s = false := tnK_no (by rintro ⟨a, b, c⟩; rcases Nat.lt_or_ge 1 s.size with h1 | h1 <;> (first | (have := c h1; omega) | omega | simp_all))
  rw [tnV_no hK, hK, dg_zero]
  exact ⟨_, rfl, Own.nil _ _ _ _ _, c4⟩
 refine sx_guardT rfl rfl rfl ?_
 refine mv rfl rfl ?_
 refine sx_guardT rfl rfl rfl ?_
 refine sp rfl (px_indexS (j := 0) rfl rfl (by omega) Tryd.underlying9 (by omega)) ?_
 refine sx_guardT rfl rfl rfl ?_
 refine sp rfl (px_eq rfl rfl) ?_
 refine sx_guardT rfl rfl rfl ?_
 refine mv rfl rfl ?_
 refine sx_tmpP (t := 21) rfl (fun h210x2 => ?_) (fun h210x2 => ?_)
 ·
  refine sx_guardT rfl rfl rfl ?_
  refine mv rfl rfl ?_
  refine sx_guardT rfl rfl rfl ?_
  refine sp rfl (px_lenS rfl Tryd.underlying9) ?_
  refine sx_guardT rfl rfl rfl ?_
  refine sp rfl (px_gt rfl rfl) ?_
  refine sx_guardT rfl rfl rfl ?_
  refine sp rfl (px_pick rfl rfl) ?_
  refine sp rfl (px_pick rfl rfl) ?_
  refine wl_nil (q_n (k3 _ _ ?_))
  refine sx_sub (Sub.c 0 rfl (.c 2 rfl (.c 3 rfl (.c 26 rfl .nil)))) ?_
  refine sx_condP rfl (fun h210x3 => ?_) (fun h210x3 => ?_)
  ·
   refine sx_seq fun K7 k7 => sx_region ?_
   refine av rfl rfl (av rfl rfl (wl_nil (q_n (k7 _ _ ?_))))
   refine sx_retc ?_
   refine q_r (sx_ret2 Tryd.results68 rfl rfl ?_)
   have hK : tnK s = false := tnK_no (by rintro ⟨a, b, c⟩; rcases Nat.lt_or_ge 1 s.size with h1 | h1 <;> (first | (have := c h1; omega) | omega | simp_all))
   rw [tnV_no hK, hK, dg_zero]
   exact ⟨_, rfl, Own.nil _ _ _ _ _, c4⟩
  refine sx_skip ?_
  refine q_n (k2 _ _ ?_)
  refine sx_seq fun K8 k8 => sx_region ?_
  refine sx_lit0 rfl xelt22 (fun s9 ws9 ss9 fs9 cs9 => ?_)
  have zws9 := cs9.size
  refine av rfl rfl (wl_nil (q_n (k8 _ _ ?_)))
  refine sx_seq fun K10 k10 => ?_
  refine sx_seq fun K11 k11 => sx_region ?_
  refine mv rfl rfl (sp rfl (px_lenS rfl Tryd.underlying9) ?_)
  refine av rfl rfl (wl_nil (q_n (k11 _ _ ?_)))
  refine sx_block ?_
  refine sx_loop (fun mm aa w' => ∃ (s1 : Value) (os : List Int) (k : Nat), Agr 59 [(0, .string s), (4, s1), (5, .int .i64 (↑s.size - 9 * (k : Int)))] aa ∧ Chg w4.heap.size ws9.heap.size ws9 w' ∧ Own w' w4.heap.size w'.heap.size s1 intT os.length 1 (os.map (Value.int .i64)) ∧ (mm = s.size + 9 - 9 * k) ∧ (os.length = k) ∧ (Lm os) ∧ (9 * k ≤ s.size + 8) ∧ (vl os + Bs ^ k * dval (s.data.toList.take (s.size - 9 * k)) = dval s.data.toList)) (_) (fun a ha => ⟨s9, [], 0, ha.sub (Sub.c 0 rfl (.c 4 rfl (.c 5 (look_int (t := 5) rfl (by first | omega | (simp; done) | simp [dval])) .nil))), Chg.refl _ _ _, (fs9.mono (by omega) (by omega)), rfl, rfl, Lm.nil, by omega, by rw [show s.size - 9 * 0 = s.data.toList.length by rw [sz_list]; omega, List.take_length]; simp [vl]⟩) ?_
  rintro mm aa wl12 ⟨s1, os, k, hAwl12, cwl12, hs_s1, hm, hos, hlm, hk, hv⟩
  refine (show cw Tryd.prog 59 _ _ _ wl12 from ?_) aa hAwl12
  clear hAwl12
  have zwl12 := cwl12.size
  refine sx_seq fun K13 k13 => ?_
  refine sx_seq fun K14 k14 => sx_region ?_
  refine mv rfl rfl (sp rfl (px_gt rfl rfl) ?_)
  refine wl_nil (q_n (k14 _ _ ?_))
  refine sx_condP rfl (fun h214 => ?_) (fun h214 => ?_)
  ·
   refine sx_skip ?_
   refine q_n (k13 _ _ ?_)
   refine sx_seq fun K15 k15 => ?_
   refine sx_block ?_
   refine sx_seq fun K16 k16 => sx_region ?_
   refine av rfl rfl (wl_nil (q_n (k16 _ _ ?_)))
   refine sx_seq fun K17 k17 => ?_
   refine sx_seq fun K18 k18 => sx_region ?_
   refine mv rfl rfl (mv rfl rfl (sp rfl (px_sub rfl rfl (by omega)) ?_))
   refine sp rfl (px_max rfl rfl) ?_
   refine mv rfl rfl (sp rfl (px_strMid (l := (s.size - 9 * k - 9)) (h := (s.size - 9 * k)) rfl rfl rfl (by omega) (by omega) Tryd.underlying9 (by omega) (by omega)) ?_)
   refine sx_convSB rfl Tryd.underlying9 Tryd.underlying40 Tryd.underlying5 rfl (fun s19 ws19 ss19 fs19 cs19 => ?_)
   have zws19 := cs19.size
   refine sp rfl (px_len rfl Tryd.underlying40 fs19) ?_
   refine mv rfl rfl (wl_nil (q_n (k18 _ _ ?_)))
   refine sx_sub (Sub.c 0 rfl (.c 4 rfl (.c 5 rfl (.c 6 rfl (.c 40 rfl (.c 41 rfl (.c 42 rfl .nil))))))) ?_
   refine sx_block ?_
   have hpl := strBs_plen (s := s) (f := (s.size - 9 * k - 9)) (e := (s.size - 9 * k)) (by omega) (by omega)
   refine sx_loop (fun mm aa w' => ∃ (j : Nat), Agr 59 [(0, .string s), (4, s1), (5, .int .i64 (↑s.size - 9 * (k : Int))), (6, .int .i64 ((dval ((s.data.toList.drop (s.size - 9 * k - 9)).take j) : Nat) : Int)), (40, s19), (41, .int .i64 (↑((strBs (s.extract (s.size - 9 * k - 9) (s.size - 9 * k))).length))), (42, .int .i64 ↑j)] aa ∧ Chg 0 0 ws19 w' ∧ (mm = s.size - 9 * k - ((s.size - 9 * k - 9) + j)) ∧ ((s.size - 9 * k - 9) + j ≤ s.size - 9 * k)) (_) (fun a ha => ⟨0, ha.sub (Sub.c 0 rfl (.c 4 rfl (.c 5 rfl (.c 6 (look_int (t := 6) rfl (by first | omega | (simp; done) | simp [dval])) (.c 40 rfl (.c 41 rfl (.c 42 (look_int (t := 42) rfl (by first | omega | (simp; done) | simp [dval])) .nil))))))), Chg.refl _ _ _, rfl, by omega⟩) ?_
   rintro mm aa wl20 ⟨j, hAwl20, cwl20, hm, hj⟩
   refine (show cw Tryd.prog 59 _ _ _ wl20 from ?_) aa hAwl20
   clear hAwl20
   have zwl20 := cwl20.size
   have hn9 := dval9 hD (s.size - 9 * k - 9) j (by omega)
   refine sx_seq fun K21 k21 => sx_region ?_
   refine sp rfl (px_lt rfl rfl) ?_
   refine wl_nil (q_n (k21 _ _ ?_))
   refine sx_seq fun K22 k22 => ?_
   refine sx_condP rfl (fun h216 => ?_) (fun h216 => ?_)
   ·
    have hpt := strBs_part (s := s) (f := (s.size - 9 * k - 9)) (e := (s.size - 9 * k)) (j := j) (by omega) (by omega)
    have hb8 := dgs_at hD (j := (s.size - 9 * k - 9) + j) (by omega)
    have hbs := dval_byte hD (f := (s.size - 9 * k - 9)) (j := j) (by omega)
    refine sx_skip ?_
    refine q_n (k22 _ _ ?_)
    refine sx_seq fun K23 k23 => ?_
    refine sx_block ?_
    refine sx_seq fun K24 k24 => sx_region ?_
    have f25 := fs19.ext cwl20
    refine sp rfl (px_index1 (j := j) rfl rfl (by omega) Tryd.underlying40 Tryd.sizeOf5 f25 (by omega)) ?_
    refine sp rfl (px_load rfl (f25.load1 (at_u8 (by omega)) Tryd.isAgg5)) ?_
    refine av rfl rfl (wl_nil (q_n (k24 _ _ ?_)))
    refine sx_region ?_
    refine mv rfl rfl (sp rfl (px_mul rfl rfl (by omega)) ?_)
    refine mv rfl rfl (sp rfl (px_subU8 rfl rfl (by omega)) ?_)
    refine sp rfl (px_conv8 Tryd.underlying5 Tryd.underlying3 rfl (by omega)) ?_
    refine sp rfl (px_add rfl rfl (by omega)) ?_
    refine av rfl rfl (wl_nil ?_)
    refine q_bn (q_n (k23 _ _ ?_))
    refine sx_sub (Sub.c 0 rfl (.c 4 rfl (.c 5 rfl (.c 6 rfl (.c 40 rfl (.c 41 rfl (.c 42 rfl .nil))))))) ?_
    refine sx_region ?_
    refine sp rfl (px_add rfl rfl (by omega)) ?_
    refine mv rfl rfl (wl_nil ?_)
    exact fun a ha => ⟨_, by omega, (j + 1), ha.sub (Sub.c 0 rfl (.c 4 rfl (.c 5 rfl (.c 6 (look_int (t := 6) rfl (by first | omega | (simp; done) | simp [dval])) (.c 40 rfl (.c 41 rfl (.c 42 (look_int (t := 42) rfl (by first | omega | (simp; done) | simp [dval])) .nil))))))), cwl20, rfl, by omega⟩
   refine sx_exit ?_
   refine q_e (q_e (q_bx (q_n (k17 _ _ ?_))))
   refine sx_region ?_
   refine mv rfl rfl (mv rfl rfl ?_)
   refine sx_lit1 rfl xelt22 rfl rfl (fun s26 ws26 ss26 fs26 cs26 => ?_)
   have ns26 := Own.norm (f := (Value.int .i64)) (zs := [((dval ((s.data.toList.drop (s.size - 9 * k - 9)).take j) : Nat) : Int)]) fs26
   have zws26 := cs26.size
   have f28 := hs_s1.ext cs19
   have f29 := f28.ext cwl20
   have f30 := f29.ext cs26
   refine sx_append rfl xelt22 rfl rfl f30 ns26.sv one_int (by omega) (by simp only [List.length_cons, List.length_nil]; omega) (by unfold maxLen; simp only [List.length_cons, List.length_nil]; omega) (fun a27 w27 fw27 cw27 => ?_)
   have nw27 := Own.app (f := (Value.int .i64)) (a := os) (b := [((dval ((s.data.toList.drop (s.size - 9 * k - 9)).take j) : Nat) : Int)]) fw27
   have zw27 := cw27.size
   refine av rfl rfl (wl_nil ?_)
   refine q_bn (q_n (k15 _ _ ?_))
   refine sx_region ?_
   refine mv rfl rfl (sp rfl (px_sub rfl rfl (by omega)) ?_)
   refine av rfl rfl (wl_nil ?_)
   have q31 := Chg.step (l := w4.heap.size) (h := ws9.heap.size) cwl12 ((cs19.t cwl20).t cs26) (by omega)
   have q32 := Chg.step (l := w4.heap.size) (h := ws9.heap.size) q31 cw27 (by omega)
   have hX := dval9 hD (s.size - 9 * k - 9) j (by omega)
   exact fun a ha => ⟨_, by omega, a27, (os ++ ([((dval ((s.data.toList.drop (s.size - 9 * k - 9)).take j) : Nat) : Int)])), (k + 1), ha.sub (Sub.c 0 rfl (.c 4 rfl (.c 5 (look_int (t := 5) rfl (by first | omega | (simp; done) | simp [dval])) .nil))), q32, (nw27.mono (by omega) (by omega)), rfl, by simp [hos], hlm.append (Lm.single (by omega) (by omega)), by omega, limbs_next hos rfl (by omega) (by omega) hv⟩
  refine sx_exit ?_
  refine q_e (q_e (q_bx (q_n (k10 _ _ ?_))))
  refine sx_seq fun K33 k33 => sx_region ?_
  refine mv rfl rfl (sx_call rfl rfl Tryd.call104 (c_trim hs_s1 (hlm) (by first | omega | (simp only [List.length_append, List.length_set, List.length_replicate, List.length_cons, List.length_nil] at *; omega))) (fun v34 w34 p34 => ?_))
  obtain ⟨s34, rfl, os_34, c34⟩ := p34
  have zw34 := c34.size
  refine av rfl rfl (av rfl rfl (wl_nil (q_n (k33 _ _ ?_))))
  refine sx_retc ?_
  refine sx_ret2 Tryd.results68 rfl rfl ?_
  have hvl := limbs_end (by omega) hv
  have hK : tnK s = true := tnK_ok hdk (by omega) (by omega)
  rw [tnV_ok hK, hK, ← hvl]
  have q35 := Chg.step (l := 0) (h := 0) (Chg.zero (l := 0) (h := 0) (c4.t cs9)) cwl12 (by omega)
  have q36 := Chg.step (l := 0) (h := 0) q35 c34 (by omega)
  exact ⟨_, rfl, (Own.mono os_34 (by omega) (by omega)), q36⟩
 refine sx_guardF rfl rfl rfl rfl rfl rfl ?_
 refine sx_guardF rfl rfl rfl rfl rfl rfl ?_
 refine sx_guardF rfl rfl rfl rfl rfl rfl ?_
 refine sx_guardT rfl rfl rfl ?_
 refine sp rfl (px_pick rfl rfl) ?_
 refine sp rfl (px_pick rfl rfl) ?_
 refine wl_nil (q_n (k3 _ _ ?_))
 refine sx_sub (Sub.c 0 rfl (.c 2 rfl (.c 3 rfl (.c 26 rfl .nil)))) ?_
 refine sx_condF rfl ?_
 refine sx_skip ?_
 refine q_n (k2 _ _ ?_)
 refine sx_seq fun K37 k37 => sx_region ?_
 refine sx_lit0 rfl xelt22 (fun s38 ws38 ss38 fs38 cs38 => ?_)
 have zws38 := cs38.size
 refine av rfl rfl (wl_nil (q_n (k37 _ _ ?_)))
 refine sx_seq fun K39 k39 => ?_
 refine sx_seq fun K40 k40 => sx_region ?_
 refine mv rfl rfl (sp rfl (px_lenS rfl Tryd.underlying9) ?_)
 refine av rfl rfl (wl_nil (q_n (k40 _ _ ?_)))
 refine sx_block ?_
 refine sx_loop (fun mm aa w' => ∃ (s1 : Value) (os : List Int) (k : Nat), Agr 59 [(0, .string s), (4, s1), (5, .int .i64 (↑s.size - 9 * (k : Int)))] aa ∧ Chg w4.heap.size ws38.heap.size ws38 w' ∧ Own w' w4.heap.size w'.heap.size s1 intT os.length 1 (os.map (Value.int .i64)) ∧ (mm = s.size + 9 - 9 * k) ∧ (os.length = k) ∧ (Lm os) ∧ (9 * k ≤ s.size + 8) ∧ (vl os + Bs ^ k * dval (s.data.toList.take (s.size - 9 * k)) = dval s.data.toList)) (_) (fun a ha => ⟨s38, [], 0, ha.sub (Sub.c 0 rfl (.c 4 rfl (.c 5 (look_int (t := 5) rfl (by first | omega | (simp; done) | simp [dval])) .nil))), Chg.refl _ _ _, (fs38.mono (by omega) (by omega)), rfl, rfl, Lm.nil, by omega, by rw [show s.size - 9 * 0 = s.data.toList.length by rw [sz_list]; omega, List.take_length]; simp [vl]⟩) ?_
 rintro mm aa wl41 ⟨s1, os, k, hAwl41, cwl41, hs_s1, hm, hos, hlm, hk, hv⟩
 refine (show cw Tryd.prog 59 _ _ _ wl41 from ?_) aa hAwl41
 clear hAwl41
 have zwl41 := cwl41.size
 refine sx_seq fun K42 k42 => ?_
 refine sx_seq fun K43 k43 => sx_region ?_
 refine mv rfl rfl (sp rfl (px_gt rfl rfl) ?_)
 refine wl_nil (q_n (k43 _ _ ?_))
 refine sx_condP rfl (fun h214 => ?_) (fun h214 => ?_)
 ·
  refine sx_skip ?_
  refine q_n (k42 _ _ ?_)
  refine sx_seq fun K44 k44 => ?_
  refine sx_block ?_
  refine sx_seq fun K45 k45 => sx_region ?_
  refine av rfl rfl (wl_nil (q_n (k45 _ _ ?_)))
  refine sx_seq fun K46 k46 => ?_
  refine sx_seq fun K47 k47 => sx_region ?_
  refine mv rfl rfl (mv rfl rfl (sp rfl (px_sub rfl rfl (by omega)) ?_))
  refine sp rfl (px_max rfl rfl) ?_
  refine mv rfl rfl (sp rfl (px_strMid (l := (s.size - 9 * k - 9)) (h := (s.size - 9 * k)) rfl rfl rfl (by omega) (by omega) Tryd.underlying9 (by omega) (by omega)) ?_)
  refine sx_convSB rfl Tryd.underlying9 Tryd.underlying40 Tryd.underlying5 rfl (fun s48 ws48 ss48 fs48 cs48 => ?_)
  have zws48 := cs48.size
  refine sp rfl (px_len rfl Tryd.underlying40 fs48) ?_
  refine mv rfl rfl (wl_nil (q_n (k47 _ _ ?_)))
  refine sx_sub (Sub.c 0 rfl (.c 4 rfl (.c 5 rfl (.c 6 rfl (.c 40 rfl (.c 41 rfl (.c 42 rfl .nil))))))) ?_
  refine sx_block ?_
  have hpl := strBs_plen (s := s) (f := (s.size - 9 * k - 9)) (e := (s.size - 9 * k)) (by omega) (by omega)
  refine sx_loop (fun mm aa w' => ∃ (j : Nat), Agr 59 [(0, .string s), (4, s1), (5, .int .i64 (↑s.size - 9 * (k : Int))), (6, .int .i64 ((dval ((s.data.toList.drop (s.size - 9 * k - 9)).take j) : Nat) : Int)), (40, s48), (41, .int .i64 (↑((strBs (s.extract (s.size - 9 * k - 9) (s.size - 9 * k))).length))), (42, .int .i64 ↑j)] aa ∧ Chg 0 0 ws48 w' ∧ (mm = s.size - 9 * k - ((s.size - 9 * k - 9) + j)) ∧ ((s.size - 9 * k - 9) + j ≤ s.size - 9 * k)) (_) (fun a ha => ⟨0, ha.sub (Sub.c 0 rfl (.c 4 rfl (.c 5 rfl (.c 6 (look_int (t := 6) rfl (by first | omega | (simp; done) | simp [dval])) (.c 40 rfl (.c 41 rfl (.c 42 (look_int (t := 42) rfl (by first | omega | (simp; done) | simp [dval])) .nil))))))), Chg.refl _ _ _, rfl, by omega⟩) ?_
  rintro mm aa wl49 ⟨j, hAwl49, cwl49, hm, hj⟩
  refine (show cw Tryd.prog 59 _ _ _ wl49 from ?_) aa hAwl49
  clear hAwl49
  have zwl49 := cwl49.size
  have hn9 := dval9 hD (s.size - 9 * k - 9) j (by omega)
  refine sx_seq fun K50 k50 => sx_region ?_
  refine sp rfl (px_lt rfl rfl) ?_
  refine wl_nil (q_n (k50 _ _ ?_))
  refine sx_seq fun K51 k51 => ?_
  refine sx_condP rfl (fun h216 => ?_) (fun h216 => ?_)
  ·
   have hpt := strBs_part (s := s) (f := (s.size - 9 * k - 9)) (e := (s.size - 9 * k)) (j := j) (by omega) (by omega)
   have hb8 := dgs_at hD (j := (s.size - 9 * k - 9) + j) (by omega)
   have hbs := dval_byte hD (f := (s.size - 9 * k - 9)) (j := j) (by omega)
   refine sx_skip ?_
   refine q_n (k51 _ _ ?_)
   refine sx_seq fun K52 k52 => ?_
   refine sx_block ?_
   refine sx_seq fun K53 k53 => sx_region ?_
   have f54 := fs48.ext cwl49
   refine sp rfl (px_index1 (j := j) rfl rfl (by omega) Tryd.underlying40 Tryd.sizeOf5 f54 (by omega)) ?_
   refine sp rfl (px_load rfl (f54.load1 (at_u8 (by omega)) Tryd.isAgg5)) ?_
   refine av rfl rfl (wl_nil (q_n (k53 _ _ ?_)))
   refine sx_region ?_
   refine mv rfl rfl (sp rfl (px_mul rfl rfl (by omega)) ?_)
   refine mv rfl rfl (sp rfl (px_subU8 rfl rfl (by omega)) ?_)
   refine sp rfl (px_conv8 Tryd.underlying5 Tryd.underlying3 rfl (by omega)) ?_
   refine sp rfl (px_add rfl rfl (by omega)) ?_
   refine av rfl rfl (wl_nil ?_)
   refine q_bn (q_n (k52 _ _ ?_))
   refine sx_sub (Sub.c 0 rfl (.c 4 rfl (.c 5 rfl (.c 6 rfl (.c 40 rfl (.c 41 rfl (.c 42 rfl .nil))))))) ?_
   refine sx_region ?_
   refine sp rfl (px_add rfl rfl (by omega)) ?_
   refine mv rfl rfl (wl_nil ?_)
   exact fun a ha => ⟨_, by omega, (j + 1), ha.sub (Sub.c 0 rfl (.c 4 rfl (.c 5 rfl (.c 6 (look_int (t := 6) rfl (by first | omega | (simp; done) | simp [dval])) (.c 40 rfl (.c 41 rfl (.c 42 (look_int (t := 42) rfl (by first | omega | (simp; done) | simp [dval])) .nil))))))), cwl49, rfl, by omega⟩
  refine sx_exit ?_
  refine q_e (q_e (q_bx (q_n (k46 _ _ ?_))))
  refine sx_region ?_
  refine mv rfl rfl (mv rfl rfl ?_)
  refine sx_lit1 rfl xelt22 rfl rfl (fun s55 ws55 ss55 fs55 cs55 => ?_)
  have ns55 := Own.norm (f := (Value.int .i64)) (zs := [((dval ((s.data.toList.drop (s.size - 9 * k - 9)).take j) : Nat) : Int)]) fs55
  have zws55 := cs55.size
  have f57 := hs_s1.ext cs48
  have f58 := f57.ext cwl49
  have f59 := f58.ext cs55
  refine sx_append rfl xelt22 rfl rfl f59 ns55.sv one_int (by omega) (by simp only [List.length_cons, List.length_nil]; omega) (by unfold maxLen; simp only [List.length_cons, List.length_nil]; omega) (fun a56 w56 fw56 cw56 => ?_)
  have nw56 := Own.app (f := (Value.int .i64)) (a := os) (b := [((dval ((s.data.toList.drop (s.size - 9 * k - 9)).take j) : Nat) : Int)]) fw56
  have zw56 := cw56.size
  refine av rfl rfl (wl_nil ?_)
  refine q_bn (q_n (k44 _ _ ?_))
  refine sx_region ?_
  refine mv rfl rfl (sp rfl (px_sub rfl rfl (by omega)) ?_)
  refine av rfl rfl (wl_nil ?_)
  have q60 := Chg.step (l := w4.heap.size) (h := ws38.heap.size) cwl41 ((cs48.t cwl49).t cs55) (by omega)
  have q61 := Chg.step (l := w4.heap.size) (h := ws38.heap.size) q60 cw56 (by omega)
  have hX := dval9 hD (s.size - 9 * k - 9) j (by omega)
  exact fun a ha => ⟨_, by omega, a56, (os ++ ([((dval ((s.data.toList.drop (s.size - 9 * k - 9)).take j) : Nat) : Int)])), (k + 1), ha.sub (Sub.c 0 rfl (.c 4 rfl (.c 5 (look_int (t := 5) rfl (by first | omega | (simp; done) | simp [dval])) .nil))), q61, (nw56.mono (by omega) (by omega)), rfl, by simp [hos], hlm.append (Lm.single (by omega) (by omega)), by omega, limbs_next hos rfl (by omega) (by omega) hv⟩
 refine sx_exit ?_
 refine q_e (q_e (q_bx (q_n (k39 _ _ ?_))))
 refine sx_seq fun K62 k62 => sx_region ?_
 refine mv rfl rfl (sx_call rfl rfl Tryd.call104 (c_trim hs_s1 (hlm) (by first | omega | (simp only [List.length_append, List.length_set, List.length_replicate, List.length_cons, List.length_nil] at *; omega))) (fun v63 w63 p63 => ?_))
 obtain ⟨s63, rfl, os_63, c63⟩ := p63
 have zw63 := c63.size
 refine av rfl rfl (av rfl rfl (wl_nil (q_n (k62 _ _ ?_))))
 refine sx_retc ?_
 refine sx_ret2 Tryd.results68 rfl rfl ?_
 have hvl := limbs_end (by omega) hv
 have hK : tnK s = true := tnK_ok hdk (by omega) (by omega)
 rw [tnV_ok hK, hK, ← hvl]
 have q64 := Chg.step (l := 0) (h := 0) (Chg.zero (l := 0) (h := 0) (c4.t cs38)) cwl41 (by omega)
 have q65 := Chg.step (l := 0) (h := 0) q64 c63 (by omega)
 exact ⟨_, rfl, (Own.mono os_63 (by omega) (by omega)), q65⟩

theorem c_signed {w : World} {n : Bool} {va : Value} {lva uva : Nat} {zs : List Int} (hva : Sl w lva uva va (zs)) (h63 : zs.length ≤ 4611686018427387904) :
  Ret Tryd.prog 69 [.bool n, va] w fun v w' => v = .agg #[.bool (nz n zs), va] ∧ Chg 0 0 w w' := by
 have hva0 := hva.fit
 refine sx_enter Tryd.func69 rfl Tryd.ntmps69 (nbl rfl) ?_
 refine sx_seq fun K1 k1 => sx_region ?_
 refine sx_alloc [.bool false, (.slice none 0 0)] rfl Tryd.zeroValue24 rfl (fun b2 w3 eb2 sb2 fb2 cb2 => ?_)
 have zw3 := cb2.size
 refine wl_nil (q_n (k1 _ _ ?_))
 refine sx_seq fun K4 k4 => sx_region ?_
 refine mv rfl rfl (mv rfl rfl ?_)
 refine sx_tmpB (t := 6) rfl (fun h16 => ?_) (fun h16 => ?_)
 ·
  refine sx_guardT rfl rfl rfl ?_
  refine mv rfl rfl ?_
  refine sx_guardT rfl rfl rfl ?_
  have f5 := hva0.ext cb2
  refine sp rfl (px_len rfl Tryd.underlying22 f5) ?_
  refine sx_guardT rfl rfl rfl ?_
  refine sp rfl (px_gt rfl rfl) ?_
  refine sp rfl (px_pick rfl rfl) ?_
  refine mv rfl rfl (sp rfl (px_build rfl (xbld24x0x1 rfl f5.one _)) ?_)
  refine sx_store (vs := [.bool (decide ((0 : Int) < ↑((zs).length))), va]) rfl rfl fb2 rfl Tryd.sizeOf24 (nbl rfl) (one_cons rfl (one_cons f5.one one_nil)) (fun w6 sw6 fw6 cw6 => ?_)
  have zw6 := cw6.size
  have gw6 : Blk w6 b2 [.bool (decide ((0 : Int) < ↑((zs).length))), va] 24 := fw6
  refine wl_nil (q_n (k4 _ _ ?_))
  refine sx_retc ?_
  refine sx_ret1 Tryd.results69 ⟨_, rfl, gw6.loadA (vs := [.bool (decide ((0 : Int) < ↑((zs).length))), va]) (look_lit rfl) Tryd.isAgg24 Tryd.sizeOf24⟩ ?_
  have q7 := Chg.step (l := 0) (h := 0) (Chg.zero (l := 0) (h := 0) cb2) cw6 (by omega)
  exact ⟨(by simp [nz, h16]), q7⟩
 refine sx_guardF rfl rfl rfl rfl rfl rfl ?_
 refine sx_guardF rfl rfl rfl rfl rfl rfl ?_
 refine sx_guardF rfl rfl rfl rfl rfl rfl ?_
 refine sp rfl (px_pick rfl rfl) ?_
 refine mv rfl rfl ?_
 have f8 := hva0.ext cb2
 refine sp rfl (px_build rfl (xbld24x0x1 rfl f8.one _)) ?_
 refine sx_store (vs := [.bool false, va]) rfl rfl fb2 rfl Tryd.sizeOf24 (nbl rfl) (one_cons rfl (one_cons f8.one one_nil)) (fun w9 sw9 fw9 cw9 => ?_)
 have zw9 := cw9.size
 have gw9 : Blk w9 b2 [.bool false, va] 24 := fw9
 refine wl_nil (q_n (k4 _ _ ?_))
 refine sx_retc ?_
 refine sx_ret1 Tryd.results69 ⟨_, rfl, gw9.loadA (vs := [.bool false, va]) (look_lit rfl) Tryd.isAgg24 Tryd.sizeOf24⟩ ?_
 have q10 := Chg.step (l := 0) (h := 0) (Chg.zero (l := 0) (h := 0) cb2) cw9 (by omega)
 exact ⟨(by simp [nz, h16]), q10⟩

theorem c_iNatOk {w : World} {va : Value} {lva uva : Nat} {zs : List Int} (hva : Sl w lva uva va (zs)) (h63 : zs.length ≤ 4611686018427387904) :
  Ret Tryd.prog 94 [va] w fun v w' => v = .bool (decide (NOk zs)) ∧ Chg 0 0 w w' := by
 have hva0 := hva.fit
 refine sx_enter Tryd.func94 rfl Tryd.ntmps94 (nbl rfl) ?_
 refine sx_seq fun K1 k1 => sx_region ?_
 refine av rfl rfl (wl_nil (q_n (k1 _ _ ?_)))
 refine sx_seq fun K2 k2 => ?_
 refine sx_seq fun K3 k3 => sx_region ?_
 refine mv rfl rfl (sp rfl (px_len rfl Tryd.underlying22 hva0) ?_)
 refine sp rfl (px_gt rfl rfl) ?_
 refine mv rfl rfl ?_
 refine sx_tmpP (t := 8) rfl (fun h13 => ?_) (fun h13 => ?_)
 ·
  refine sx_guardF rfl rfl rfl rfl rfl rfl ?_
  refine sx_guardF rfl rfl rfl rfl rfl rfl ?_
  refine sx_guardF rfl rfl rfl rfl rfl rfl ?_
  refine sx_guardF rfl rfl rfl rfl rfl rfl ?_
  refine sx_guardFU rfl rfl rfl rfl rfl ?_
  refine sx_guardFU rfl rfl rfl rfl rfl ?_
  refine sx_guardFU rfl rfl rfl rfl rfl ?_
  refine sx_guardFU rfl rfl rfl rfl rfl ?_
  refine sx_guardFU rfl rfl rfl rfl rfl ?_
  refine sx_guardFU rfl rfl rfl rfl rfl ?_
  refine sx_guardFU rfl rfl rfl rfl rfl ?_
  refine sx_guardF rfl rfl rfl rfl rfl rfl ?_
  refine sp rfl (px_pick rfl rfl) ?_
  refine wl_nil (q_n (k3 _ _ ?_))
  refine sx_sub (Sub.c 0 rfl (.c 2 rfl (.c 21 rfl .nil))) ?_
  refine sx_condT rfl ?_
  refine sx_seq fun K4 k4 => sx_region ?_
  refine av rfl rfl (wl_nil (q_n (k4 _ _ ?_)))
  refine sx_retc ?_
  refine q_r (sx_ret1 Tryd.results94 rfl ?_)
  exact ⟨bFalse (fun h => by first | (have h1 := h.2.1; omega) | exact h.2.2 ((last_getD (by omega)).2 (by assumption))), (Chg.refl 0 0 _)⟩
 refine sx_guardT rfl rfl rfl ?_
 refine mv rfl rfl ?_
 refine sx_guardT rfl rfl rfl ?_
 refine sp rfl (px_len rfl Tryd.underlying22 hva0) ?_
 refine sx_guardT rfl rfl rfl ?_
 refine sp rfl (px_gt rfl rfl) ?_
 refine sx_guardT rfl rfl rfl ?_
 refine mv rfl rfl ?_
 refine sx_tmpP (t := 12) rfl (fun h13x1 => ?_) (fun h13x1 => ?_)
 ·
  refine sx_guardT rfl rfl rfl ?_
  refine mv rfl rfl ?_
  refine sx_guardT rfl rfl rfl ?_
  refine mv rfl rfl ?_
  refine sx_guardT rfl rfl rfl ?_
  refine sp rfl (px_len rfl Tryd.underlying22 hva0) ?_
  refine sx_guardT rfl rfl rfl ?_
  refine sp rfl (px_sub rfl rfl (by omega)) ?_
  refine sx_guardT rfl rfl rfl ?_
  refine sp rfl (px_index1 (j := (zs.length - 1)) rfl rfl (by omega) Tryd.underlying22 Tryd.sizeOf3 hva0 (by omega)) ?_
  refine sx_guardT rfl rfl rfl ?_
  refine sp rfl (px_load rfl (hva0.load1 (at_int (by omega)) Tryd.isAgg3)) ?_
  refine sx_guardT rfl rfl rfl ?_
  refine sp rfl (px_eq rfl rfl) ?_
  refine sx_guardT rfl rfl rfl ?_
  refine sp rfl (px_pick rfl rfl) ?_
  refine sp rfl (px_pick rfl rfl) ?_
  refine wl_nil (q_n (k3 _ _ ?_))
  refine sx_sub (Sub.c 0 rfl (.c 2 rfl (.c 21 rfl .nil))) ?_
  refine sx_condP rfl (fun h13x2 => ?_) (fun h13x2 => ?_)
  ·
   refine sx_seq fun K5 k5 => sx_region ?_
   refine av rfl rfl (wl_nil (q_n (k5 _ _ ?_)))
   refine sx_retc ?_
   refine q_r (sx_ret1 Tryd.results94 rfl ?_)
   exact ⟨bFalse (fun h => by first | (have h1 := h.2.1; omega) | exact h.2.2 ((last_getD (by omega)).2 (by assumption))), (Chg.refl 0 0 _)⟩
  refine sx_skip ?_
  refine q_n (k2 _ _ ?_)
  refine sx_seq fun K6 k6 => ?_
  refine sx_seq fun K7 k7 => sx_region ?_
  refine mv rfl rfl (sp rfl (px_len rfl Tryd.underlying22 hva0) ?_)
  refine mv rfl rfl (wl_nil (q_n (k7 _ _ ?_)))
  refine sx_block ?_
  refine sx_loop (fun mm aa w' => ∃ (k : Nat), Agr 35 [(22, va), (23, .int .i64 ↑zs.length), (24, .int .i64 ↑k)] aa ∧ Chg 0 0 w w' ∧ (mm = zs.length - k) ∧ (k ≤ zs.length) ∧ (∀ i, i < k → 0 ≤ zs.getD i 0 ∧ zs.getD i 0 < 1000000000)) (_) (fun a ha => ⟨0, ha.sub (Sub.c 22 rfl (.c 23 (look_int (t := 23) rfl (by first | omega | simp)) (.c 24 (look_int (t := 24) rfl (by first | omega | simp)) .nil))), Chg.refl _ _ _, rfl, by omega, fun i h => by omega⟩) ?_
  rintro mm aa wl8 ⟨k, hAwl8, cwl8, hm, hk, hall⟩
  refine (show cw Tryd.prog 35 _ _ _ wl8 from ?_) aa hAwl8
  clear hAwl8
  have zwl8 := cwl8.size
  refine sx_seq fun K9 k9 => sx_region ?_
  refine sp rfl (px_lt rfl rfl) ?_
  refine wl_nil (q_n (k9 _ _ ?_))
  refine sx_seq fun K10 k10 => ?_
  refine sx_condP rfl (fun h16 => ?_) (fun h16 => ?_)
  ·
   refine sx_skip ?_
   refine q_n (k10 _ _ ?_)
   refine sx_seq fun K11 k11 => ?_
   refine sx_block ?_
   refine sx_seq fun K12 k12 => sx_region ?_
   have f13 := hva0.ext cwl8
   refine sp rfl (px_index1 (j := k) rfl rfl (by omega) Tryd.underlying22 Tryd.sizeOf3 f13 (by omega)) ?_
   refine sp rfl (px_load rfl (f13.load1 (at_int (by omega)) Tryd.isAgg3)) ?_
   refine av rfl rfl (wl_nil (q_n (k12 _ _ ?_)))
   refine sx_seq fun K14 k14 => sx_region ?_
   refine mv rfl rfl (sp rfl (px_lt rfl rfl) ?_)
   refine mv rfl rfl ?_
   refine sx_tmpP (t := 30) rfl (fun h17 => ?_) (fun h17 => ?_)
   ·
    refine sx_guardF rfl rfl rfl rfl rfl rfl ?_
    refine sx_guardF rfl rfl rfl rfl rfl rfl ?_
    refine sp rfl (px_pick rfl rfl) ?_
    refine wl_nil (q_n (k14 _ _ ?_))
    refine sx_condT rfl ?_
    refine sx_seq fun K15 k15 => sx_region ?_
    refine av rfl rfl (wl_nil (q_n (k15 _ _ ?_)))
    refine sx_retc ?_
    refine q_br (q_r (q_r (q_br (q_r (sx_ret1 Tryd.results94 rfl ?_)))))
    exact ⟨bFalse (fun h => by have h1 := h.1.getD k; omega), cwl8⟩
   refine sx_guardT rfl rfl rfl ?_
   refine mv rfl rfl ?_
   refine sx_guardT rfl rfl rfl ?_
   refine sp rfl (px_ge rfl rfl) ?_
   refine sp rfl (px_pick rfl rfl) ?_
   refine wl_nil (q_n (k14 _ _ ?_))
   refine sx_condP rfl (fun h17x1 => ?_) (fun h17x1 => ?_)
   ·
    refine sx_seq fun K16 k16 => sx_region ?_
    refine av rfl rfl (wl_nil (q_n (k16 _ _ ?_)))
    refine sx_retc ?_
    refine q_br (q_r (q_r (q_br (q_r (sx_ret1 Tryd.results94 rfl ?_)))))
    exact ⟨bFalse (fun h => by have h1 := h.1.getD k; omega), cwl8⟩
   refine sx_skip ?_
   refine q_bn (q_n (k11 _ _ ?_))
   refine sx_region ?_
   refine sp rfl (px_add rfl rfl (by omega)) ?_
   refine mv rfl rfl (wl_nil ?_)
   exact fun a ha => ⟨_, by omega, (k + 1), ha.sub (Sub.c 22 rfl (.c 23 rfl (.c 24 (look_int (t := 24) rfl (by first | omega | simp)) .nil))), cwl8, rfl, by omega, lm_succ hall (by omega)⟩
  refine sx_exit ?_
  refine q_e (q_e (q_bx (q_n (k6 _ _ ?_))))
  refine sx_seq fun K17 k17 => sx_region ?_
  refine av rfl rfl (wl_nil (q_n (k17 _ _ ?_)))
  refine sx_retc ?_
  refine sx_ret1 Tryd.results94 rfl ?_
  have ek : k = zs.length := by omega
  have hz : Lm zs := lm_mem (by rw [← ek]; exact hall)
  exact ⟨bTrue (NOk_mk hz (by omega) (by first | exact .inl (by omega) | exact .inr (by assumption))), cwl8⟩
 refine sx_guardF rfl rfl rfl rfl rfl rfl ?_
 refine sx_guardF rfl rfl rfl rfl rfl rfl ?_
 refine sx_guardF rfl rfl rfl rfl rfl rfl ?_
 refine sx_guardF rfl rfl rfl rfl rfl rfl ?_
 refine sx_guardF rfl rfl rfl rfl rfl rfl ?_
 refine sx_guardF rfl rfl rfl rfl rfl rfl ?_
 refine sx_guardF rfl rfl rfl rfl rfl rfl ?_
 refine sx_guardT rfl rfl rfl ?_
 refine sp rfl (px_pick rfl rfl) ?_
 refine sp rfl (px_pick rfl rfl) ?_
 refine wl_nil (q_n (k3 _ _ ?_))
 refine sx_sub (Sub.c 0 rfl (.c 2 rfl (.c 21 rfl .nil))) ?_
 refine sx_condF rfl ?_
 refine sx_skip ?_
 refine q_n (k2 _ _ ?_)
 refine sx_seq fun K18 k18 => ?_
 refine sx_seq fun K19 k19 => sx_region ?_
 refine mv rfl rfl (sp rfl (px_len rfl Tryd.underlying22 hva0) ?_)
 refine mv rfl rfl (wl_nil (q_n (k19 _ _ ?_)))
 refine sx_block ?_
 refine sx_loop (fun mm aa w' => ∃ (k : Nat), Agr 35 [(22, va), (23, .int .i64 ↑zs.length), (24, .int .i64 ↑k)] aa ∧ Chg 0 0 w w' ∧ (mm = zs.length - k) ∧ (k ≤ zs.length) ∧ (∀ i, i < k → 0 ≤ zs.getD i 0 ∧ zs.getD i 0 < 1000000000)) (_) (fun a ha => ⟨0, ha.sub (Sub.c 22 rfl (.c 23 (look_int (t := 23) rfl (by first | omega | simp)) (.c 24 (look_int (t := 24) rfl (by first | omega | simp)) .nil))), Chg.refl _ _ _, rfl, by omega, fun i h => by omega⟩) ?_
 rintro mm aa wl20 ⟨k, hAwl20, cwl20, hm, hk, hall⟩
 refine (show cw Tryd.prog 35 _ _ _ wl20 from ?_) aa hAwl20
 clear hAwl20
 have zwl20 := cwl20.size
 refine sx_seq fun K21 k21 => sx_region ?_
 refine sp rfl (px_lt rfl rfl) ?_
 refine wl_nil (q_n (k21 _ _ ?_))
 refine sx_seq fun K22 k22 => ?_
 refine sx_condP rfl (fun h16 => ?_) (fun h16 => ?_)
 ·
  refine sx_skip ?_
  refine q_n (k22 _ _ ?_)
  refine sx_seq fun K23 k23 => ?_
  refine sx_block ?_
  refine sx_seq fun K24 k24 => sx_region ?_
  have f25 := hva0.ext cwl20
  refine sp rfl (px_index1 (j := k) rfl rfl (by omega) Tryd.underlying22 Tryd.sizeOf3 f25 (by omega)) ?_
  refine sp rfl (px_load rfl (f25.load1 (at_int (by omega)) Tryd.isAgg3)) ?_
  refine av rfl rfl (wl_nil (q_n (k24 _ _ ?_)))
  refine sx_seq fun K26 k26 => sx_region ?_
  refine mv rfl rfl (sp rfl (px_lt rfl rfl) ?_)
  refine mv rfl rfl ?_
  refine sx_tmpP (t := 30) rfl (fun h17 => ?_) (fun h17 => ?_)
  ·
   refine sx_guardF rfl rfl rfl rfl rfl rfl ?_
   refine sx_guardF rfl rfl rfl rfl rfl rfl ?_
   refine sp rfl (px_pick rfl rfl) ?_
   refine wl_nil (q_n (k26 _ _ ?_))
   refine sx_condT rfl ?_
   refine sx_seq fun K27 k27 => sx_region ?_
   refine av rfl rfl (wl_nil (q_n (k27 _ _ ?_)))
   refine sx_retc ?_
   refine q_br (q_r (q_r (q_br (q_r (sx_ret1 Tryd.results94 rfl ?_)))))
   exact ⟨bFalse (fun h => by have h1 := h.1.getD k; omega), cwl20⟩
  refine sx_guardT rfl rfl rfl ?_
  refine mv rfl rfl ?_
  refine sx_guardT rfl rfl rfl ?_
  refine sp rfl (px_ge rfl rfl) ?_
  refine sp rfl (px_pick rfl rfl) ?_
  refine wl_nil (q_n (k26 _ _ ?_))
  refine sx_condP rfl (fun h17x1 => ?_) (fun h17x1 => ?_)
  ·
   refine sx_seq fun K28 k28 => sx_region ?_
   refine av rfl rfl (wl_nil (q_n (k28 _ _ ?_)))
   refine sx_retc ?_
   refine q_br (q_r (q_r (q_br (q_r (sx_ret1 Tryd.results94 rfl ?_)))))
   exact ⟨bFalse (fun h => by have h1 := h.1.getD k; omega), cwl20⟩
  refine sx_skip ?_
  refine q_bn (q_n (k23 _ _ ?_))
  refine sx_region ?_
  refine sp rfl (px_add rfl rfl (by omega)) ?_
  refine mv rfl rfl (wl_nil ?_)
  exact fun a ha => ⟨_, by omega, (k + 1), ha.sub (Sub.c 22 rfl (.c 23 rfl (.c 24 (look_int (t := 24) rfl (by first | omega | simp)) .nil))), cwl20, rfl, by omega, lm_succ hall (by omega)⟩
 refine sx_exit ?_
 refine q_e (q_e (q_bx (q_n (k18 _ _ ?_))))
 refine sx_seq fun K29 k29 => sx_region ?_
 refine av rfl rfl (wl_nil (q_n (k29 _ _ ?_)))
 refine sx_retc ?_
 refine sx_ret1 Tryd.results94 rfl ?_
 have ek : k = zs.length := by omega
 have hz : Lm zs := lm_mem (by rw [← ek]; exact hall)
 exact ⟨bTrue (NOk_mk hz (by omega) (by first | exact .inl (by omega) | exact .inr (by assumption))), cwl20⟩

theorem c_iIntOk {w : World} {n1 : Bool} {v1 : Value} {lv1 uv1 : Nat} {z1 : List Int} (hv1 : Sl w lv1 uv1 v1 (z1)) (h63 : z1.length ≤ 4611686018427387904) :
  Ret Tryd.prog 58 [.agg #[.bool n1, v1]] w fun v w' => v = .bool (decide (IOk n1 z1)) ∧ Chg 0 0 w w' := by
 have hv10 := hv1.fit
 refine sx_enter Tryd.func58 rfl Tryd.ntmps58 (nbl rfl) ?_
 refine sx_seq fun K1 k1 => sx_region ?_
 refine sx_box [.bool n1, v1] rfl rfl rfl (fun b2 w3 eb2 sb2 fb2 cb2 => ?_)
 have zw3 := cb2.size
 refine av rfl rfl (wl_nil (q_n (k1 _ _ ?_)))
 refine sx_seq fun K4 k4 => sx_region ?_
 refine sp rfl (px_field rfl xfld24x1) ?_
 refine sp rfl (px_load rfl (fb2.load1 rfl Tryd.isAgg22)) ?_
 have f5 := hv10.ext cb2
 refine sx_call rfl rfl Tryd.call94 (c_iNatOk f5 (by omega)) (fun v6 w6 p6 => ?_)
 obtain ⟨rfl, c6⟩ := p6
 have zw6 := c6.size
 refine mv rfl rfl ?_
 refine sx_tmpP (t := 6) rfl (fun h10 => ?_) (fun h10 => ?_)
 ·
  refine sx_guardT rfl rfl rfl ?_
  refine sp rfl (px_field rfl xfld24x0) ?_
  refine sx_guardT rfl rfl rfl ?_
  have f7 := fb2.ext c6
  refine sp rfl (px_load rfl (f7.load1 rfl Tryd.isAgg4)) ?_
  refine sx_guardT rfl rfl rfl ?_
  refine sp rfl (px_not rfl) ?_
  refine sx_guardT rfl rfl rfl ?_
  refine mv rfl rfl ?_
  refine sx_tmpB (t := 10) rfl (fun h10x1 => ?_) (fun h10x1 => ?_)
  ·
   refine sx_guardF rfl rfl rfl rfl rfl rfl ?_
   refine sx_guardF rfl rfl rfl rfl rfl rfl ?_
   refine sx_guardF rfl rfl rfl rfl rfl rfl ?_
   refine sx_guardF rfl rfl rfl rfl rfl rfl ?_
   refine sx_guardT rfl rfl rfl ?_
   refine sp rfl (px_pick rfl rfl) ?_
   refine sp rfl (px_pick rfl rfl) ?_
   refine av rfl rfl (wl_nil (q_n (k4 _ _ ?_)))
   refine sx_sub (Sub.c 2 rfl .nil) ?_
   refine sx_retc ?_
   refine sx_ret1 Tryd.results58 rfl ?_
   exact ⟨(by first | exact bTrue (by grind [IOk]) | exact bFalse (by grind [IOk]) | exact bIff (by grind [IOk])), (cb2.t c6)⟩
  refine sx_guardT rfl rfl rfl ?_
  refine sp rfl (px_field rfl xfld24x1) ?_
  refine sx_guardT rfl rfl rfl ?_
  refine sp rfl (px_load rfl (f7.load1 rfl Tryd.isAgg22)) ?_
  refine sx_guardT rfl rfl rfl ?_
  have f8 := f5.ext c6
  refine sp rfl (px_len rfl Tryd.underlying22 f8) ?_
  refine sx_guardT rfl rfl rfl ?_
  refine sp rfl (px_gt rfl rfl) ?_
  refine sx_guardT rfl rfl rfl ?_
  refine sp rfl (px_pick rfl rfl) ?_
  refine sp rfl (px_pick rfl rfl) ?_
  refine av rfl rfl (wl_nil (q_n (k4 _ _ ?_)))
  refine sx_sub (Sub.c 2 rfl .nil) ?_
  refine sx_retc ?_
  refine sx_ret1 Tryd.results58 rfl ?_
  exact ⟨(by first | exact bTrue (by grind [IOk]) | exact bFalse (by grind [IOk]) | exact bIff (by grind [IOk])), (cb2.t c6)⟩
 refine sx_guardF rfl rfl rfl rfl rfl rfl ?_
 refine sx_guardF rfl rfl rfl rfl rfl rfl ?_
 refine sx_guardF rfl rfl rfl rfl rfl rfl ?_
 refine sx_guardF rfl rfl rfl rfl rfl rfl ?_
 refine sx_guardFU rfl rfl rfl rfl rfl ?_
 refine sx_guardFU rfl rfl rfl rfl rfl ?_
 refine sx_guardFU rfl rfl rfl rfl rfl ?_
 refine sx_guardFU rfl rfl rfl rfl rfl ?_
 refine sx_guardF rfl rfl rfl rfl rfl rfl ?_
 refine sp rfl (px_pick rfl rfl) ?_
 refine av rfl rfl (wl_nil (q_n (k4 _ _ ?_)))
 refine sx_sub (Sub.c 2 rfl .nil) ?_
 refine sx_retc ?_
 refine sx_ret1 Tryd.results58 rfl ?_
 exact ⟨(by first | exact bTrue (by grind [IOk]) | exact bFalse (by grind [IOk]) | exact bIff (by grind [IOk])), (cb2.t c6)⟩

theorem c_isScale {w : World} {p : Int} :
  Ret Tryd.prog 107 [.int .i64 p] w fun v w' => v = .bool (decide (0 ≤ p ∧ p ≤ 30)) ∧ Chg 0 0 w w' := by
 refine sx_enter Tryd.func107 rfl Tryd.ntmps107 (nbl rfl) ?_
 refine sx_seq fun K1 k1 => sx_region ?_
 refine av rfl rfl (wl_nil (q_n (k1 _ _ ?_)))
 refine sx_seq fun K2 k2 => sx_region ?_
 refine mv rfl rfl (sp rfl (px_ge rfl rfl) ?_)
 refine mv rfl rfl ?_
 refine sx_tmpP (t := 5) rfl (fun h15 => ?_) (fun h15 => ?_)
 ·
  refine sx_guardT rfl rfl rfl ?_
  refine mv rfl rfl ?_
  refine sx_guardT rfl rfl rfl ?_
  refine sp rfl (px_le rfl rfl) ?_
  refine sp rfl (px_pick rfl rfl) ?_
  refine av rfl rfl (wl_nil (q_n (k2 _ _ ?_)))
  refine sx_retc ?_
  refine sx_ret1 Tryd.results107 rfl ?_
  exact ⟨(by first | exact bTrue (by grind) | exact bFalse (by grind) | exact bIff (by grind)), (Chg.refl 0 0 _)⟩
 refine sx_guardF rfl rfl rfl rfl rfl rfl ?_
 refine sx_guardF rfl rfl rfl rfl rfl rfl ?_
 refine sp rfl (px_pick rfl rfl) ?_
 refine av rfl rfl (wl_nil (q_n (k2 _ _ ?_)))
 refine sx_retc ?_
 refine sx_ret1 Tryd.results107 rfl ?_
 exact ⟨(by first | exact bTrue (by grind) | exact bFalse (by grind) | exact bIff (by grind)), (Chg.refl 0 0 _)⟩

theorem c_iDecOk {w : World} {n1 : Bool} {v1 : Value} {lv1 uv1 : Nat} {z1 : List Int} {p1 : Int} (hv1 : Sl w lv1 uv1 v1 (z1)) (h63 : z1.length ≤ 4611686018427387904) :
  Ret Tryd.prog 77 [.agg #[.bool n1, v1, .int .i64 p1]] w fun v w' => v = .bool (decide (DOk n1 z1 p1)) ∧ Chg 0 0 w w' := by
 have hv10 := hv1.fit
 refine sx_enter Tryd.func77 rfl Tryd.ntmps77 (nbl rfl) ?_
 refine sx_seq fun K1 k1 => sx_region ?_
 refine sx_box [.bool n1, v1, .int .i64 p1] rfl rfl rfl (fun b2 w3 eb2 sb2 fb2 cb2 => ?_)
 have zw3 := cb2.size
 refine av rfl rfl (wl_nil (q_n (k1 _ _ ?_)))
 refine sx_seq fun K4 k4 => sx_region ?_
 refine sp rfl (px_field rfl xfld33x0) ?_
 refine sp rfl (px_load rfl (fb2.loadA (vs := [.bool n1, v1]) (look_lit rfl) Tryd.isAgg24 Tryd.sizeOf24)) ?_
 have f5 := hv10.ext cb2
 refine sx_call rfl rfl Tryd.call58 (c_iIntOk f5 (by omega)) (fun v6 w6 p6 => ?_)
 obtain ⟨rfl, c6⟩ := p6
 have zw6 := c6.size
 refine mv rfl rfl ?_
 refine sx_tmpP (t := 6) rfl (fun h18 => ?_) (fun h18 => ?_)
 ·
  refine sx_guardT rfl rfl rfl ?_
  refine sp rfl (px_field rfl xfld33x0) ?_
  refine sx_guardT rfl rfl rfl ?_
  refine sp rfl (px_field rfl xfld24x1) ?_
  refine sx_guardT rfl rfl rfl ?_
  have f7 := fb2.ext c6
  refine sp rfl (px_load rfl (f7.load1 rfl Tryd.isAgg22)) ?_
  refine sx_guardT rfl rfl rfl ?_
  have f8 := f5.ext c6
  refine sp rfl (px_len rfl Tryd.underlying22 f8) ?_
  refine sx_guardT rfl rfl rfl ?_
  refine sp rfl (px_le rfl rfl) ?_
  refine sp rfl (px_pick rfl rfl) ?_
  refine mv rfl rfl ?_
  refine sx_tmpP (t := 13) rfl (fun h18x1 => ?_) (fun h18x1 => ?_)
  ·
   refine sx_guardT rfl rfl rfl ?_
   refine sp rfl (px_field rfl xfld33x1) ?_
   refine sx_guardT rfl rfl rfl ?_
   refine sp rfl (px_load rfl (f7.load1 rfl Tryd.isAgg3)) ?_
   refine sx_guardT rfl rfl rfl ?_
   refine sx_call rfl rfl Tryd.call107 (c_isScale) (fun v9 w9 p9 => ?_)
   obtain ⟨rfl, c9⟩ := p9
   have zw9 := c9.size
   refine sp rfl (px_pick rfl rfl) ?_
   refine av rfl rfl (wl_nil (q_n (k4 _ _ ?_)))
   refine sx_sub (Sub.c 2 rfl .nil) ?_
   refine sx_retc ?_
   refine sx_ret1 Tryd.results77 rfl ?_
   exact ⟨(by first | exact bTrue (by grind [DOk]) | exact bFalse (by grind [DOk]) | exact bIff (by grind [DOk])), ((cb2.t c6).t c9)⟩
  refine sx_guardF rfl rfl rfl rfl rfl rfl ?_
  refine sx_guardF rfl rfl rfl rfl rfl rfl ?_
  refine sx_guardF rfl rfl rfl rfl rfl rfl ?_
  refine sp rfl (px_pick rfl rfl) ?_
  refine av rfl rfl (wl_nil (q_n (k4 _ _ ?_)))
  refine sx_sub (Sub.c 2 rfl .nil) ?_
  refine sx_retc ?_
  refine sx_ret1 Tryd.results77 rfl ?_
  exact ⟨(by first | exact bTrue (by grind [DOk]) | exact bFalse (by grind [DOk]) | exact bIff (by grind [DOk])), (cb2.t c6)⟩
 refine sx_guardF rfl rfl rfl rfl rfl rfl ?_
 refine sx_guardF rfl rfl rfl rfl rfl rfl ?_
 refine sx_guardF rfl rfl rfl rfl rfl rfl ?_
 refine sx_guardF rfl rfl rfl rfl rfl rfl ?_
 refine sx_guardF rfl rfl rfl rfl rfl rfl ?_
 refine sp rfl (px_pick rfl rfl) ?_
 refine mv rfl rfl ?_
 refine sx_guardF rfl rfl rfl rfl rfl rfl ?_
 refine sx_guardF rfl rfl rfl rfl rfl rfl ?_
 refine sx_guardF rfl rfl rfl rfl rfl rfl ?_
 refine sp rfl (px_pick rfl rfl) ?_
 refine av rfl rfl (wl_nil (q_n (k4 _ _ ?_)))
 refine sx_sub (Sub.c 2 rfl .nil) ?_
 refine sx_retc ?_
 refine sx_ret1 Tryd.results77 rfl ?_
 exact ⟨(by first | exact bTrue (by grind [DOk]) | exact bFalse (by grind [DOk]) | exact bIff (by grind [DOk])), (cb2.t c6)⟩

theorem c_Itoa {w : World} {n : Int} (hGT : GlobP w) (hn : 0 ≤ n ∧ n < 1000000000) :
  Ret Tryd.prog 126 [.int .i64 n] w fun v w' => v = .string (itx n) ∧ Chg 0 0 w w' := by
 have h := Any.strconv_Itoa lays171 n (by omega) (by omega) w hGT.tab
 exact Calls.mono h fun e w' ⟨he, k, os, hw⟩ => ⟨_, he, rfl, hw ▸ ⟨rfl, rfl, rfl, by simp [Go.Sort.grow, World.drewN], fun i hi _ => Go.Sort.heap_grow_old _ _ (by simpa [World.drewN] using hi)⟩⟩

theorem c_iIntText {w : World} {n : Int} (hGT : GlobP w) (hn : 0 ≤ n ∧ n < 1000000000) :
  Ret Tryd.prog 113 [.int .i64 n] w fun v w' => v = .string (itx n) ∧ Chg 0 0 w w' := by
 have hGTl := hGT.lt
 refine sx_enter Tryd.func113 rfl Tryd.ntmps113 (nbl rfl) ?_
 refine sx_seq fun K1 k1 => sx_region ?_
 refine av rfl rfl (wl_nil (q_n (k1 _ _ ?_)))
 refine sx_seq fun K2 k2 => sx_region ?_
 refine mv rfl rfl (sx_call rfl rfl Tryd.call126 (c_Itoa hGT (by omega)) (fun v3 w3 p3 => ?_))
 obtain ⟨rfl, c3⟩ := p3
 have zw3 := c3.size
 refine av rfl rfl (wl_nil (q_n (k2 _ _ ?_)))
 refine sx_retc ?_
 refine sx_ret1 Tryd.results113 rfl ?_
 exact ⟨rfl, c3⟩

theorem c_Repeat {w : World} {s : ByteArray} {k : Int} (hs : s = ⟨#[48]⟩) (hk : 0 ≤ k ∧ k ≤ 100000) :
  Ret Tryd.prog 112 [.string s, .int .i64 k] w fun v w' => v = .string (zer (k).toNat) ∧ Chg 0 0 w w' := by
 subst hs; have e0 : ((k.toNat : Nat) : Int) = k := by omega
 have h := Any.strings_Repeat lays105 extraB ⟨#[48]⟩ k.toNat w (by omega) (by show 1 * k.toNat ≤ _; omega); rw [e0] at h
 exact Calls.mono h fun e w' ⟨he, hb⟩ => ⟨_, he, rfl, hb.os, hb.tape, hb.output, hb.size, fun i hi _ => hb.block i hi⟩

theorem c_iPad {w : World} {s : ByteArray} {n : Int} (hs : s.size ≤ 100000) (hn : 0 ≤ n ∧ n ≤ 100000) :
  Ret Tryd.prog 84 [.string s, .int .i64 n] w fun v w' => v = .string (padT s n) ∧ Chg 0 0 w w' := by
 refine sx_enter Tryd.func84 rfl Tryd.ntmps84 (nbl rfl) ?_
 refine sx_seq fun K1 k1 => sx_region ?_
 refine av rfl rfl (wl_nil (q_n (k1 _ _ ?_)))
 refine sx_seq fun K2 k2 => ?_
 refine sx_seq fun K3 k3 => sx_region ?_
 refine mv rfl rfl (sp rfl (px_lenS rfl Tryd.underlying9) ?_)
 refine mv rfl rfl (sp rfl (px_ge rfl rfl) ?_)
 refine mv rfl rfl ?_
 refine sx_tmpP (t := 9) rfl (fun h95 => ?_) (fun h95 => ?_)
 ·
  refine sx_guardF rfl rfl rfl rfl rfl rfl ?_
  refine sx_guardF rfl rfl rfl rfl rfl rfl ?_
  refine sp rfl (px_pick rfl rfl) ?_
  refine wl_nil (q_n (k3 _ _ ?_))
  refine sx_condT rfl ?_
  refine sx_seq fun K4 k4 => sx_region ?_
  refine mv rfl rfl (av rfl rfl (wl_nil (q_n (k4 _ _ ?_))))
  refine sx_retc ?_
  refine q_r (sx_ret1 Tryd.results84 rfl ?_)
  rw [padT_no (by omega)]
  exact ⟨rfl, (Chg.refl 0 0 _)⟩
 refine sx_guardT rfl rfl rfl ?_
 refine mv rfl rfl ?_
 refine sx_guardT rfl rfl rfl ?_
 refine sp rfl (px_gt rfl rfl) ?_
 refine sp rfl (px_pick rfl rfl) ?_
 refine wl_nil (q_n (k3 _ _ ?_))
 refine sx_condP rfl (fun h95x1 => ?_) (fun h95x1 => ?_)
 ·
  refine sx_seq fun K5 k5 => sx_region ?_
  refine mv rfl rfl (av rfl rfl (wl_nil (q_n (k5 _ _ ?_))))
  refine sx_retc ?_
  refine q_r (sx_ret1 Tryd.results84 rfl ?_)
  rw [padT_no (by omega)]
  exact ⟨rfl, (Chg.refl 0 0 _)⟩
 refine sx_skip ?_
 refine q_n (k2 _ _ ?_)
 refine sx_seq fun K6 k6 => sx_region ?_
 refine mv rfl rfl (mv rfl rfl (sp rfl (px_lenS rfl Tryd.underlying9) ?_))
 refine sp rfl (px_sub rfl rfl (by omega)) ?_
 refine sx_call rfl rfl Tryd.call112 (c_Repeat (rfl) (by omega)) (fun v7 w7 p7 => ?_)
 obtain ⟨rfl, c7⟩ := p7
 have zw7 := c7.size
 refine mv rfl rfl (sp rfl (px_cat rfl rfl (by rw [zer_size]; omega)) ?_)
 refine av rfl rfl (wl_nil (q_n (k6 _ _ ?_)))
 refine sx_sub (Sub.c 4 rfl .nil) ?_
 refine sx_retc ?_
 refine sx_ret1 Tryd.results84 rfl ?_
 rw [padT_yes (by omega)]
 exact ⟨rfl, c7⟩

theorem c_natText {w : World} {va : Value} {lva uva : Nat} {zs : List Int} (hGT : GlobP w) (hva : Sl w lva uva va (zs)) (hz : Lm zs) (hl : zs.length ≤ 60) :
  Ret Tryd.prog 85 [va] w fun v w' => v = .string (natT zs) ∧ Chg 0 0 w w' := by
 have hGTl := hGT.lt
 have hva0 := hva.fit
 refine sx_enter Tryd.func85 rfl Tryd.ntmps85 (nbl rfl) ?_
 refine sx_seq fun K1 k1 => sx_region ?_
 refine av rfl rfl (wl_nil (q_n (k1 _ _ ?_)))
 refine sx_seq fun K2 k2 => ?_
 refine sx_seq fun K3 k3 => sx_region ?_
 refine mv rfl rfl (sp rfl (px_len rfl Tryd.underlying22 hva0) ?_)
 refine sp rfl (px_eq rfl rfl) ?_
 refine wl_nil (q_n (k3 _ _ ?_))
 refine sx_condP rfl (fun h182 => ?_) (fun h182 => ?_)
 ·
  refine sx_seq fun K4 k4 => sx_region ?_
  refine av rfl rfl (wl_nil (q_n (k4 _ _ ?_)))
  refine sx_retc ?_
  refine q_r (sx_ret1 Tryd.results85 rfl ?_)
  have e : natT zs = ⟨#[48]⟩ := by unfold natT; rw [if_pos (by omega)]
  exact ⟨congrArg Value.string e.symm, (Chg.refl 0 0 _)⟩
 refine sx_skip ?_
 refine q_n (k2 _ _ ?_)
 refine sx_seq fun K5 k5 => sx_region ?_
 refine mv rfl rfl (mv rfl rfl (sp rfl (px_len rfl Tryd.underlying22 hva0) ?_))
 refine sp rfl (px_sub rfl rfl (by omega)) ?_
 refine sp rfl (px_index1 (j := (zs.length - 1)) rfl rfl (by omega) Tryd.underlying22 Tryd.sizeOf3 hva0 (by omega)) ?_
 refine sp rfl (px_load rfl (hva0.load1 (at_int (by omega)) Tryd.isAgg3)) ?_
 refine sx_call rfl rfl Tryd.call113 (c_iIntText hGT (by have hb := hz.getD (zs.length - 1); omega)) (fun v6 w6 p6 => ?_)
 obtain ⟨rfl, c6⟩ := p6
 have zw6 := c6.size
 refine av rfl rfl (wl_nil (q_n (k5 _ _ ?_)))
 refine sx_seq fun K7 k7 => ?_
 refine sx_seq fun K8 k8 => sx_region ?_
 refine mv rfl rfl ?_
 have f9 := hva0.ext c6
 refine sp rfl (px_len rfl Tryd.underlying22 f9) ?_
 refine sp rfl (px_sub rfl rfl (by omega)) ?_
 refine av rfl rfl (wl_nil (q_n (k8 _ _ ?_)))
 refine sx_sub (Sub.c 0 rfl (.c 2 rfl (.c 3 rfl (.c 4 rfl .nil)))) ?_
 refine sx_block ?_
 refine sx_loop (fun mm aa w' => ∃ (k : Nat) (t : ByteArray), Agr 31 [(0, va), (3, .string t), (4, .int .i64 (↑k - 1))] aa ∧ Chg 0 0 w6 w' ∧ (mm = k) ∧ (k < zs.length) ∧ (natGo zs k t = natT zs) ∧ (t.size + 9 * k ≤ 1000)) (_) (fun a ha => ⟨(zs.length - 1), (itx ((zs).getD (zs.length - 1) 0)), ha.sub (Sub.c 0 rfl (.c 3 rfl (.c 4 (look_int (t := 4) rfl (by first | omega | simp)) .nil))), Chg.refl _ _ _, rfl, by omega, by unfold natT; rw [if_neg (by omega)], by have hb := hz.getD (zs.length - 1); have h1 := itx_size hb.1 hb.2; omega⟩) ?_
 rintro mm aa wl10 ⟨k, t, hAwl10, cwl10, hm, hk, ht, hts⟩
 refine (show cw Tryd.prog 31 _ _ _ wl10 from ?_) aa hAwl10
 clear hAwl10
 have zwl10 := cwl10.size
 have hb := hz.getD (k - 1)
 have h1 := itx_size hb.1 hb.2
 have h2 := padT_size (s := itx (zs.getD (k - 1) 0)) (n := 9) (by decide)
 refine sx_seq fun K11 k11 => ?_
 refine sx_seq fun K12 k12 => sx_region ?_
 refine mv rfl rfl (sp rfl (px_ge rfl rfl) ?_)
 refine wl_nil (q_n (k12 _ _ ?_))
 refine sx_condP rfl (fun h186 => ?_) (fun h186 => ?_)
 ·
  refine sx_skip ?_
  refine q_n (k11 _ _ ?_)
  refine sx_seq fun K13 k13 => ?_
  refine sx_block ?_
  refine sx_region ?_
  refine mv rfl rfl (mv rfl rfl (mv rfl rfl ?_))
  have f14 := f9.ext cwl10
  refine sp rfl (px_index1 (j := (k - 1)) rfl rfl (by omega) Tryd.underlying22 Tryd.sizeOf3 f14 (by omega)) ?_
  refine sp rfl (px_load rfl (f14.load1 (at_int (by omega)) Tryd.isAgg3)) ?_
  have f16 := (hGT.ext c6).ext cwl10
  refine sx_call rfl rfl Tryd.call113 (c_iIntText f16 (by omega)) (fun v17 w17 p17 => ?_)
  obtain ⟨rfl, c17⟩ := p17
  have zw17 := c17.size
  refine sx_call rfl rfl Tryd.call84 (c_iPad (by omega) (by omega)) (fun v18 w18 p18 => ?_)
  obtain ⟨rfl, c18⟩ := p18
  have zw18 := c18.size
  refine sp rfl (px_cat rfl rfl (by omega)) ?_
  refine av rfl rfl (wl_nil ?_)
  refine q_bn (q_n (k13 _ _ ?_))
  refine sx_region ?_
  refine mv rfl rfl (sp rfl (px_sub rfl rfl (by omega)) ?_)
  refine av rfl rfl (wl_nil ?_)
  exact fun a ha => ⟨_, by omega, (k - 1), (t ++ (padT (itx ((zs).getD (k - 1) 0)) (9 : Int))), ha.sub (Sub.c 0 rfl (.c 3 rfl (.c 4 (look_int (t := 4) rfl (by first | omega | simp)) .nil))), ((cwl10.t c17).t c18), rfl, by omega, (natGo_step (by omega)).symm.trans ht, by rw [ByteArray.size_append]; omega⟩
 refine sx_exit ?_
 refine q_e (q_e (q_bx (q_n (k7 _ _ ?_))))
 refine sx_seq fun K19 k19 => sx_region ?_
 refine mv rfl rfl (av rfl rfl (wl_nil (q_n (k19 _ _ ?_))))
 refine sx_retc ?_
 refine sx_ret1 Tryd.results85 rfl ?_
 have ek : k = 0 := by omega
 subst ek
 exact ⟨congrArg Value.string (show t = natT zs from ht), (c6.t cwl10)⟩

theorem c_iDecText {w : World} {n1 : Bool} {v1 : Value} {lv1 uv1 : Nat} {z1 : List Int} {p1 : Int} (hGT : GlobP w) (hv1 : Sl w lv1 uv1 v1 (z1)) (h63 : z1.length ≤ 4611686018427387904) :
  Ret Tryd.prog 47 [.agg #[.bool n1, v1, .int .i64 p1]] w fun v w' => v = .string (decT n1 z1 p1) ∧ ((decT n1 z1 p1).size ≤ 200) ∧ Chg 0 0 w w' := by
 have hGTl := hGT.lt
 have hv10 := hv1.fit
 refine sx_enter Tryd.func47 rfl Tryd.ntmps47 (nbl rfl) ?_
 refine sx_seq fun K1 k1 => sx_region ?_
 refine sx_box [.bool n1, v1, .int .i64 p1] rfl rfl rfl (fun b2 w3 eb2 sb2 fb2 cb2 => ?_)
 have zw3 := cb2.size
 refine av rfl rfl (wl_nil (q_n (k1 _ _ ?_)))
 refine sx_seq fun K4 k4 => ?_
 refine sx_seq fun K5 k5 => sx_region ?_
 refine sp rfl (px_load rfl (fb2.loadA (vs := [.bool n1, v1, .int .i64 p1]) (look_lit rfl) Tryd.isAgg33 Tryd.sizeOf33)) ?_
 have f6 := hv10.ext cb2
 refine sx_call rfl rfl Tryd.call77 (c_iDecOk f6 (by omega)) (fun v7 w7 p7 => ?_)
 obtain ⟨rfl, c7⟩ := p7
 have zw7 := c7.size
 refine sp rfl (px_notP rfl) ?_
 refine wl_nil (q_n (k5 _ _ ?_))
 refine sx_condP rfl (fun h39 => ?_) (fun h39 => ?_)
 ·
  refine sx_seq fun K8 k8 => sx_region ?_
  refine av rfl rfl (wl_nil (q_n (k8 _ _ ?_)))
  refine sx_retc ?_
  refine q_r (sx_ret1 Tryd.results47 rfl ?_)
  rw [decT_no h39]
  exact ⟨rfl, by decide, (cb2.t c7)⟩
 have hD := Decidable.not_not.1 h39
 have hz := hD.1.1.1
 have hl6 := hD.2.1
 have hp30 := hD.2.2
 have hns := natT_size hz
 have hps := padT_size (s := natT z1) (n := p1 + 1) (by omega)
 refine sx_skip ?_
 refine q_n (k4 _ _ ?_)
 refine sx_seq fun K9 k9 => ?_
 have f10 := hGT.ext cb2
 have f12 := fb2.ext c7
 refine dx_region (fun w' => Chg 0 0 w7 w') (by kernel_rfl) (Chg.zero (Chg.drew _)) ?_
 have d14 := Chg.drew w7
 have s14 : Chg 0 0 w7 (World.drew w7) := Chg.zero (Chg.drew _)
 have y14 : (World.drew w7).heap.size = w7.heap.size := rfl
 generalize World.drew w7 = w14 at *
 have zw14 := d14.size
 refine dt 0 rfl rfl rfl rfl s14 (fun _ hS => px_field rfl xfld33x0) ?_
 refine dt 1 rfl rfl rfl rfl s14 (fun _ hS => px_field rfl xfld24x1) ?_
 refine dt 2 rfl rfl rfl rfl s14 (fun _ hS => px_load rfl ((f12.chg hS (by omega)).load1 rfl Tryd.isAgg22)) ?_
 refine dt 4 rfl rfl rfl rfl s14 (fun _ hS => px_field rfl xfld33x1) ?_
 refine dt 5 rfl rfl rfl rfl s14 (fun _ hS => px_load rfl ((f12.chg hS (by omega)).load1 rfl Tryd.isAgg3)) ?_
 refine dt 6 rfl rfl rfl rfl s14 (fun _ hS => px_add rfl rfl (by omega)) ?_
 refine dx_eff 3 rfl (by kernel_rfl) ?_
 have f15 := (f10.ext c7).ext d14
 have f16 := (f6.ext c7).ext d14
 refine sx_call rfl rfl Tryd.call85 (c_natText f15 f16 (by omega) (by omega)) (fun v17 w17 p17 => ?_)
 obtain ⟨rfl, c17⟩ := p17
 have zw17 := c17.size
 have s18 : Chg 0 0 w7 w17 := (d14.t c17)
 refine wl_nil ?_
 refine dx_next s18 ?_
 refine dx_eff 7 rfl (by kernel_rfl) ?_
 refine sx_call rfl rfl Tryd.call84 (c_iPad (by omega) (by omega)) (fun v19 w19 p19 => ?_)
 obtain ⟨rfl, c19⟩ := p19
 have zw19 := c19.size
 have s20 : Chg 0 0 w7 w19 := ((d14.t c17).t c19)
 refine wl_nil ?_
 refine dx_next s20 ?_
 refine dt 8 rfl rfl rfl rfl s20 (fun _ hS => px_assign rfl) ?_
 refine dx_done (by kernel_rfl) ?_
 refine q_n (k9 _ _ ?_)
 refine sx_sub (Sub.c 1 rfl (.c 2 rfl (.c 3 rfl .nil))) ?_
 refine sx_seq fun K21 k21 => ?_
 refine sx_seq fun K22 k22 => sx_region ?_
 refine sp rfl (px_field rfl xfld33x1) ?_
 have f25 := ((f12.ext d14).ext c17).ext c19
 refine sp rfl (px_load rfl (f25.load1 rfl Tryd.isAgg3)) ?_
 refine sp rfl (px_gt rfl rfl) ?_
 refine wl_nil (q_n (k22 _ _ ?_))
 refine sx_condP rfl (fun h43 => ?_) (fun h43 => ?_)
 ·
  refine sx_seq fun K26 k26 => sx_region ?_
  refine mv rfl rfl (sp rfl (px_lenS rfl Tryd.underlying9) ?_)
  refine sp rfl (px_field rfl xfld33x1) ?_
  refine sp rfl (px_load rfl (f25.load1 rfl Tryd.isAgg3)) ?_
  refine sp rfl (px_sub rfl rfl (by omega)) ?_
  refine av rfl rfl (wl_nil (q_n (k26 _ _ ?_)))
  have f28 := (f15.ext c17).ext c19
  have f30 := (f16.ext c17).ext c19
  refine dx_region (fun w' => Chg 0 0 w19 w') (by kernel_rfl) (Chg.zero (Chg.drew _)) ?_
  have d31 := Chg.drew w19
  have s31 : Chg 0 0 w19 (World.drew w19) := Chg.zero (Chg.drew _)
  have y31 : (World.drew w19).heap.size = w19.heap.size := rfl
  generalize World.drew w19 = w31 at *
  have zw31 := d31.size
  refine dt 0 rfl rfl rfl rfl s31 (fun _ hS => px_move rfl) ?_
  refine dt 1 rfl rfl rfl rfl s31 (fun _ hS => px_move rfl) ?_
  refine dt 2 rfl rfl rfl rfl s31 (fun _ hS => px_strTo (h := ((padT (natT z1) (p1 + 1)).size - p1.toNat)) rfl rfl (by omega) Tryd.underlying9 (by omega)) ?_
  refine dt 3 rfl rfl rfl rfl s31 (fun _ hS => px_cat rfl rfl (by (have e45 : (⟨#[45]⟩ : ByteArray).size = 1 := rfl); (have e46 : (⟨#[46]⟩ : ByteArray).size = 1 := rfl); (try simp only [ByteArray.size_append, ByteArray.size_extract]); omega)) ?_
  refine dt 4 rfl rfl rfl rfl s31 (fun _ hS => px_move rfl) ?_
  refine dt 5 rfl rfl rfl rfl s31 (fun _ hS => px_move rfl) ?_
  refine dt 6 rfl rfl rfl rfl s31 (fun _ hS => px_strFrom (l := ((padT (natT z1) (p1 + 1)).size - p1.toNat)) rfl rfl (by omega) Tryd.underlying9 (by omega)) ?_
  refine dt 7 rfl rfl rfl rfl s31 (fun _ hS => px_cat rfl rfl (by (have e45 : (⟨#[45]⟩ : ByteArray).size = 1 := rfl); (have e46 : (⟨#[46]⟩ : ByteArray).size = 1 := rfl); (try simp only [ByteArray.size_append, ByteArray.size_extract]); omega)) ?_
  refine dt 8 rfl rfl rfl rfl s31 (fun _ hS => px_assign rfl) ?_
  refine dx_done (by kernel_rfl) ?_
  refine q_n (k21 _ _ ?_)
  refine sx_sub (Sub.c 1 rfl (.c 2 rfl (.c 3 rfl .nil))) ?_
  refine sx_seq fun K32 k32 => ?_
  refine sx_seq fun K33 k33 => sx_region ?_
  refine sp rfl (px_field rfl xfld33x0) ?_
  refine sp rfl (px_field rfl xfld24x0) ?_
  have f34 := f25.ext d31
  refine sp rfl (px_load rfl (f34.load1 rfl Tryd.isAgg4)) ?_
  refine wl_nil (q_n (k33 _ _ ?_))
  refine sx_condB rfl (fun h47 => ?_) (fun h47 => ?_)
  ·
   refine sx_region ?_
   refine mv rfl rfl (sp rfl (px_cat rfl rfl (by (have e45 : (⟨#[45]⟩ : ByteArray).size = 1 := rfl); (have e46 : (⟨#[46]⟩ : ByteArray).size = 1 := rfl); (try simp only [ByteArray.size_append, ByteArray.size_extract]); omega)) ?_)
   refine av rfl rfl (wl_nil (q_n (k32 _ _ ?_)))
   refine sx_seq fun K35 k35 => sx_region ?_
   refine mv rfl rfl (av rfl rfl (wl_nil (q_n (k35 _ _ ?_))))
   refine sx_retc ?_
   refine sx_ret1 Tryd.results47 rfl ?_
   have e : (⟨#[45]⟩) ++ ((((padT (natT z1) (p1 + 1)).extract 0 ((padT (natT z1) (p1 + 1)).size - p1.toNat)) ++ (⟨#[46]⟩)) ++ ((padT (natT z1) (p1 + 1)).extract ((padT (natT z1) (p1 + 1)).size - p1.toNat) (padT (natT z1) (p1 + 1)).size)) = decT n1 z1 p1 := by unfold decT sgT ptT; rw [if_pos hD]; simp [h43, h47]
   exact ⟨congrArg Value.string e, by rw [← e]; (try simp only [ByteArray.size_append, ByteArray.size_extract]); (try have e45 : (⟨#[45]⟩ : ByteArray).size = 1 := rfl); (try have e46 : (⟨#[46]⟩ : ByteArray).size = 1 := rfl); omega, (((((cb2.t c7).t d14).t c17).t c19).t d31)⟩
  refine sx_skip ?_
  refine q_n (k32 _ _ ?_)
  refine sx_seq fun K36 k36 => sx_region ?_
  refine mv rfl rfl (av rfl rfl (wl_nil (q_n (k36 _ _ ?_))))
  refine sx_retc ?_
  refine sx_ret1 Tryd.results47 rfl ?_
  have e : (((padT (natT z1) (p1 + 1)).extract 0 ((padT (natT z1) (p1 + 1)).size - p1.toNat)) ++ (⟨#[46]⟩)) ++ ((padT (natT z1) (p1 + 1)).extract ((padT (natT z1) (p1 + 1)).size - p1.toNat) (padT (natT z1) (p1 + 1)).size) = decT n1 z1 p1 := by unfold decT sgT ptT; rw [if_pos hD]; simp [h43, h47]
  exact ⟨congrArg Value.string e, by rw [← e]; (try simp only [ByteArray.size_append, ByteArray.size_extract]); (try have e45 : (⟨#[45]⟩ : ByteArray).size = 1 := rfl); (try have e46 : (⟨#[46]⟩ : ByteArray).size = 1 := rfl); omega, (((((cb2.t c7).t d14).t c17).t c19).t d31)⟩
 refine sx_skip ?_
 refine q_n (k21 _ _ ?_)
 refine sx_seq fun K37 k37 => ?_
 refine sx_seq fun K38 k38 => sx_region ?_
 refine sp rfl (px_field rfl xfld33x0) ?_
 refine sp rfl (px_field rfl xfld24x0) ?_
 refine sp rfl (px_load rfl (f25.load1 rfl Tryd.isAgg4)) ?_
 refine wl_nil (q_n (k38 _ _ ?_))
 refine sx_condB rfl (fun h47 => ?_) (fun h47 => ?_)
 ·
  refine sx_region ?_
  refine mv rfl rfl (sp rfl (px_cat rfl rfl (by (have e45 : (⟨#[45]⟩ : ByteArray).size = 1 := rfl); (have e46 : (⟨#[46]⟩ : ByteArray).size = 1 := rfl); (try simp only [ByteArray.size_append, ByteArray.size_extract]); omega)) ?_)
  refine av rfl rfl (wl_nil (q_n (k37 _ _ ?_)))
  refine sx_seq fun K39 k39 => sx_region ?_
  refine mv rfl rfl (av rfl rfl (wl_nil (q_n (k39 _ _ ?_))))
  refine sx_retc ?_
  refine sx_ret1 Tryd.results47 rfl ?_
  have e : (⟨#[45]⟩) ++ (padT (natT z1) (p1 + 1)) = decT n1 z1 p1 := by unfold decT sgT ptT; rw [if_pos hD]; simp [h43, h47]
  exact ⟨congrArg Value.string e, by rw [← e]; (try simp only [ByteArray.size_append, ByteArray.size_extract]); (try have e45 : (⟨#[45]⟩ : ByteArray).size = 1 := rfl); (try have e46 : (⟨#[46]⟩ : ByteArray).size = 1 := rfl); omega, ((((cb2.t c7).t d14).t c17).t c19)⟩
 refine sx_skip ?_
 refine q_n (k37 _ _ ?_)
 refine sx_seq fun K40 k40 => sx_region ?_
 refine mv rfl rfl (av rfl rfl (wl_nil (q_n (k40 _ _ ?_))))
 refine sx_retc ?_
 refine sx_ret1 Tryd.results47 rfl ?_
 have e : padT (natT z1) (p1 + 1) = decT n1 z1 p1 := by unfold decT sgT ptT; rw [if_pos hD]; simp [h43, h47]
 exact ⟨congrArg Value.string e, by rw [← e]; (try simp only [ByteArray.size_append, ByteArray.size_extract]); (try have e45 : (⟨#[45]⟩ : ByteArray).size = 1 := rfl); (try have e46 : (⟨#[46]⟩ : ByteArray).size = 1 := rfl); omega, ((((cb2.t c7).t d14).t c17).t c19)⟩

end Go.Proofs.YtoeclobdbblohaaDoor
