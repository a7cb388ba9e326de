/-
  The law FnExactReduceRatio, walked.
-/
import Derived.Test.YtoclpcdmpeimkaaRatio
import Derived.Test.YtoclpcdmpeimkaaObj
import Derived.Test.YtoclpcdmpeimkaaSeg
import Derived.Deep.RegionHeld3
import Derived.Deep.DeepCutAuto
import Derived.Test.YtoclpcdmpeimkaaBoxU
namespace Go.Proofs.Ytoclpcdmpeimkaa
open Go.RowKit

set_option maxRecDepth 100000 in
set_option maxHeartbeats 2000000 in
theorem law_FnExactReduceRatio (n0 m0 n1 m1 : Int) (w : World) (_ : (Lit.int .i64 n0).wf = true) (_ : (Lit.int .i64 m0).wf = true) (_ : (Lit.int .i64 n1).wf = true) (_ : (Lit.int .i64 m1).wf = true) :
    Calls Try.prog 3 #[.agg #[.int .i64 n0, .int .i64 m0], .agg #[.int .i64 n1, .int .i64 m1]] w fun e w' => e = .returned (.bool true) ∧ Below w.heap.size w w' := by
  have B0 : Below w.heap.size w w := Below.refl _ _
  have A1 : Below w.heap.size w (w.alloc (.cells #[.int .i64 n0, .int .i64 m0] 23)) := (Below.refl _ _).alloc (Nat.le_refl _) _
  have loa : Hid (w.heap.size ≤ w.heap.size) := B0.size
  have B1 := B0.trans (A1.mono B0.size)
  have oa_1 : Obj (w.heap.size) (w.heap.size + 1) (fun w' => Box w' (w.heap.size) [.int .i64 n0, .int .i64 m0]) (w.alloc (.cells #[.int .i64 n0, .int .i64 m0] 23)) := (Box.newAt _ _ _ (by rfl)).obj
  clear A1 B0
  have A2 : Below (w.alloc (.cells #[.int .i64 n0, .int .i64 m0] 23)).heap.size (w.alloc (.cells #[.int .i64 n0, .int .i64 m0] 23)) ((w.alloc (.cells #[.int .i64 n0, .int .i64 m0] 23)).alloc (.cells #[.int .i64 n1, .int .i64 m1] 23)) := (Below.refl _ _).alloc (Nat.le_refl _) _
  have apa_b : Hid (w.heap.size + 1 ≤ (w.alloc (.cells #[.int .i64 n0, .int .i64 m0] 23)).heap.size) := oa_1.le
  have lob : Hid (w.heap.size ≤ (w.alloc (.cells #[.int .i64 n0, .int .i64 m0] 23)).heap.size) := B1.size
  have B2 := B1.trans (A2.mono B1.size)
  have oa_2 := oa_1.below A2; clear oa_1
  have ob_2 : Obj (w.heap.size + 1) (w.heap.size + 1 + 1) (fun w' => Box w' (w.heap.size + 1) [.int .i64 n1, .int .i64 m1]) ((w.alloc (.cells #[.int .i64 n0, .int .i64 m0] 23)).alloc (.cells #[.int .i64 n1, .int .i64 m1] 23)) := (Box.newAt _ _ _ (by simp)).obj
  clear A2 B1
  go_enter Try.func3, Try.ntmps3
  go_upto_region 1 with fail
  have ca0 := oa_2.now.at 0 rfl
  have ca1 := oa_2.now.at 1 rfl
  have cb0 := ob_2.now.at 0 rfl
  have cb1 := ob_2.now.at 1 rfl
  have K3 : ∀ w', Below ((w.alloc (.cells #[.int .i64 n0, .int .i64 m0] 23)).alloc (.cells #[.int .i64 n1, .int .i64 m1] 23)).heap.size ((w.alloc (.cells #[.int .i64 n0, .int .i64 m0] 23)).alloc (.cells #[.int .i64 n1, .int .i64 m1] 23)) w' → (w'.cell? ⟨w.heap.size, 0, none⟩ = some (.int .i64 n0) ∧ w'.cell? ⟨w.heap.size, 1, none⟩ = some (.int .i64 m0) ∧ w'.cell? ⟨w.heap.size + 1, 0, none⟩ = some (.int .i64 n1) ∧ w'.cell? ⟨w.heap.size + 1, 1, none⟩ = some (.int .i64 m1)) := fun w' b' => ⟨(oa_2.below b').now.at 0 rfl, (oa_2.below b').now.at 1 rfl, (ob_2.below b').now.at 0 rfl, (ob_2.below b').now.at 1 rfl⟩
  have HK3 := Lib.hid K3; clear K3
  have l3 : Below ((w.alloc (.cells #[.int .i64 n0, .int .i64 m0] 23)).alloc (.cells #[.int .i64 n1, .int .i64 m1] 23)).heap.size ((w.alloc (.cells #[.int .i64 n0, .int .i64 m0] 23)).alloc (.cells #[.int .i64 n1, .int .i64 m1] 23)) ((w.alloc (.cells #[.int .i64 n0, .int .i64 m0] 23)).alloc (.cells #[.int .i64 n1, .int .i64 m1] 23)).drew := (Below.refl _ _).drew
  have t3 := HK3.out _ l3; have T3 := Lib.hid t3; clear t3
  have hs3 := Below.size l3; try simp at hs3
  go_cut [5, 6, 7] (fun s0 s1 s2 wx => ∃ g : Nat, s0 = .pointer (some ⟨g, 0, none⟩) ∧ ((w.alloc (.cells #[.int .i64 n0, .int .i64 m0] 23)).alloc (.cells #[.int .i64 n1, .int .i64 m1] 23)).heap.size ≤ g ∧ Below ((w.alloc (.cells #[.int .i64 n0, .int .i64 m0] 23)).alloc (.cells #[.int .i64 n1, .int .i64 m1] 23)).heap.size ((w.alloc (.cells #[.int .i64 n0, .int .i64 m0] 23)).alloc (.cells #[.int .i64 n1, .int .i64 m1] 23)) wx ∧ ∃ R, RatR n0 m0 n1 m1 R ∧ BoxU wx g [.int .i64 (R.1.1), .int .i64 (R.1.2)] ∧ s1 = .int .i64 R.2.1 ∧ s2 = .int .i64 R.2.2)
  case first =>
    go_region_held3 (fun w' => w'.cell? ⟨w.heap.size, 0, none⟩ = some (.int .i64 n0) ∧ w'.cell? ⟨w.heap.size, 1, none⟩ = some (.int .i64 m0) ∧ w'.cell? ⟨w.heap.size + 1, 0, none⟩ = some (.int .i64 n1) ∧ w'.cell? ⟨w.heap.size + 1, 1, none⟩ = some (.int .i64 m1)) (first | exact T3.out | exact t4 | exact t5 | exact t6 | (refine HK3.out _ ?_; repeat (first | exact l6 | exact l5 | exact l4 | exact l3 | exact Below.refl _ _ | refine Below.drew ?_ | refine Below.alloc ?_ (by first | omega | (simp <;> omega)) _ | refine Below.setCell ?_ (by first | omega | (simp <;> omega)) _))) (first | (go_at_call 9; (with_reducible refine (toFrac_any n0 m0 _).mono ?_); rintro e w4 ⟨rfl, b4⟩; have l4 : Below ((w.alloc (.cells #[.int .i64 n0, .int .i64 m0] 23)).alloc (.cells #[.int .i64 n1, .int .i64 m1] 23)).heap.size ((w.alloc (.cells #[.int .i64 n0, .int .i64 m0] 23)).alloc (.cells #[.int .i64 n1, .int .i64 m1] 23)) w4 := belTrans (by repeat (first | exact l3 | exact Below.refl _ _ | refine Below.drew ?_ | refine Below.alloc ?_ (by first | omega | (simp <;> omega)) _ | refine Below.setCell ?_ (by first | omega | (simp <;> omega)) _)) b4; (first | (have nb := nb.below b4) | (have nb := (BoxU.newAt _ [.int .i64 0, .int .i64 0] _ rfl).below b4) | (have nb := (BoxU.newAt _ [.int .i64 0, .int .i64 0] _ rfl).below (belTrans (Below.drew (Below.refl _ _)) b4)) | skip); (try simp at nb); have hs4 := Below.size l4; (try simp at hs4); have t4 := HK3.out _ l4) | (go_at_call 9; (with_reducible refine (toFrac_any n1 m1 _).mono ?_); rintro e w5 ⟨rfl, b5⟩; have l5 : Below ((w.alloc (.cells #[.int .i64 n0, .int .i64 m0] 23)).alloc (.cells #[.int .i64 n1, .int .i64 m1] 23)).heap.size ((w.alloc (.cells #[.int .i64 n0, .int .i64 m0] 23)).alloc (.cells #[.int .i64 n1, .int .i64 m1] 23)) w5 := belTrans (by repeat (first | exact l4 | exact l3 | exact Below.refl _ _ | refine Below.drew ?_ | refine Below.alloc ?_ (by first | omega | (simp <;> omega)) _ | refine Below.setCell ?_ (by first | omega | (simp <;> omega)) _)) b5; (first | (have nb := nb.below b5) | (have nb := (BoxU.newAt _ [.int .i64 0, .int .i64 0] _ rfl).below b5) | (have nb := (BoxU.newAt _ [.int .i64 0, .int .i64 0] _ rfl).below (belTrans (Below.drew (Below.refl _ _)) b5)) | skip); (try simp at nb); have hs5 := Below.size l5; (try simp at hs5); have t5 := HK3.out _ l5) | (go_at_call 8; (with_reducible refine (specRatio_any n0 m0 n1 m1 _).mono ?_); rintro e w6 ⟨R, hR, rfl, b6⟩; have l6 : Below ((w.alloc (.cells #[.int .i64 n0, .int .i64 m0] 23)).alloc (.cells #[.int .i64 n1, .int .i64 m1] 23)).heap.size ((w.alloc (.cells #[.int .i64 n0, .int .i64 m0] 23)).alloc (.cells #[.int .i64 n1, .int .i64 m1] 23)) w6 := belTrans (by repeat (first | exact l5 | exact l4 | exact l3 | exact Below.refl _ _ | refine Below.drew ?_ | refine Below.alloc ?_ (by first | omega | (simp <;> omega)) _ | refine Below.setCell ?_ (by first | omega | (simp <;> omega)) _)) b6; (first | (have nb := nb.below b6) | (have nb := (BoxU.newAt _ [.int .i64 0, .int .i64 0] _ rfl).below b6) | (have nb := (BoxU.newAt _ [.int .i64 0, .int .i64 0] _ rfl).below (belTrans (Below.drew (Below.refl _ _)) b6)) | skip); (try simp at nb); have hs6 := Below.size l6; (try simp at hs6); have t6 := HK3.out _ l6; (try (have k3_0 := nb.1.at 0 rfl; have f3_0 := nb.2 0; have k3_1 := nb.1.at 1 rfl; have f3_1 := nb.2 1))))
    all_goals (go_wp2_with fail; go_meet)
    all_goals (refine ⟨_, rfl, (by first | omega | (simp <;> omega)), (by repeat (first | exact l6 | exact l5 | exact l4 | exact l3 | exact Below.refl _ _ | refine Below.drew ?_ | refine Below.alloc ?_ (by first | omega | (simp <;> omega)) _ | refine Below.setCell ?_ (by first | omega | (simp <;> omega)) _)), R, hR, (by first | exact ((nb.set 0 _ (by simp)).set 1 _ (by simp)) | exact BoxU.newAt _ _ _ rfl | exact BoxU.newAt _ _ _ (by simp)), rfl, rfl⟩)
  obtain ⟨gnewR, rfl, hg7, hb7, R, hR, hbxnewR, rfl, rfl⟩ := hcut
  clear ca0 ca1 cb0 cb1 HK3 T3 l3 hs3
  have apa_newR : Hid (w.heap.size + 1 ≤ gnewR) := Nat.le_trans oa_2.le hg7
  have apb_newR : Hid (w.heap.size + 1 + 1 ≤ gnewR) := Nat.le_trans ob_2.le hg7
  have lonewR : Hid (w.heap.size ≤ gnewR) := Nat.le_trans B2.size hg7
  have B7 := B2.trans (hb7.mono B2.size)
  have oa_7 := oa_2.below hb7; clear oa_2
  have ob_7 := ob_2.below hb7; clear ob_2
  have onewR_7 : Obj gnewR (gnewR + 1) (fun w' => Box w' gnewR [.int .i64 (R.1.1), .int .i64 (R.1.2)]) wc := hbxnewR.1.obj
  clear hb7 hg7 hbxnewR B2
  go_upto_region 2 with fail
  have ca0 := oa_7.now.at 0 rfl
  have ca1 := oa_7.now.at 1 rfl
  have cb0 := ob_7.now.at 0 rfl
  have cb1 := ob_7.now.at 1 rfl
  have K8 : ∀ w', Below wc.heap.size wc w' → (w'.cell? ⟨w.heap.size, 0, none⟩ = some (.int .i64 n0) ∧ w'.cell? ⟨w.heap.size, 1, none⟩ = some (.int .i64 m0) ∧ w'.cell? ⟨w.heap.size + 1, 0, none⟩ = some (.int .i64 n1) ∧ w'.cell? ⟨w.heap.size + 1, 1, none⟩ = some (.int .i64 m1)) := fun w' b' => ⟨(oa_7.below b').now.at 0 rfl, (oa_7.below b').now.at 1 rfl, (ob_7.below b').now.at 0 rfl, (ob_7.below b').now.at 1 rfl⟩
  have HK8 := Lib.hid K8; clear K8
  have l8 : Below wc.heap.size wc wc.drew := (Below.refl _ _).drew
  have t8 := HK8.out _ l8; have T8 := Lib.hid t8; clear t8
  have hs8 := Below.size l8; try simp at hs8
  go_cut [8, 9, 10] (fun s0 s1 s2 wx => ∃ g : Nat, s0 = .pointer (some ⟨g, 0, none⟩) ∧ wc.heap.size ≤ g ∧ Below wc.heap.size wc wx ∧ ∃ Q, RatR n0 m0 n1 m1 Q ∧ BoxU wx g [.int .i64 (Q.1.1), .int .i64 (Q.1.2)] ∧ s1 = .int .i64 Q.2.1 ∧ s2 = .int .i64 Q.2.2)
  case first =>
    go_region_held3 (fun w' => w'.cell? ⟨w.heap.size, 0, none⟩ = some (.int .i64 n0) ∧ w'.cell? ⟨w.heap.size, 1, none⟩ = some (.int .i64 m0) ∧ w'.cell? ⟨w.heap.size + 1, 0, none⟩ = some (.int .i64 n1) ∧ w'.cell? ⟨w.heap.size + 1, 1, none⟩ = some (.int .i64 m1)) (first | exact T8.out | exact t9 | exact t10 | exact t11 | (refine HK8.out _ ?_; repeat (first | exact l11 | exact l10 | exact l9 | exact l8 | exact Below.refl _ _ | refine Below.drew ?_ | refine Below.alloc ?_ (by first | omega | (simp <;> omega)) _ | refine Below.setCell ?_ (by first | omega | (simp <;> omega)) _))) (first | (go_at_call 9; (with_reducible refine (toFrac_any n0 m0 _).mono ?_); rintro e w9 ⟨rfl, b9⟩; have l9 : Below wc.heap.size wc w9 := belTrans (by repeat (first | exact l8 | exact Below.refl _ _ | refine Below.drew ?_ | refine Below.alloc ?_ (by first | omega | (simp <;> omega)) _ | refine Below.setCell ?_ (by first | omega | (simp <;> omega)) _)) b9; (first | (have nb := nb.below b9) | (have nb := (BoxU.newAt _ [.int .i64 0, .int .i64 0] _ rfl).below b9) | (have nb := (BoxU.newAt _ [.int .i64 0, .int .i64 0] _ rfl).below (belTrans (Below.drew (Below.refl _ _)) b9)) | skip); (try simp at nb); have hs9 := Below.size l9; (try simp at hs9); have t9 := HK8.out _ l9) | (go_at_call 9; (with_reducible refine (toFrac_any n1 m1 _).mono ?_); rintro e w10 ⟨rfl, b10⟩; have l10 : Below wc.heap.size wc w10 := belTrans (by repeat (first | exact l9 | exact l8 | exact Below.refl _ _ | refine Below.drew ?_ | refine Below.alloc ?_ (by first | omega | (simp <;> omega)) _ | refine Below.setCell ?_ (by first | omega | (simp <;> omega)) _)) b10; (first | (have nb := nb.below b10) | (have nb := (BoxU.newAt _ [.int .i64 0, .int .i64 0] _ rfl).below b10) | (have nb := (BoxU.newAt _ [.int .i64 0, .int .i64 0] _ rfl).below (belTrans (Below.drew (Below.refl _ _)) b10)) | skip); (try simp at nb); have hs10 := Below.size l10; (try simp at hs10); have t10 := HK8.out _ l10) | (go_at_call 10; (with_reducible refine (implRatio_any n0 m0 n1 m1 _).mono ?_); rintro e w11 ⟨Q, hQ, rfl, b11⟩; have l11 : Below wc.heap.size wc w11 := belTrans (by repeat (first | exact l10 | exact l9 | exact l8 | exact Below.refl _ _ | refine Below.drew ?_ | refine Below.alloc ?_ (by first | omega | (simp <;> omega)) _ | refine Below.setCell ?_ (by first | omega | (simp <;> omega)) _)) b11; (first | (have nb := nb.below b11) | (have nb := (BoxU.newAt _ [.int .i64 0, .int .i64 0] _ rfl).below b11) | (have nb := (BoxU.newAt _ [.int .i64 0, .int .i64 0] _ rfl).below (belTrans (Below.drew (Below.refl _ _)) b11)) | skip); (try simp at nb); have hs11 := Below.size l11; (try simp at hs11); have t11 := HK8.out _ l11; (try (have k8_0 := nb.1.at 0 rfl; have f8_0 := nb.2 0; have k8_1 := nb.1.at 1 rfl; have f8_1 := nb.2 1))))
    all_goals (go_wp2_with fail; go_meet)
    all_goals (refine ⟨_, rfl, (by first | omega | (simp <;> omega)), (by repeat (first | exact l11 | exact l10 | exact l9 | exact l8 | exact Below.refl _ _ | refine Below.drew ?_ | refine Below.alloc ?_ (by first | omega | (simp <;> omega)) _ | refine Below.setCell ?_ (by first | omega | (simp <;> omega)) _)), Q, hQ, (by first | exact ((nb.set 0 _ (by simp)).set 1 _ (by simp)) | exact BoxU.newAt _ _ _ rfl | exact BoxU.newAt _ _ _ (by simp)), rfl, rfl⟩)
  obtain ⟨gnewQ, rfl, hg12, hb12, Q, hQ, hbxnewQ, rfl, rfl⟩ := hcut
  clear ca0 ca1 cb0 cb1 HK8 T8 l8 hs8
  have apa_newQ : Hid (w.heap.size + 1 ≤ gnewQ) := Nat.le_trans oa_7.le hg12
  have apb_newQ : Hid (w.heap.size + 1 + 1 ≤ gnewQ) := Nat.le_trans ob_7.le hg12
  have apnewR_newQ : Hid (gnewR + 1 ≤ gnewQ) := Nat.le_trans onewR_7.le hg12
  have lonewQ : Hid (w.heap.size ≤ gnewQ) := Nat.le_trans B7.size hg12
  have B12 := B7.trans (hb12.mono B7.size)
  have oa_12 := oa_7.below hb12; clear oa_7
  have ob_12 := ob_7.below hb12; clear ob_7
  have onewR_12 := onewR_7.below hb12; clear onewR_7
  have onewQ_12 : Obj gnewQ (gnewQ + 1) (fun w' => Box w' gnewQ [.int .i64 (Q.1.1), .int .i64 (Q.1.2)]) wc := hbxnewQ.1.obj
  clear hb12 hg12 hbxnewQ B7
  obtain rfl := RatR.det hR hQ
  have cnewQ0 := onewQ_12.now.at 0 rfl
  have cnewQ1 := onewQ_12.now.at 1 rfl
  have cnewR0 := onewR_12.now.at 0 rfl
  have cnewR1 := onewR_12.now.at 1 rfl
  go_wp2_with fail
  clear cnewQ0 cnewQ1 cnewR0 cnewR1
  refine (eqFrac_same R.1.1 R.1.2 _).mono ?_; rintro e w13 ⟨rfl, b13⟩
  have B13 := B12.trans (b13.mono B12.size)
  have oa_13 := oa_12.below b13; clear oa_12
  have ob_13 := ob_12.below b13; clear ob_12
  have onewR_13 := onewR_12.below b13; clear onewR_12
  have onewQ_13 := onewQ_12.below b13; clear onewQ_12
  clear b13 B12
  go_wp2_with fail
  go_ret
  exact ⟨rfl, B13⟩


end Go.Proofs.Ytoclpcdmpeimkaa
