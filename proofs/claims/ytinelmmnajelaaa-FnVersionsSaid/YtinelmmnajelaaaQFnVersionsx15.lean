/- Contracts of Go functions that FnVersions reaches: the call computes what the plain function says. No condition. -/
import Derived.Test.YtinelmmnajelaaaQFnVersionsx0
import Derived.Test.YtinelmmnajelaaaQFnVersionsx2
import Derived.Test.YtinelmmnajelaaaQFnVersionsx3
import Derived.Test.YtinelmmnajelaaaQFnVersionsx6
import Derived.Test.YtinelmmnajelaaaQFnVersionsx8
import Derived.Test.YtinelmmnajelaaaQFnVersionsx9
import Derived.Test.YtinelmmnajelaaaQFnVersionsx10
import Derived.Test.YtinelmmnajelaaaQFnVersionsx13
import Derived.Test.YtinelmmnajelaaaQFnVersionsx14
namespace Go.Proofs.Ytinelmmnajelaaa.QFnVersions
open Go.RowKit Go.Proofs.YtinelmmnajelaaaW.PrintWords Go.Proofs.YtinelmmnajelaaaW.PrintLast Go.Proofs.YtinelmmnajelaaaW.PrintMore
attribute [local go_sem] max2_int min2_int max_two min_two max_three min_three max_four min_four   -- for this text's walks alone
set_option linter.unusedVariables false
set_option linter.unusedSimpArgs false

attribute [local go_sem high] eqA28
/-! ### laws_FnVersions: function 11 -/
mutual
def laws_FnVersions.j0 : Nat → List Int → List (S26) → List (S28) → Int → List (S28) → Bool → Bool → Option (Bool)
 | 0, _, _, _, _, _, _, _ => none
 | k + 1, x0, x3, x4, x5, x6, x7, x77 => if x77 = true then (some false) else (if x7 = true then ((impl_VersionAt.f k x3 x4 (x4.length : Int)).bind fun bt578 => ((impl_VersionAt.f k x3 x4 (wrap64 ((x4.length : Int) - x5))).bind fun bt582 => (if bt578.2 = true then (laws_FnVersions.j1 k x0 x6 bt578.1 bt582.1 (!bt582.2)) else (laws_FnVersions.j1 k x0 x6 bt578.1 bt582.1 true)))) else (laws_FnVersions.j3 k x0))
def laws_FnVersions.j3 : Nat → List Int → Option (Bool)
 | 0, _ => none
 | k + 1, x0 => (spec_DrawApplyEdit.f k x0).bind fun bt592 => ((impl_ApplyEdit.f k bt592.1 bt592.2.1 bt592.2.2.1 bt592.2.2.2.1 bt592.2.2.2.2.1 bt592.2.2.2.2.2.1 bt592.2.2.2.2.2.2.1 bt592.2.2.2.2.2.2.2.1 bt592.2.2.2.2.2.2.2.2.1 bt592.2.2.2.2.2.2.2.2.2.1 bt592.2.2.2.2.2.2.2.2.2.2.1 bt592.2.2.2.2.2.2.2.2.2.2.2.1 bt592.2.2.2.2.2.2.2.2.2.2.2.2).bind fun bt608 => ((spec_ApplyEdit.f k bt592.1 bt592.2.1 bt592.2.2.1 bt592.2.2.2.1 bt592.2.2.2.2.1 bt592.2.2.2.2.2.1 bt592.2.2.2.2.2.2.1 bt592.2.2.2.2.2.2.2.1 bt592.2.2.2.2.2.2.2.2.1 bt592.2.2.2.2.2.2.2.2.2.1 bt592.2.2.2.2.2.2.2.2.2.2.1 bt592.2.2.2.2.2.2.2.2.2.2.2.1 bt592.2.2.2.2.2.2.2.2.2.2.2.2).bind fun bt612 => (if (bt608.2 != bt612.2) = true then (laws_FnVersions.j4 k x0 bt592.1 bt608.1 bt608.2 true bt592.2.1 bt592.2.2.1 bt592.2.2.2.1 bt592.2.2.2.2.1 bt592.2.2.2.2.2.1 bt592.2.2.2.2.2.2.1 bt592.2.2.2.2.2.2.2.1 bt592.2.2.2.2.2.2.2.2.1 bt592.2.2.2.2.2.2.2.2.2.1 bt592.2.2.2.2.2.2.2.2.2.2.1 bt592.2.2.2.2.2.2.2.2.2.2.2.1 bt592.2.2.2.2.2.2.2.2.2.2.2.2) else ((laws_vLegs.f k bt608.1 bt612.1).bind fun t616 => (laws_FnVersions.j4 k x0 bt592.1 bt608.1 bt608.2 (!t616) bt592.2.1 bt592.2.2.1 bt592.2.2.2.1 bt592.2.2.2.2.1 bt592.2.2.2.2.2.1 bt592.2.2.2.2.2.2.1 bt592.2.2.2.2.2.2.2.1 bt592.2.2.2.2.2.2.2.2.1 bt592.2.2.2.2.2.2.2.2.2.1 bt592.2.2.2.2.2.2.2.2.2.2.1 bt592.2.2.2.2.2.2.2.2.2.2.2.1 bt592.2.2.2.2.2.2.2.2.2.2.2.2)))))
def laws_FnVersions.j4 : Nat → List Int → List (S26) → List (S26) → Bool → Bool → Int → Int → Int → Int → Int → Int → Int → Int → Int → Int → Int → Int → Option (Bool)
 | 0, _, _, _, _, _, _, _, _, _, _, _, _, _, _, _, _, _ => none
 | k + 1, x0, x17, x19, x20, x150, x608000, x608001, x608002, x608003, x608004, x608005, x608006, x608007, x608008, x608009, x608010, x608011 => if x150 = true then (some false) else ((impl_InverseEdit.f x608000 x608001 x608002 x608003 x608004 x608005 x608006 x608007 x608008 x608009 x608010 x608011).bind fun bt617 => ((spec_InverseEdit.f x608000 x608001 x608002 x608003 x608004 x608005 x608006 x608007 x608008 x608009 x608010 x608011).bind fun bt631 => (if (!(bt617.1 == bt631.1) || (!(bt617.2.1 == bt631.2.1) || ((!(bt617.2.2.1 == bt631.2.2.1) || (!(bt617.2.2.2.1 == bt631.2.2.2.1) || (!(bt617.2.2.2.2.1 == bt631.2.2.2.2.1) || (!(bt617.2.2.2.2.2.1 == bt631.2.2.2.2.2.1) || (!(bt617.2.2.2.2.2.2.1 == bt631.2.2.2.2.2.2.1)))))) || ((!(bt617.2.2.2.2.2.2.2.1 == bt631.2.2.2.2.2.2.2.1) || (!(bt617.2.2.2.2.2.2.2.2.1 == bt631.2.2.2.2.2.2.2.2.1) || (!(bt617.2.2.2.2.2.2.2.2.2.1 == bt631.2.2.2.2.2.2.2.2.2.1) || (!(bt617.2.2.2.2.2.2.2.2.2.2.1 == bt631.2.2.2.2.2.2.2.2.2.2.1) || (!(bt617.2.2.2.2.2.2.2.2.2.2.2.1 == bt631.2.2.2.2.2.2.2.2.2.2.2.1)))))))))) = true then (laws_FnVersions.j5 k x0 x17 x19 x20 true x608000 x608001 x608002 x608003 x608004 x608005 x608006 x608007 x608008 x608009 x608010 x608011 bt617.1 bt617.2.1 bt617.2.2.1 bt617.2.2.2.1 bt617.2.2.2.2.1 bt617.2.2.2.2.2.1 bt617.2.2.2.2.2.2.1 bt617.2.2.2.2.2.2.2.1 bt617.2.2.2.2.2.2.2.2.1 bt617.2.2.2.2.2.2.2.2.2.1 bt617.2.2.2.2.2.2.2.2.2.2.1 bt617.2.2.2.2.2.2.2.2.2.2.2.1) else (if (bt617.2.2.2.2.2.2.2.2.2.2.2.2 != bt631.2.2.2.2.2.2.2.2.2.2.2.2) = true then (laws_FnVersions.j5 k x0 x17 x19 x20 true x608000 x608001 x608002 x608003 x608004 x608005 x608006 x608007 x608008 x608009 x608010 x608011 bt617.1 bt617.2.1 bt617.2.2.1 bt617.2.2.2.1 bt617.2.2.2.2.1 bt617.2.2.2.2.2.1 bt617.2.2.2.2.2.2.1 bt617.2.2.2.2.2.2.2.1 bt617.2.2.2.2.2.2.2.2.1 bt617.2.2.2.2.2.2.2.2.2.1 bt617.2.2.2.2.2.2.2.2.2.2.1 bt617.2.2.2.2.2.2.2.2.2.2.2.1) else (if x20 = true then (laws_FnVersions.j5 k x0 x17 x19 x20 (!bt617.2.2.2.2.2.2.2.2.2.2.2.2) x608000 x608001 x608002 x608003 x608004 x608005 x608006 x608007 x608008 x608009 x608010 x608011 bt617.1 bt617.2.1 bt617.2.2.1 bt617.2.2.2.1 bt617.2.2.2.2.1 bt617.2.2.2.2.2.1 bt617.2.2.2.2.2.2.1 bt617.2.2.2.2.2.2.2.1 bt617.2.2.2.2.2.2.2.2.1 bt617.2.2.2.2.2.2.2.2.2.1 bt617.2.2.2.2.2.2.2.2.2.2.1 bt617.2.2.2.2.2.2.2.2.2.2.2.1) else (laws_FnVersions.j5 k x0 x17 x19 x20 false x608000 x608001 x608002 x608003 x608004 x608005 x608006 x608007 x608008 x608009 x608010 x608011 bt617.1 bt617.2.1 bt617.2.2.1 bt617.2.2.2.1 bt617.2.2.2.2.1 bt617.2.2.2.2.2.1 bt617.2.2.2.2.2.2.1 bt617.2.2.2.2.2.2.2.1 bt617.2.2.2.2.2.2.2.2.1 bt617.2.2.2.2.2.2.2.2.2.1 bt617.2.2.2.2.2.2.2.2.2.2.1 bt617.2.2.2.2.2.2.2.2.2.2.2.1))))))
def laws_FnVersions.j5 : Nat → List Int → List (S26) → List (S26) → Bool → Bool → Int → Int → Int → Int → Int → Int → Int → Int → Int → Int → Int → Int → Int → Int → Int → Int → Int → Int → Int → Int → Int → Int → Int → Int → Option (Bool)
 | 0, _, _, _, _, _, _, _, _, _, _, _, _, _, _, _, _, _, _, _, _, _, _, _, _, _, _, _, _, _ => none
 | k + 1, x0, x17, x19, x20, x175, x608000, x608001, x608002, x608003, x608004, x608005, x608006, x608007, x608008, x608009, x608010, x608011, x631000, x631001, x631002, x631003, x631004, x631005, x631006, x631007, x631008, x631009, x631010, x631011 => if x175 = true then (some false) else (if x20 = true then ((impl_ApplyEdit.f k x19 x631000 x631001 x631002 x631003 x631004 x631005 x631006 x631007 x631008 x631009 x631010 x631011).bind fun bt645 => ((impl_InverseEdit.f x631000 x631001 x631002 x631003 x631004 x631005 x631006 x631007 x631008 x631009 x631010 x631011).bind fun bt649 => (if bt645.2 = true then ((laws_vLegs.f k bt645.1 x17).bind fun t663 => (if t663 = true then (if bt649.2.2.2.2.2.2.2.2.2.2.2.2 = true then (if (!(bt649.1 == x608000) || (!(bt649.2.1 == x608001) || ((!(bt649.2.2.1 == x608002) || (!(bt649.2.2.2.1 == x608003) || (!(bt649.2.2.2.2.1 == x608004) || (!(bt649.2.2.2.2.2.1 == x608005) || (!(bt649.2.2.2.2.2.2.1 == x608006)))))) || ((!(bt649.2.2.2.2.2.2.2.1 == x608007) || (!(bt649.2.2.2.2.2.2.2.2.1 == x608008) || (!(bt649.2.2.2.2.2.2.2.2.2.1 == x608009) || (!(bt649.2.2.2.2.2.2.2.2.2.2.1 == x608010) || (!(bt649.2.2.2.2.2.2.2.2.2.2.2.1 == x608011)))))))))) = true then (some false) else (laws_FnVersions.j6 k x0)) else (some false)) else (some false))) else (some false)))) else (laws_FnVersions.j6 k x0))
def laws_FnVersions.j6 : Nat → List Int → Option (Bool)
 | 0, _ => none
 | k + 1, x0 => (spec_DrawVersionAt.f k x0).bind fun bt664 => ((impl_VersionAt.f k bt664.1 bt664.2.1 bt664.2.2).bind fun bt671 => ((spec_VersionAt.f k bt664.1 bt664.2.1 bt664.2.2).bind fun bt675 => (if (bt671.2 == bt675.2) = true then ((laws_vLegs.f k bt671.1 bt675.1).bind fun t679 => (some t679)) else (some false))))
def laws_FnVersions.j1 : Nat → List Int → List (S28) → List (S26) → List (S26) → Bool → Option (Bool)
 | 0, _, _, _, _, _ => none
 | k + 1, x0, x6, x10, x12, x102 => if x102 = true then (some false) else (laws_FnVersions.l0 k x0 x6 x10 x12 0)
def laws_FnVersions.l0 : Nat → List Int → List (S28) → List (S26) → List (S26) → Int → Option (Bool)
 | 0, _, _, _, _, _ => none
 | k + 1, x0, x6, x10, x12, x14 => if x14 < (x6.length : Int) then (if 0 ≤ x14 then ((impl_ApplyEdit.f k x10 ((rd_T28 x6 x14).f0) ((rd_T28 x6 x14).f1) ((rd_T28 x6 x14).f2.f0) ((rd_T28 x6 x14).f2.f1) ((rd_T28 x6 x14).f2.f2) ((rd_T28 x6 x14).f2.f3) ((rd_T28 x6 x14).f2.f4) ((rd_T28 x6 x14).f3.f0) ((rd_T28 x6 x14).f3.f1) ((rd_T28 x6 x14).f3.f2) ((rd_T28 x6 x14).f3.f3) ((rd_T28 x6 x14).f3.f4)).bind fun bt587 => (if bt587.2 = true then (laws_FnVersions.l0 k x0 x6 bt587.1 x12 (wrap64 (x14 + 1))) else (some false))) else (none)) else ((laws_vLegs.f k x10 x12).bind fun t591 => (if t591 = true then (laws_FnVersions.j3 k x0) else (some false)))
end
def laws_FnVersions.f (k : Nat) (l0 : List Int) : Option (Bool) := (laws_vBig.f l0).bind fun t559 => (if t559 = true then (some true) else ((spec_DrawUndoEdits.f k l0).bind fun bt560 => ((impl_UndoEdits.f k bt560.1 bt560.2.1 bt560.2.2).bind fun bt567 => ((spec_UndoEdits.f k bt560.1 bt560.2.1 bt560.2.2).bind fun bt571 => (if (bt567.2 != bt571.2) = true then (laws_FnVersions.j0 k l0 bt560.1 bt560.2.1 bt560.2.2 bt567.1 bt567.2 true) else ((laws_vEdits.f k bt567.1 bt571.1).bind fun t575 => (if t575 = true then ((impl_IsHistory.f k bt560.1 bt560.2.1).bind fun t576 => ((spec_IsHistory.f k bt560.1 bt560.2.1).bind fun t577 => (laws_FnVersions.j0 k l0 bt560.1 bt560.2.1 bt560.2.2 bt567.1 bt567.2 (t576 != t577)))) else (laws_FnVersions.j0 k l0 bt560.1 bt560.2.1 bt560.2.2 bt567.1 bt567.2 true))))))))
theorem laws_FnVersions.mono_l : ∀ k, (∀ y0 y1 y2 y3 y4 y5 y6, LeO (laws_FnVersions.j0 k y0 y1 y2 y3 y4 y5 y6) (laws_FnVersions.j0 (k + 1) y0 y1 y2 y3 y4 y5 y6)) ∧ (∀ y0, LeO (laws_FnVersions.j3 k y0) (laws_FnVersions.j3 (k + 1) y0)) ∧ (∀ y0 y1 y2 y3 y4 y5 y6 y7 y8 y9 y10 y11 y12 y13 y14 y15 y16, LeO (laws_FnVersions.j4 k y0 y1 y2 y3 y4 y5 y6 y7 y8 y9 y10 y11 y12 y13 y14 y15 y16) (laws_FnVersions.j4 (k + 1) y0 y1 y2 y3 y4 y5 y6 y7 y8 y9 y10 y11 y12 y13 y14 y15 y16)) ∧ (∀ y0 y1 y2 y3 y4 y5 y6 y7 y8 y9 y10 y11 y12 y13 y14 y15 y16 y17 y18 y19 y20 y21 y22 y23 y24 y25 y26 y27 y28, LeO (laws_FnVersions.j5 k y0 y1 y2 y3 y4 y5 y6 y7 y8 y9 y10 y11 y12 y13 y14 y15 y16 y17 y18 y19 y20 y21 y22 y23 y24 y25 y26 y27 y28) (laws_FnVersions.j5 (k + 1) y0 y1 y2 y3 y4 y5 y6 y7 y8 y9 y10 y11 y12 y13 y14 y15 y16 y17 y18 y19 y20 y21 y22 y23 y24 y25 y26 y27 y28)) ∧ (∀ y0, LeO (laws_FnVersions.j6 k y0) (laws_FnVersions.j6 (k + 1) y0)) ∧ (∀ y0 y1 y2 y3 y4, LeO (laws_FnVersions.j1 k y0 y1 y2 y3 y4) (laws_FnVersions.j1 (k + 1) y0 y1 y2 y3 y4)) ∧ (∀ y0 y1 y2 y3 y4, LeO (laws_FnVersions.l0 k y0 y1 y2 y3 y4) (laws_FnVersions.l0 (k + 1) y0 y1 y2 y3 y4))
 | 0 => ⟨fun _ _ _ _ _ _ _ r h => by simp [laws_FnVersions.j0] at h, fun _ r h => by simp [laws_FnVersions.j3] at h, fun _ _ _ _ _ _ _ _ _ _ _ _ _ _ _ _ _ r h => by simp [laws_FnVersions.j4] at h, fun _ _ _ _ _ _ _ _ _ _ _ _ _ _ _ _ _ _ _ _ _ _ _ _ _ _ _ _ _ r h => by simp [laws_FnVersions.j5] at h, fun _ r h => by simp [laws_FnVersions.j6] at h, fun _ _ _ _ _ r h => by simp [laws_FnVersions.j1] at h, fun _ _ _ _ _ r h => by simp [laws_FnVersions.l0] at h⟩
 | k + 1 => by
  obtain ⟨ih0, ih1, ih2, ih3, ih4, ih5, ih6⟩ := laws_FnVersions.mono_l k
  refine ⟨?_, ?_, ?_, ?_, ?_, ?_, ?_⟩
  ·intro y0 y1 y2 y3 y4 y5 y6
   unfold laws_FnVersions.j0
   repeat' with_reducible first | apply ih0 | apply ih1 | apply ih2 | apply ih3 | apply ih4 | apply ih5 | apply ih6 | apply impl_ApplyEdit.mono | apply impl_IsHistory.mono | apply impl_UndoEdits.mono | apply impl_VersionAt.mono | apply laws_vEdits.mono | apply laws_vLegs.mono | apply spec_ApplyEdit.mono | apply spec_DrawApplyEdit.mono | apply spec_DrawUndoEdits.mono | apply spec_DrawVersionAt.mono | apply spec_IsHistory.mono | apply spec_UndoEdits.mono | apply spec_VersionAt.mono | exact LeO.refl _ | exact LeO.none _ | refine LeO.ite ?_ ?_ | refine LeO.bind ?_ (fun _ => ?_)
  ·intro y0
   unfold laws_FnVersions.j3
   repeat' with_reducible first | apply ih0 | apply ih1 | apply ih2 | apply ih3 | apply ih4 | apply ih5 | apply ih6 | apply impl_ApplyEdit.mono | apply impl_IsHistory.mono | apply impl_UndoEdits.mono | apply impl_VersionAt.mono | apply laws_vEdits.mono | apply laws_vLegs.mono | apply spec_ApplyEdit.mono | apply spec_DrawApplyEdit.mono | apply spec_DrawUndoEdits.mono | apply spec_DrawVersionAt.mono | apply spec_IsHistory.mono | apply spec_UndoEdits.mono | apply spec_VersionAt.mono | exact LeO.refl _ | exact LeO.none _ | refine LeO.ite ?_ ?_ | refine LeO.bind ?_ (fun _ => ?_)
  ·intro y0 y1 y2 y3 y4 y5 y6 y7 y8 y9 y10 y11 y12 y13 y14 y15 y16
   unfold laws_FnVersions.j4
   repeat' with_reducible first | apply ih0 | apply ih1 | apply ih2 | apply ih3 | apply ih4 | apply ih5 | apply ih6 | apply impl_ApplyEdit.mono | apply impl_IsHistory.mono | apply impl_UndoEdits.mono | apply impl_VersionAt.mono | apply laws_vEdits.mono | apply laws_vLegs.mono | apply spec_ApplyEdit.mono | apply spec_DrawApplyEdit.mono | apply spec_DrawUndoEdits.mono | apply spec_DrawVersionAt.mono | apply spec_IsHistory.mono | apply spec_UndoEdits.mono | apply spec_VersionAt.mono | exact LeO.refl _ | exact LeO.none _ | refine LeO.ite ?_ ?_ | refine LeO.bind ?_ (fun _ => ?_)
  ·intro y0 y1 y2 y3 y4 y5 y6 y7 y8 y9 y10 y11 y12 y13 y14 y15 y16 y17 y18 y19 y20 y21 y22 y23 y24 y25 y26 y27 y28
   unfold laws_FnVersions.j5
   repeat' with_reducible first | apply ih0 | apply ih1 | apply ih2 | apply ih3 | apply ih4 | apply ih5 | apply ih6 | apply impl_ApplyEdit.mono | apply impl_IsHistory.mono | apply impl_UndoEdits.mono | apply impl_VersionAt.mono | apply laws_vEdits.mono | apply laws_vLegs.mono | apply spec_ApplyEdit.mono | apply spec_DrawApplyEdit.mono | apply spec_DrawUndoEdits.mono | apply spec_DrawVersionAt.mono | apply spec_IsHistory.mono | apply spec_UndoEdits.mono | apply spec_VersionAt.mono | exact LeO.refl _ | exact LeO.none _ | refine LeO.ite ?_ ?_ | refine LeO.bind ?_ (fun _ => ?_)
  ·intro y0
   unfold laws_FnVersions.j6
   repeat' with_reducible first | apply ih0 | apply ih1 | apply ih2 | apply ih3 | apply ih4 | apply ih5 | apply ih6 | apply impl_ApplyEdit.mono | apply impl_IsHistory.mono | apply impl_UndoEdits.mono | apply impl_VersionAt.mono | apply laws_vEdits.mono | apply laws_vLegs.mono | apply spec_ApplyEdit.mono | apply spec_DrawApplyEdit.mono | apply spec_DrawUndoEdits.mono | apply spec_DrawVersionAt.mono | apply spec_IsHistory.mono | apply spec_UndoEdits.mono | apply spec_VersionAt.mono | exact LeO.refl _ | exact LeO.none _ | refine LeO.ite ?_ ?_ | refine LeO.bind ?_ (fun _ => ?_)
  ·intro y0 y1 y2 y3 y4
   unfold laws_FnVersions.j1
   repeat' with_reducible first | apply ih0 | apply ih1 | apply ih2 | apply ih3 | apply ih4 | apply ih5 | apply ih6 | apply impl_ApplyEdit.mono | apply impl_IsHistory.mono | apply impl_UndoEdits.mono | apply impl_VersionAt.mono | apply laws_vEdits.mono | apply laws_vLegs.mono | apply spec_ApplyEdit.mono | apply spec_DrawApplyEdit.mono | apply spec_DrawUndoEdits.mono | apply spec_DrawVersionAt.mono | apply spec_IsHistory.mono | apply spec_UndoEdits.mono | apply spec_VersionAt.mono | exact LeO.refl _ | exact LeO.none _ | refine LeO.ite ?_ ?_ | refine LeO.bind ?_ (fun _ => ?_)
  ·intro y0 y1 y2 y3 y4
   unfold laws_FnVersions.l0
   repeat' with_reducible first | apply ih0 | apply ih1 | apply ih2 | apply ih3 | apply ih4 | apply ih5 | apply ih6 | apply impl_ApplyEdit.mono | apply impl_IsHistory.mono | apply impl_UndoEdits.mono | apply impl_VersionAt.mono | apply laws_vEdits.mono | apply laws_vLegs.mono | apply spec_ApplyEdit.mono | apply spec_DrawApplyEdit.mono | apply spec_DrawUndoEdits.mono | apply spec_DrawVersionAt.mono | apply spec_IsHistory.mono | apply spec_UndoEdits.mono | apply spec_VersionAt.mono | exact LeO.refl _ | exact LeO.none _ | refine LeO.ite ?_ ?_ | refine LeO.bind ?_ (fun _ => ?_)
theorem laws_FnVersions.mono : ∀ a0 k, LeO (laws_FnVersions.f k a0) (laws_FnVersions.f (k + 1) a0) := by
 intro a0 k
 obtain ⟨ih0, ih1, ih2, ih3, ih4, ih5, ih6⟩ := laws_FnVersions.mono_l k
 unfold laws_FnVersions.f
 repeat' with_reducible first | apply ih0 | apply ih1 | apply ih2 | apply ih3 | apply ih4 | apply ih5 | apply ih6 | apply impl_ApplyEdit.mono | apply impl_IsHistory.mono | apply impl_UndoEdits.mono | apply impl_VersionAt.mono | apply laws_vEdits.mono | apply laws_vLegs.mono | apply spec_ApplyEdit.mono | apply spec_DrawApplyEdit.mono | apply spec_DrawUndoEdits.mono | apply spec_DrawVersionAt.mono | apply spec_IsHistory.mono | apply spec_UndoEdits.mono | apply spec_VersionAt.mono | exact LeO.refl _ | exact LeO.none _ | refine LeO.ite ?_ ?_ | refine LeO.bind ?_ (fun _ => ?_)
set_option maxHeartbeats 8000000 in
set_option maxRecDepth 100000 in
theorem laws_FnVersions.calls (k : Nat) (A0 : Option Addr) (c0 : Nat) (l0 : List Int) (r : Bool) (w : World) (hr0 : Kd.C (Kd.int .u8) w A0 l0.length l0) (hc0 : l0.length ≤ c0) (h : laws_FnVersions.f k l0 = some r) (hT : r = true) :
  Calls Try.prog 11 #[.slice A0 l0.length c0] w fun e w' => e = .returned (.bool r) ∧ Below w.heap.size w w' := by
 have hu28 := Try.underlying28
 have HR0 := Aside0.mk hr0
 have HC0 := Aside0.mk hc0
 clear hr0 hc0
 have HB := Aside0.mk (Below.refl w.heap.size w)
 have H := h
 clear h
 unfold laws_FnVersions.f at H
 replace H := bA H
 obtain ⟨t559, A2, H⟩ := H
 rcases Bool.eq_false_or_eq_true t559 with rfl | rfl
 ·replace H := iT rfl H
  obtain rfl := (Option.some.inj H)
  go_enter Try.func11, Try.ntmps11
  go_wp2_with (first | ((with_reducible refine gC 47 ?_); refine lA (some 39) Try.func47 (laws_vBig.calls _ _ l0 true _ ?side1 ?side2 A2.out) ?_; (case side1 => repeat (first | exact HR0.out | (with_reducible refine Kd.C_alloc ?_ _) | (with_reducible refine Kd.C_drewN ?_ _) | (with_reducible refine Kd.C_drew ?_))); (case side2 => exact HC0.out); rintro _ ⟨nd, rfl⟩))
  go_ret
  exact ⟨eB, (bW HB)⟩
 ·replace H := iF (by decide) H
  replace H := Option.bind_eq_some_iff.mp H
  obtain ⟨⟨t560, t561, t562⟩, A40, H⟩ := H
  replace H : ((impl_UndoEdits.f k t560 t561 t562).bind fun bt567 => ((spec_UndoEdits.f k t560 t561 t562).bind fun bt571 => (if (bt567.2 != bt571.2) = true then (laws_FnVersions.j0 k l0 t560 t561 t562 bt567.1 bt567.2 true) else ((laws_vEdits.f k bt567.1 bt571.1).bind fun t575 => (if t575 = true then ((impl_IsHistory.f k t560 t561).bind fun t576 => ((spec_IsHistory.f k t560 t561).bind fun t577 => (laws_FnVersions.j0 k l0 t560 t561 t562 bt567.1 bt567.2 (t576 != t577)))) else (laws_FnVersions.j0 k l0 t560 t561 t562 bt567.1 bt567.2 true)))))) = some r := H
  have A4 := Aside0.mk A40
  clear A40
  replace H := Option.bind_eq_some_iff.mp H
  obtain ⟨⟨t567, t568⟩, A50, H⟩ := H
  replace H : ((spec_UndoEdits.f k t560 t561 t562).bind fun bt571 => (if (t568 != bt571.2) = true then (laws_FnVersions.j0 k l0 t560 t561 t562 t567 t568 true) else ((laws_vEdits.f k t567 bt571.1).bind fun t575 => (if t575 = true then ((impl_IsHistory.f k t560 t561).bind fun t576 => ((spec_IsHistory.f k t560 t561).bind fun t577 => (laws_FnVersions.j0 k l0 t560 t561 t562 t567 t568 (t576 != t577)))) else (laws_FnVersions.j0 k l0 t560 t561 t562 t567 t568 true))))) = some r := H
  have A5 := Aside0.mk A50
  clear A50
  replace H := Option.bind_eq_some_iff.mp H
  obtain ⟨⟨t571, t572⟩, A60, H⟩ := H
  replace H : (if (t568 != t572) = true then (laws_FnVersions.j0 k l0 t560 t561 t562 t567 t568 true) else ((laws_vEdits.f k t567 t571).bind fun t575 => (if t575 = true then ((impl_IsHistory.f k t560 t561).bind fun t576 => ((spec_IsHistory.f k t560 t561).bind fun t577 => (laws_FnVersions.j0 k l0 t560 t561 t562 t567 t568 (t576 != t577)))) else (laws_FnVersions.j0 k l0 t560 t561 t562 t567 t568 true)))) = some r := H
  have A6 := Aside0.mk A60
  clear A60
  have HC7 := Aside0.mk H
  clear H
  go_enter Try.func11, Try.ntmps11
  go_upto_region 6 with (first | ((with_reducible refine gC 47 ?_); refine lA (some 39) Try.func47 (laws_vBig.calls _ _ l0 false _ ?side1 ?side2 A2.out) ?_; (case side1 => repeat (first | exact HR0.out | (with_reducible refine Kd.C_alloc ?_ _) | (with_reducible refine Kd.C_drewN ?_ _) | (with_reducible refine Kd.C_drew ?_))); (case side2 => exact HC0.out); rintro _ ⟨nd, rfl⟩) | ((with_reducible refine gate_callee (f := 48) rfl ?_); refine goesL_ (some 42) rfl rfl Try.func48 (by kernel_rfl) rfl #[.slice A0 l0.length c0] rfl argsB ?_; (with_reducible refine (spec_DrawUndoEdits.calls k _ _ l0 t560 t561 t562 _ ?side1 ?side2 A4.out).mono ?_); (case side1 => repeat (first | exact HR0.out | (with_reducible refine Kd.C_alloc ?_ _) | (with_reducible refine Kd.C_drewN ?_ _) | (with_reducible refine Kd.C_drew ?_))); (case side2 => exact HC0.out); rintro e w8 ⟨v563, v565, rfl, ho0, ho1, hb⟩; refine ⟨_, rfl, ?_⟩; have HO564 := Aside0.mk (Kd.R_lower ho0 (below_size (bW HB))); have HO566 := Aside0.mk (Kd.R_lower ho1 (below_size (bW HB))); replace HB := uB HB hb; (try clear hb); (try clear hk); (try clear ho0); (try clear ho1); obtain ⟨Ao9, co9, eo9⟩ := Kd.R_slice HO564.out; subst eo9; obtain ⟨Ao10, co10, eo10⟩ := Kd.R_slice HO566.out; subst eo10) | ((with_reducible refine gate_callee (f := 46) rfl ?_); refine goesL_ (some 50) rfl rfl Try.func46 (by kernel_rfl) rfl #[.slice Ao9 t560.length co9, .slice Ao10 t561.length co10, .int .i64 t562] rfl argsB ?_; (with_reducible refine (impl_UndoEdits.calls k _ _ t560 _ _ t561 t562 t567 t568 _ ?side1 ?side2 ?side3 ?side4 A5.out).mono ?_); (case side1 => repeat (first | exact (Kd.R_reads' HO564.out).2.2 | (with_reducible refine Kd.C_alloc ?_ _) | (with_reducible refine Kd.C_drewN ?_ _) | (with_reducible refine Kd.C_drew ?_))); (case side2 => exact (Kd.R_reads' HO564.out).2.1); (case side3 => repeat (first | exact (Kd.R_reads' HO566.out).2.2 | (with_reducible refine Kd.C_alloc ?_ _) | (with_reducible refine Kd.C_drewN ?_ _) | (with_reducible refine Kd.C_drew ?_))); (case side4 => exact (Kd.R_reads' HO566.out).2.1); rintro e w11 ⟨v569, rfl, ho0, hb⟩; refine ⟨_, rfl, ?_⟩; have HO570 := Aside0.mk (Kd.R_lower (Kd.R_new' ho0 (Kd.R_lt (upR HO566.out))) (below_size (bW HB))); replace HO564 := uR HO564 hb; replace HO566 := Aside0.mk (Kd.R_elder' (upR HO566.out) (Kd.R_base ho0) hb); replace HB := uB HB hb; (try clear hb); (try clear hk); (try clear ho0)) | ((with_reducible refine gate_callee (f := 45) rfl ?_); refine goesL_ (some 57) rfl rfl Try.func45 (by kernel_rfl) rfl #[.slice Ao9 t560.length co9, .slice Ao10 t561.length co10, .int .i64 t562] rfl argsB ?_; (with_reducible refine (spec_UndoEdits.calls k _ _ t560 _ _ t561 t562 t571 t572 _ ?side1 ?side2 ?side3 ?side4 A6.out).mono ?_); (case side1 => repeat (first | exact (Kd.R_reads' HO564.out).2.2 | (with_reducible refine Kd.C_alloc ?_ _) | (with_reducible refine Kd.C_drewN ?_ _) | (with_reducible refine Kd.C_drew ?_))); (case side2 => exact (Kd.R_reads' HO564.out).2.1); (case side3 => repeat (first | exact (Kd.R_reads' HO566.out).2.2 | (with_reducible refine Kd.C_alloc ?_ _) | (with_reducible refine Kd.C_drewN ?_ _) | (with_reducible refine Kd.C_drew ?_))); (case side4 => exact (Kd.R_reads' HO566.out).2.1); rintro e w12 ⟨v573, rfl, ho0, hb⟩; refine ⟨_, rfl, ?_⟩; have HO574 := Aside0.mk (Kd.R_lower (Kd.R_new' (Kd.R_new' ho0 (Kd.R_lt (upR HO566.out))) (Kd.R_lt (upR HO570.out))) (below_size (bW HB))); replace HO564 := uR HO564 hb; replace HO566 := Aside0.mk (Kd.R_elder' (upR HO566.out) (Kd.R_base ho0) hb); replace HO570 := Aside0.mk (Kd.R_elder' (upR HO570.out) (Kd.R_base ho0) hb); replace HB := uB HB hb; (try clear hb); (try clear hk); (try clear ho0)))
  (try simp only [Act.put, List.setIfInBounds_toArray, List.set_cons_zero, List.set_cons_succ])
  go_cut [77] (fun v77 wc => ∃ (kq : Nat) (x77_6 : Bool), v77 = .bool x77_6 ∧ Aside0 (laws_FnVersions.j0 kq l0 t560 t561 t562 t567 t568 x77_6 = some r) ∧ Aside0 (kq ≤ k) ∧ Aside0 (Kd.R k26 26 wc w.heap.size (fun _ => True) (.slice Ao9 t560.length co9) t560) ∧ Aside0 (Kd.R k28 28 wc w.heap.size (fun k_ => some k_ ≠ (v569 : Value).ownBlock) (.slice Ao10 t561.length co10) t561) ∧ Aside0 (Kd.R k28 28 wc w.heap.size (fun k_ => some k_ ≠ ((.slice Ao10 t561.length co10) : Value).ownBlock) v569 t567) ∧ Aside0 (Below w.heap.size w wc))
  case first =>
   have H := HC7.out
   clear HC7
   by_cases c13 : (t568 != t572) = true
   ·rw [if_pos c13] at H
    have c13b0 : (t568 != t572) = true := c13
    (try (have c13b1 : decide (t568 = t572) = false := by simpa using c13))
    (try (have c13b2 : (t568 == t572) = false := by simpa using c13))
    (try (have c13b3 : ¬ (t568 = t572) := by simpa using c13))
    clear c13
    (first | rw [c13b0] | (simp only [i64_w, i32_w]; rw [c13b0]) | skip)
    have H' := Aside0.mk H
    clear H
    go_wp2
    go_meet
    case rel => exact ⟨_, (true), rB, H', leB, ⟨upR HO564.out⟩, ⟨by (with_reducible repeat (first | apply Kd.R_alloc | apply Kd.R_drewN | apply Kd.R_drew)); exact Kd.R_mono HO566.out (fun _ hk => hk.1.2)⟩, ⟨by (with_reducible repeat (first | apply Kd.R_alloc | apply Kd.R_drewN | apply Kd.R_drew)); exact Kd.R_mono HO570.out (fun _ hk => hk.1.2)⟩, (aB HB)⟩
   ·rw [if_neg c13] at H
    have c13b0 : (t568 != t572) = false := by simpa using c13
    (try (have c13b1 : decide (t568 = t572) = true := by simpa using c13))
    (try (have c13b2 : (t568 == t572) = true := by simpa using c13))
    clear c13
    (first | rw [c13b0] | (simp only [i64_w, i32_w]; rw [c13b0]) | skip)
    replace H := bA H
    obtain ⟨t575, A14, H⟩ := H
    rcases Bool.eq_false_or_eq_true t575 with rfl | rfl
    ·replace H := iT rfl H
     replace H := bA H
     obtain ⟨t576, A16, H⟩ := H
     replace H := bA H
     obtain ⟨t577, A17, H⟩ := H
     have H' := Aside0.mk H
     clear H
     obtain ⟨Ao18, co18, eo18⟩ := Kd.R_slice HO570.out
     subst eo18
     obtain ⟨Ao19, co19, eo19⟩ := Kd.R_slice HO574.out
     subst eo19
     go_wp2_with (first | (go_at_call 49; (with_reducible refine (laws_vEdits.calls k _ _ t567 _ _ t571 true _ ?side1 ?side2 ?side3 ?side4 A14.out).mono ?_); (case side1 => repeat (first | exact (Kd.R_reads' HO570.out).2.2 | (with_reducible refine Kd.C_alloc ?_ _) | (with_reducible refine Kd.C_drewN ?_ _) | (with_reducible refine Kd.C_drew ?_))); (case side2 => exact (Kd.R_reads' HO570.out).2.1); (case side3 => repeat (first | exact (Kd.R_reads' HO574.out).2.2 | (with_reducible refine Kd.C_alloc ?_ _) | (with_reducible refine Kd.C_drewN ?_ _) | (with_reducible refine Kd.C_drew ?_))); (case side4 => exact (Kd.R_reads' HO574.out).2.1); rintro e w' ⟨rfl, ⟨nd, rfl⟩⟩) | (go_at_call 32; (with_reducible refine (impl_IsHistory.calls k _ _ t560 _ _ t561 t576 _ ?side1 ?side2 ?side3 ?side4 A16.out).mono ?_); (case side1 => repeat (first | exact (Kd.R_reads' HO564.out).2.2 | (with_reducible refine Kd.C_alloc ?_ _) | (with_reducible refine Kd.C_drewN ?_ _) | (with_reducible refine Kd.C_drew ?_))); (case side2 => exact (Kd.R_reads' HO564.out).2.1); (case side3 => repeat (first | exact (Kd.R_reads' HO566.out).2.2 | (with_reducible refine Kd.C_alloc ?_ _) | (with_reducible refine Kd.C_drewN ?_ _) | (with_reducible refine Kd.C_drew ?_))); (case side4 => exact (Kd.R_reads' HO566.out).2.1); rintro e w20 ⟨rfl, hb⟩; replace HO564 := uR HO564 hb; replace HO566 := uR HO566 hb; replace HO570 := uR HO570 hb; replace HO574 := uR HO574 hb; replace HB := uB HB hb; (try clear hb); (try clear hk)) | (go_at_call 30; (with_reducible refine (spec_IsHistory.calls k _ _ t560 _ _ t561 t577 _ ?side1 ?side2 ?side3 ?side4 A17.out).mono ?_); (case side1 => repeat (first | exact (Kd.R_reads' HO564.out).2.2 | (with_reducible refine Kd.C_alloc ?_ _) | (with_reducible refine Kd.C_drewN ?_ _) | (with_reducible refine Kd.C_drew ?_))); (case side2 => exact (Kd.R_reads' HO564.out).2.1); (case side3 => repeat (first | exact (Kd.R_reads' HO566.out).2.2 | (with_reducible refine Kd.C_alloc ?_ _) | (with_reducible refine Kd.C_drewN ?_ _) | (with_reducible refine Kd.C_drew ?_))); (case side4 => exact (Kd.R_reads' HO566.out).2.1); rintro e w21 ⟨rfl, hb⟩; replace HO564 := uR HO564 hb; replace HO566 := uR HO566 hb; replace HO570 := uR HO570 hb; replace HO574 := uR HO574 hb; replace HB := uB HB hb; (try clear hb); (try clear hk)))
     go_meet
     case rel => exact ⟨_, ((t576 != t577)), rB, H', leB, ⟨upR HO564.out⟩, ⟨by (with_reducible repeat (first | apply Kd.R_alloc | apply Kd.R_drewN | apply Kd.R_drew)); exact Kd.R_mono HO566.out (fun _ hk => hk.1.2)⟩, ⟨by (with_reducible repeat (first | apply Kd.R_alloc | apply Kd.R_drewN | apply Kd.R_drew)); exact Kd.R_mono HO570.out (fun _ hk => hk.1.2)⟩, (aB HB)⟩
    ·replace H := iF (by decide) H
     have H' := Aside0.mk H
     clear H
     obtain ⟨Ao22, co22, eo22⟩ := Kd.R_slice HO570.out
     subst eo22
     obtain ⟨Ao23, co23, eo23⟩ := Kd.R_slice HO574.out
     subst eo23
     go_wp2_with (first | (go_at_call 49; (with_reducible refine (laws_vEdits.calls k _ _ t567 _ _ t571 false _ ?side1 ?side2 ?side3 ?side4 A14.out).mono ?_); (case side1 => repeat (first | exact (Kd.R_reads' HO570.out).2.2 | (with_reducible refine Kd.C_alloc ?_ _) | (with_reducible refine Kd.C_drewN ?_ _) | (with_reducible refine Kd.C_drew ?_))); (case side2 => exact (Kd.R_reads' HO570.out).2.1); (case side3 => repeat (first | exact (Kd.R_reads' HO574.out).2.2 | (with_reducible refine Kd.C_alloc ?_ _) | (with_reducible refine Kd.C_drewN ?_ _) | (with_reducible refine Kd.C_drew ?_))); (case side4 => exact (Kd.R_reads' HO574.out).2.1); rintro e w' ⟨rfl, ⟨nd, rfl⟩⟩))
     go_meet
     case rel => exact ⟨_, (true), rB, H', leB, ⟨upR HO564.out⟩, ⟨by (with_reducible repeat (first | apply Kd.R_alloc | apply Kd.R_drewN | apply Kd.R_drew)); exact Kd.R_mono HO566.out (fun _ hk => hk.1.2)⟩, ⟨by (with_reducible repeat (first | apply Kd.R_alloc | apply Kd.R_drewN | apply Kd.R_drew)); exact Kd.R_mono HO570.out (fun _ hk => hk.1.2)⟩, (aB HB)⟩
  case rest =>
   apply Classical.byContradiction
   intro hn_
   letI h_ : (0 : Nat) = 1 := (hn_ (by
    clear hn_
    clear HC7
    obtain ⟨kq, x77_6, rfl, HA, HJ6, HO_3, HO_4, HO_6, HB⟩ := hcut
    cases kq with
    | zero => exact absurd HA.out (by simp [laws_FnVersions.j0])
    | succ kj6 =>
     have H := HA.out
     clear HA
     simp only [laws_FnVersions.j0] at H
     rcases Bool.eq_false_or_eq_true x77_6 with rfl | rfl
     ·replace H := iT rfl H
      exact absurd (Option.some.inj H) (by rw [hT]; decide)
     ·replace H := iF (by decide) H
      have HC25 := Aside0.mk H
      clear H
      go_upto_if 78 with (fail)
      go_cut [] (fun wc => ∃ (kq : Nat), Aside0 (laws_FnVersions.j3 kq l0 = some r) ∧ Aside0 (kq ≤ kj6) ∧ Aside0 (Below w.heap.size w wc))
      case first =>
       have H := HC25.out
       clear HC25
       rcases Bool.eq_false_or_eq_true t568 with rfl | rfl
       ·replace H := iT rfl H
        replace H := Option.bind_eq_some_iff.mp H
        obtain ⟨⟨t578, t579⟩, A270, H⟩ := H
        replace H : ((impl_VersionAt.f kj6 t560 t561 (wrap64 ((t561.length : Int) - t562))).bind fun bt582 => (if t579 = true then (laws_FnVersions.j1 kj6 l0 t567 t578 bt582.1 (!bt582.2)) else (laws_FnVersions.j1 kj6 l0 t567 t578 bt582.1 true))) = some r := H
        have A27 := Aside0.mk A270
        clear A270
        replace H := Option.bind_eq_some_iff.mp H
        obtain ⟨⟨t582, t583⟩, A280, H⟩ := H
        replace H : (if t579 = true then (laws_FnVersions.j1 kj6 l0 t567 t578 t582 (!t583)) else (laws_FnVersions.j1 kj6 l0 t567 t578 t582 true)) = some r := H
        have A28 := Aside0.mk A280
        clear A280
        have HC29 := Aside0.mk H
        clear H
        go_upto_region 11 with (first | ((with_reducible refine gate_callee (f := 34) rfl ?_); refine goesL_ (some 84) rfl rfl Try.func34 (by kernel_rfl) rfl #[.slice Ao9 t560.length co9, .slice Ao10 t561.length co10, .int .i64 (t561.length : Int)] rfl argsB ?_; (with_reducible refine (impl_VersionAt.calls kj6 _ _ t560 _ _ t561 (t561.length : Int) t578 t579 _ ?side1 ?side2 ?side3 ?side4 A27.out).mono ?_); (case side1 => repeat (first | exact (Kd.R_reads' HO_3.out).2.2 | (with_reducible refine Kd.C_alloc ?_ _) | (with_reducible refine Kd.C_drewN ?_ _) | (with_reducible refine Kd.C_drew ?_))); (case side2 => exact (Kd.R_reads' HO_3.out).2.1); (case side3 => repeat (first | exact (Kd.R_reads' HO_4.out).2.2 | (with_reducible refine Kd.C_alloc ?_ _) | (with_reducible refine Kd.C_drewN ?_ _) | (with_reducible refine Kd.C_drew ?_))); (case side4 => exact (Kd.R_reads' HO_4.out).2.1); rintro e w30 ⟨v580, rfl, ho0, hb⟩; refine ⟨_, rfl, ?_⟩; have HO581 := Aside0.mk (Kd.R_lower (Kd.R_new' ho0 (Kd.R_lt (upR HO_3.out))) (below_size (bW HB))); replace HO_3 := Aside0.mk (Kd.R_elder' (upR HO_3.out) (Kd.R_base ho0) hb); replace HO_4 := uR HO_4 hb; replace HO_6 := uR HO_6 hb; replace HB := uB HB hb; (try clear hb); (try clear hk); (try clear ho0)) | ((with_reducible refine gate_callee (f := 34) rfl ?_); refine goesL_ (some 94) rfl rfl Try.func34 (by kernel_rfl) rfl #[.slice Ao9 t560.length co9, .slice Ao10 t561.length co10, .int .i64 (wrap64 ((t561.length : Int) - t562))] rfl argsB ?_; (with_reducible refine (impl_VersionAt.calls kj6 _ _ t560 _ _ t561 (wrap64 ((t561.length : Int) - t562)) t582 t583 _ ?side1 ?side2 ?side3 ?side4 A28.out).mono ?_); (case side1 => repeat (first | exact (Kd.R_reads' HO_3.out).2.2 | (with_reducible refine Kd.C_alloc ?_ _) | (with_reducible refine Kd.C_drewN ?_ _) | (with_reducible refine Kd.C_drew ?_))); (case side2 => exact (Kd.R_reads' HO_3.out).2.1); (case side3 => repeat (first | exact (Kd.R_reads' HO_4.out).2.2 | (with_reducible refine Kd.C_alloc ?_ _) | (with_reducible refine Kd.C_drewN ?_ _) | (with_reducible refine Kd.C_drew ?_))); (case side4 => exact (Kd.R_reads' HO_4.out).2.1); rintro e w31 ⟨v584, rfl, ho0, hb⟩; refine ⟨_, rfl, ?_⟩; have HO585 := Aside0.mk (Kd.R_lower (Kd.R_new' (Kd.R_new' ho0 (Kd.R_lt (upR HO_3.out))) (Kd.R_lt (upR HO581.out))) (below_size (bW HB))); replace HO_3 := Aside0.mk (Kd.R_elder' (upR HO_3.out) (Kd.R_base ho0) hb); replace HO_4 := uR HO_4 hb; replace HO_6 := uR HO_6 hb; replace HO581 := Aside0.mk (Kd.R_elder' (upR HO581.out) (Kd.R_base ho0) hb); replace HB := uB HB hb; (try clear hb); (try clear hk); (try clear ho0)))
        (try simp only [Act.put, List.setIfInBounds_toArray, List.set_cons_zero, List.set_cons_succ])
        go_cut [102] (fun v102 wc => ∃ (kq : Nat) (x102_28 : Bool), v102 = .bool x102_28 ∧ Aside0 (laws_FnVersions.j1 kq l0 t567 t578 t582 x102_28 = some r) ∧ Aside0 (kq ≤ kj6) ∧ Aside0 (Kd.R k28 28 wc w.heap.size (fun _ => True) v569 t567) ∧ Aside0 (Kd.R k26 26 wc w.heap.size (fun k_ => some k_ ≠ (v584 : Value).ownBlock) v580 t578) ∧ Aside0 (Kd.R k26 26 wc w.heap.size (fun k_ => some k_ ≠ (v580 : Value).ownBlock) v584 t582) ∧ Aside0 (Below w.heap.size w wc))
        case first =>
         have H := HC29.out
         clear HC29
         rcases Bool.eq_false_or_eq_true t579 with rfl | rfl
         ·replace H := iT rfl H
          have H' := Aside0.mk H
          clear H
          go_wp2
          go_meet
          case rel => exact ⟨_, (!t583), rB, H', ⟨by have := HJ6.out; first | omega | exact Nat.le_refl _⟩, ⟨by (with_reducible repeat (first | apply Kd.R_alloc | apply Kd.R_drewN | apply Kd.R_drew)); exact Kd.R_mono HO_6.out (fun _ hk => trivial)⟩, ⟨by (with_reducible repeat (first | apply Kd.R_alloc | apply Kd.R_drewN | apply Kd.R_drew)); exact Kd.R_mono HO581.out (fun _ hk => hk.2)⟩, ⟨by (with_reducible repeat (first | apply Kd.R_alloc | apply Kd.R_drewN | apply Kd.R_drew)); exact Kd.R_mono HO585.out (fun _ hk => hk.2)⟩, (aB HB)⟩
         ·replace H := iF (by decide) H
          have H' := Aside0.mk H
          clear H
          go_wp2
          go_meet
          case rel => exact ⟨_, (true), rB, H', ⟨by have := HJ6.out; first | omega | exact Nat.le_refl _⟩, ⟨by (with_reducible repeat (first | apply Kd.R_alloc | apply Kd.R_drewN | apply Kd.R_drew)); exact Kd.R_mono HO_6.out (fun _ hk => trivial)⟩, ⟨by (with_reducible repeat (first | apply Kd.R_alloc | apply Kd.R_drewN | apply Kd.R_drew)); exact Kd.R_mono HO581.out (fun _ hk => hk.2)⟩, ⟨by (with_reducible repeat (first | apply Kd.R_alloc | apply Kd.R_drewN | apply Kd.R_drew)); exact Kd.R_mono HO585.out (fun _ hk => hk.2)⟩, (aB HB)⟩
        case rest =>
         apply Classical.byContradiction
         intro hn_
         letI h_ : (0 : Nat) = 1 := (hn_ (by
          clear hn_
          clear HC29
          obtain ⟨kq, x102_28, rfl, HA, HJ28, HO_6, HO_10, HO_12, HB⟩ := hcut
          cases kq with
          | zero => exact absurd HA.out (by simp [laws_FnVersions.j1])
          | succ kj28 =>
           have H := HA.out
           clear HA
           simp only [laws_FnVersions.j1] at H
           rcases Bool.eq_false_or_eq_true x102_28 with rfl | rfl
           ·replace H := iT rfl H
            exact absurd (Option.some.inj H) (by rw [hT]; decide)
           ·replace H := iF (by decide) H
            have H' := Aside0.mk H
            clear H
            go_wp2
            go_loopg [10, 14] kj28 (fun kq v10 v14 w' => ∃ (x10_3 : List (S26)) (x14_3 : Int), v14 = .int .i64 x14_3 ∧ Aside0 (laws_FnVersions.l0 kq l0 t567 x10_3 t582 x14_3 = some r) ∧ Aside0 (kq ≤ kj28) ∧ Aside0 (Kd.R k28 28 w' w.heap.size (fun _ => True) v569 t567) ∧ Aside0 (Kd.R k26 26 w' w.heap.size (fun k_ => some k_ ≠ (v584 : Value).ownBlock) v10 x10_3) ∧ Aside0 (Kd.R k26 26 w' w.heap.size (fun k_ => some k_ ≠ (v10 : Value).ownBlock) v584 t582) ∧ Aside0 (Below w.heap.size w w'))
            case atStart => exact ⟨(t578), (0), rB, H', ⟨Nat.le_refl _⟩, ⟨upR HO_6.out⟩, ⟨upR HO_10.out⟩, ⟨upR HO_12.out⟩, (aB HB)⟩
            case round =>
             apply Classical.byContradiction
             intro hn_
             letI h_ : (0 : Nat) = 1 := (hn_ (by
              clear hn_
              clear H'
              obtain ⟨x10_3, x14_3, rfl, HA, HK3, HO_6, HO_10, HO_12, HB⟩ := hrel
              cases gk with
              | zero => exact absurd HA.out (by simp [laws_FnVersions.l0])
              | succ k3 =>
               have H := HA.out
               clear HA
               simp only [laws_FnVersions.l0] at H
               replace H := ifD H
               rcases H with ⟨H, -, c34b0⟩ | ⟨H, -, c34b0⟩
               ·by_cases c35 : 0 ≤ x14_3
                ·rw [if_pos c35] at H
                 have c35b0 : decide (0 ≤ x14_3) = true := decide_eq_true c35
                 clear c35
                 replace H := Option.bind_eq_some_iff.mp H
                 obtain ⟨⟨t587, t590⟩, A360, H⟩ := H
                 replace H : (if t590 = true then (laws_FnVersions.l0 k3 l0 t567 t587 t582 (wrap64 (x14_3 + 1))) else (some false)) = some r := H
                 have A36 := Aside0.mk A360
                 clear A360
                 rcases Bool.eq_false_or_eq_true t590 with rfl | rfl
                 ·replace H := iT rfl H
                  have H' := Aside0.mk H
                  clear H
                  obtain ⟨Ao38, co38, eo38⟩ := Kd.R_slice HO_6.out
                  subst eo38
                  have p586 : 0 ≤ (x14_3 : Int) := of_decide_eq_true asmB
                  have q586 : x14_3 < (t567.length : Int) := of_decide_eq_true asmB
                  obtain ⟨ad586, e586, hx586_0, hx586_1, hx586_2, hx586_3, hx586_4, hx586_5, hx586_6, hx586_7, hx586_8, hx586_9, hx586_10, hx586_11⟩ := at_T28 (Kd.R_reads' HO_6.out).2.2 x14_3 p586 q586
                  cases e586
                  replace p586 := eq_true p586
                  replace q586 := eq_true q586
                  obtain ⟨Ao39, co39, eo39⟩ := Kd.R_slice HO_10.out
                  subst eo39
                  go_wp2_with (first | ((with_reducible refine gate_callee (f := 27) rfl ?_); refine goesL_ (some 115) rfl rfl Try.func27 (by kernel_rfl) rfl #[.slice Ao39 x10_3.length co39, .agg #[.int .i64 ((rd_T28 t567 x14_3).f0), .int .i64 ((rd_T28 t567 x14_3).f1), .int .i64 ((rd_T28 t567 x14_3).f2.f0), .int .i64 ((rd_T28 t567 x14_3).f2.f1), .int .i64 ((rd_T28 t567 x14_3).f2.f2), .int .i64 ((rd_T28 t567 x14_3).f2.f3), .int .i64 ((rd_T28 t567 x14_3).f2.f4), .int .i64 ((rd_T28 t567 x14_3).f3.f0), .int .i64 ((rd_T28 t567 x14_3).f3.f1), .int .i64 ((rd_T28 t567 x14_3).f3.f2), .int .i64 ((rd_T28 t567 x14_3).f3.f3), .int .i64 ((rd_T28 t567 x14_3).f3.f4)]] rfl argsB ?_; (with_reducible refine (impl_ApplyEdit.calls k3 _ _ x10_3 ((rd_T28 t567 x14_3).f0) ((rd_T28 t567 x14_3).f1) ((rd_T28 t567 x14_3).f2.f0) ((rd_T28 t567 x14_3).f2.f1) ((rd_T28 t567 x14_3).f2.f2) ((rd_T28 t567 x14_3).f2.f3) ((rd_T28 t567 x14_3).f2.f4) ((rd_T28 t567 x14_3).f3.f0) ((rd_T28 t567 x14_3).f3.f1) ((rd_T28 t567 x14_3).f3.f2) ((rd_T28 t567 x14_3).f3.f3) ((rd_T28 t567 x14_3).f3.f4) t587 true _ ?side1 ?side2 A36.out).mono ?_); (case side1 => repeat (first | exact (Kd.R_reads' HO_10.out).2.2 | (with_reducible refine Kd.C_alloc ?_ _) | (with_reducible refine Kd.C_drewN ?_ _) | (with_reducible refine Kd.C_drew ?_))); (case side2 => exact (Kd.R_reads' HO_10.out).2.1); rintro e w40 ⟨v588, rfl, ho0, hb⟩; refine ⟨_, rfl, ?_⟩; have HO589 := Aside0.mk (Kd.R_lower (Kd.R_new' (Kd.R_new' ho0 (Kd.R_lt (upR HO_10.out))) (Kd.R_lt (upR HO_12.out))) (below_size (bW HB))); replace HO_6 := uR HO_6 hb; replace HO_10 := Aside0.mk (Kd.R_elder' (upR HO_10.out) (Kd.R_base ho0) hb); replace HO_12 := Aside0.mk (Kd.R_elder' (upR HO_12.out) (Kd.R_base ho0) hb); replace HB := uB HB hb; (try clear hb); (try clear hk); (try clear ho0)))
                  go_roundg k3
                  case measure => have := HJ6.out; have := HJ28.out; have := HK3.out; omega
                  case rel => exact ⟨(t587), (wrap64 (x14_3 + 1)), rB, H', ⟨by have := HJ6.out; have := HJ28.out; have := HK3.out; omega⟩, ⟨upR HO_6.out⟩, ⟨by (with_reducible repeat (first | apply Kd.R_alloc | apply Kd.R_drewN | apply Kd.R_drew)); exact Kd.R_mono HO589.out (fun _ hk => hk.2)⟩, ⟨by (with_reducible repeat (first | apply Kd.R_alloc | apply Kd.R_drewN | apply Kd.R_drew)); exact Kd.R_mono HO_12.out (fun _ hk => hk.2)⟩, (aB HB)⟩
                 ·replace H := iF (by decide) H
                  exact absurd (Option.some.inj H) (by rw [hT]; decide)
                ·rw [if_neg c35] at H
                 exact absurd H (by simp)
               ·replace H := bA H
                obtain ⟨t591, A44, H⟩ := H
                rcases Bool.eq_false_or_eq_true t591 with rfl | rfl
                ·replace H := iT rfl H
                 have H' := Aside0.mk H
                 clear H
                 obtain ⟨Ao46, co46, eo46⟩ := Kd.R_slice HO_6.out
                 subst eo46
                 obtain ⟨Ao47, co47, eo47⟩ := Kd.R_slice HO_10.out
                 subst eo47
                 obtain ⟨Ao48, co48, eo48⟩ := Kd.R_slice HO_12.out
                 subst eo48
                 go_wp2_with (first | ((with_reducible refine gC 50 ?_); refine lA (some 123) Try.func50 (laws_vLegs.calls k3 _ _ x10_3 _ _ t582 true _ ?side1 ?side2 ?side3 ?side4 A44.out) ?_; (case side1 => repeat (first | exact (Kd.R_reads' HO_10.out).2.2 | (with_reducible refine Kd.C_alloc ?_ _) | (with_reducible refine Kd.C_drewN ?_ _) | (with_reducible refine Kd.C_drew ?_))); (case side2 => exact (Kd.R_reads' HO_10.out).2.1); (case side3 => repeat (first | exact (Kd.R_reads' HO_12.out).2.2 | (with_reducible refine Kd.C_alloc ?_ _) | (with_reducible refine Kd.C_drewN ?_ _) | (with_reducible refine Kd.C_drew ?_))); (case side4 => exact (Kd.R_reads' HO_12.out).2.1); rintro _ ⟨nd, rfl⟩))
                 go_meet
                 case rel => exact ⟨_, H', ⟨by have := HJ6.out; have := HJ28.out; have := HK3.out; first | omega | exact Nat.le_refl _⟩, (aB HB)⟩
                ·replace H := iF (by decide) H
                 exact absurd (Option.some.inj H) (by rw [hT]; decide)
              )).elim
             omega
          )).elim
         omega
       ·replace H := iF (by decide) H
        have H' := Aside0.mk H
        clear H
        go_wp2
        go_meet
        case rel => exact ⟨_, H', ⟨by have := HJ6.out; first | omega | exact Nat.le_refl _⟩, (aB HB)⟩
      case rest =>
       apply Classical.byContradiction
       intro hn_
       letI h_ : (0 : Nat) = 1 := (hn_ (by
        clear hn_
        clear HC25
        obtain ⟨kq, HA, HJ24, HB⟩ := hcut
        cases kq with
        | zero => exact absurd HA.out (by simp [laws_FnVersions.j3])
        | succ kj24 =>
         have H := HA.out
         clear HA
         simp only [laws_FnVersions.j3] at H
         replace H := Option.bind_eq_some_iff.mp H
         obtain ⟨⟨t592, t595, t596, t597, t598, t599, t600, t601, t602, t603, t604, t605, t606⟩, A520, H⟩ := H
         replace H : ((impl_ApplyEdit.f kj24 t592 t595 t596 t597 t598 t599 t600 t601 t602 t603 t604 t605 t606).bind fun bt608 => ((spec_ApplyEdit.f kj24 t592 t595 t596 t597 t598 t599 t600 t601 t602 t603 t604 t605 t606).bind fun bt612 => (if (bt608.2 != bt612.2) = true then (laws_FnVersions.j4 kj24 l0 t592 bt608.1 bt608.2 true t595 t596 t597 t598 t599 t600 t601 t602 t603 t604 t605 t606) else ((laws_vLegs.f kj24 bt608.1 bt612.1).bind fun t616 => (laws_FnVersions.j4 kj24 l0 t592 bt608.1 bt608.2 (!t616) t595 t596 t597 t598 t599 t600 t601 t602 t603 t604 t605 t606))))) = some r := H
         have A52 := Aside0.mk A520
         clear A520
         replace H := Option.bind_eq_some_iff.mp H
         obtain ⟨⟨t608, t611⟩, A530, H⟩ := H
         replace H : ((spec_ApplyEdit.f kj24 t592 t595 t596 t597 t598 t599 t600 t601 t602 t603 t604 t605 t606).bind fun bt612 => (if (t611 != bt612.2) = true then (laws_FnVersions.j4 kj24 l0 t592 t608 t611 true t595 t596 t597 t598 t599 t600 t601 t602 t603 t604 t605 t606) else ((laws_vLegs.f kj24 t608 bt612.1).bind fun t616 => (laws_FnVersions.j4 kj24 l0 t592 t608 t611 (!t616) t595 t596 t597 t598 t599 t600 t601 t602 t603 t604 t605 t606)))) = some r := H
         have A53 := Aside0.mk A530
         clear A530
         replace H := Option.bind_eq_some_iff.mp H
         obtain ⟨⟨t612, t615⟩, A540, H⟩ := H
         replace H : (if (t611 != t615) = true then (laws_FnVersions.j4 kj24 l0 t592 t608 t611 true t595 t596 t597 t598 t599 t600 t601 t602 t603 t604 t605 t606) else ((laws_vLegs.f kj24 t608 t612).bind fun t616 => (laws_FnVersions.j4 kj24 l0 t592 t608 t611 (!t616) t595 t596 t597 t598 t599 t600 t601 t602 t603 t604 t605 t606))) = some r := H
         have A54 := Aside0.mk A540
         clear A540
         have HC55 := Aside0.mk H
         clear H
         go_upto_region 25 with (first | ((with_reducible refine gate_callee (f := 51) rfl ?_); refine goesL_ (some 127) rfl rfl Try.func51 (by kernel_rfl) rfl #[.slice A0 l0.length c0] rfl argsB ?_; (with_reducible refine (spec_DrawApplyEdit.calls kj24 _ _ l0 t592 t595 t596 t597 t598 t599 t600 t601 t602 t603 t604 t605 t606 _ ?side1 ?side2 A52.out).mono ?_); (case side1 => repeat (first | exact (Kd.C_below HR0.out HB.out) | (with_reducible refine Kd.C_alloc ?_ _) | (with_reducible refine Kd.C_drewN ?_ _) | (with_reducible refine Kd.C_drew ?_))); (case side2 => exact HC0.out); rintro e w56 ⟨v593, rfl, ho0, hb⟩; refine ⟨_, rfl, ?_⟩; have HO594 := Aside0.mk (Kd.R_lower ho0 (below_size (bW HB))); replace HB := uB HB hb; (try clear hb); (try clear hk); (try clear ho0)) | ((with_reducible refine gD 18 ?_); refine bxE 18 28 #[.int .i64 0, .int .i64 0, .int .i64 0, .int .i64 0, .int .i64 0, .int .i64 0, .int .i64 0, .int .i64 0, .int .i64 0, .int .i64 0, .int .i64 0, .int .i64 0] fun gb607 w57 hg hbox hb => ?_; have BK607 := Aside0.mk hbox; have GE607 := gB HB hg; replace HO594 := uR HO594 hb; replace HB := uB HB hb; clear hb hbox hg; have ⟨hcz58_0, hcz58_1, hcz58_2, hcz58_3, hcz58_4, hcz58_5, hcz58_6, hcz58_7, hcz58_8, hcz58_9, hcz58_10, hcz58_11, hfz58_0⟩ := cz12 BK607; obtain ⟨Ao59, co59, eo59⟩ := Kd.R_slice HO594.out; subst eo59) | ((with_reducible refine gate_callee (f := 27) rfl ?_); refine goesL_ (some 133) rfl rfl Try.func27 (by kernel_rfl) rfl #[.slice Ao59 t592.length co59, .agg #[.int .i64 t595, .int .i64 t596, .int .i64 t597, .int .i64 t598, .int .i64 t599, .int .i64 t600, .int .i64 t601, .int .i64 t602, .int .i64 t603, .int .i64 t604, .int .i64 t605, .int .i64 t606]] rfl argsB ?_; (with_reducible refine (impl_ApplyEdit.calls kj24 _ _ t592 t595 t596 t597 t598 t599 t600 t601 t602 t603 t604 t605 t606 t608 t611 _ ?side1 ?side2 A53.out).mono ?_); (case side1 => refine (Kd.R_reads' (e := 26) (base := w.heap.size) (ok := fun k_ => True) (n := t592.length) (c := co59) ?_).2.2; exact (by (with_reducible repeat (first | apply Kd.R_alloc | apply Kd.R_drewN | apply Kd.R_drew)); exact (Kd.R_mono (Kd.R_far (p := ⟨gb607, 11, none⟩) (Kd.R_far (p := ⟨gb607, 10, none⟩) (Kd.R_far (p := ⟨gb607, 9, none⟩) (Kd.R_far (p := ⟨gb607, 8, none⟩) (Kd.R_far (p := ⟨gb607, 7, none⟩) (Kd.R_far (p := ⟨gb607, 6, none⟩) (Kd.R_far (p := ⟨gb607, 5, none⟩) (Kd.R_far (p := ⟨gb607, 4, none⟩) (Kd.R_far (p := ⟨gb607, 3, none⟩) (Kd.R_far (p := ⟨gb607, 2, none⟩) (Kd.R_far (p := ⟨gb607, 1, none⟩) (Kd.R_far (p := ⟨gb607, 0, none⟩) (Kd.R_types HO594.out BK607.out (by decide)) (fun _ hk => hk.2) (.int .i64 t595)) (fun _ hk => hk.2) (.int .i64 t596)) (fun _ hk => hk.2) (.int .i64 t597)) (fun _ hk => hk.2) (.int .i64 t598)) (fun _ hk => hk.2) (.int .i64 t599)) (fun _ hk => hk.2) (.int .i64 t600)) (fun _ hk => hk.2) (.int .i64 t601)) (fun _ hk => hk.2) (.int .i64 t602)) (fun _ hk => hk.2) (.int .i64 t603)) (fun _ hk => hk.2) (.int .i64 t604)) (fun _ hk => hk.2) (.int .i64 t605)) (fun _ hk => hk.2) (.int .i64 t606)) (fun _ h_ => h_.1)))); (case side2 => exact (Kd.R_reads' HO594.out).2.1); rintro e w60 ⟨v609, rfl, ho0, hb⟩; refine ⟨_, rfl, ?_⟩; have HO610 := Aside0.mk (Kd.R_lower (Kd.R_new' ho0 (Kd.R_lt (by (with_reducible repeat (first | apply Kd.R_alloc | apply Kd.R_drewN | apply Kd.R_drew)); exact (Kd.R_mono (Kd.R_far (p := ⟨gb607, 11, none⟩) (Kd.R_far (p := ⟨gb607, 10, none⟩) (Kd.R_far (p := ⟨gb607, 9, none⟩) (Kd.R_far (p := ⟨gb607, 8, none⟩) (Kd.R_far (p := ⟨gb607, 7, none⟩) (Kd.R_far (p := ⟨gb607, 6, none⟩) (Kd.R_far (p := ⟨gb607, 5, none⟩) (Kd.R_far (p := ⟨gb607, 4, none⟩) (Kd.R_far (p := ⟨gb607, 3, none⟩) (Kd.R_far (p := ⟨gb607, 2, none⟩) (Kd.R_far (p := ⟨gb607, 1, none⟩) (Kd.R_far (p := ⟨gb607, 0, none⟩) (Kd.R_types HO594.out BK607.out (by decide)) (fun _ hk => hk.2) (.int .i64 t595)) (fun _ hk => hk.2) (.int .i64 t596)) (fun _ hk => hk.2) (.int .i64 t597)) (fun _ hk => hk.2) (.int .i64 t598)) (fun _ hk => hk.2) (.int .i64 t599)) (fun _ hk => hk.2) (.int .i64 t600)) (fun _ hk => hk.2) (.int .i64 t601)) (fun _ hk => hk.2) (.int .i64 t602)) (fun _ hk => hk.2) (.int .i64 t603)) (fun _ hk => hk.2) (.int .i64 t604)) (fun _ hk => hk.2) (.int .i64 t605)) (fun _ hk => hk.2) (.int .i64 t606)) (fun _ h_ => h_.1))))) (below_size (bW HB))); replace HO594 := Aside0.mk (Kd.R_elder' (by (with_reducible repeat (first | apply Kd.R_alloc | apply Kd.R_drewN | apply Kd.R_drew)); exact (Kd.R_mono (Kd.R_far (p := ⟨gb607, 11, none⟩) (Kd.R_far (p := ⟨gb607, 10, none⟩) (Kd.R_far (p := ⟨gb607, 9, none⟩) (Kd.R_far (p := ⟨gb607, 8, none⟩) (Kd.R_far (p := ⟨gb607, 7, none⟩) (Kd.R_far (p := ⟨gb607, 6, none⟩) (Kd.R_far (p := ⟨gb607, 5, none⟩) (Kd.R_far (p := ⟨gb607, 4, none⟩) (Kd.R_far (p := ⟨gb607, 3, none⟩) (Kd.R_far (p := ⟨gb607, 2, none⟩) (Kd.R_far (p := ⟨gb607, 1, none⟩) (Kd.R_far (p := ⟨gb607, 0, none⟩) (Kd.R_types HO594.out BK607.out (by decide)) (fun _ hk => hk.2) (.int .i64 t595)) (fun _ hk => hk.2) (.int .i64 t596)) (fun _ hk => hk.2) (.int .i64 t597)) (fun _ hk => hk.2) (.int .i64 t598)) (fun _ hk => hk.2) (.int .i64 t599)) (fun _ hk => hk.2) (.int .i64 t600)) (fun _ hk => hk.2) (.int .i64 t601)) (fun _ hk => hk.2) (.int .i64 t602)) (fun _ hk => hk.2) (.int .i64 t603)) (fun _ hk => hk.2) (.int .i64 t604)) (fun _ hk => hk.2) (.int .i64 t605)) (fun _ hk => hk.2) (.int .i64 t606)) (fun _ h_ => h_.1))) (Kd.R_base ho0) hb); replace BK607 := uQ BK607 hb #[.int .i64 t595, .int .i64 t596, .int .i64 t597, .int .i64 t598, .int .i64 t599, .int .i64 t600, .int .i64 t601, .int .i64 t602, .int .i64 t603, .int .i64 t604, .int .i64 t605, .int .i64 t606]; replace HB := uB HB hb; (try clear hb); (try clear hk); (try clear ho0); have ⟨hcz61_0, hcz61_1, hcz61_2, hcz61_3, hcz61_4, hcz61_5, hcz61_6, hcz61_7, hcz61_8, hcz61_9, hcz61_10, hcz61_11, hfz61_0⟩ := cz12 BK607) | ((with_reducible refine gate_callee (f := 26) rfl ?_); refine goesL_ (some 139) rfl rfl Try.func26 (by kernel_rfl) rfl #[.slice Ao59 t592.length co59, .agg #[.int .i64 t595, .int .i64 t596, .int .i64 t597, .int .i64 t598, .int .i64 t599, .int .i64 t600, .int .i64 t601, .int .i64 t602, .int .i64 t603, .int .i64 t604, .int .i64 t605, .int .i64 t606]] rfl argsB ?_; (with_reducible refine (spec_ApplyEdit.calls kj24 _ _ t592 t595 t596 t597 t598 t599 t600 t601 t602 t603 t604 t605 t606 t612 t615 _ ?side1 ?side2 A54.out).mono ?_); (case side1 => repeat (first | exact (Kd.R_reads' HO594.out).2.2 | (with_reducible refine Kd.C_alloc ?_ _) | (with_reducible refine Kd.C_drewN ?_ _) | (with_reducible refine Kd.C_drew ?_))); (case side2 => exact (Kd.R_reads' HO594.out).2.1); rintro e w62 ⟨v613, rfl, ho0, hb⟩; refine ⟨_, rfl, ?_⟩; have HO614 := Aside0.mk (Kd.R_lower (Kd.R_new' (Kd.R_new' ho0 (Kd.R_lt (upR HO594.out))) (Kd.R_lt (upR HO610.out))) (below_size (bW HB))); replace HO594 := Aside0.mk (Kd.R_elder' (upR HO594.out) (Kd.R_base ho0) hb); replace HO610 := Aside0.mk (Kd.R_elder' (upR HO610.out) (Kd.R_base ho0) hb); replace BK607 := uK BK607 hb; replace HB := uB HB hb; (try clear hb); (try clear hk); (try clear ho0)))
         (try simp only [Act.put, List.setIfInBounds_toArray, List.set_cons_zero, List.set_cons_succ])
         go_cut [150] (fun v150 wc => ∃ (kq : Nat) (x150_54 : Bool), v150 = .bool x150_54 ∧ Aside0 (laws_FnVersions.j4 kq l0 t592 t608 t611 x150_54 t595 t596 t597 t598 t599 t600 t601 t602 t603 t604 t605 t606 = some r) ∧ Aside0 (kq ≤ kj24) ∧ Aside0 (Kd.R k26 26 wc w.heap.size (fun k_ => some k_ ≠ (v609 : Value).ownBlock) (.slice Ao59 t592.length co59) t592) ∧ Aside0 (Kd.R k26 26 wc w.heap.size (fun k_ => some k_ ≠ ((.slice Ao59 t592.length co59) : Value).ownBlock) v609 t608) ∧ Aside0 (wc.heap[gb607]? = some (.cells #[.int .i64 t595, .int .i64 t596, .int .i64 t597, .int .i64 t598, .int .i64 t599, .int .i64 t600, .int .i64 t601, .int .i64 t602, .int .i64 t603, .int .i64 t604, .int .i64 t605, .int .i64 t606] 28 (0, 0))) ∧ Aside0 (Below w.heap.size w wc))
         case first =>
          have H := HC55.out
          clear HC55
          by_cases c63 : (t611 != t615) = true
          ·rw [if_pos c63] at H
           have c63b0 : (t611 != t615) = true := c63
           (try (have c63b1 : decide (t611 = t615) = false := by simpa using c63))
           (try (have c63b2 : (t611 == t615) = false := by simpa using c63))
           (try (have c63b3 : ¬ (t611 = t615) := by simpa using c63))
           clear c63
           (first | rw [c63b0] | (simp only [i64_w, i32_w]; rw [c63b0]) | skip)
           have H' := Aside0.mk H
           clear H
           go_wp2
           go_meet
           case rel => exact ⟨_, (true), rB, H', ⟨by have := HJ6.out; have := HJ24.out; first | omega | exact Nat.le_refl _⟩, ⟨by (with_reducible repeat (first | apply Kd.R_alloc | apply Kd.R_drewN | apply Kd.R_drew)); exact Kd.R_mono HO594.out (fun _ hk => hk.1.2)⟩, ⟨by (with_reducible repeat (first | apply Kd.R_alloc | apply Kd.R_drewN | apply Kd.R_drew)); exact Kd.R_mono HO610.out (fun _ hk => hk.1.2)⟩, (aK BK607), (aB HB)⟩
          ·rw [if_neg c63] at H
           have c63b0 : (t611 != t615) = false := by simpa using c63
           (try (have c63b1 : decide (t611 = t615) = true := by simpa using c63))
           (try (have c63b2 : (t611 == t615) = true := by simpa using c63))
           clear c63
           (first | rw [c63b0] | (simp only [i64_w, i32_w]; rw [c63b0]) | skip)
           replace H := bA H
           obtain ⟨t616, A64, H⟩ := H
           have H' := Aside0.mk H
           clear H
           obtain ⟨Ao65, co65, eo65⟩ := Kd.R_slice HO610.out
           subst eo65
           obtain ⟨Ao66, co66, eo66⟩ := Kd.R_slice HO614.out
           subst eo66
           go_wp2_with (first | (go_at_call 50; (with_reducible refine (laws_vLegs.calls kj24 _ _ t608 _ _ t612 t616 _ ?side1 ?side2 ?side3 ?side4 A64.out).mono ?_); (case side1 => repeat (first | exact (Kd.R_reads' HO610.out).2.2 | (with_reducible refine Kd.C_alloc ?_ _) | (with_reducible refine Kd.C_drewN ?_ _) | (with_reducible refine Kd.C_drew ?_))); (case side2 => exact (Kd.R_reads' HO610.out).2.1); (case side3 => repeat (first | exact (Kd.R_reads' HO614.out).2.2 | (with_reducible refine Kd.C_alloc ?_ _) | (with_reducible refine Kd.C_drewN ?_ _) | (with_reducible refine Kd.C_drew ?_))); (case side4 => exact (Kd.R_reads' HO614.out).2.1); rintro e w' ⟨rfl, ⟨nd, rfl⟩⟩))
           go_meet
           case rel => exact ⟨_, (!t616), rB, H', ⟨by have := HJ6.out; have := HJ24.out; first | omega | exact Nat.le_refl _⟩, ⟨by (with_reducible repeat (first | apply Kd.R_alloc | apply Kd.R_drewN | apply Kd.R_drew)); exact Kd.R_mono HO594.out (fun _ hk => hk.1.2)⟩, ⟨by (with_reducible repeat (first | apply Kd.R_alloc | apply Kd.R_drewN | apply Kd.R_drew)); exact Kd.R_mono HO610.out (fun _ hk => hk.1.2)⟩, (aK BK607), (aB HB)⟩
         case rest =>
          apply Classical.byContradiction
          intro hn_
          letI h_ : (0 : Nat) = 1 := (hn_ (by
           clear hn_
           clear HC55
           try clear hcz58_0
           try clear hcz58_1
           try clear hcz58_10
           try clear hcz58_11
           try clear hcz58_2
           try clear hcz58_3
           try clear hcz58_4
           try clear hcz58_5
           try clear hcz58_6
           try clear hcz58_7
           try clear hcz58_8
           try clear hcz58_9
           try clear hcz61_0
           try clear hcz61_1
           try clear hcz61_10
           try clear hcz61_11
           try clear hcz61_2
           try clear hcz61_3
           try clear hcz61_4
           try clear hcz61_5
           try clear hcz61_6
           try clear hcz61_7
           try clear hcz61_8
           try clear hcz61_9
           try clear hfz58_0
           try clear hfz61_0
           obtain ⟨kq, x150_54, rfl, HA, HJ54, HO_17, HO_19, BK607, HB⟩ := hcut
           cases kq with
           | zero => exact absurd HA.out (by simp [laws_FnVersions.j4])
           | succ kj54 =>
            have H := HA.out
            clear HA
            simp only [laws_FnVersions.j4] at H
            rcases Bool.eq_false_or_eq_true x150_54 with rfl | rfl
            ·replace H := iT rfl H
             exact absurd (Option.some.inj H) (by rw [hT]; decide)
            ·replace H := iF (by decide) H
             replace H := Option.bind_eq_some_iff.mp H
             obtain ⟨⟨t617, t618, t619, t620, t621, t622, t623, t624, t625, t626, t627, t628, t629⟩, A680, H⟩ := H
             replace H : ((spec_InverseEdit.f t595 t596 t597 t598 t599 t600 t601 t602 t603 t604 t605 t606).bind fun bt631 => (if (!(t617 == bt631.1) || (!(t618 == bt631.2.1) || ((!(t619 == bt631.2.2.1) || (!(t620 == bt631.2.2.2.1) || (!(t621 == bt631.2.2.2.2.1) || (!(t622 == bt631.2.2.2.2.2.1) || (!(t623 == bt631.2.2.2.2.2.2.1)))))) || ((!(t624 == bt631.2.2.2.2.2.2.2.1) || (!(t625 == bt631.2.2.2.2.2.2.2.2.1) || (!(t626 == bt631.2.2.2.2.2.2.2.2.2.1) || (!(t627 == bt631.2.2.2.2.2.2.2.2.2.2.1) || (!(t628 == bt631.2.2.2.2.2.2.2.2.2.2.2.1)))))))))) = true then (laws_FnVersions.j5 kj54 l0 t592 t608 t611 true t595 t596 t597 t598 t599 t600 t601 t602 t603 t604 t605 t606 t617 t618 t619 t620 t621 t622 t623 t624 t625 t626 t627 t628) else (if (t629 != bt631.2.2.2.2.2.2.2.2.2.2.2.2) = true then (laws_FnVersions.j5 kj54 l0 t592 t608 t611 true t595 t596 t597 t598 t599 t600 t601 t602 t603 t604 t605 t606 t617 t618 t619 t620 t621 t622 t623 t624 t625 t626 t627 t628) else (if t611 = true then (laws_FnVersions.j5 kj54 l0 t592 t608 t611 (!t629) t595 t596 t597 t598 t599 t600 t601 t602 t603 t604 t605 t606 t617 t618 t619 t620 t621 t622 t623 t624 t625 t626 t627 t628) else (laws_FnVersions.j5 kj54 l0 t592 t608 t611 false t595 t596 t597 t598 t599 t600 t601 t602 t603 t604 t605 t606 t617 t618 t619 t620 t621 t622 t623 t624 t625 t626 t627 t628))))) = some r := H
             have A68 := Aside0.mk A680
             clear A680
             replace H := Option.bind_eq_some_iff.mp H
             obtain ⟨⟨t631, t632, t633, t634, t635, t636, t637, t638, t639, t640, t641, t642, t643⟩, A690, H⟩ := H
             replace H : (if (!(t617 == t631) || (!(t618 == t632) || ((!(t619 == t633) || (!(t620 == t634) || (!(t621 == t635) || (!(t622 == t636) || (!(t623 == t637)))))) || ((!(t624 == t638) || (!(t625 == t639) || (!(t626 == t640) || (!(t627 == t641) || (!(t628 == t642)))))))))) = true then (laws_FnVersions.j5 kj54 l0 t592 t608 t611 true t595 t596 t597 t598 t599 t600 t601 t602 t603 t604 t605 t606 t617 t618 t619 t620 t621 t622 t623 t624 t625 t626 t627 t628) else (if (t629 != t643) = true then (laws_FnVersions.j5 kj54 l0 t592 t608 t611 true t595 t596 t597 t598 t599 t600 t601 t602 t603 t604 t605 t606 t617 t618 t619 t620 t621 t622 t623 t624 t625 t626 t627 t628) else (if t611 = true then (laws_FnVersions.j5 kj54 l0 t592 t608 t611 (!t629) t595 t596 t597 t598 t599 t600 t601 t602 t603 t604 t605 t606 t617 t618 t619 t620 t621 t622 t623 t624 t625 t626 t627 t628) else (laws_FnVersions.j5 kj54 l0 t592 t608 t611 false t595 t596 t597 t598 t599 t600 t601 t602 t603 t604 t605 t606 t617 t618 t619 t620 t621 t622 t623 t624 t625 t626 t627 t628)))) = some r := H
             have A69 := Aside0.mk A690
             clear A690
             have HC70 := Aside0.mk H
             clear H
             have ⟨hcz71_0, hcz71_1, hcz71_2, hcz71_3, hcz71_4, hcz71_5, hcz71_6, hcz71_7, hcz71_8, hcz71_9, hcz71_10, hcz71_11, hfz71_0⟩ := cz12 BK607
             go_upto_region 29 with (first | ((with_reducible refine gC 15 ?_); refine lA (some 153) Try.func15 (impl_InverseEdit.calls t595 t596 t597 t598 t599 t600 t601 t602 t603 t604 t605 t606 t617 t618 t619 t620 t621 t622 t623 t624 t625 t626 t627 t628 t629 _ A68.out) ?_; intro w72 hb; replace HO_17 := uR HO_17 hb; replace HO_19 := uR HO_19 hb; replace BK607 := uK BK607 hb; replace HB := uB HB hb; (try clear hb); (try clear hk)) | ((with_reducible refine gD 23 ?_); refine bxE 23 28 #[.int .i64 0, .int .i64 0, .int .i64 0, .int .i64 0, .int .i64 0, .int .i64 0, .int .i64 0, .int .i64 0, .int .i64 0, .int .i64 0, .int .i64 0, .int .i64 0] fun gb630 w73 hg hbox hb => ?_; have BK630 := Aside0.mk hbox; have GE630 := gB HB hg; have ⟨NB607_630, NB630_607⟩ := nB BK607 hg; replace HO_17 := uR HO_17 hb; replace HO_19 := uR HO_19 hb; replace BK607 := uK BK607 hb; replace HB := uB HB hb; clear hb hbox hg; have hnb74 := NB630_607.out; have hnc74 := NB607_630.out; have ⟨hcz75_0, hcz75_1, hcz75_2, hcz75_3, hcz75_4, hcz75_5, hcz75_6, hcz75_7, hcz75_8, hcz75_9, hcz75_10, hcz75_11, hfz75_0⟩ := cz12 BK630; have ⟨hcz76_0, hcz76_1, hcz76_2, hcz76_3, hcz76_4, hcz76_5, hcz76_6, hcz76_7, hcz76_8, hcz76_9, hcz76_10, hcz76_11, hfz76_0⟩ := cz12 BK607) | ((with_reducible refine gC 13 ?_); refine lA (some 158) Try.func13 (spec_InverseEdit.calls t595 t596 t597 t598 t599 t600 t601 t602 t603 t604 t605 t606 t631 t632 t633 t634 t635 t636 t637 t638 t639 t640 t641 t642 t643 _ A69.out) ?_; intro w77 hb; replace HO_17 := Aside0.mk (Kd.R_below (by (with_reducible repeat (first | apply Kd.R_alloc | apply Kd.R_drewN | apply Kd.R_drew)); exact (Kd.R_mono (Kd.R_far (p := ⟨gb630, 11, none⟩) (Kd.R_far (p := ⟨gb630, 10, none⟩) (Kd.R_far (p := ⟨gb630, 9, none⟩) (Kd.R_far (p := ⟨gb630, 8, none⟩) (Kd.R_far (p := ⟨gb630, 7, none⟩) (Kd.R_far (p := ⟨gb630, 6, none⟩) (Kd.R_far (p := ⟨gb630, 5, none⟩) (Kd.R_far (p := ⟨gb630, 4, none⟩) (Kd.R_far (p := ⟨gb630, 3, none⟩) (Kd.R_far (p := ⟨gb630, 2, none⟩) (Kd.R_far (p := ⟨gb630, 1, none⟩) (Kd.R_far (p := ⟨gb630, 0, none⟩) (Kd.R_types HO_17.out BK630.out (by decide)) (fun _ hk => hk.2) (.int .i64 t617)) (fun _ hk => hk.2) (.int .i64 t618)) (fun _ hk => hk.2) (.int .i64 t619)) (fun _ hk => hk.2) (.int .i64 t620)) (fun _ hk => hk.2) (.int .i64 t621)) (fun _ hk => hk.2) (.int .i64 t622)) (fun _ hk => hk.2) (.int .i64 t623)) (fun _ hk => hk.2) (.int .i64 t624)) (fun _ hk => hk.2) (.int .i64 t625)) (fun _ hk => hk.2) (.int .i64 t626)) (fun _ hk => hk.2) (.int .i64 t627)) (fun _ hk => hk.2) (.int .i64 t628)) (fun _ h_ => h_.1))) hb); replace HO_19 := Aside0.mk (Kd.R_below (by (with_reducible repeat (first | apply Kd.R_alloc | apply Kd.R_drewN | apply Kd.R_drew)); exact (Kd.R_mono (Kd.R_far (p := ⟨gb630, 11, none⟩) (Kd.R_far (p := ⟨gb630, 10, none⟩) (Kd.R_far (p := ⟨gb630, 9, none⟩) (Kd.R_far (p := ⟨gb630, 8, none⟩) (Kd.R_far (p := ⟨gb630, 7, none⟩) (Kd.R_far (p := ⟨gb630, 6, none⟩) (Kd.R_far (p := ⟨gb630, 5, none⟩) (Kd.R_far (p := ⟨gb630, 4, none⟩) (Kd.R_far (p := ⟨gb630, 3, none⟩) (Kd.R_far (p := ⟨gb630, 2, none⟩) (Kd.R_far (p := ⟨gb630, 1, none⟩) (Kd.R_far (p := ⟨gb630, 0, none⟩) (Kd.R_types HO_19.out BK630.out (by decide)) (fun _ hk => hk.2) (.int .i64 t617)) (fun _ hk => hk.2) (.int .i64 t618)) (fun _ hk => hk.2) (.int .i64 t619)) (fun _ hk => hk.2) (.int .i64 t620)) (fun _ hk => hk.2) (.int .i64 t621)) (fun _ hk => hk.2) (.int .i64 t622)) (fun _ hk => hk.2) (.int .i64 t623)) (fun _ hk => hk.2) (.int .i64 t624)) (fun _ hk => hk.2) (.int .i64 t625)) (fun _ hk => hk.2) (.int .i64 t626)) (fun _ hk => hk.2) (.int .i64 t627)) (fun _ hk => hk.2) (.int .i64 t628)) (fun _ h_ => h_.1))) hb); replace BK607 := uQ BK607 hb #[.int .i64 t595, .int .i64 t596, .int .i64 t597, .int .i64 t598, .int .i64 t599, .int .i64 t600, .int .i64 t601, .int .i64 t602, .int .i64 t603, .int .i64 t604, .int .i64 t605, .int .i64 t606]; replace BK630 := uQ BK630 hb #[.int .i64 t617, .int .i64 t618, .int .i64 t619, .int .i64 t620, .int .i64 t621, .int .i64 t622, .int .i64 t623, .int .i64 t624, .int .i64 t625, .int .i64 t626, .int .i64 t627, .int .i64 t628]; replace HB := uB HB hb; (try clear hb); (try clear hk)) | ((with_reducible refine gD 25 ?_); refine bxE 25 28 #[.int .i64 0, .int .i64 0, .int .i64 0, .int .i64 0, .int .i64 0, .int .i64 0, .int .i64 0, .int .i64 0, .int .i64 0, .int .i64 0, .int .i64 0, .int .i64 0] fun gb644 w78 hg hbox hb => ?_; have BK644 := Aside0.mk hbox; have GE644 := gB HB hg; have ⟨NB607_644, NB644_607⟩ := nB BK607 hg; have ⟨NB630_644, NB644_630⟩ := nB BK630 hg; replace HO_17 := uR HO_17 hb; replace HO_19 := uR HO_19 hb; replace BK607 := uK BK607 hb; replace BK630 := uK BK630 hb; replace HB := uB HB hb; clear hb hbox hg; have hnb79 := NB644_607.out; have hnc79 := NB607_644.out; have hnb80 := NB644_630.out; have hnc80 := NB630_644.out; have ⟨hcz81_0, hcz81_1, hcz81_2, hcz81_3, hcz81_4, hcz81_5, hcz81_6, hcz81_7, hcz81_8, hcz81_9, hcz81_10, hcz81_11, hfz81_0⟩ := cz12 BK644))
             (try simp only [Act.put, List.setIfInBounds_toArray, List.set_cons_zero, List.set_cons_succ])
             go_cut [175] (fun v175 wc => ∃ (kq : Nat) (x175_69 : Bool), v175 = .bool x175_69 ∧ Aside0 (laws_FnVersions.j5 kq l0 t592 t608 t611 x175_69 t595 t596 t597 t598 t599 t600 t601 t602 t603 t604 t605 t606 t617 t618 t619 t620 t621 t622 t623 t624 t625 t626 t627 t628 = some r) ∧ Aside0 (kq ≤ kj54) ∧ Aside0 (Kd.R k26 26 wc w.heap.size (fun k_ => some k_ ≠ (v609 : Value).ownBlock) (.slice Ao59 t592.length co59) t592) ∧ Aside0 (Kd.R k26 26 wc w.heap.size (fun k_ => some k_ ≠ ((.slice Ao59 t592.length co59) : Value).ownBlock) v609 t608) ∧ Aside0 (wc.heap[gb607]? = some (.cells #[.int .i64 t595, .int .i64 t596, .int .i64 t597, .int .i64 t598, .int .i64 t599, .int .i64 t600, .int .i64 t601, .int .i64 t602, .int .i64 t603, .int .i64 t604, .int .i64 t605, .int .i64 t606] 28 (0, 0))) ∧ Aside0 (wc.heap[gb630]? = some (.cells #[.int .i64 t617, .int .i64 t618, .int .i64 t619, .int .i64 t620, .int .i64 t621, .int .i64 t622, .int .i64 t623, .int .i64 t624, .int .i64 t625, .int .i64 t626, .int .i64 t627, .int .i64 t628] 28 (0, 0))) ∧ Aside0 (wc.heap[gb644]? = some (.cells #[.int .i64 t631, .int .i64 t632, .int .i64 t633, .int .i64 t634, .int .i64 t635, .int .i64 t636, .int .i64 t637, .int .i64 t638, .int .i64 t639, .int .i64 t640, .int .i64 t641, .int .i64 t642] 28 (0, 0))) ∧ Aside0 (Below w.heap.size w wc))
             case first =>
              have H := HC70.out
              clear HC70
              by_cases c82 : (!(t617 == t631) || (!(t618 == t632) || ((!(t619 == t633) || (!(t620 == t634) || (!(t621 == t635) || (!(t622 == t636) || (!(t623 == t637)))))) || ((!(t624 == t638) || (!(t625 == t639) || (!(t626 == t640) || (!(t627 == t641) || (!(t628 == t642)))))))))) = true
              ·rw [if_pos c82] at H
               have c82b0 : (!(t617 == t631) || (!(t618 == t632) || ((!(t619 == t633) || (!(t620 == t634) || (!(t621 == t635) || (!(t622 == t636) || (!(t623 == t637)))))) || ((!(t624 == t638) || (!(t625 == t639) || (!(t626 == t640) || (!(t627 == t641) || (!(t628 == t642)))))))))) = true := c82
               clear c82
               (first | rw [c82b0] | (simp only [i64_w, i32_w]; rw [c82b0]) | skip)
               have H' := Aside0.mk H
               clear H
               have hnb83 := NB630_607.out
               have hnc83 := NB607_630.out
               have hnb84 := NB630_644.out
               have hnc84 := NB644_630.out
               have ⟨hcz85_0, hcz85_1, hcz85_2, hcz85_3, hcz85_4, hcz85_5, hcz85_6, hcz85_7, hcz85_8, hcz85_9, hcz85_10, hcz85_11, hfz85_0⟩ := cz12 BK630
               have hnb86 := NB644_607.out
               have hnc86 := NB607_644.out
               have ⟨hcz87_0, hcz87_1, hcz87_2, hcz87_3, hcz87_4, hcz87_5, hcz87_6, hcz87_7, hcz87_8, hcz87_9, hcz87_10, hcz87_11, hfz87_0⟩ := cz12 BK644
               go_wp2
               go_meet
               case rel => exact ⟨_, (true), rB, H', ⟨by have := HJ6.out; have := HJ24.out; have := HJ54.out; first | omega | exact Nat.le_refl _⟩, ⟨by (with_reducible repeat (first | apply Kd.R_alloc | apply Kd.R_drewN | apply Kd.R_drew)); exact Kd.R_mono (Kd.R_far (p := ⟨gb644, 11, none⟩) (Kd.R_far (p := ⟨gb644, 10, none⟩) (Kd.R_far (p := ⟨gb644, 9, none⟩) (Kd.R_far (p := ⟨gb644, 8, none⟩) (Kd.R_far (p := ⟨gb644, 7, none⟩) (Kd.R_far (p := ⟨gb644, 6, none⟩) (Kd.R_far (p := ⟨gb644, 5, none⟩) (Kd.R_far (p := ⟨gb644, 4, none⟩) (Kd.R_far (p := ⟨gb644, 3, none⟩) (Kd.R_far (p := ⟨gb644, 2, none⟩) (Kd.R_far (p := ⟨gb644, 1, none⟩) (Kd.R_far (p := ⟨gb644, 0, none⟩) (Kd.R_types HO_17.out BK644.out (by decide)) (fun _ hk => hk.2) (.int .i64 t631)) (fun _ hk => hk.2) (.int .i64 t632)) (fun _ hk => hk.2) (.int .i64 t633)) (fun _ hk => hk.2) (.int .i64 t634)) (fun _ hk => hk.2) (.int .i64 t635)) (fun _ hk => hk.2) (.int .i64 t636)) (fun _ hk => hk.2) (.int .i64 t637)) (fun _ hk => hk.2) (.int .i64 t638)) (fun _ hk => hk.2) (.int .i64 t639)) (fun _ hk => hk.2) (.int .i64 t640)) (fun _ hk => hk.2) (.int .i64 t641)) (fun _ hk => hk.2) (.int .i64 t642)) (fun _ hk => hk.1)⟩, ⟨by (with_reducible repeat (first | apply Kd.R_alloc | apply Kd.R_drewN | apply Kd.R_drew)); exact Kd.R_mono (Kd.R_far (p := ⟨gb644, 11, none⟩) (Kd.R_far (p := ⟨gb644, 10, none⟩) (Kd.R_far (p := ⟨gb644, 9, none⟩) (Kd.R_far (p := ⟨gb644, 8, none⟩) (Kd.R_far (p := ⟨gb644, 7, none⟩) (Kd.R_far (p := ⟨gb644, 6, none⟩) (Kd.R_far (p := ⟨gb644, 5, none⟩) (Kd.R_far (p := ⟨gb644, 4, none⟩) (Kd.R_far (p := ⟨gb644, 3, none⟩) (Kd.R_far (p := ⟨gb644, 2, none⟩) (Kd.R_far (p := ⟨gb644, 1, none⟩) (Kd.R_far (p := ⟨gb644, 0, none⟩) (Kd.R_types HO_19.out BK644.out (by decide)) (fun _ hk => hk.2) (.int .i64 t631)) (fun _ hk => hk.2) (.int .i64 t632)) (fun _ hk => hk.2) (.int .i64 t633)) (fun _ hk => hk.2) (.int .i64 t634)) (fun _ hk => hk.2) (.int .i64 t635)) (fun _ hk => hk.2) (.int .i64 t636)) (fun _ hk => hk.2) (.int .i64 t637)) (fun _ hk => hk.2) (.int .i64 t638)) (fun _ hk => hk.2) (.int .i64 t639)) (fun _ hk => hk.2) (.int .i64 t640)) (fun _ hk => hk.2) (.int .i64 t641)) (fun _ hk => hk.2) (.int .i64 t642)) (fun _ hk => hk.1)⟩, ⟨by exact pW BK607⟩, ⟨by exact pW BK630⟩, ⟨by exact pW BK644⟩, (aB HB)⟩
              ·rw [if_neg c82] at H
               have c82b0 : (!(t617 == t631) || (!(t618 == t632) || ((!(t619 == t633) || (!(t620 == t634) || (!(t621 == t635) || (!(t622 == t636) || (!(t623 == t637)))))) || ((!(t624 == t638) || (!(t625 == t639) || (!(t626 == t640) || (!(t627 == t641) || (!(t628 == t642)))))))))) = false := by simpa using c82
               clear c82
               (first | rw [c82b0] | (simp only [i64_w, i32_w]; rw [c82b0]) | skip)
               by_cases c88 : (t629 != t643) = true
               ·rw [if_pos c88] at H
                have c88b0 : (t629 != t643) = true := c88
                (try (have c88b1 : decide (t629 = t643) = false := by simpa using c88))
                (try (have c88b2 : (t629 == t643) = false := by simpa using c88))
                (try (have c88b3 : ¬ (t629 = t643) := by simpa using c88))
                clear c88
                have H' := Aside0.mk H
                clear H
                have hnb89 := NB630_607.out
                have hnc89 := NB607_630.out
                have hnb90 := NB630_644.out
                have hnc90 := NB644_630.out
                have ⟨hcz91_0, hcz91_1, hcz91_2, hcz91_3, hcz91_4, hcz91_5, hcz91_6, hcz91_7, hcz91_8, hcz91_9, hcz91_10, hcz91_11, hfz91_0⟩ := cz12 BK630
                have hnb92 := NB644_607.out
                have hnc92 := NB607_644.out
                have ⟨hcz93_0, hcz93_1, hcz93_2, hcz93_3, hcz93_4, hcz93_5, hcz93_6, hcz93_7, hcz93_8, hcz93_9, hcz93_10, hcz93_11, hfz93_0⟩ := cz12 BK644
                go_wp2
                go_meet
                case rel => exact ⟨_, (true), rB, H', ⟨by have := HJ6.out; have := HJ24.out; have := HJ54.out; first | omega | exact Nat.le_refl _⟩, ⟨by (with_reducible repeat (first | apply Kd.R_alloc | apply Kd.R_drewN | apply Kd.R_drew)); exact Kd.R_mono (Kd.R_far (p := ⟨gb644, 11, none⟩) (Kd.R_far (p := ⟨gb644, 10, none⟩) (Kd.R_far (p := ⟨gb644, 9, none⟩) (Kd.R_far (p := ⟨gb644, 8, none⟩) (Kd.R_far (p := ⟨gb644, 7, none⟩) (Kd.R_far (p := ⟨gb644, 6, none⟩) (Kd.R_far (p := ⟨gb644, 5, none⟩) (Kd.R_far (p := ⟨gb644, 4, none⟩) (Kd.R_far (p := ⟨gb644, 3, none⟩) (Kd.R_far (p := ⟨gb644, 2, none⟩) (Kd.R_far (p := ⟨gb644, 1, none⟩) (Kd.R_far (p := ⟨gb644, 0, none⟩) (Kd.R_types HO_17.out BK644.out (by decide)) (fun _ hk => hk.2) (.int .i64 t631)) (fun _ hk => hk.2) (.int .i64 t632)) (fun _ hk => hk.2) (.int .i64 t633)) (fun _ hk => hk.2) (.int .i64 t634)) (fun _ hk => hk.2) (.int .i64 t635)) (fun _ hk => hk.2) (.int .i64 t636)) (fun _ hk => hk.2) (.int .i64 t637)) (fun _ hk => hk.2) (.int .i64 t638)) (fun _ hk => hk.2) (.int .i64 t639)) (fun _ hk => hk.2) (.int .i64 t640)) (fun _ hk => hk.2) (.int .i64 t641)) (fun _ hk => hk.2) (.int .i64 t642)) (fun _ hk => hk.1)⟩, ⟨by (with_reducible repeat (first | apply Kd.R_alloc | apply Kd.R_drewN | apply Kd.R_drew)); exact Kd.R_mono (Kd.R_far (p := ⟨gb644, 11, none⟩) (Kd.R_far (p := ⟨gb644, 10, none⟩) (Kd.R_far (p := ⟨gb644, 9, none⟩) (Kd.R_far (p := ⟨gb644, 8, none⟩) (Kd.R_far (p := ⟨gb644, 7, none⟩) (Kd.R_far (p := ⟨gb644, 6, none⟩) (Kd.R_far (p := ⟨gb644, 5, none⟩) (Kd.R_far (p := ⟨gb644, 4, none⟩) (Kd.R_far (p := ⟨gb644, 3, none⟩) (Kd.R_far (p := ⟨gb644, 2, none⟩) (Kd.R_far (p := ⟨gb644, 1, none⟩) (Kd.R_far (p := ⟨gb644, 0, none⟩) (Kd.R_types HO_19.out BK644.out (by decide)) (fun _ hk => hk.2) (.int .i64 t631)) (fun _ hk => hk.2) (.int .i64 t632)) (fun _ hk => hk.2) (.int .i64 t633)) (fun _ hk => hk.2) (.int .i64 t634)) (fun _ hk => hk.2) (.int .i64 t635)) (fun _ hk => hk.2) (.int .i64 t636)) (fun _ hk => hk.2) (.int .i64 t637)) (fun _ hk => hk.2) (.int .i64 t638)) (fun _ hk => hk.2) (.int .i64 t639)) (fun _ hk => hk.2) (.int .i64 t640)) (fun _ hk => hk.2) (.int .i64 t641)) (fun _ hk => hk.2) (.int .i64 t642)) (fun _ hk => hk.1)⟩, ⟨by exact pW BK607⟩, ⟨by exact pW BK630⟩, ⟨by exact pW BK644⟩, (aB HB)⟩
               ·rw [if_neg c88] at H
                have c88b0 : (t629 != t643) = false := by simpa using c88
                (try (have c88b1 : decide (t629 = t643) = true := by simpa using c88))
                (try (have c88b2 : (t629 == t643) = true := by simpa using c88))
                clear c88
                rcases Bool.eq_false_or_eq_true t611 with rfl | rfl
                ·replace H := iT rfl H
                 have H' := Aside0.mk H
                 clear H
                 have hnb95 := NB630_607.out
                 have hnc95 := NB607_630.out
                 have hnb96 := NB630_644.out
                 have hnc96 := NB644_630.out
                 have ⟨hcz97_0, hcz97_1, hcz97_2, hcz97_3, hcz97_4, hcz97_5, hcz97_6, hcz97_7, hcz97_8, hcz97_9, hcz97_10, hcz97_11, hfz97_0⟩ := cz12 BK630
                 have hnb98 := NB644_607.out
                 have hnc98 := NB607_644.out
                 have ⟨hcz99_0, hcz99_1, hcz99_2, hcz99_3, hcz99_4, hcz99_5, hcz99_6, hcz99_7, hcz99_8, hcz99_9, hcz99_10, hcz99_11, hfz99_0⟩ := cz12 BK644
                 go_wp2
                 go_meet
                 case rel => exact ⟨_, (!t629), rB, H', ⟨by have := HJ6.out; have := HJ24.out; have := HJ54.out; first | omega | exact Nat.le_refl _⟩, ⟨by (with_reducible repeat (first | apply Kd.R_alloc | apply Kd.R_drewN | apply Kd.R_drew)); exact Kd.R_mono (Kd.R_far (p := ⟨gb644, 11, none⟩) (Kd.R_far (p := ⟨gb644, 10, none⟩) (Kd.R_far (p := ⟨gb644, 9, none⟩) (Kd.R_far (p := ⟨gb644, 8, none⟩) (Kd.R_far (p := ⟨gb644, 7, none⟩) (Kd.R_far (p := ⟨gb644, 6, none⟩) (Kd.R_far (p := ⟨gb644, 5, none⟩) (Kd.R_far (p := ⟨gb644, 4, none⟩) (Kd.R_far (p := ⟨gb644, 3, none⟩) (Kd.R_far (p := ⟨gb644, 2, none⟩) (Kd.R_far (p := ⟨gb644, 1, none⟩) (Kd.R_far (p := ⟨gb644, 0, none⟩) (Kd.R_types HO_17.out BK644.out (by decide)) (fun _ hk => hk.2) (.int .i64 t631)) (fun _ hk => hk.2) (.int .i64 t632)) (fun _ hk => hk.2) (.int .i64 t633)) (fun _ hk => hk.2) (.int .i64 t634)) (fun _ hk => hk.2) (.int .i64 t635)) (fun _ hk => hk.2) (.int .i64 t636)) (fun _ hk => hk.2) (.int .i64 t637)) (fun _ hk => hk.2) (.int .i64 t638)) (fun _ hk => hk.2) (.int .i64 t639)) (fun _ hk => hk.2) (.int .i64 t640)) (fun _ hk => hk.2) (.int .i64 t641)) (fun _ hk => hk.2) (.int .i64 t642)) (fun _ hk => hk.1)⟩, ⟨by (with_reducible repeat (first | apply Kd.R_alloc | apply Kd.R_drewN | apply Kd.R_drew)); exact Kd.R_mono (Kd.R_far (p := ⟨gb644, 11, none⟩) (Kd.R_far (p := ⟨gb644, 10, none⟩) (Kd.R_far (p := ⟨gb644, 9, none⟩) (Kd.R_far (p := ⟨gb644, 8, none⟩) (Kd.R_far (p := ⟨gb644, 7, none⟩) (Kd.R_far (p := ⟨gb644, 6, none⟩) (Kd.R_far (p := ⟨gb644, 5, none⟩) (Kd.R_far (p := ⟨gb644, 4, none⟩) (Kd.R_far (p := ⟨gb644, 3, none⟩) (Kd.R_far (p := ⟨gb644, 2, none⟩) (Kd.R_far (p := ⟨gb644, 1, none⟩) (Kd.R_far (p := ⟨gb644, 0, none⟩) (Kd.R_types HO_19.out BK644.out (by decide)) (fun _ hk => hk.2) (.int .i64 t631)) (fun _ hk => hk.2) (.int .i64 t632)) (fun _ hk => hk.2) (.int .i64 t633)) (fun _ hk => hk.2) (.int .i64 t634)) (fun _ hk => hk.2) (.int .i64 t635)) (fun _ hk => hk.2) (.int .i64 t636)) (fun _ hk => hk.2) (.int .i64 t637)) (fun _ hk => hk.2) (.int .i64 t638)) (fun _ hk => hk.2) (.int .i64 t639)) (fun _ hk => hk.2) (.int .i64 t640)) (fun _ hk => hk.2) (.int .i64 t641)) (fun _ hk => hk.2) (.int .i64 t642)) (fun _ hk => hk.1)⟩, ⟨by exact pW BK607⟩, ⟨by exact pW BK630⟩, ⟨by exact pW BK644⟩, (aB HB)⟩
                ·replace H := iF (by decide) H
                 have H' := Aside0.mk H
                 clear H
                 have hnb100 := NB630_607.out
                 have hnc100 := NB607_630.out
                 have hnb101 := NB630_644.out
                 have hnc101 := NB644_630.out
                 have ⟨hcz102_0, hcz102_1, hcz102_2, hcz102_3, hcz102_4, hcz102_5, hcz102_6, hcz102_7, hcz102_8, hcz102_9, hcz102_10, hcz102_11, hfz102_0⟩ := cz12 BK630
                 have hnb103 := NB644_607.out
                 have hnc103 := NB607_644.out
                 have ⟨hcz104_0, hcz104_1, hcz104_2, hcz104_3, hcz104_4, hcz104_5, hcz104_6, hcz104_7, hcz104_8, hcz104_9, hcz104_10, hcz104_11, hfz104_0⟩ := cz12 BK644
                 go_wp2
                 go_meet
                 case rel => exact ⟨_, (false), rB, H', ⟨by have := HJ6.out; have := HJ24.out; have := HJ54.out; first | omega | exact Nat.le_refl _⟩, ⟨by (with_reducible repeat (first | apply Kd.R_alloc | apply Kd.R_drewN | apply Kd.R_drew)); exact Kd.R_mono (Kd.R_far (p := ⟨gb644, 11, none⟩) (Kd.R_far (p := ⟨gb644, 10, none⟩) (Kd.R_far (p := ⟨gb644, 9, none⟩) (Kd.R_far (p := ⟨gb644, 8, none⟩) (Kd.R_far (p := ⟨gb644, 7, none⟩) (Kd.R_far (p := ⟨gb644, 6, none⟩) (Kd.R_far (p := ⟨gb644, 5, none⟩) (Kd.R_far (p := ⟨gb644, 4, none⟩) (Kd.R_far (p := ⟨gb644, 3, none⟩) (Kd.R_far (p := ⟨gb644, 2, none⟩) (Kd.R_far (p := ⟨gb644, 1, none⟩) (Kd.R_far (p := ⟨gb644, 0, none⟩) (Kd.R_types HO_17.out BK644.out (by decide)) (fun _ hk => hk.2) (.int .i64 t631)) (fun _ hk => hk.2) (.int .i64 t632)) (fun _ hk => hk.2) (.int .i64 t633)) (fun _ hk => hk.2) (.int .i64 t634)) (fun _ hk => hk.2) (.int .i64 t635)) (fun _ hk => hk.2) (.int .i64 t636)) (fun _ hk => hk.2) (.int .i64 t637)) (fun _ hk => hk.2) (.int .i64 t638)) (fun _ hk => hk.2) (.int .i64 t639)) (fun _ hk => hk.2) (.int .i64 t640)) (fun _ hk => hk.2) (.int .i64 t641)) (fun _ hk => hk.2) (.int .i64 t642)) (fun _ hk => hk.1)⟩, ⟨by (with_reducible repeat (first | apply Kd.R_alloc | apply Kd.R_drewN | apply Kd.R_drew)); exact Kd.R_mono (Kd.R_far (p := ⟨gb644, 11, none⟩) (Kd.R_far (p := ⟨gb644, 10, none⟩) (Kd.R_far (p := ⟨gb644, 9, none⟩) (Kd.R_far (p := ⟨gb644, 8, none⟩) (Kd.R_far (p := ⟨gb644, 7, none⟩) (Kd.R_far (p := ⟨gb644, 6, none⟩) (Kd.R_far (p := ⟨gb644, 5, none⟩) (Kd.R_far (p := ⟨gb644, 4, none⟩) (Kd.R_far (p := ⟨gb644, 3, none⟩) (Kd.R_far (p := ⟨gb644, 2, none⟩) (Kd.R_far (p := ⟨gb644, 1, none⟩) (Kd.R_far (p := ⟨gb644, 0, none⟩) (Kd.R_types HO_19.out BK644.out (by decide)) (fun _ hk => hk.2) (.int .i64 t631)) (fun _ hk => hk.2) (.int .i64 t632)) (fun _ hk => hk.2) (.int .i64 t633)) (fun _ hk => hk.2) (.int .i64 t634)) (fun _ hk => hk.2) (.int .i64 t635)) (fun _ hk => hk.2) (.int .i64 t636)) (fun _ hk => hk.2) (.int .i64 t637)) (fun _ hk => hk.2) (.int .i64 t638)) (fun _ hk => hk.2) (.int .i64 t639)) (fun _ hk => hk.2) (.int .i64 t640)) (fun _ hk => hk.2) (.int .i64 t641)) (fun _ hk => hk.2) (.int .i64 t642)) (fun _ hk => hk.1)⟩, ⟨by exact pW BK607⟩, ⟨by exact pW BK630⟩, ⟨by exact pW BK644⟩, (aB HB)⟩
             case rest =>
              apply Classical.byContradiction
              intro hn_
              letI h_ : (0 : Nat) = 1 := (hn_ (by
               clear hn_
               clear HC70
               try clear hcz58_0
               try clear hcz58_1
               try clear hcz58_10
               try clear hcz58_11
               try clear hcz58_2
               try clear hcz58_3
               try clear hcz58_4
               try clear hcz58_5
               try clear hcz58_6
               try clear hcz58_7
               try clear hcz58_8
               try clear hcz58_9
               try clear hcz61_0
               try clear hcz61_1
               try clear hcz61_10
               try clear hcz61_11
               try clear hcz61_2
               try clear hcz61_3
               try clear hcz61_4
               try clear hcz61_5
               try clear hcz61_6
               try clear hcz61_7
               try clear hcz61_8
               try clear hcz61_9
               try clear hcz71_0
               try clear hcz71_1
               try clear hcz71_10
               try clear hcz71_11
               try clear hcz71_2
               try clear hcz71_3
               try clear hcz71_4
               try clear hcz71_5
               try clear hcz71_6
               try clear hcz71_7
               try clear hcz71_8
               try clear hcz71_9
               try clear hcz75_0
               try clear hcz75_1
               try clear hcz75_10
               try clear hcz75_11
               try clear hcz75_2
               try clear hcz75_3
               try clear hcz75_4
               try clear hcz75_5
               try clear hcz75_6
               try clear hcz75_7
               try clear hcz75_8
               try clear hcz75_9
               try clear hcz76_0
               try clear hcz76_1
               try clear hcz76_10
               try clear hcz76_11
               try clear hcz76_2
               try clear hcz76_3
               try clear hcz76_4
               try clear hcz76_5
               try clear hcz76_6
               try clear hcz76_7
               try clear hcz76_8
               try clear hcz76_9
               try clear hcz81_0
               try clear hcz81_1
               try clear hcz81_10
               try clear hcz81_11
               try clear hcz81_2
               try clear hcz81_3
               try clear hcz81_4
               try clear hcz81_5
               try clear hcz81_6
               try clear hcz81_7
               try clear hcz81_8
               try clear hcz81_9
               try clear hfz58_0
               try clear hfz61_0
               try clear hfz71_0
               try clear hfz75_0
               try clear hfz76_0
               try clear hfz81_0
               obtain ⟨kq, x175_69, rfl, HA, HJ69, HO_17, HO_19, BK607, BK630, BK644, HB⟩ := hcut
               cases kq with
               | zero => exact absurd HA.out (by simp [laws_FnVersions.j5])
               | succ kj69 =>
                have H := HA.out
                clear HA
                simp only [laws_FnVersions.j5] at H
                rcases Bool.eq_false_or_eq_true x175_69 with rfl | rfl
                ·replace H := iT rfl H
                 exact absurd (Option.some.inj H) (by rw [hT]; decide)
                ·replace H := iF (by decide) H
                 have HC106 := Aside0.mk H
                 clear H
                 go_upto_if 176 with (fail)
                 go_cut [] (fun wc => ∃ (kq : Nat), Aside0 (laws_FnVersions.j6 kq l0 = some r) ∧ Aside0 (kq ≤ kj69) ∧ Aside0 (wc.heap[gb607]? = some (.cells #[.int .i64 t595, .int .i64 t596, .int .i64 t597, .int .i64 t598, .int .i64 t599, .int .i64 t600, .int .i64 t601, .int .i64 t602, .int .i64 t603, .int .i64 t604, .int .i64 t605, .int .i64 t606] 28 (0, 0))) ∧ Aside0 (wc.heap[gb630]? = some (.cells #[.int .i64 t617, .int .i64 t618, .int .i64 t619, .int .i64 t620, .int .i64 t621, .int .i64 t622, .int .i64 t623, .int .i64 t624, .int .i64 t625, .int .i64 t626, .int .i64 t627, .int .i64 t628] 28 (0, 0))) ∧ Aside0 (wc.heap[gb644]? = some (.cells #[.int .i64 t631, .int .i64 t632, .int .i64 t633, .int .i64 t634, .int .i64 t635, .int .i64 t636, .int .i64 t637, .int .i64 t638, .int .i64 t639, .int .i64 t640, .int .i64 t641, .int .i64 t642] 28 (0, 0))) ∧ Aside0 (Below w.heap.size w wc))
                 case first =>
                  have H := HC106.out
                  clear HC106
                  rcases Bool.eq_false_or_eq_true t611 with rfl | rfl
                  ·replace H := iT rfl H
                   replace H := Option.bind_eq_some_iff.mp H
                   obtain ⟨⟨t645, t648⟩, A1080, H⟩ := H
                   replace H : ((impl_InverseEdit.f t617 t618 t619 t620 t621 t622 t623 t624 t625 t626 t627 t628).bind fun bt649 => (if t648 = true then ((laws_vLegs.f kj69 t645 t592).bind fun t663 => (if t663 = true then (if bt649.2.2.2.2.2.2.2.2.2.2.2.2 = true then (if (!(bt649.1 == t595) || (!(bt649.2.1 == t596) || ((!(bt649.2.2.1 == t597) || (!(bt649.2.2.2.1 == t598) || (!(bt649.2.2.2.2.1 == t599) || (!(bt649.2.2.2.2.2.1 == t600) || (!(bt649.2.2.2.2.2.2.1 == t601)))))) || ((!(bt649.2.2.2.2.2.2.2.1 == t602) || (!(bt649.2.2.2.2.2.2.2.2.1 == t603) || (!(bt649.2.2.2.2.2.2.2.2.2.1 == t604) || (!(bt649.2.2.2.2.2.2.2.2.2.2.1 == t605) || (!(bt649.2.2.2.2.2.2.2.2.2.2.2.1 == t606)))))))))) = true then (some false) else (laws_FnVersions.j6 kj69 l0)) else (some false)) else (some false))) else (some false))) = some r := H
                   have A108 := Aside0.mk A1080
                   clear A1080
                   replace H := Option.bind_eq_some_iff.mp H
                   obtain ⟨⟨t649, t650, t651, t652, t653, t654, t655, t656, t657, t658, t659, t660, t661⟩, A1090, H⟩ := H
                   replace H : (if t648 = true then ((laws_vLegs.f kj69 t645 t592).bind fun t663 => (if t663 = true then (if t661 = true then (if (!(t649 == t595) || (!(t650 == t596) || ((!(t651 == t597) || (!(t652 == t598) || (!(t653 == t599) || (!(t654 == t600) || (!(t655 == t601)))))) || ((!(t656 == t602) || (!(t657 == t603) || (!(t658 == t604) || (!(t659 == t605) || (!(t660 == t606)))))))))) = true then (some false) else (laws_FnVersions.j6 kj69 l0)) else (some false)) else (some false))) else (some false)) = some r := H
                   have A109 := Aside0.mk A1090
                   clear A1090
                   rcases Bool.eq_false_or_eq_true t648 with rfl | rfl
                   ·replace H := iT rfl H
                    replace H := bA H
                    obtain ⟨t663, A111, H⟩ := H
                    rcases Bool.eq_false_or_eq_true t663 with rfl | rfl
                    ·replace H := iT rfl H
                     rcases Bool.eq_false_or_eq_true t661 with rfl | rfl
                     ·replace H := iT rfl H
                      by_cases c114 : (!(t649 == t595) || (!(t650 == t596) || ((!(t651 == t597) || (!(t652 == t598) || (!(t653 == t599) || (!(t654 == t600) || (!(t655 == t601)))))) || ((!(t656 == t602) || (!(t657 == t603) || (!(t658 == t604) || (!(t659 == t605) || (!(t660 == t606)))))))))) = true
                      ·rw [if_pos c114] at H
                       have c114b0 : (!(t649 == t595) || (!(t650 == t596) || ((!(t651 == t597) || (!(t652 == t598) || (!(t653 == t599) || (!(t654 == t600) || (!(t655 == t601)))))) || ((!(t656 == t602) || (!(t657 == t603) || (!(t658 == t604) || (!(t659 == t605) || (!(t660 == t606)))))))))) = true := c114
                       clear c114
                       (first | rw [c114b0] | (simp only [i64_w, i32_w]; rw [c114b0]) | skip)
                       exact absurd (Option.some.inj H) (by rw [hT]; decide)
                      ·rw [if_neg c114] at H
                       have c114b0 : (!(t649 == t595) || (!(t650 == t596) || ((!(t651 == t597) || (!(t652 == t598) || (!(t653 == t599) || (!(t654 == t600) || (!(t655 == t601)))))) || ((!(t656 == t602) || (!(t657 == t603) || (!(t658 == t604) || (!(t659 == t605) || (!(t660 == t606)))))))))) = false := by simpa using c114
                       clear c114
                       (first | rw [c114b0] | (simp only [i64_w, i32_w]; rw [c114b0]) | skip)
                       have H' := Aside0.mk H
                       clear H
                       have hnb130 := NB630_607.out
                       have hnc130 := NB607_630.out
                       have hnb131 := NB630_644.out
                       have hnc131 := NB644_630.out
                       have ⟨hcz132_0, hcz132_1, hcz132_2, hcz132_3, hcz132_4, hcz132_5, hcz132_6, hcz132_7, hcz132_8, hcz132_9, hcz132_10, hcz132_11, hfz132_0⟩ := cz12 BK630
                       obtain ⟨Ao133, co133, eo133⟩ := Kd.R_slice HO_19.out
                       subst eo133
                       go_wp2_with (first | ((with_reducible refine gate_callee (f := 27) rfl ?_); refine goesL_ (some 180) rfl rfl Try.func27 (by kernel_rfl) rfl #[.slice Ao133 t608.length co133, .agg #[.int .i64 t617, .int .i64 t618, .int .i64 t619, .int .i64 t620, .int .i64 t621, .int .i64 t622, .int .i64 t623, .int .i64 t624, .int .i64 t625, .int .i64 t626, .int .i64 t627, .int .i64 t628]] rfl argsB ?_; (with_reducible refine (impl_ApplyEdit.calls kj69 _ _ t608 t617 t618 t619 t620 t621 t622 t623 t624 t625 t626 t627 t628 t645 true _ ?side1 ?side2 A108.out).mono ?_); (case side1 => repeat (first | exact (Kd.R_reads' HO_19.out).2.2 | (with_reducible refine Kd.C_alloc ?_ _) | (with_reducible refine Kd.C_drewN ?_ _) | (with_reducible refine Kd.C_drew ?_))); (case side2 => exact (Kd.R_reads' HO_19.out).2.1); rintro e w134 ⟨v646, rfl, ho0, hb⟩; refine ⟨_, rfl, ?_⟩; have HO647 := Aside0.mk (Kd.R_lower (Kd.R_new' (Kd.R_new' ho0 (Kd.R_lt (upR HO_17.out))) (Kd.R_lt (upR HO_19.out))) (below_size (bW HB))); replace HO_17 := Aside0.mk (Kd.R_elder' (upR HO_17.out) (Kd.R_base ho0) hb); replace HO_19 := Aside0.mk (Kd.R_elder' (upR HO_19.out) (Kd.R_base ho0) hb); replace BK607 := uK BK607 hb; replace BK630 := uK BK630 hb; replace BK644 := uK BK644 hb; replace HB := uB HB hb; (try clear hb); (try clear hk); (try clear ho0); have ⟨hcz135_0, hcz135_1, hcz135_2, hcz135_3, hcz135_4, hcz135_5, hcz135_6, hcz135_7, hcz135_8, hcz135_9, hcz135_10, hcz135_11, hfz135_0⟩ := cz12 BK630) | ((with_reducible refine gC 15 ?_); refine lA (some 185) Try.func15 (impl_InverseEdit.calls t617 t618 t619 t620 t621 t622 t623 t624 t625 t626 t627 t628 t649 t650 t651 t652 t653 t654 t655 t656 t657 t658 t659 t660 true _ A109.out) ?_; intro w136 hb; replace HO_17 := uR HO_17 hb; replace HO_19 := uR HO_19 hb; replace HO647 := uR HO647 hb; replace BK607 := uK BK607 hb; replace BK630 := uK BK630 hb; replace BK644 := uK BK644 hb; replace HB := uB HB hb; (try clear hb); (try clear hk)) | ((with_reducible refine gD 29 ?_); refine bxE 29 28 #[.int .i64 0, .int .i64 0, .int .i64 0, .int .i64 0, .int .i64 0, .int .i64 0, .int .i64 0, .int .i64 0, .int .i64 0, .int .i64 0, .int .i64 0, .int .i64 0] fun gb662 w137 hg hbox hb => ?_; have BK662 := Aside0.mk hbox; have GE662 := gB HB hg; have ⟨NB607_662, NB662_607⟩ := nB BK607 hg; have ⟨NB630_662, NB662_630⟩ := nB BK630 hg; have ⟨NB644_662, NB662_644⟩ := nB BK644 hg; replace HO_17 := uR HO_17 hb; replace HO_19 := uR HO_19 hb; replace HO647 := uR HO647 hb; replace BK607 := uK BK607 hb; replace BK630 := uK BK630 hb; replace BK644 := uK BK644 hb; replace HB := uB HB hb; clear hb hbox hg; have hnb138 := NB662_607.out; have hnc138 := NB607_662.out; have hnb139 := NB662_630.out; have hnc139 := NB630_662.out; have hnb140 := NB662_644.out; have hnc140 := NB644_662.out; have ⟨hcz141_0, hcz141_1, hcz141_2, hcz141_3, hcz141_4, hcz141_5, hcz141_6, hcz141_7, hcz141_8, hcz141_9, hcz141_10, hcz141_11, hfz141_0⟩ := cz12 BK662; obtain ⟨Ao142, co142, eo142⟩ := Kd.R_slice HO647.out; subst eo142) | (go_at_call 50; (with_reducible refine (laws_vLegs.calls kj69 _ _ t645 _ _ t592 true _ ?side1 ?side2 ?side3 ?side4 A111.out).mono ?_); (case side1 => refine (Kd.R_reads' (e := 26) (base := w.heap.size) (ok := fun k_ => ((True ∧ some k_ ≠ (.slice Ao59 t592.length co59 : Value).ownBlock) ∧ some k_ ≠ (.slice Ao133 t608.length co133 : Value).ownBlock)) (n := t645.length) (c := co142) ?_).2.2; exact (by (with_reducible repeat (first | apply Kd.R_alloc | apply Kd.R_drewN | apply Kd.R_drew)); exact (Kd.R_mono (Kd.R_far (p := ⟨gb662, 11, none⟩) (Kd.R_far (p := ⟨gb662, 10, none⟩) (Kd.R_far (p := ⟨gb662, 9, none⟩) (Kd.R_far (p := ⟨gb662, 8, none⟩) (Kd.R_far (p := ⟨gb662, 7, none⟩) (Kd.R_far (p := ⟨gb662, 6, none⟩) (Kd.R_far (p := ⟨gb662, 5, none⟩) (Kd.R_far (p := ⟨gb662, 4, none⟩) (Kd.R_far (p := ⟨gb662, 3, none⟩) (Kd.R_far (p := ⟨gb662, 2, none⟩) (Kd.R_far (p := ⟨gb662, 1, none⟩) (Kd.R_far (p := ⟨gb662, 0, none⟩) (Kd.R_types HO647.out BK662.out (by decide)) (fun _ hk => hk.2) (.int .i64 t649)) (fun _ hk => hk.2) (.int .i64 t650)) (fun _ hk => hk.2) (.int .i64 t651)) (fun _ hk => hk.2) (.int .i64 t652)) (fun _ hk => hk.2) (.int .i64 t653)) (fun _ hk => hk.2) (.int .i64 t654)) (fun _ hk => hk.2) (.int .i64 t655)) (fun _ hk => hk.2) (.int .i64 t656)) (fun _ hk => hk.2) (.int .i64 t657)) (fun _ hk => hk.2) (.int .i64 t658)) (fun _ hk => hk.2) (.int .i64 t659)) (fun _ hk => hk.2) (.int .i64 t660)) (fun _ h_ => h_.1)))); (case side2 => exact (Kd.R_reads' HO647.out).2.1); (case side3 => refine (Kd.R_reads' (e := 26) (base := w.heap.size) (ok := fun k_ => (some k_ ≠ (.slice Ao133 t608.length co133 : Value).ownBlock ∧ some k_ ≠ (.slice Ao142 t645.length co142 : Value).ownBlock)) (n := t592.length) (c := co59) ?_).2.2; exact (by (with_reducible repeat (first | apply Kd.R_alloc | apply Kd.R_drewN | apply Kd.R_drew)); exact (Kd.R_mono (Kd.R_far (p := ⟨gb662, 11, none⟩) (Kd.R_far (p := ⟨gb662, 10, none⟩) (Kd.R_far (p := ⟨gb662, 9, none⟩) (Kd.R_far (p := ⟨gb662, 8, none⟩) (Kd.R_far (p := ⟨gb662, 7, none⟩) (Kd.R_far (p := ⟨gb662, 6, none⟩) (Kd.R_far (p := ⟨gb662, 5, none⟩) (Kd.R_far (p := ⟨gb662, 4, none⟩) (Kd.R_far (p := ⟨gb662, 3, none⟩) (Kd.R_far (p := ⟨gb662, 2, none⟩) (Kd.R_far (p := ⟨gb662, 1, none⟩) (Kd.R_far (p := ⟨gb662, 0, none⟩) (Kd.R_types HO_17.out BK662.out (by decide)) (fun _ hk => hk.2) (.int .i64 t649)) (fun _ hk => hk.2) (.int .i64 t650)) (fun _ hk => hk.2) (.int .i64 t651)) (fun _ hk => hk.2) (.int .i64 t652)) (fun _ hk => hk.2) (.int .i64 t653)) (fun _ hk => hk.2) (.int .i64 t654)) (fun _ hk => hk.2) (.int .i64 t655)) (fun _ hk => hk.2) (.int .i64 t656)) (fun _ hk => hk.2) (.int .i64 t657)) (fun _ hk => hk.2) (.int .i64 t658)) (fun _ hk => hk.2) (.int .i64 t659)) (fun _ hk => hk.2) (.int .i64 t660)) (fun _ h_ => h_.1)))); (case side4 => exact (Kd.R_reads' HO_17.out).2.1); rintro e w' ⟨rfl, ⟨nd, rfl⟩⟩; have hnb143 := NB607_644.out; have hnc143 := NB644_607.out; have ⟨hcz144_0, hcz144_1, hcz144_2, hcz144_3, hcz144_4, hcz144_5, hcz144_6, hcz144_7, hcz144_8, hcz144_9, hcz144_10, hcz144_11, hfz144_0⟩ := cz12 BK607))
                       go_meet
                       case rel => exact ⟨_, H', ⟨by have := HJ6.out; have := HJ24.out; have := HJ54.out; have := HJ69.out; first | omega | exact Nat.le_refl _⟩, ⟨by exact pW BK607⟩, ⟨by exact pW BK630⟩, ⟨by exact pW BK644⟩, (aB HB)⟩
                     ·replace H := iF (by decide) H
                      exact absurd (Option.some.inj H) (by rw [hT]; decide)
                    ·replace H := iF (by decide) H
                     exact absurd (Option.some.inj H) (by rw [hT]; decide)
                   ·replace H := iF (by decide) H
                    exact absurd (Option.some.inj H) (by rw [hT]; decide)
                  ·replace H := iF (by decide) H
                   have H' := Aside0.mk H
                   clear H
                   go_wp2
                   go_meet
                   case rel => exact ⟨_, H', ⟨by have := HJ6.out; have := HJ24.out; have := HJ54.out; have := HJ69.out; first | omega | exact Nat.le_refl _⟩, (aK BK607), (aK BK630), (aK BK644), (aB HB)⟩
                 case rest =>
                  apply Classical.byContradiction
                  intro hn_
                  letI h_ : (0 : Nat) = 1 := (hn_ (by
                   clear hn_
                   clear HC106
                   try clear hcz61_1
                   try clear hcz61_10
                   try clear hcz61_11
                   try clear hcz61_2
                   try clear hcz61_3
                   try clear hcz61_4
                   try clear hcz61_5
                   try clear hcz61_6
                   try clear hcz61_7
                   try clear hcz61_8
                   try clear hcz61_9
                   try clear hcz71_0
                   try clear hcz71_1
                   try clear hcz71_10
                   try clear hcz71_11
                   try clear hcz71_2
                   try clear hcz71_3
                   try clear hcz71_4
                   try clear hcz71_5
                   try clear hcz71_6
                   try clear hcz71_7
                   try clear hcz71_8
                   try clear hcz71_9
                   try clear hcz75_0
                   try clear hcz75_1
                   try clear hcz75_10
                   try clear hcz75_11
                   try clear hcz75_2
                   try clear hcz75_3
                   try clear hcz75_4
                   try clear hcz75_5
                   try clear hcz75_6
                   try clear hcz75_7
                   try clear hcz75_8
                   try clear hcz75_9
                   try clear hcz76_0
                   try clear hcz76_1
                   try clear hcz76_10
                   try clear hcz76_11
                   try clear hcz76_2
                   try clear hcz76_3
                   try clear hcz76_4
                   try clear hcz76_5
                   try clear hcz76_6
                   try clear hcz76_7
                   try clear hcz76_8
                   try clear hcz76_9
                   try clear hcz81_0
                   try clear hcz81_1
                   try clear hcz81_10
                   try clear hcz81_11
                   try clear hcz81_2
                   try clear hcz81_3
                   try clear hcz81_4
                   try clear hcz81_5
                   try clear hcz81_6
                   try clear hcz81_7
                   try clear hcz81_8
                   try clear hcz81_9
                   try clear hfz58_0
                   try clear hfz61_0
                   try clear hfz71_0
                   try clear hfz75_0
                   try clear hfz76_0
                   try clear hfz81_0
                   obtain ⟨kq, HA, HJ105, BK607, BK630, BK644, HB⟩ := hcut
                   cases kq with
                   | zero => exact absurd HA.out (by simp [laws_FnVersions.j6])
                   | succ kj105 =>
                    have H := HA.out
                    clear HA
                    simp only [laws_FnVersions.j6] at H
                    replace H := Option.bind_eq_some_iff.mp H
                    obtain ⟨⟨t664, t665, t666⟩, A1830, H⟩ := H
                    replace H : ((impl_VersionAt.f kj105 t664 t665 t666).bind fun bt671 => ((spec_VersionAt.f kj105 t664 t665 t666).bind fun bt675 => (if (bt671.2 == bt675.2) = true then ((laws_vLegs.f kj105 bt671.1 bt675.1).bind fun t679 => (some t679)) else (some false)))) = some r := H
                    have A183 := Aside0.mk A1830
                    clear A1830
                    replace H := Option.bind_eq_some_iff.mp H
                    obtain ⟨⟨t671, t672⟩, A1840, H⟩ := H
                    replace H : ((spec_VersionAt.f kj105 t664 t665 t666).bind fun bt675 => (if (t672 == bt675.2) = true then ((laws_vLegs.f kj105 t671 bt675.1).bind fun t679 => (some t679)) else (some false))) = some r := H
                    have A184 := Aside0.mk A1840
                    clear A1840
                    replace H := Option.bind_eq_some_iff.mp H
                    obtain ⟨⟨t675, t676⟩, A1850, H⟩ := H
                    replace H : (if (t672 == t676) = true then ((laws_vLegs.f kj105 t671 t675).bind fun t679 => (some t679)) else (some false)) = some r := H
                    have A185 := Aside0.mk A1850
                    clear A1850
                    by_cases c186 : (t672 == t676) = true
                    ·rw [if_pos c186] at H
                     have c186b0 : (t672 == t676) = true := c186
                     (try (have c186b1 : decide (t672 = t676) = true := by simpa using c186))
                     (try (have c186b2 : (t672 == t676) = true := by simpa using c186))
                     clear c186
                     replace H := bA H
                     obtain ⟨t679, A187, H⟩ := H
                     obtain rfl := (Option.some.inj H)
                     go_wp2_with (first | ((with_reducible refine gate_callee (f := 52) rfl ?_); refine goesL_ (some 207) rfl rfl Try.func52 (by kernel_rfl) rfl #[.slice A0 l0.length c0] rfl argsB ?_; (with_reducible refine (spec_DrawVersionAt.calls kj105 _ _ l0 t664 t665 t666 _ ?side1 ?side2 A183.out).mono ?_); (case side1 => repeat (first | exact (Kd.C_below HR0.out HB.out) | (with_reducible refine Kd.C_alloc ?_ _) | (with_reducible refine Kd.C_drewN ?_ _) | (with_reducible refine Kd.C_drew ?_))); (case side2 => exact HC0.out); rintro e w188 ⟨v667, v669, rfl, ho0, ho1, hb⟩; refine ⟨_, rfl, ?_⟩; have HO668 := Aside0.mk (Kd.R_lower ho0 (below_size (bW HB))); have HO670 := Aside0.mk (Kd.R_lower (Kd.R_newB (Kd.R_newB (Kd.R_newB ho1 (g := gb607) (o := .cells #[.int .i64 t595, .int .i64 t596, .int .i64 t597, .int .i64 t598, .int .i64 t599, .int .i64 t600, .int .i64 t601, .int .i64 t602, .int .i64 t603, .int .i64 t604, .int .i64 t605, .int .i64 t606] 28 (0, 0)) (upK BK607.out)) (g := gb630) (o := .cells #[.int .i64 t617, .int .i64 t618, .int .i64 t619, .int .i64 t620, .int .i64 t621, .int .i64 t622, .int .i64 t623, .int .i64 t624, .int .i64 t625, .int .i64 t626, .int .i64 t627, .int .i64 t628] 28 (0, 0)) (upK BK630.out)) (g := gb644) (o := .cells #[.int .i64 t631, .int .i64 t632, .int .i64 t633, .int .i64 t634, .int .i64 t635, .int .i64 t636, .int .i64 t637, .int .i64 t638, .int .i64 t639, .int .i64 t640, .int .i64 t641, .int .i64 t642] 28 (0, 0)) (upK BK644.out)) (below_size (bW HB))); replace BK607 := uK BK607 hb; replace BK630 := uK BK630 hb; replace BK644 := uK BK644 hb; replace HB := uB HB hb; (try clear hb); (try clear hk); (try clear ho0); (try clear ho1); obtain ⟨Ao189, co189, eo189⟩ := Kd.R_slice HO668.out; subst eo189; obtain ⟨Ao190, co190, eo190⟩ := Kd.R_slice HO670.out; subst eo190) | ((with_reducible refine gate_callee (f := 34) rfl ?_); refine goesL_ (some 215) rfl rfl Try.func34 (by kernel_rfl) rfl #[.slice Ao189 t664.length co189, .slice Ao190 t665.length co190, .int .i64 t666] rfl argsB ?_; (with_reducible refine (impl_VersionAt.calls kj105 _ _ t664 _ _ t665 t666 t671 t672 _ ?side1 ?side2 ?side3 ?side4 A184.out).mono ?_); (case side1 => repeat (first | exact (Kd.R_reads' HO668.out).2.2 | (with_reducible refine Kd.C_alloc ?_ _) | (with_reducible refine Kd.C_drewN ?_ _) | (with_reducible refine Kd.C_drew ?_))); (case side2 => exact (Kd.R_reads' HO668.out).2.1); (case side3 => repeat (first | exact (Kd.R_reads' HO670.out).2.2 | (with_reducible refine Kd.C_alloc ?_ _) | (with_reducible refine Kd.C_drewN ?_ _) | (with_reducible refine Kd.C_drew ?_))); (case side4 => exact (Kd.R_reads' HO670.out).2.1); rintro e w191 ⟨v673, rfl, ho0, hb⟩; refine ⟨_, rfl, ?_⟩; have HO674 := Aside0.mk (Kd.R_lower (Kd.R_new' ho0 (Kd.R_lt (upR HO668.out))) (below_size (bW HB))); replace HO668 := Aside0.mk (Kd.R_elder' (upR HO668.out) (Kd.R_base ho0) hb); replace HO670 := uR HO670 hb; replace BK607 := uK BK607 hb; replace BK630 := uK BK630 hb; replace BK644 := uK BK644 hb; replace HB := uB HB hb; (try clear hb); (try clear hk); (try clear ho0)) | ((with_reducible refine gate_callee (f := 33) rfl ?_); refine goesL_ (some 222) rfl rfl Try.func33 (by kernel_rfl) rfl #[.slice Ao189 t664.length co189, .slice Ao190 t665.length co190, .int .i64 t666] rfl argsB ?_; (with_reducible refine (spec_VersionAt.calls kj105 _ _ t664 _ _ t665 t666 t675 t676 _ ?side1 ?side2 ?side3 ?side4 A185.out).mono ?_); (case side1 => repeat (first | exact (Kd.R_reads' HO668.out).2.2 | (with_reducible refine Kd.C_alloc ?_ _) | (with_reducible refine Kd.C_drewN ?_ _) | (with_reducible refine Kd.C_drew ?_))); (case side2 => exact (Kd.R_reads' HO668.out).2.1); (case side3 => repeat (first | exact (Kd.R_reads' HO670.out).2.2 | (with_reducible refine Kd.C_alloc ?_ _) | (with_reducible refine Kd.C_drewN ?_ _) | (with_reducible refine Kd.C_drew ?_))); (case side4 => exact (Kd.R_reads' HO670.out).2.1); rintro e w192 ⟨v677, rfl, ho0, hb⟩; refine ⟨_, rfl, ?_⟩; have HO678 := Aside0.mk (Kd.R_lower (Kd.R_new' (Kd.R_new' ho0 (Kd.R_lt (upR HO668.out))) (Kd.R_lt (upR HO674.out))) (below_size (bW HB))); replace HO668 := Aside0.mk (Kd.R_elder' (upR HO668.out) (Kd.R_base ho0) hb); replace HO670 := uR HO670 hb; replace HO674 := Aside0.mk (Kd.R_elder' (upR HO674.out) (Kd.R_base ho0) hb); replace BK607 := uK BK607 hb; replace BK630 := uK BK630 hb; replace BK644 := uK BK644 hb; replace HB := uB HB hb; (try clear hb); (try clear hk); (try clear ho0); obtain ⟨Ao193, co193, eo193⟩ := Kd.R_slice HO674.out; subst eo193; obtain ⟨Ao194, co194, eo194⟩ := Kd.R_slice HO678.out; subst eo194) | (go_at_call 50; (with_reducible refine (laws_vLegs.calls kj105 _ _ t671 _ _ t675 t679 _ ?side1 ?side2 ?side3 ?side4 A187.out).mono ?_); (case side1 => repeat (first | exact (Kd.R_reads' HO674.out).2.2 | (with_reducible refine Kd.C_alloc ?_ _) | (with_reducible refine Kd.C_drewN ?_ _) | (with_reducible refine Kd.C_drew ?_))); (case side2 => exact (Kd.R_reads' HO674.out).2.1); (case side3 => repeat (first | exact (Kd.R_reads' HO678.out).2.2 | (with_reducible refine Kd.C_alloc ?_ _) | (with_reducible refine Kd.C_drewN ?_ _) | (with_reducible refine Kd.C_drew ?_))); (case side4 => exact (Kd.R_reads' HO678.out).2.1); rintro e w' ⟨rfl, ⟨nd, rfl⟩⟩))
                     go_ret
                     exact ⟨eB, (bW HB)⟩
                    ·rw [if_neg c186] at H
                     have c186b0 : (t672 == t676) = false := by simpa using c186
                     (try (have c186b1 : decide (t672 = t676) = false := by simpa using c186))
                     (try (have c186b2 : (t672 == t676) = false := by simpa using c186))
                     (try (have c186b3 : ¬ (t672 = t676) := by simpa using c186))
                     clear c186
                     exact absurd (Option.some.inj H) (by rw [hT]; decide)
                   )).elim
                  omega
               )).elim
              omega
           )).elim
          omega
        )).elim
       omega
    )).elim
   omega
/-- THE ONE PURE STATEMENT of laws_FnVersions: yours. -/

def laws_FnVersions.Pure : Prop := ∀ (l0 : List Int), l0.length ≤ maxLen → l0.length * 1 ≤ 140737488351232 → (∀ x ∈ l0, (Lit.int .u8 x).wf = true) → ∃ k, laws_FnVersions.f k l0 = some true
theorem laws_FnVersions.walk (P : laws_FnVersions.Pure) (a0 : Option Addr) (len0 cap0 : Nat) (z0 : List Int) (w : World) (w0 : (a0 = none ∧ len0 = 0 ∧ cap0 = 0 ∧ z0 = []) ∨ ∃ x, a0 = some x ∧ len0 ≤ cap0 ∧ cap0 ≤ maxLen ∧ z0.length = cap0 ∧ (∀ i, i < z0.length → w.cell? (x.add i) = some (.int .u8 (z0.getD i 0))) ∧ ∀ n ∈ z0, (Lit.int .u8 n).wf = true) (y0 : len0 * 1 ≤ 140737488351232) :
  Calls Try.prog 11 #[.slice a0 len0 cap0] w fun e w' => e = .returned (.bool true) ∧ Below w.heap.size w w' := by
 obtain ⟨l0, rfl, hr0, hm0, hw0, hc0⟩ := ReadsInt.ofRowC w0
 obtain ⟨k, h⟩ := P l0 hm0 y0 hw0
 refine (laws_FnVersions.calls k _ _ l0 true w (Kd.C_of_reads (d := (0 : Int)) (h1 := fun _ => rfl) hr0) hc0 h rfl).mono ?_
 rintro e w' ⟨rfl, hd⟩
 exact ⟨rfl, hd⟩

end Go.Proofs.Ytinelmmnajelaaa.QFnVersions
