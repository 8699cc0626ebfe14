import PyProof.Rows.All
import Wide.All
import OpenK.AllK
import Wide.FinOn
import PySem.Challenge.RW_no0306_01
set_option Elab.async false
namespace Mine
theorem E0_2 {P0 P1 : Prop} {G : Prop} : (P0 ∧ P1) → (P0 → P1 → G) → G := fun h k => k h.1 h.2
theorem E0_3 {P0 P1 P2 : Prop} {G : Prop} : (P0 ∧ P1 ∧ P2) → (P0 → P1 → P2 → G) → G := fun h k => k h.1 h.2.1 h.2.2
theorem E0_4 {P0 P1 P2 P3 : Prop} {G : Prop} : (P0 ∧ P1 ∧ P2 ∧ P3) → (P0 → P1 → P2 → P3 → G) → G := fun h k => k h.1 h.2.1 h.2.2.1 h.2.2.2
theorem E0_5 {P0 P1 P2 P3 P4 : Prop} {G : Prop} : (P0 ∧ P1 ∧ P2 ∧ P3 ∧ P4) → (P0 → P1 → P2 → P3 → P4 → G) → G := fun h k => k h.1 h.2.1 h.2.2.1 h.2.2.2.1 h.2.2.2.2
theorem E0_6 {P0 P1 P2 P3 P4 P5 : Prop} {G : Prop} : (P0 ∧ P1 ∧ P2 ∧ P3 ∧ P4 ∧ P5) → (P0 → P1 → P2 → P3 → P4 → P5 → G) → G := fun h k => k h.1 h.2.1 h.2.2.1 h.2.2.2.1 h.2.2.2.2.1 h.2.2.2.2.2
theorem E0_7 {P0 P1 P2 P3 P4 P5 P6 : Prop} {G : Prop} : (P0 ∧ P1 ∧ P2 ∧ P3 ∧ P4 ∧ P5 ∧ P6) → (P0 → P1 → P2 → P3 → P4 → P5 → P6 → G) → G := fun h k => k h.1 h.2.1 h.2.2.1 h.2.2.2.1 h.2.2.2.2.1 h.2.2.2.2.2.1 h.2.2.2.2.2.2
theorem E0_8 {P0 P1 P2 P3 P4 P5 P6 P7 : Prop} {G : Prop} : (P0 ∧ P1 ∧ P2 ∧ P3 ∧ P4 ∧ P5 ∧ P6 ∧ P7) → (P0 → P1 → P2 → P3 → P4 → P5 → P6 → P7 → G) → G := fun h k => k h.1 h.2.1 h.2.2.1 h.2.2.2.1 h.2.2.2.2.1 h.2.2.2.2.2.1 h.2.2.2.2.2.2.1 h.2.2.2.2.2.2.2
theorem E1_1.{u0} {α0 : Sort u0} {P0 : α0 → Prop} {G : Prop} : (∃ x0, P0 x0) → (∀ x0, P0 x0 → G) → G := fun h k => h.elim fun x0 h => k x0 h
theorem E1_2.{u0} {α0 : Sort u0} {P0 P1 : α0 → Prop} {G : Prop} : (∃ x0, P0 x0 ∧ P1 x0) → (∀ x0, P0 x0 → P1 x0 → G) → G := fun h k => h.elim fun x0 h => k x0 h.1 h.2
theorem E1_3.{u0} {α0 : Sort u0} {P0 P1 P2 : α0 → Prop} {G : Prop} : (∃ x0, P0 x0 ∧ P1 x0 ∧ P2 x0) → (∀ x0, P0 x0 → P1 x0 → P2 x0 → G) → G := fun h k => h.elim fun x0 h => k x0 h.1 h.2.1 h.2.2
theorem E1_4.{u0} {α0 : Sort u0} {P0 P1 P2 P3 : α0 → Prop} {G : Prop} : (∃ x0, P0 x0 ∧ P1 x0 ∧ P2 x0 ∧ P3 x0) → (∀ x0, P0 x0 → P1 x0 → P2 x0 → P3 x0 → G) → G := fun h k => h.elim fun x0 h => k x0 h.1 h.2.1 h.2.2.1 h.2.2.2
theorem E1_5.{u0} {α0 : Sort u0} {P0 P1 P2 P3 P4 : α0 → Prop} {G : Prop} : (∃ x0, P0 x0 ∧ P1 x0 ∧ P2 x0 ∧ P3 x0 ∧ P4 x0) → (∀ x0, P0 x0 → P1 x0 → P2 x0 → P3 x0 → P4 x0 → G) → G := fun h k => h.elim fun x0 h => k x0 h.1 h.2.1 h.2.2.1 h.2.2.2.1 h.2.2.2.2
theorem E1_6.{u0} {α0 : Sort u0} {P0 P1 P2 P3 P4 P5 : α0 → Prop} {G : Prop} : (∃ x0, P0 x0 ∧ P1 x0 ∧ P2 x0 ∧ P3 x0 ∧ P4 x0 ∧ P5 x0) → (∀ x0, P0 x0 → P1 x0 → P2 x0 → P3 x0 → P4 x0 → P5 x0 → G) → G := fun h k => h.elim fun x0 h => k x0 h.1 h.2.1 h.2.2.1 h.2.2.2.1 h.2.2.2.2.1 h.2.2.2.2.2
theorem E2_1.{u0, u1} {α0 : Sort u0} {α1 : Sort u1} {P0 : α0 → α1 → Prop} {G : Prop} : (∃ x0 x1, P0 x0 x1) → (∀ x0 x1, P0 x0 x1 → G) → G := fun h k => h.elim fun x0 h => h.elim fun x1 h => k x0 x1 h
theorem E2_2.{u0, u1} {α0 : Sort u0} {α1 : Sort u1} {P0 P1 : α0 → α1 → Prop} {G : Prop} : (∃ x0 x1, P0 x0 x1 ∧ P1 x0 x1) → (∀ x0 x1, P0 x0 x1 → P1 x0 x1 → G) → G := fun h k => h.elim fun x0 h => h.elim fun x1 h => k x0 x1 h.1 h.2
theorem E2_3.{u0, u1} {α0 : Sort u0} {α1 : Sort u1} {P0 P1 P2 : α0 → α1 → Prop} {G : Prop} : (∃ x0 x1, P0 x0 x1 ∧ P1 x0 x1 ∧ P2 x0 x1) → (∀ x0 x1, P0 x0 x1 → P1 x0 x1 → P2 x0 x1 → G) → G := fun h k => h.elim fun x0 h => h.elim fun x1 h => k x0 x1 h.1 h.2.1 h.2.2
theorem E2_4.{u0, u1} {α0 : Sort u0} {α1 : Sort u1} {P0 P1 P2 P3 : α0 → α1 → Prop} {G : Prop} : (∃ x0 x1, P0 x0 x1 ∧ P1 x0 x1 ∧ P2 x0 x1 ∧ P3 x0 x1) → (∀ x0 x1, P0 x0 x1 → P1 x0 x1 → P2 x0 x1 → P3 x0 x1 → G) → G := fun h k => h.elim fun x0 h => h.elim fun x1 h => k x0 x1 h.1 h.2.1 h.2.2.1 h.2.2.2
theorem E2_5.{u0, u1} {α0 : Sort u0} {α1 : Sort u1} {P0 P1 P2 P3 P4 : α0 → α1 → Prop} {G : Prop} : (∃ x0 x1, P0 x0 x1 ∧ P1 x0 x1 ∧ P2 x0 x1 ∧ P3 x0 x1 ∧ P4 x0 x1) → (∀ x0 x1, P0 x0 x1 → P1 x0 x1 → P2 x0 x1 → P3 x0 x1 → P4 x0 x1 → G) → G := fun h k => h.elim fun x0 h => h.elim fun x1 h => k x0 x1 h.1 h.2.1 h.2.2.1 h.2.2.2.1 h.2.2.2.2
theorem E2_6.{u0, u1} {α0 : Sort u0} {α1 : Sort u1} {P0 P1 P2 P3 P4 P5 : α0 → α1 → Prop} {G : Prop} : (∃ x0 x1, P0 x0 x1 ∧ P1 x0 x1 ∧ P2 x0 x1 ∧ P3 x0 x1 ∧ P4 x0 x1 ∧ P5 x0 x1) → (∀ x0 x1, P0 x0 x1 → P1 x0 x1 → P2 x0 x1 → P3 x0 x1 → P4 x0 x1 → P5 x0 x1 → G) → G := fun h k => h.elim fun x0 h => h.elim fun x1 h => k x0 x1 h.1 h.2.1 h.2.2.1 h.2.2.2.1 h.2.2.2.2.1 h.2.2.2.2.2
theorem E2_7.{u0, u1} {α0 : Sort u0} {α1 : Sort u1} {P0 P1 P2 P3 P4 P5 P6 : α0 → α1 → Prop} {G : Prop} : (∃ x0 x1, P0 x0 x1 ∧ P1 x0 x1 ∧ P2 x0 x1 ∧ P3 x0 x1 ∧ P4 x0 x1 ∧ P5 x0 x1 ∧ P6 x0 x1) → (∀ x0 x1, P0 x0 x1 → P1 x0 x1 → P2 x0 x1 → P3 x0 x1 → P4 x0 x1 → P5 x0 x1 → P6 x0 x1 → G) → G := fun h k => h.elim fun x0 h => h.elim fun x1 h => k x0 x1 h.1 h.2.1 h.2.2.1 h.2.2.2.1 h.2.2.2.2.1 h.2.2.2.2.2.1 h.2.2.2.2.2.2
theorem E2_8.{u0, u1} {α0 : Sort u0} {α1 : Sort u1} {P0 P1 P2 P3 P4 P5 P6 P7 : α0 → α1 → Prop} {G : Prop} : (∃ x0 x1, P0 x0 x1 ∧ P1 x0 x1 ∧ P2 x0 x1 ∧ P3 x0 x1 ∧ P4 x0 x1 ∧ P5 x0 x1 ∧ P6 x0 x1 ∧ P7 x0 x1) → (∀ x0 x1, P0 x0 x1 → P1 x0 x1 → P2 x0 x1 → P3 x0 x1 → P4 x0 x1 → P5 x0 x1 → P6 x0 x1 → P7 x0 x1 → G) → G := fun h k => h.elim fun x0 h => h.elim fun x1 h => k x0 x1 h.1 h.2.1 h.2.2.1 h.2.2.2.1 h.2.2.2.2.1 h.2.2.2.2.2.1 h.2.2.2.2.2.2.1 h.2.2.2.2.2.2.2
theorem E3_1.{u0, u1, u2} {α0 : Sort u0} {α1 : Sort u1} {α2 : Sort u2} {P0 : α0 → α1 → α2 → Prop} {G : Prop} : (∃ x0 x1 x2, P0 x0 x1 x2) → (∀ x0 x1 x2, P0 x0 x1 x2 → G) → G := fun h k => h.elim fun x0 h => h.elim fun x1 h => h.elim fun x2 h => k x0 x1 x2 h
theorem E3_2.{u0, u1, u2} {α0 : Sort u0} {α1 : Sort u1} {α2 : Sort u2} {P0 P1 : α0 → α1 → α2 → Prop} {G : Prop} : (∃ x0 x1 x2, P0 x0 x1 x2 ∧ P1 x0 x1 x2) → (∀ x0 x1 x2, P0 x0 x1 x2 → P1 x0 x1 x2 → G) → G := fun h k => h.elim fun x0 h => h.elim fun x1 h => h.elim fun x2 h => k x0 x1 x2 h.1 h.2
theorem E3_3.{u0, u1, u2} {α0 : Sort u0} {α1 : Sort u1} {α2 : Sort u2} {P0 P1 P2 : α0 → α1 → α2 → Prop} {G : Prop} : (∃ x0 x1 x2, P0 x0 x1 x2 ∧ P1 x0 x1 x2 ∧ P2 x0 x1 x2) → (∀ x0 x1 x2, P0 x0 x1 x2 → P1 x0 x1 x2 → P2 x0 x1 x2 → G) → G := fun h k => h.elim fun x0 h => h.elim fun x1 h => h.elim fun x2 h => k x0 x1 x2 h.1 h.2.1 h.2.2
theorem E3_4.{u0, u1, u2} {α0 : Sort u0} {α1 : Sort u1} {α2 : Sort u2} {P0 P1 P2 P3 : α0 → α1 → α2 → Prop} {G : Prop} : (∃ x0 x1 x2, P0 x0 x1 x2 ∧ P1 x0 x1 x2 ∧ P2 x0 x1 x2 ∧ P3 x0 x1 x2) → (∀ x0 x1 x2, P0 x0 x1 x2 → P1 x0 x1 x2 → P2 x0 x1 x2 → P3 x0 x1 x2 → G) → G := fun h k => h.elim fun x0 h => h.elim fun x1 h => h.elim fun x2 h => k x0 x1 x2 h.1 h.2.1 h.2.2.1 h.2.2.2
theorem E3_5.{u0, u1, u2} {α0 : Sort u0} {α1 : Sort u1} {α2 : Sort u2} {P0 P1 P2 P3 P4 : α0 → α1 → α2 → Prop} {G : Prop} : (∃ x0 x1 x2, P0 x0 x1 x2 ∧ P1 x0 x1 x2 ∧ P2 x0 x1 x2 ∧ P3 x0 x1 x2 ∧ P4 x0 x1 x2) → (∀ x0 x1 x2, P0 x0 x1 x2 → P1 x0 x1 x2 → P2 x0 x1 x2 → P3 x0 x1 x2 → P4 x0 x1 x2 → G) → G := fun h k => h.elim fun x0 h => h.elim fun x1 h => h.elim fun x2 h => k x0 x1 x2 h.1 h.2.1 h.2.2.1 h.2.2.2.1 h.2.2.2.2
theorem E4_1.{u0, u1, u2, u3} {α0 : Sort u0} {α1 : Sort u1} {α2 : Sort u2} {α3 : Sort u3} {P0 : α0 → α1 → α2 → α3 → Prop} {G : Prop} : (∃ x0 x1 x2 x3, P0 x0 x1 x2 x3) → (∀ x0 x1 x2 x3, P0 x0 x1 x2 x3 → G) → G := fun h k => h.elim fun x0 h => h.elim fun x1 h => h.elim fun x2 h => h.elim fun x3 h => k x0 x1 x2 x3 h
theorem E4_2.{u0, u1, u2, u3} {α0 : Sort u0} {α1 : Sort u1} {α2 : Sort u2} {α3 : Sort u3} {P0 P1 : α0 → α1 → α2 → α3 → Prop} {G : Prop} : (∃ x0 x1 x2 x3, P0 x0 x1 x2 x3 ∧ P1 x0 x1 x2 x3) → (∀ x0 x1 x2 x3, P0 x0 x1 x2 x3 → P1 x0 x1 x2 x3 → G) → G := fun h k => h.elim fun x0 h => h.elim fun x1 h => h.elim fun x2 h => h.elim fun x3 h => k x0 x1 x2 x3 h.1 h.2
theorem E4_3.{u0, u1, u2, u3} {α0 : Sort u0} {α1 : Sort u1} {α2 : Sort u2} {α3 : Sort u3} {P0 P1 P2 : α0 → α1 → α2 → α3 → Prop} {G : Prop} : (∃ x0 x1 x2 x3, P0 x0 x1 x2 x3 ∧ P1 x0 x1 x2 x3 ∧ P2 x0 x1 x2 x3) → (∀ x0 x1 x2 x3, P0 x0 x1 x2 x3 → P1 x0 x1 x2 x3 → P2 x0 x1 x2 x3 → G) → G := fun h k => h.elim fun x0 h => h.elim fun x1 h => h.elim fun x2 h => h.elim fun x3 h => k x0 x1 x2 x3 h.1 h.2.1 h.2.2
theorem E4_4.{u0, u1, u2, u3} {α0 : Sort u0} {α1 : Sort u1} {α2 : Sort u2} {α3 : Sort u3} {P0 P1 P2 P3 : α0 → α1 → α2 → α3 → Prop} {G : Prop} : (∃ x0 x1 x2 x3, P0 x0 x1 x2 x3 ∧ P1 x0 x1 x2 x3 ∧ P2 x0 x1 x2 x3 ∧ P3 x0 x1 x2 x3) → (∀ x0 x1 x2 x3, P0 x0 x1 x2 x3 → P1 x0 x1 x2 x3 → P2 x0 x1 x2 x3 → P3 x0 x1 x2 x3 → G) → G := fun h k => h.elim fun x0 h => h.elim fun x1 h => h.elim fun x2 h => h.elim fun x3 h => k x0 x1 x2 x3 h.1 h.2.1 h.2.2.1 h.2.2.2
theorem E4_5.{u0, u1, u2, u3} {α0 : Sort u0} {α1 : Sort u1} {α2 : Sort u2} {α3 : Sort u3} {P0 P1 P2 P3 P4 : α0 → α1 → α2 → α3 → Prop} {G : Prop} : (∃ x0 x1 x2 x3, P0 x0 x1 x2 x3 ∧ P1 x0 x1 x2 x3 ∧ P2 x0 x1 x2 x3 ∧ P3 x0 x1 x2 x3 ∧ P4 x0 x1 x2 x3) → (∀ x0 x1 x2 x3, P0 x0 x1 x2 x3 → P1 x0 x1 x2 x3 → P2 x0 x1 x2 x3 → P3 x0 x1 x2 x3 → P4 x0 x1 x2 x3 → G) → G := fun h k => h.elim fun x0 h => h.elim fun x1 h => h.elim fun x2 h => h.elim fun x3 h => k x0 x1 x2 x3 h.1 h.2.1 h.2.2.1 h.2.2.2.1 h.2.2.2.2
theorem E4_6.{u0, u1, u2, u3} {α0 : Sort u0} {α1 : Sort u1} {α2 : Sort u2} {α3 : Sort u3} {P0 P1 P2 P3 P4 P5 : α0 → α1 → α2 → α3 → Prop} {G : Prop} : (∃ x0 x1 x2 x3, P0 x0 x1 x2 x3 ∧ P1 x0 x1 x2 x3 ∧ P2 x0 x1 x2 x3 ∧ P3 x0 x1 x2 x3 ∧ P4 x0 x1 x2 x3 ∧ P5 x0 x1 x2 x3) → (∀ x0 x1 x2 x3, P0 x0 x1 x2 x3 → P1 x0 x1 x2 x3 → P2 x0 x1 x2 x3 → P3 x0 x1 x2 x3 → P4 x0 x1 x2 x3 → P5 x0 x1 x2 x3 → G) → G := fun h k => h.elim fun x0 h => h.elim fun x1 h => h.elim fun x2 h => h.elim fun x3 h => k x0 x1 x2 x3 h.1 h.2.1 h.2.2.1 h.2.2.2.1 h.2.2.2.2.1 h.2.2.2.2.2
theorem E5_5.{u0, u1, u2, u3, u4} {α0 : Sort u0} {α1 : Sort u1} {α2 : Sort u2} {α3 : Sort u3} {α4 : Sort u4} {P0 P1 P2 P3 P4 : α0 → α1 → α2 → α3 → α4 → Prop} {G : Prop} : (∃ x0 x1 x2 x3 x4, P0 x0 x1 x2 x3 x4 ∧ P1 x0 x1 x2 x3 x4 ∧ P2 x0 x1 x2 x3 x4 ∧ P3 x0 x1 x2 x3 x4 ∧ P4 x0 x1 x2 x3 x4) → (∀ x0 x1 x2 x3 x4, P0 x0 x1 x2 x3 x4 → P1 x0 x1 x2 x3 x4 → P2 x0 x1 x2 x3 x4 → P3 x0 x1 x2 x3 x4 → P4 x0 x1 x2 x3 x4 → G) → G := fun h k => h.elim fun x0 h => h.elim fun x1 h => h.elim fun x2 h => h.elim fun x3 h => h.elim fun x4 h => k x0 x1 x2 x3 x4 h.1 h.2.1 h.2.2.1 h.2.2.2.1 h.2.2.2.2
theorem E5_6.{u0, u1, u2, u3, u4} {α0 : Sort u0} {α1 : Sort u1} {α2 : Sort u2} {α3 : Sort u3} {α4 : Sort u4} {P0 P1 P2 P3 P4 P5 : α0 → α1 → α2 → α3 → α4 → Prop} {G : Prop} : (∃ x0 x1 x2 x3 x4, P0 x0 x1 x2 x3 x4 ∧ P1 x0 x1 x2 x3 x4 ∧ P2 x0 x1 x2 x3 x4 ∧ P3 x0 x1 x2 x3 x4 ∧ P4 x0 x1 x2 x3 x4 ∧ P5 x0 x1 x2 x3 x4) → (∀ x0 x1 x2 x3 x4, P0 x0 x1 x2 x3 x4 → P1 x0 x1 x2 x3 x4 → P2 x0 x1 x2 x3 x4 → P3 x0 x1 x2 x3 x4 → P4 x0 x1 x2 x3 x4 → P5 x0 x1 x2 x3 x4 → G) → G := fun h k => h.elim fun x0 h => h.elim fun x1 h => h.elim fun x2 h => h.elim fun x3 h => h.elim fun x4 h => k x0 x1 x2 x3 x4 h.1 h.2.1 h.2.2.1 h.2.2.2.1 h.2.2.2.2.1 h.2.2.2.2.2
theorem E5_7.{u0, u1, u2, u3, u4} {α0 : Sort u0} {α1 : Sort u1} {α2 : Sort u2} {α3 : Sort u3} {α4 : Sort u4} {P0 P1 P2 P3 P4 P5 P6 : α0 → α1 → α2 → α3 → α4 → Prop} {G : Prop} : (∃ x0 x1 x2 x3 x4, P0 x0 x1 x2 x3 x4 ∧ P1 x0 x1 x2 x3 x4 ∧ P2 x0 x1 x2 x3 x4 ∧ P3 x0 x1 x2 x3 x4 ∧ P4 x0 x1 x2 x3 x4 ∧ P5 x0 x1 x2 x3 x4 ∧ P6 x0 x1 x2 x3 x4) → (∀ x0 x1 x2 x3 x4, P0 x0 x1 x2 x3 x4 → P1 x0 x1 x2 x3 x4 → P2 x0 x1 x2 x3 x4 → P3 x0 x1 x2 x3 x4 → P4 x0 x1 x2 x3 x4 → P5 x0 x1 x2 x3 x4 → P6 x0 x1 x2 x3 x4 → G) → G := fun h k => h.elim fun x0 h => h.elim fun x1 h => h.elim fun x2 h => h.elim fun x3 h => h.elim fun x4 h => k x0 x1 x2 x3 x4 h.1 h.2.1 h.2.2.1 h.2.2.2.1 h.2.2.2.2.1 h.2.2.2.2.2.1 h.2.2.2.2.2.2
theorem E6_1.{u0, u1, u2, u3, u4, u5} {α0 : Sort u0} {α1 : Sort u1} {α2 : Sort u2} {α3 : Sort u3} {α4 : Sort u4} {α5 : Sort u5} {P0 : α0 → α1 → α2 → α3 → α4 → α5 → Prop} {G : Prop} : (∃ x0 x1 x2 x3 x4 x5, P0 x0 x1 x2 x3 x4 x5) → (∀ x0 x1 x2 x3 x4 x5, P0 x0 x1 x2 x3 x4 x5 → G) → G := fun h k => h.elim fun x0 h => h.elim fun x1 h => h.elim fun x2 h => h.elim fun x3 h => h.elim fun x4 h => h.elim fun x5 h => k x0 x1 x2 x3 x4 x5 h
theorem E6_3.{u0, u1, u2, u3, u4, u5} {α0 : Sort u0} {α1 : Sort u1} {α2 : Sort u2} {α3 : Sort u3} {α4 : Sort u4} {α5 : Sort u5} {P0 P1 P2 : α0 → α1 → α2 → α3 → α4 → α5 → Prop} {G : Prop} : (∃ x0 x1 x2 x3 x4 x5, P0 x0 x1 x2 x3 x4 x5 ∧ P1 x0 x1 x2 x3 x4 x5 ∧ P2 x0 x1 x2 x3 x4 x5) → (∀ x0 x1 x2 x3 x4 x5, P0 x0 x1 x2 x3 x4 x5 → P1 x0 x1 x2 x3 x4 x5 → P2 x0 x1 x2 x3 x4 x5 → G) → G := fun h k => h.elim fun x0 h => h.elim fun x1 h => h.elim fun x2 h => h.elim fun x3 h => h.elim fun x4 h => h.elim fun x5 h => k x0 x1 x2 x3 x4 x5 h.1 h.2.1 h.2.2
theorem E6_6.{u0, u1, u2, u3, u4, u5} {α0 : Sort u0} {α1 : Sort u1} {α2 : Sort u2} {α3 : Sort u3} {α4 : Sort u4} {α5 : Sort u5} {P0 P1 P2 P3 P4 P5 : α0 → α1 → α2 → α3 → α4 → α5 → Prop} {G : Prop} : (∃ x0 x1 x2 x3 x4 x5, P0 x0 x1 x2 x3 x4 x5 ∧ P1 x0 x1 x2 x3 x4 x5 ∧ P2 x0 x1 x2 x3 x4 x5 ∧ P3 x0 x1 x2 x3 x4 x5 ∧ P4 x0 x1 x2 x3 x4 x5 ∧ P5 x0 x1 x2 x3 x4 x5) → (∀ x0 x1 x2 x3 x4 x5, P0 x0 x1 x2 x3 x4 x5 → P1 x0 x1 x2 x3 x4 x5 → P2 x0 x1 x2 x3 x4 x5 → P3 x0 x1 x2 x3 x4 x5 → P4 x0 x1 x2 x3 x4 x5 → P5 x0 x1 x2 x3 x4 x5 → G) → G := fun h k => h.elim fun x0 h => h.elim fun x1 h => h.elim fun x2 h => h.elim fun x3 h => h.elim fun x4 h => h.elim fun x5 h => k x0 x1 x2 x3 x4 x5 h.1 h.2.1 h.2.2.1 h.2.2.2.1 h.2.2.2.2.1 h.2.2.2.2.2
theorem E7_1.{u0, u1, u2, u3, u4, u5, u6} {α0 : Sort u0} {α1 : Sort u1} {α2 : Sort u2} {α3 : Sort u3} {α4 : Sort u4} {α5 : Sort u5} {α6 : Sort u6} {P0 : α0 → α1 → α2 → α3 → α4 → α5 → α6 → Prop} {G : Prop} : (∃ x0 x1 x2 x3 x4 x5 x6, P0 x0 x1 x2 x3 x4 x5 x6) → (∀ x0 x1 x2 x3 x4 x5 x6, P0 x0 x1 x2 x3 x4 x5 x6 → G) → G := fun h k => h.elim fun x0 h => h.elim fun x1 h => h.elim fun x2 h => h.elim fun x3 h => h.elim fun x4 h => h.elim fun x5 h => h.elim fun x6 h => k x0 x1 x2 x3 x4 x5 x6 h
theorem E7_5.{u0, u1, u2, u3, u4, u5, u6} {α0 : Sort u0} {α1 : Sort u1} {α2 : Sort u2} {α3 : Sort u3} {α4 : Sort u4} {α5 : Sort u5} {α6 : Sort u6} {P0 P1 P2 P3 P4 : α0 → α1 → α2 → α3 → α4 → α5 → α6 → Prop} {G : Prop} : (∃ x0 x1 x2 x3 x4 x5 x6, P0 x0 x1 x2 x3 x4 x5 x6 ∧ P1 x0 x1 x2 x3 x4 x5 x6 ∧ P2 x0 x1 x2 x3 x4 x5 x6 ∧ P3 x0 x1 x2 x3 x4 x5 x6 ∧ P4 x0 x1 x2 x3 x4 x5 x6) → (∀ x0 x1 x2 x3 x4 x5 x6, P0 x0 x1 x2 x3 x4 x5 x6 → P1 x0 x1 x2 x3 x4 x5 x6 → P2 x0 x1 x2 x3 x4 x5 x6 → P3 x0 x1 x2 x3 x4 x5 x6 → P4 x0 x1 x2 x3 x4 x5 x6 → G) → G := fun h k => h.elim fun x0 h => h.elim fun x1 h => h.elim fun x2 h => h.elim fun x3 h => h.elim fun x4 h => h.elim fun x5 h => h.elim fun x6 h => k x0 x1 x2 x3 x4 x5 x6 h.1 h.2.1 h.2.2.1 h.2.2.2.1 h.2.2.2.2
theorem P2_2 {α β : Type} {P0 P1 : α × β → Prop} {G : Prop} (h : ∃ p, P0 p ∧ P1 p) (k : ∀ x y, P0 (x, y) → P1 (x, y) → G) : G := h.elim fun p h => k p.1 p.2 h.1 h.2
theorem P2_3 {α β : Type} {P0 P1 P2 : α × β → Prop} {G : Prop} (h : ∃ p, P0 p ∧ P1 p ∧ P2 p) (k : ∀ x y, P0 (x, y) → P1 (x, y) → P2 (x, y) → G) : G := h.elim fun p h => k p.1 p.2 h.1 h.2.1 h.2.2
theorem P2_4 {α β : Type} {P0 P1 P2 P3 : α × β → Prop} {G : Prop} (h : ∃ p, P0 p ∧ P1 p ∧ P2 p ∧ P3 p) (k : ∀ x y, P0 (x, y) → P1 (x, y) → P2 (x, y) → P3 (x, y) → G) : G := h.elim fun p h => k p.1 p.2 h.1 h.2.1 h.2.2.1 h.2.2.2
theorem P2_5 {α β : Type} {P0 P1 P2 P3 P4 : α × β → Prop} {G : Prop} (h : ∃ p, P0 p ∧ P1 p ∧ P2 p ∧ P3 p ∧ P4 p) (k : ∀ x y, P0 (x, y) → P1 (x, y) → P2 (x, y) → P3 (x, y) → P4 (x, y) → G) : G := h.elim fun p h => k p.1 p.2 h.1 h.2.1 h.2.2.1 h.2.2.2.1 h.2.2.2.2
theorem P3_2 {α β γ : Type} {P0 P1 : α × β × γ → Prop} {G : Prop} (h : ∃ p, P0 p ∧ P1 p) (k : ∀ x y w, P0 (x, y, w) → P1 (x, y, w) → G) : G := h.elim fun p h => k p.1 p.2.1 p.2.2 h.1 h.2
theorem P3_3 {α β γ : Type} {P0 P1 P2 : α × β × γ → Prop} {G : Prop} (h : ∃ p, P0 p ∧ P1 p ∧ P2 p) (k : ∀ x y w, P0 (x, y, w) → P1 (x, y, w) → P2 (x, y, w) → G) : G := h.elim fun p h => k p.1 p.2.1 p.2.2 h.1 h.2.1 h.2.2
theorem P3_4 {α β γ : Type} {P0 P1 P2 P3 : α × β × γ → Prop} {G : Prop} (h : ∃ p, P0 p ∧ P1 p ∧ P2 p ∧ P3 p) (k : ∀ x y w, P0 (x, y, w) → P1 (x, y, w) → P2 (x, y, w) → P3 (x, y, w) → G) : G := h.elim fun p h => k p.1 p.2.1 p.2.2 h.1 h.2.1 h.2.2.1 h.2.2.2
theorem P3_5 {α β γ : Type} {P0 P1 P2 P3 P4 : α × β × γ → Prop} {G : Prop} (h : ∃ p, P0 p ∧ P1 p ∧ P2 p ∧ P3 p ∧ P4 p) (k : ∀ x y w, P0 (x, y, w) → P1 (x, y, w) → P2 (x, y, w) → P3 (x, y, w) → P4 (x, y, w) → G) : G := h.elim fun p h => k p.1 p.2.1 p.2.2 h.1 h.2.1 h.2.2.1 h.2.2.2.1 h.2.2.2.2
theorem P3_6 {α β γ : Type} {P0 P1 P2 P3 P4 P5 : α × β × γ → Prop} {G : Prop} (h : ∃ p, P0 p ∧ P1 p ∧ P2 p ∧ P3 p ∧ P4 p ∧ P5 p) (k : ∀ x y w, P0 (x, y, w) → P1 (x, y, w) → P2 (x, y, w) → P3 (x, y, w) → P4 (x, y, w) → P5 (x, y, w) → G) : G := h.elim fun p h => k p.1 p.2.1 p.2.2 h.1 h.2.1 h.2.2.1 h.2.2.2.1 h.2.2.2.2.1 h.2.2.2.2.2
theorem I0_2 {P0 P1 : Prop} (h0 : P0) (h1 : P1) : P0 ∧ P1 := ⟨h0, h1⟩
theorem I0_3 {P0 P1 P2 : Prop} (h0 : P0) (h1 : P1) (h2 : P2) : P0 ∧ P1 ∧ P2 := ⟨h0, h1, h2⟩
theorem I0_4 {P0 P1 P2 P3 : Prop} (h0 : P0) (h1 : P1) (h2 : P2) (h3 : P3) : P0 ∧ P1 ∧ P2 ∧ P3 := ⟨h0, h1, h2, h3⟩
theorem I0_5 {P0 P1 P2 P3 P4 : Prop} (h0 : P0) (h1 : P1) (h2 : P2) (h3 : P3) (h4 : P4) : P0 ∧ P1 ∧ P2 ∧ P3 ∧ P4 := ⟨h0, h1, h2, h3, h4⟩
theorem I0_6 {P0 P1 P2 P3 P4 P5 : Prop} (h0 : P0) (h1 : P1) (h2 : P2) (h3 : P3) (h4 : P4) (h5 : P5) : P0 ∧ P1 ∧ P2 ∧ P3 ∧ P4 ∧ P5 := ⟨h0, h1, h2, h3, h4, h5⟩
theorem I0_7 {P0 P1 P2 P3 P4 P5 P6 : Prop} (h0 : P0) (h1 : P1) (h2 : P2) (h3 : P3) (h4 : P4) (h5 : P5) (h6 : P6) : P0 ∧ P1 ∧ P2 ∧ P3 ∧ P4 ∧ P5 ∧ P6 := ⟨h0, h1, h2, h3, h4, h5, h6⟩
theorem I1_1.{u0} {α0 : Sort u0} {P0 : α0 → Prop} (x0 : α0) (h0 : P0 x0) : ∃ x0, P0 x0 := ⟨x0, h0⟩
theorem I1_2.{u0} {α0 : Sort u0} {P0 P1 : α0 → Prop} (x0 : α0) (h0 : P0 x0) (h1 : P1 x0) : ∃ x0, P0 x0 ∧ P1 x0 := ⟨x0, h0, h1⟩
theorem I1_3.{u0} {α0 : Sort u0} {P0 P1 P2 : α0 → Prop} (x0 : α0) (h0 : P0 x0) (h1 : P1 x0) (h2 : P2 x0) : ∃ x0, P0 x0 ∧ P1 x0 ∧ P2 x0 := ⟨x0, h0, h1, h2⟩
theorem I1_4.{u0} {α0 : Sort u0} {P0 P1 P2 P3 : α0 → Prop} (x0 : α0) (h0 : P0 x0) (h1 : P1 x0) (h2 : P2 x0) (h3 : P3 x0) : ∃ x0, P0 x0 ∧ P1 x0 ∧ P2 x0 ∧ P3 x0 := ⟨x0, h0, h1, h2, h3⟩
theorem I1_5.{u0} {α0 : Sort u0} {P0 P1 P2 P3 P4 : α0 → Prop} (x0 : α0) (h0 : P0 x0) (h1 : P1 x0) (h2 : P2 x0) (h3 : P3 x0) (h4 : P4 x0) : ∃ x0, P0 x0 ∧ P1 x0 ∧ P2 x0 ∧ P3 x0 ∧ P4 x0 := ⟨x0, h0, h1, h2, h3, h4⟩
theorem I1_6.{u0} {α0 : Sort u0} {P0 P1 P2 P3 P4 P5 : α0 → Prop} (x0 : α0) (h0 : P0 x0) (h1 : P1 x0) (h2 : P2 x0) (h3 : P3 x0) (h4 : P4 x0) (h5 : P5 x0) : ∃ x0, P0 x0 ∧ P1 x0 ∧ P2 x0 ∧ P3 x0 ∧ P4 x0 ∧ P5 x0 := ⟨x0, h0, h1, h2, h3, h4, h5⟩
theorem I2_1.{u0, u1} {α0 : Sort u0} {α1 : Sort u1} {P0 : α0 → α1 → Prop} (x0 : α0) (x1 : α1) (h0 : P0 x0 x1) : ∃ x0 x1, P0 x0 x1 := ⟨x0, x1, h0⟩
theorem I2_2.{u0, u1} {α0 : Sort u0} {α1 : Sort u1} {P0 P1 : α0 → α1 → Prop} (x0 : α0) (x1 : α1) (h0 : P0 x0 x1) (h1 : P1 x0 x1) : ∃ x0 x1, P0 x0 x1 ∧ P1 x0 x1 := ⟨x0, x1, h0, h1⟩
theorem I2_3.{u0, u1} {α0 : Sort u0} {α1 : Sort u1} {P0 P1 P2 : α0 → α1 → Prop} (x0 : α0) (x1 : α1) (h0 : P0 x0 x1) (h1 : P1 x0 x1) (h2 : P2 x0 x1) : ∃ x0 x1, P0 x0 x1 ∧ P1 x0 x1 ∧ P2 x0 x1 := ⟨x0, x1, h0, h1, h2⟩
theorem I2_4.{u0, u1} {α0 : Sort u0} {α1 : Sort u1} {P0 P1 P2 P3 : α0 → α1 → Prop} (x0 : α0) (x1 : α1) (h0 : P0 x0 x1) (h1 : P1 x0 x1) (h2 : P2 x0 x1) (h3 : P3 x0 x1) : ∃ x0 x1, P0 x0 x1 ∧ P1 x0 x1 ∧ P2 x0 x1 ∧ P3 x0 x1 := ⟨x0, x1, h0, h1, h2, h3⟩
theorem I2_5.{u0, u1} {α0 : Sort u0} {α1 : Sort u1} {P0 P1 P2 P3 P4 : α0 → α1 → Prop} (x0 : α0) (x1 : α1) (h0 : P0 x0 x1) (h1 : P1 x0 x1) (h2 : P2 x0 x1) (h3 : P3 x0 x1) (h4 : P4 x0 x1) : ∃ x0 x1, P0 x0 x1 ∧ P1 x0 x1 ∧ P2 x0 x1 ∧ P3 x0 x1 ∧ P4 x0 x1 := ⟨x0, x1, h0, h1, h2, h3, h4⟩
theorem I2_6.{u0, u1} {α0 : Sort u0} {α1 : Sort u1} {P0 P1 P2 P3 P4 P5 : α0 → α1 → Prop} (x0 : α0) (x1 : α1) (h0 : P0 x0 x1) (h1 : P1 x0 x1) (h2 : P2 x0 x1) (h3 : P3 x0 x1) (h4 : P4 x0 x1) (h5 : P5 x0 x1) : ∃ x0 x1, P0 x0 x1 ∧ P1 x0 x1 ∧ P2 x0 x1 ∧ P3 x0 x1 ∧ P4 x0 x1 ∧ P5 x0 x1 := ⟨x0, x1, h0, h1, h2, h3, h4, h5⟩
theorem I2_7.{u0, u1} {α0 : Sort u0} {α1 : Sort u1} {P0 P1 P2 P3 P4 P5 P6 : α0 → α1 → Prop} (x0 : α0) (x1 : α1) (h0 : P0 x0 x1) (h1 : P1 x0 x1) (h2 : P2 x0 x1) (h3 : P3 x0 x1) (h4 : P4 x0 x1) (h5 : P5 x0 x1) (h6 : P6 x0 x1) : ∃ x0 x1, P0 x0 x1 ∧ P1 x0 x1 ∧ P2 x0 x1 ∧ P3 x0 x1 ∧ P4 x0 x1 ∧ P5 x0 x1 ∧ P6 x0 x1 := ⟨x0, x1, h0, h1, h2, h3, h4, h5, h6⟩
theorem I2_8.{u0, u1} {α0 : Sort u0} {α1 : Sort u1} {P0 P1 P2 P3 P4 P5 P6 P7 : α0 → α1 → Prop} (x0 : α0) (x1 : α1) (h0 : P0 x0 x1) (h1 : P1 x0 x1) (h2 : P2 x0 x1) (h3 : P3 x0 x1) (h4 : P4 x0 x1) (h5 : P5 x0 x1) (h6 : P6 x0 x1) (h7 : P7 x0 x1) : ∃ x0 x1, P0 x0 x1 ∧ P1 x0 x1 ∧ P2 x0 x1 ∧ P3 x0 x1 ∧ P4 x0 x1 ∧ P5 x0 x1 ∧ P6 x0 x1 ∧ P7 x0 x1 := ⟨x0, x1, h0, h1, h2, h3, h4, h5, h6, h7⟩
theorem I3_1.{u0, u1, u2} {α0 : Sort u0} {α1 : Sort u1} {α2 : Sort u2} {P0 : α0 → α1 → α2 → Prop} (x0 : α0) (x1 : α1) (x2 : α2) (h0 : P0 x0 x1 x2) : ∃ x0 x1 x2, P0 x0 x1 x2 := ⟨x0, x1, x2, h0⟩
theorem I3_2.{u0, u1, u2} {α0 : Sort u0} {α1 : Sort u1} {α2 : Sort u2} {P0 P1 : α0 → α1 → α2 → Prop} (x0 : α0) (x1 : α1) (x2 : α2) (h0 : P0 x0 x1 x2) (h1 : P1 x0 x1 x2) : ∃ x0 x1 x2, P0 x0 x1 x2 ∧ P1 x0 x1 x2 := ⟨x0, x1, x2, h0, h1⟩
theorem I3_3.{u0, u1, u2} {α0 : Sort u0} {α1 : Sort u1} {α2 : Sort u2} {P0 P1 P2 : α0 → α1 → α2 → Prop} (x0 : α0) (x1 : α1) (x2 : α2) (h0 : P0 x0 x1 x2) (h1 : P1 x0 x1 x2) (h2 : P2 x0 x1 x2) : ∃ x0 x1 x2, P0 x0 x1 x2 ∧ P1 x0 x1 x2 ∧ P2 x0 x1 x2 := ⟨x0, x1, x2, h0, h1, h2⟩
theorem I3_4.{u0, u1, u2} {α0 : Sort u0} {α1 : Sort u1} {α2 : Sort u2} {P0 P1 P2 P3 : α0 → α1 → α2 → Prop} (x0 : α0) (x1 : α1) (x2 : α2) (h0 : P0 x0 x1 x2) (h1 : P1 x0 x1 x2) (h2 : P2 x0 x1 x2) (h3 : P3 x0 x1 x2) : ∃ x0 x1 x2, P0 x0 x1 x2 ∧ P1 x0 x1 x2 ∧ P2 x0 x1 x2 ∧ P3 x0 x1 x2 := ⟨x0, x1, x2, h0, h1, h2, h3⟩
theorem I3_5.{u0, u1, u2} {α0 : Sort u0} {α1 : Sort u1} {α2 : Sort u2} {P0 P1 P2 P3 P4 : α0 → α1 → α2 → Prop} (x0 : α0) (x1 : α1) (x2 : α2) (h0 : P0 x0 x1 x2) (h1 : P1 x0 x1 x2) (h2 : P2 x0 x1 x2) (h3 : P3 x0 x1 x2) (h4 : P4 x0 x1 x2) : ∃ x0 x1 x2, P0 x0 x1 x2 ∧ P1 x0 x1 x2 ∧ P2 x0 x1 x2 ∧ P3 x0 x1 x2 ∧ P4 x0 x1 x2 := ⟨x0, x1, x2, h0, h1, h2, h3, h4⟩
theorem I4_2.{u0, u1, u2, u3} {α0 : Sort u0} {α1 : Sort u1} {α2 : Sort u2} {α3 : Sort u3} {P0 P1 : α0 → α1 → α2 → α3 → Prop} (x0 : α0) (x1 : α1) (x2 : α2) (x3 : α3) (h0 : P0 x0 x1 x2 x3) (h1 : P1 x0 x1 x2 x3) : ∃ x0 x1 x2 x3, P0 x0 x1 x2 x3 ∧ P1 x0 x1 x2 x3 := ⟨x0, x1, x2, x3, h0, h1⟩
theorem I4_5.{u0, u1, u2, u3} {α0 : Sort u0} {α1 : Sort u1} {α2 : Sort u2} {α3 : Sort u3} {P0 P1 P2 P3 P4 : α0 → α1 → α2 → α3 → Prop} (x0 : α0) (x1 : α1) (x2 : α2) (x3 : α3) (h0 : P0 x0 x1 x2 x3) (h1 : P1 x0 x1 x2 x3) (h2 : P2 x0 x1 x2 x3) (h3 : P3 x0 x1 x2 x3) (h4 : P4 x0 x1 x2 x3) : ∃ x0 x1 x2 x3, P0 x0 x1 x2 x3 ∧ P1 x0 x1 x2 x3 ∧ P2 x0 x1 x2 x3 ∧ P3 x0 x1 x2 x3 ∧ P4 x0 x1 x2 x3 := ⟨x0, x1, x2, x3, h0, h1, h2, h3, h4⟩
theorem I4_6.{u0, u1, u2, u3} {α0 : Sort u0} {α1 : Sort u1} {α2 : Sort u2} {α3 : Sort u3} {P0 P1 P2 P3 P4 P5 : α0 → α1 → α2 → α3 → Prop} (x0 : α0) (x1 : α1) (x2 : α2) (x3 : α3) (h0 : P0 x0 x1 x2 x3) (h1 : P1 x0 x1 x2 x3) (h2 : P2 x0 x1 x2 x3) (h3 : P3 x0 x1 x2 x3) (h4 : P4 x0 x1 x2 x3) (h5 : P5 x0 x1 x2 x3) : ∃ x0 x1 x2 x3, P0 x0 x1 x2 x3 ∧ P1 x0 x1 x2 x3 ∧ P2 x0 x1 x2 x3 ∧ P3 x0 x1 x2 x3 ∧ P4 x0 x1 x2 x3 ∧ P5 x0 x1 x2 x3 := ⟨x0, x1, x2, x3, h0, h1, h2, h3, h4, h5⟩
theorem I5_6.{u0, u1, u2, u3, u4} {α0 : Sort u0} {α1 : Sort u1} {α2 : Sort u2} {α3 : Sort u3} {α4 : Sort u4} {P0 P1 P2 P3 P4 P5 : α0 → α1 → α2 → α3 → α4 → Prop} (x0 : α0) (x1 : α1) (x2 : α2) (x3 : α3) (x4 : α4) (h0 : P0 x0 x1 x2 x3 x4) (h1 : P1 x0 x1 x2 x3 x4) (h2 : P2 x0 x1 x2 x3 x4) (h3 : P3 x0 x1 x2 x3 x4) (h4 : P4 x0 x1 x2 x3 x4) (h5 : P5 x0 x1 x2 x3 x4) : ∃ x0 x1 x2 x3 x4, P0 x0 x1 x2 x3 x4 ∧ P1 x0 x1 x2 x3 x4 ∧ P2 x0 x1 x2 x3 x4 ∧ P3 x0 x1 x2 x3 x4 ∧ P4 x0 x1 x2 x3 x4 ∧ P5 x0 x1 x2 x3 x4 := ⟨x0, x1, x2, x3, x4, h0, h1, h2, h3, h4, h5⟩
theorem I6_3.{u0, u1, u2, u3, u4, u5} {α0 : Sort u0} {α1 : Sort u1} {α2 : Sort u2} {α3 : Sort u3} {α4 : Sort u4} {α5 : Sort u5} {P0 P1 P2 : α0 → α1 → α2 → α3 → α4 → α5 → Prop} (x0 : α0) (x1 : α1) (x2 : α2) (x3 : α3) (x4 : α4) (x5 : α5) (h0 : P0 x0 x1 x2 x3 x4 x5) (h1 : P1 x0 x1 x2 x3 x4 x5) (h2 : P2 x0 x1 x2 x3 x4 x5) : ∃ x0 x1 x2 x3 x4 x5, P0 x0 x1 x2 x3 x4 x5 ∧ P1 x0 x1 x2 x3 x4 x5 ∧ P2 x0 x1 x2 x3 x4 x5 := ⟨x0, x1, x2, x3, x4, x5, h0, h1, h2⟩
theorem I6_6.{u0, u1, u2, u3, u4, u5} {α0 : Sort u0} {α1 : Sort u1} {α2 : Sort u2} {α3 : Sort u3} {α4 : Sort u4} {α5 : Sort u5} {P0 P1 P2 P3 P4 P5 : α0 → α1 → α2 → α3 → α4 → α5 → Prop} (x0 : α0) (x1 : α1) (x2 : α2) (x3 : α3) (x4 : α4) (x5 : α5) (h0 : P0 x0 x1 x2 x3 x4 x5) (h1 : P1 x0 x1 x2 x3 x4 x5) (h2 : P2 x0 x1 x2 x3 x4 x5) (h3 : P3 x0 x1 x2 x3 x4 x5) (h4 : P4 x0 x1 x2 x3 x4 x5) (h5 : P5 x0 x1 x2 x3 x4 x5) : ∃ x0 x1 x2 x3 x4 x5, P0 x0 x1 x2 x3 x4 x5 ∧ P1 x0 x1 x2 x3 x4 x5 ∧ P2 x0 x1 x2 x3 x4 x5 ∧ P3 x0 x1 x2 x3 x4 x5 ∧ P4 x0 x1 x2 x3 x4 x5 ∧ P5 x0 x1 x2 x3 x4 x5 := ⟨x0, x1, x2, x3, x4, x5, h0, h1, h2, h3, h4, h5⟩
@[elab_as_elim] theorem rwl {α : Sort u} {a b : α} {p : α → Prop} (h : a = b) (x : p b) : p a := h ▸ x
@[elab_as_elim] theorem rwr {α : Sort u} {a b : α} {p : α → Prop} (h : a = b) (x : p a) : p b := h ▸ x
theorem noS {α : Type} {x : α} {P : Prop} (h : (Option.none : Option α) = some x) : P := nomatch h
theorem noT {α : Type} {x : α} {P : Prop} (h : some x = (Option.none : Option α)) : P := nomatch h
theorem someE {α : Type} {a b : α} {P : Prop} (e : some a = some b) (k : a = b → P) : P := k (Option.some.inj e)
theorem pairE {α β : Type} {a c : α} {b d : β} {P : Prop} (e : (a, b) = (c, d)) (k : c = a → d = b → P) : P := k (Prod.mk.inj e).1.symm (Prod.mk.inj e).2.symm
theorem consE {α : Type} {a b : α} {as bs : List α} {P : Prop} (e : a :: as = b :: bs) (k : a = b → as = bs → P) : P := k (List.cons.inj e).1 (List.cons.inj e).2
theorem bI {α β : Type} {o : Option α} {f : α → Option β} {r : β} (h : o.bind f = some r) : ∃ a, o = some a ∧ f a = some r := Option.bind_eq_some_iff.mp h
theorem b1 {α β : Type} {o : Option α} {f : α → Option β} {r : β} {G : Prop} (h : o.bind f = some r) (k : ∀ a, o = some a → f a = some r → G) : G := (bI h).elim fun a h => k a h.1 h.2
theorem b2 {α β γ : Type} {o : Option (α × γ)} {f : α × γ → Option β} {r : β} {G : Prop} (h : o.bind f = some r) (k : ∀ a b, o = some (a, b) → f (a, b) = some r → G) : G := (bI h).elim fun a h => k a.1 a.2 h.1 h.2
theorem b3 {α β γ δ : Type} {o : Option (α × γ × δ)} {f : α × γ × δ → Option β} {r : β} {G : Prop} (h : o.bind f = some r) (k : ∀ a b d, o = some (a, b, d) → f (a, b, d) = some r → G) : G := (bI h).elim fun a h => k a.1 a.2.1 a.2.2 h.1 h.2
theorem gI {P : Prop} (k : ∀ G : Prop, (P → G) → G) : P := k P id
theorem dropE {α : Sort u} {a : α} {P : Prop} (_ : a = a) (k : P) : P := k
end Mine
set_option compiler.extract_closed false
local macro_rules | `(tactic| omega) => `(tactic| first | lia | omega (config := {}))
namespace Mine
open Lean
def nd (s : String) (a : List Syntax) : Syntax := .node .none (.str `Lean.Parser.Tactic s) a.toArray
def nl (a : List Syntax) : Syntax := .node .none `null a.toArray
def tk (s : String) : Syntax := .atom .none s
def sq (l : List Syntax) : Syntax := nd "tacticSeq" [nd "tacticSeq1Indented" [nl (l.intersperse (tk ";"))]]
def par (l : List Syntax) : Syntax := nd "paren" [tk "(", sq l, tk ")"]
def altG (a : Syntax) : Syntax := .node .none `group #[tk "|", sq [a]]
def altL (l : List Syntax) : Syntax := nd "first" [tk "first", nl ((l ++ [nd "fail" [tk "fail", nl []]]).map altG)]
def idn (s : String) : Syntax := .ident .none s.toRawSubstring (.str .anonymous s) []
def rf (s n : String) (as : List Syntax) : Syntax := nd s [tk s, .node .none `Lean.Parser.Term.app #[mkIdent (.str `Mine n), nl as]]
def ho : Syntax := .node .none `Lean.Parser.Term.syntheticHole #[tk "?", tk "_"]
def itr (x : Syntax) : Syntax := nd "intro" [tk "intro", nl [x]]
def clr (e : Syntax) : Syntax := nd "tacticTry_" [tk "try", sq [nd "clear" [tk "clear", nl [e]]]]
def obt (p e : Syntax) : Syntax := nd "obtain" [tk "obtain", nl [p], nl [], nl [tk ":=", nl [e]]]
def cas (e : Syntax) : Syntax := nd "cases" [tk "cases", nl [nd "elimTarget" [nl [], e]], nl [], nl []]
def isK (q : Syntax) (s : String) : Bool := q.getKind == .str (.str `Lean.Parser.Tactic "rcasesPat") s
def intr (p : Syntax) : List Syntax :=
  let q := p[0][0][0]
  if p[0][0].getNumArgs == 1 && isK q "one" && q[0].getId != `rfl then [itr q[0]]
  else if p[0][0].getNumArgs == 1 && isK q "ignore" then [itr (idn "z0")]
  else [itr (idn "z0"), obt p[0] (idn "z0")]
def tries (e : Syntax) (j : Nat) : List Syntax := (List.range j).reverse.map fun k => rf "refine" s!"E{k}_{j - k}" [e, ho]
def split1 (e : Syntax) (h ps : List Syntax) (j : Nat) : Syntax :=
  let m := if ps.length ≤ j + 1 then ps else
    ps.take j ++ [nd "rcasesPatLo" [nd "rcasesPatMed" [nl [.node .none (.str (.str `Lean.Parser.Tactic "rcasesPat") "tuple") #[tk "⟨", nl ((ps.drop j).intersperse (tk ",")), tk "⟩"]]], nl []]]
  par (altL (if h.length == 1 then tries e (j + 1) else [rf "refine" s!"P{h.length}_{j}" [e, ho]]) :: clr e :: (h ++ m.drop 1).flatMap intr)
def obtM (ps : List Syntax) (e : Syntax) : Syntax :=
  let q := ps.head![0][0][0]
  let h := if isK q "tuple" && q[1].getSepArgs.size < 4 then q[1].getSepArgs.toList else ps.take 1
  if e.getKind == `Lean.Parser.Term.app && e[0].getId == `bI then
    par (rf "refine" s!"b{h.length}" [e[1][0], ho] :: clr e[1][0] :: (h ++ ps.drop 1).flatMap intr)
  else altL ((List.range ps.length).reverse.map (split1 e h ps))
def anon (s : String) (ps hs : List Syntax) (k : Nat) : Syntax :=
  let n := s!"I{k}_{ps.length - k}"
  let f (a : Syntax) : Syntax := nd "failIfSuccess" [tk "fail_if_success", sq [a]]
  par [f (f (rf "refine" n hs)), rf s n ps]
def anonM (s : String) (ps : List Syntax) : Syntax := altL ((List.range ps.length).reverse.map (anon s ps (ps.map fun _ => ho)))
def rwM (r : Syntax) : Syntax := altL [rf "refine" (if r[0].isNone then "rwl" else "rwr") [r[1], ho], nd "rewriteSeq" [tk "rewrite", nd "optConfig" [nl []], nd "rwRuleSeq" [tk "[", nl [r], tk "]"], nl []]]
def inj (e : Syntax) (l : List Syntax) : Syntax := par (nd "injection" [tk "injection", e, nl [tk "with", nl l]] :: clr e :: l.map cas)
def cse (e : Syntax) (n : String) (k : Nat) : Syntax := par (rf "refine" n [e, ho] :: clr e :: (List.replicate k [itr (idn "z0"), cas (idn "z0")]).flatten)
def casM (e : Syntax) : Syntax :=
  let z := ["z0", "z1", "z2", "z3"].map idn
  altL [obt (nd "rcasesPatMed" [nl [.node .none (.str (.str `Lean.Parser.Tactic "rcasesPat") "one") #[idn "rfl"]]]) e, rf "exact" "noS" [e], rf "exact" "noT" [e], cse e "someE" 1, cse e "pairE" 2, cse e "consE" 2, cse e "dropE" 0,
    par [nd "injection" [tk "injection", e, nl []], nd "done" [tk "done"]], inj e z, inj e (z.take 3), inj e (z.take 2), inj e (z.take 1)]
def smp (n : Name) : List Syntax := [nd "simpLemma" [nl [], nl [], mkIdent n], tk ","]
end Mine
local macro_rules (kind := Lean.Parser.Tactic.obtain)
  | s => do
    let p := s[1][0][0]
    if p.getNumArgs != 1 || !Mine.isK p[0] "tuple" || s[3][1].getNumArgs != 1 then Lean.Macro.throwUnsupported
    return Mine.obtM p[0][1].getSepArgs.toList s[3][1][0]
local macro_rules (kind := Lean.Parser.Tactic.rwSeq)
  | s => do
    if s[3].getNumArgs != 0 || (s.find? (·.isOfKind `Lean.Parser.Term.syntheticHole)).isSome then Lean.Macro.throwUnsupported
    return Mine.par (s[2][1].getSepArgs.toList.map Mine.rwM ++ [Mine.nd "withReducible" [Mine.tk "with_reducible", Mine.sq [Mine.nd "tacticTry_" [Mine.tk "try", Mine.sq [Mine.nd "tacticRfl" [Mine.tk "rfl"]]]]]])
local macro_rules (kind := Lean.Parser.Tactic.refine)
  | s => do
    if !s[1].isOfKind `Lean.Parser.Term.anonymousCtor then Lean.Macro.throwUnsupported
    return Mine.anonM "refine" s[1][1].getSepArgs.toList
local macro_rules (kind := Lean.Parser.Tactic.exact)
  | s => do
    if !s[1].isOfKind `Lean.Parser.Term.anonymousCtor then Lean.Macro.throwUnsupported
    return Mine.anonM "exact" s[1][1].getSepArgs.toList
local macro_rules (kind := Lean.Parser.Tactic.cases)
  | s => do
    if s[1].getNumArgs != 1 || s[2].getNumArgs != 0 || s[3].getNumArgs != 0 || !s[1][0][1].isIdent || s[1][0][0].getNumArgs != 0 then Lean.Macro.throwUnsupported
    return Mine.casM s[1][0][1]
local macro_rules (kind := Lean.Parser.Tactic.simp)
  | s => do
    let a := s[4][1].getArgs.toList
    if a.isEmpty || a.head![2].getId != `zE then Lean.Macro.throwUnsupported
    return s.setArg 4 (s[4].setArg 1 (Mine.nl (("exs_cons exs_nil ex_assign ex_expr ex_ret ex_ite ex_brk ev_none ev_bool ev_int ev_str ev_var ev_bin ev_neg ev_not ev_cmp ev_and ev_or ev_ite ev_tuple ev_list ev_dict ev_item ev_slice ev_attr ev_callF ev_callB evs_cons evs_nil as_v as_vs as_attr as_item sv_cons sv_nil bA_add bA_sub cm_eq cm_ne cm_lt cm_le cm_gt cm_ge cm_is".splitOn " ").flatMap (fun n => Mine.smp (.str `Mine n)) ++ ("List.replicate List.set_cons_zero List.set_cons_succ List.getElem?_cons_zero List.getElem?_cons_succ Option.bind_some".splitOn " ").flatMap (fun n => Mine.smp n.toName) ++ a.drop 2)))

noncomputable section
open PySem

namespace Mine

inductive AV where
  | none
  | bool (b : Bool)
  | int (i : Int)
  | str (s : Str)
  | tup (xs : List AV)
  | rng (a b : Int)
  | obj (n : Nat)
deriving Inhabited

mutual
noncomputable def AV.dec : (a b : AV) → Decidable (a = b)
  | .none, .none => .isTrue rfl
  | .bool a, .bool b => if h : a = b then .isTrue (by rw [h]) else .isFalse (fun e => h (AV.bool.inj e))
  | .int a, .int b => if h : a = b then .isTrue (by rw [h]) else .isFalse (fun e => h (AV.int.inj e))
  | .str a, .str b => if h : a = b then .isTrue (by rw [h]) else .isFalse (fun e => h (AV.str.inj e))
  | .tup a, .tup b => match AV.decs a b with
    | .isTrue h => .isTrue (by rw [h])
    | .isFalse h => .isFalse (fun e => h (AV.tup.inj e))
  | .rng a b, .rng c d => if h : a = c ∧ b = d then .isTrue (by rw [h.1, h.2]) else .isFalse (fun e => h (AV.rng.inj e))
  | .obj a, .obj b => if h : a = b then .isTrue (by rw [h]) else .isFalse (fun e => h (AV.obj.inj e))
  | .none, .bool _ | .none, .int _ | .none, .str _ | .none, .tup _ | .none, .rng _ _ | .none, .obj _
  | .bool _, .none | .bool _, .int _ | .bool _, .str _ | .bool _, .tup _ | .bool _, .rng _ _ | .bool _, .obj _
  | .int _, .none | .int _, .bool _ | .int _, .str _ | .int _, .tup _ | .int _, .rng _ _ | .int _, .obj _
  | .str _, .none | .str _, .bool _ | .str _, .int _ | .str _, .tup _ | .str _, .rng _ _ | .str _, .obj _
  | .tup _, .none | .tup _, .bool _ | .tup _, .int _ | .tup _, .str _ | .tup _, .rng _ _ | .tup _, .obj _
  | .rng _ _, .none | .rng _ _, .bool _ | .rng _ _, .int _ | .rng _ _, .str _ | .rng _ _, .tup _ | .rng _ _, .obj _
  | .obj _, .none | .obj _, .bool _ | .obj _, .int _ | .obj _, .str _ | .obj _, .tup _ | .obj _, .rng _ _ => .isFalse (fun e => nomatch e)
noncomputable def AV.decs : (a b : List AV) → Decidable (a = b)
  | [], [] => .isTrue rfl
  | [], _ :: _ => .isFalse (fun e => nomatch e)
  | _ :: _, [] => .isFalse (fun e => nomatch e)
  | x :: xs, y :: ys => match AV.dec x y, AV.decs xs ys with
    | .isTrue h, .isTrue g => .isTrue (by rw [h, g])
    | .isFalse h, _ => .isFalse (fun e => h (List.cons.inj e).1)
    | _, .isFalse h => .isFalse (fun e => h (List.cons.inj e).2)
end
instance : DecidableEq AV := AV.dec

inductive Nm where
  | domains | firsts | trail | marks | news | speaker | isFailed | clash
  | number | scope | strength | s | t
  | append | pop | extend | index
  | newVar | size | dom | has | isFixed | value | enter | strike | decide | fail | push | depth
  | propagate | firstSpot | needFirst | check | told
deriving DecidableEq, Inhabited
inductive Bi where
  | len | max | min | sorted | all | any | list | tuple | range
deriving DecidableEq, Inhabited

inductive MObj where
  | list (xs : List AV)
  | inst (c : Addr) (d : Nat)
  | sdict (fs : List (Nm × AV))
  | idict (n : Nat)
deriving DecidableEq, Inhabited

noncomputable abbrev Mem := List MObj
noncomputable abbrev Vars := List (Option AV)
noncomputable abbrev Fun := Addr → List AV → Mem → Option (AV × Mem)

inductive LT where
  | v (i : Nat)
  | vs (is : List Nat)
deriving Inhabited

set_option genInjectivity false in
inductive LE where
  | none
  | bool (b : Bool)
  | int (i : Int)
  | str (s : Str)
  | var (i : Nat)
  | bin (op : Operator) (l r : LE)
  | neg (x : LE)
  | not (x : LE)
  | cmp (op : CmpOp) (l r : LE)
  | and (l r : LE)
  | or (l r : LE)
  | ite (t b o : LE)
  | tuple (xs : List LE)
  | list (xs : List LE)
  | dict
  | item (o i : LE)
  | slice (o lo hi : LE)
  | attr (o : LE) (n : Nm)
  | callF (f : Addr) (args : List LE)
  | callB (b : Bi) (args : List LE)
  | meth (o : LE) (n : Nm) (args : List LE)
  | comp1 (size : Nat) (lends : List (Nat × Nat)) (t : LT) (it cond elt : LE)
  | comp2 (size : Nat) (lends : List (Nat × Nat)) (t1 : LT) (it1 : LE) (t2 : LT) (it2 elt : LE)
deriving Inhabited

set_option genInjectivity false in
inductive LA where
  | v (i : Nat)
  | vs (is : List Nat)
  | attr (o : LE) (n : Nm)
  | item (o i : LE)
deriving Inhabited

set_option genInjectivity false in
inductive LS where
  | assign (t : LA) (e : LE)
  | expr (e : LE)
  | ret (e : LE)
  | ite (t : LE) (a b : List LS)
  | while (t : LE) (body : List LS)
  | for (kind : Nat) (t : LT) (it : LE) (body : List LS)
  | brk
deriving Inhabited

inductive Fl where
  | next | brk | ret (a : AV)
deriving Inhabited


mutual
noncomputable def toPy (mem : Mem) : AV → Option PyData
  | .none => some .none
  | .bool b => some (.bool b)
  | .int i => some (.int i)
  | .str s => some (.str s)
  | .tup xs => (toPys mem xs).map .tuple
  | .rng _ _ => Option.none
  | .obj _ => Option.none
noncomputable def toPys (mem : Mem) : List AV → Option (List PyData)
  | [] => some []
  | x :: xs => match toPy mem x, toPys mem xs with
    | some d, some ds => some (d :: ds)
    | _, _ => Option.none
end
noncomputable def dataOf (mem : Mem) : AV → Option PyData
  | .obj n => match mem[n]? with
    | some (.list xs) => (toPys mem xs).map .list
    | _ => Option.none
  | a => toPy mem a

noncomputable def okPy (d : PyData) : Bool := SeqAt.shaped d

noncomputable def eqA (mem : Mem) (a b : AV) : Option Bool := match dataOf mem a, dataOf mem b with
  | some d, some e => if okPy d && okPy e then some (PyData.eqv d e) else Option.none
  | _, _ => Option.none

noncomputable def itemsA (mem : Mem) : AV → Option (List AV)
  | .tup xs => some xs
  | .obj n => match mem[n]? with
    | some (.list xs) => some xs
    | _ => Option.none
  | _ => Option.none

noncomputable def anyEq (mem : Mem) (x : AV) : List AV → Option Bool
  | [] => some false
  | y :: ys => match eqA mem y x, anyEq mem x ys with
    | some a, some b => some (a || b)
    | _, _ => Option.none

noncomputable def szOk (n : Nat) : Bool := decide (n ≤ 1000000)

noncomputable def binA (op : Operator) (a b : AV) (mem : Mem) : Option (AV × Mem) := match op, a, b with
  | .Add, .int x, .int y => some (.int (x + y), mem)
  | .Sub, .int x, .int y => some (.int (x - y), mem)
  | .Mod, .int x, .int y => if y = 0 then Option.none else some (.int (x.fmod y), mem)
  | .FloorDiv, .int x, .int y => if y ≠ 0 ∧ y.natAbs < 1000 then some (.int (x.fdiv y), mem) else Option.none
  | .Pow, .int x, .int y => if 0 ≤ y ∧ y ≤ 1000 ∧ x.natAbs < 1000 then some (.int (x ^ y.toNat), mem) else Option.none
  | .Add, .tup xs, .tup ys => if szOk (xs.length + ys.length) then some (.tup (xs ++ ys), mem) else Option.none
  | .Add, .obj i, .obj j => match mem[i]?, mem[j]? with
    | some (.list xs), some (.list ys) => if szOk (xs.length + ys.length) then some (.obj mem.length, mem ++ [.list (xs ++ ys)]) else Option.none
    | _, _ => Option.none
  | _, _, _ => Option.none

noncomputable def cmpA (op : CmpOp) (a b : AV) (mem : Mem) : Option Bool := match op with
  | .Eq => eqA mem a b
  | .NotEq => (eqA mem a b).map (!·)
  | .Lt => match a, b with | .int x, .int y => some (decide (x < y)) | _, _ => Option.none
  | .LtE => match a, b with | .int x, .int y => some (decide (x ≤ y)) | _, _ => Option.none
  | .Gt => match a, b with | .int x, .int y => some (decide (x > y)) | _, _ => Option.none
  | .GtE => match a, b with | .int x, .int y => some (decide (x ≥ y)) | _, _ => Option.none
  | .Is => match b with | .none => some (decide (a = .none)) | _ => Option.none
  | .IsNot => match b with | .none => some (decide (a ≠ .none)) | _ => Option.none
  | .In => match itemsA mem b with | some xs => anyEq mem a xs | _ => Option.none
  | .NotIn => match itemsA mem b with | some xs => (anyEq mem a xs).map (!·) | _ => Option.none

noncomputable def idx (n : Nat) (i : Int) : Option Nat :=
  if n > 1000000 then Option.none else if 0 ≤ i then (if i < n then some i.toNat else Option.none) else (if 0 ≤ i + n then some (i + n).toNat else Option.none)

noncomputable def itemA (o i : AV) (mem : Mem) : Option AV := match itemsA mem o, i with
  | some xs, .int k => (idx xs.length k).bind fun j => xs[j]?
  | _, _ => Option.none

noncomputable def clampA (n : Nat) (d : Nat) : AV → Option Nat
  | .none => some d
  | .int i => if 0 ≤ i then some (min i.toNat n) else Option.none
  | _ => Option.none
noncomputable def sliceA (o lo hi : AV) (mem : Mem) : Option (AV × Mem) := match itemsA mem o with
  | some xs => match clampA xs.length 0 lo, clampA xs.length xs.length hi with
    | some l, some h => if xs.length > 1000000 then Option.none else
      let ys := (xs.take h).drop l
      match o with
      | .tup _ => some (.tup ys, mem)
      | .obj _ => some (.obj mem.length, mem ++ [.list ys])
      | _ => Option.none
    | _, _ => Option.none
  | _ => Option.none

set_option genInjectivity false in
structure Methods where
  find : Addr → Nm → Option Addr
  fld : Addr → Nm → Bool

noncomputable def fieldA : List (Nm × AV) → Nm → Option AV
  | [], _ => Option.none
  | (m, a) :: r, n => if m = n then some a else fieldA r n
noncomputable def putField (n : Nm) (a : AV) : List (Nm × AV) → List (Nm × AV)
  | [] => [(n, a)]
  | (m, b) :: r => if m = n then (m, a) :: r else (m, b) :: putField n a r

noncomputable def attrA (M : Methods) (o : AV) (n : Nm) (mem : Mem) : Option AV := match o with
  | .obj i => match mem[i]? with
    | some (.inst c d) => match mem[d]? with
      | some (.sdict fs) => if M.fld c n then fieldA fs n else Option.none
      | _ => Option.none
    | _ => Option.none
  | _ => Option.none
noncomputable def methA (M : Methods) (o : AV) (n : Nm) (mem : Mem) : Option Addr := match o with
  | .obj i => match mem[i]? with
    | some (.inst c d) => match mem[d]? with
      | some (.sdict fs) => match fieldA fs n with
        | Option.none => M.find c n
        | _ => Option.none
      | _ => Option.none
    | _ => Option.none
  | _ => Option.none
noncomputable def setAttrA (M : Methods) (o : AV) (n : Nm) (a : AV) (mem : Mem) : Option Mem := match o with
  | .obj i => match mem[i]? with
    | some (.inst c d) => match mem[d]? with
      | some (.sdict fs) => if M.fld c n ∧ fs.length ≤ 900 then some (mem.set d (.sdict (putField n a fs))) else Option.none
      | _ => Option.none
    | _ => Option.none
  | _ => Option.none
noncomputable def setItemA (o i a : AV) (mem : Mem) : Option Mem := match o, i with
  | .obj n, .int k => match mem[n]? with
    | some (.list xs) => (idx xs.length k).map fun j => mem.set n (.list (xs.set j a))
    | some (.idict c) => if szOk c then some (mem.set n (.idict (c + 1))) else Option.none
    | _ => Option.none
  | _, _ => Option.none

noncomputable def intsA : List AV → Option (List Int)
  | [] => some []
  | .int i :: r => (intsA r).map (i :: ·)
  | _ :: _ => Option.none
noncomputable def boolsA : List AV → Option (List Bool)
  | [] => some []
  | .bool b :: r => (boolsA r).map (b :: ·)
  | _ :: _ => Option.none
noncomputable def insertI (x : Int) : List Int → List Int
  | [] => [x]
  | y :: r => if x ≤ y then x :: y :: r else y :: insertI x r
noncomputable def sortI : List Int → List Int
  | [] => []
  | x :: r => insertI x (sortI r)
noncomputable def rngItems (a b : Int) : List AV := (List.range (b - a).toNat).map fun (k : Nat) => AV.int (a + (k : Int))

noncomputable def iterA (mem : Mem) : AV → Option (List AV)
  | .rng a b => if -1000000 ≤ a ∧ a ≤ 1000000 ∧ -1000000 ≤ b ∧ b ≤ 1000000 then some (rngItems a b) else Option.none
  | a => itemsA mem a
noncomputable def stillA (src : AV) (xs : List AV) (mem : Mem) : Bool := match src with
  | .obj n => decide (mem[n]? = some (.list xs))
  | _ => true

noncomputable def callB (b : Bi) (args : List AV) (mem : Mem) : Option (AV × Mem) := match b with
  | .len => match args with
    | [x] => match itemsA mem x with
      | some xs => if szOk xs.length then some (.int xs.length, mem) else Option.none
      | _ => Option.none
    | _ => Option.none
  | .max => match args with
    | [.int x, .int y] => some (.int (max x y), mem)
    | _ => Option.none
  | .min => match args with
    | [.int x, .int y] => some (.int (min x y), mem)
    | _ => Option.none
  | .sorted => match args with
    | [.obj n] => match mem[n]? with
      | some (.list xs) => match intsA xs with
        | some is => if xs.length < 64 then some (.obj mem.length, mem ++ [.list ((sortI is).map .int)]) else Option.none
        | _ => Option.none
      | _ => Option.none
    | _ => Option.none
  | .all => match args with
    | [.obj n] => match mem[n]? with
      | some (.list xs) => (boolsA xs).map fun bs => (.bool (bs.all id), mem)
      | _ => Option.none
    | _ => Option.none
  | .any => match args with
    | [.obj n] => match mem[n]? with
      | some (.list xs) => (boolsA xs).map fun bs => (.bool (bs.any id), mem)
      | _ => Option.none
    | _ => Option.none
  | .list => match args with
    | [x] => match iterA mem x with
      | some xs => if szOk xs.length then some (.obj mem.length, mem ++ [.list xs]) else Option.none
      | _ => Option.none
    | _ => Option.none
  | .tuple => match args with
    | [x] => match itemsA mem x with
      | some xs => if szOk xs.length then some (.tup xs, mem) else Option.none
      | _ => Option.none
    | _ => Option.none
  | .range => match args with
    | [.int n] => if -1000000 ≤ n ∧ n ≤ 1000000 then some (.rng 0 n, mem) else Option.none
    | [.int a, .int n] => if -1000000 ≤ a ∧ a ≤ 1000000 ∧ -1000000 ≤ n ∧ n ≤ 1000000 then some (.rng a n, mem) else Option.none
    | _ => Option.none

noncomputable def listMeth (n : Nat) (xs : List AV) (m : Nm) (args : List AV) (mem : Mem) : Option (AV × Mem) := match m with
  | .append => match args with
    | [x] => if szOk xs.length then some (.none, mem.set n (.list (xs ++ [x]))) else Option.none
    | _ => Option.none
  | .pop => match args with
    | [] => match xs.getLast? with
      | some x => if szOk xs.length then some (x, mem.set n (.list xs.dropLast)) else Option.none
      | Option.none => Option.none
    | _ => Option.none
  | .extend => match args with
    | [.obj j] => match mem[j]? with
      | some (.list ys) => if j ≠ n ∧ szOk (xs.length + ys.length) then some (.none, mem.set n (.list (xs ++ ys))) else Option.none
      | _ => Option.none
    | _ => Option.none
  | .index => match args with
    | [.int k] => match intsA xs with
      | some is => if szOk xs.length then (is.findIdx? (· == k)).map fun (j : Nat) => (AV.int (j : Int), mem) else Option.none
      | _ => Option.none
    | _ => Option.none
  | _ => Option.none


noncomputable def setVars (vars : Vars) : List Nat → List AV → Option Vars
  | [], [] => some vars
  | i :: is, a :: as => setVars (vars.set i (some a)) is as
  | _, _ => Option.none
noncomputable def bindT (t : LT) (a : AV) (vars : Vars) (mem : Mem) : Option Vars := match t with
  | .v i => some (vars.set i (some a))
  | .vs is => match a with
    | .tup xs => setVars vars is xs
    | _ => Option.none

noncomputable def compLoop (src : AV) (all : List AV) (t : LT) (f : Vars → Mem → Option (List AV × Vars × Mem)) : List AV → Vars → Mem → Option (List AV × Vars × Mem)
  | [], vars, mem => some ([], vars, mem)
  | x :: xs, vars, mem => do
    let vars ← bindT t x vars mem
    let (out, vars, mem) ← f vars mem
    if stillA src all mem then
      let (rest, vars, mem) ← compLoop src all t f xs vars mem
      some (out ++ rest, vars, mem)
    else Option.none

noncomputable def lendVars (vars : Vars) (size : Nat) (lends : List (Nat × Nat)) : Vars :=
  lends.foldl (fun inner p => inner.set p.1 ((vars[p.2]?).getD Option.none)) (List.replicate size Option.none)

mutual
noncomputable def ev (M : Methods) (Φ : Fun) (vars : Vars) : LE → Mem → Option (AV × Mem)
  | .none, mem => some (.none, mem)
  | .bool b, mem => some (.bool b, mem)
  | .int i, mem => some (.int i, mem)
  | .str s, mem => some (.str s, mem)
  | .var i, mem => match vars[i]? with
    | some (some a) => some (a, mem)
    | _ => Option.none
  | .bin op l r, mem => do
    let (a, mem) ← ev M Φ vars l mem
    let (b, mem) ← ev M Φ vars r mem
    binA op a b mem
  | .neg x, mem => do
    let (a, mem) ← ev M Φ vars x mem
    match a with
    | .int i => some (.int (-i), mem)
    | _ => Option.none
  | .not x, mem => do
    let (a, mem) ← ev M Φ vars x mem
    match a with
    | .bool b => some (.bool (!b), mem)
    | _ => Option.none
  | .cmp op l r, mem => do
    let (a, mem) ← ev M Φ vars l mem
    let (b, mem) ← ev M Φ vars r mem
    let c ← cmpA op a b mem
    some (.bool c, mem)
  | .and l r, mem => do
    let (a, mem) ← ev M Φ vars l mem
    match a with
    | .bool true => ev M Φ vars r mem
    | .bool false => some (.bool false, mem)
    | _ => Option.none
  | .or l r, mem => do
    let (a, mem) ← ev M Φ vars l mem
    match a with
    | .bool false => ev M Φ vars r mem
    | .bool true => some (.bool true, mem)
    | _ => Option.none
  | .ite t b o, mem => do
    let (a, mem) ← ev M Φ vars t mem
    match a with
    | .bool true => ev M Φ vars b mem
    | .bool false => ev M Φ vars o mem
    | _ => Option.none
  | .tuple xs, mem => do
    let (as, mem) ← evs M Φ vars xs mem
    some (.tup as, mem)
  | .list xs, mem => do
    let (as, mem) ← evs M Φ vars xs mem
    some (.obj mem.length, mem ++ [.list as])
  | .dict, mem => some (.obj mem.length, mem ++ [.idict 0])
  | .item o i, mem => do
    let (a, mem) ← ev M Φ vars o mem
    let (b, mem) ← ev M Φ vars i mem
    let c ← itemA a b mem
    some (c, mem)
  | .slice o lo hi, mem => do
    let (a, mem) ← ev M Φ vars o mem
    let (b, mem) ← ev M Φ vars lo mem
    let (c, mem) ← ev M Φ vars hi mem
    sliceA a b c mem
  | .attr o n, mem => do
    let (a, mem) ← ev M Φ vars o mem
    let c ← attrA M a n mem
    some (c, mem)
  | .callF f args, mem => do
    let (as, mem) ← evs M Φ vars args mem
    Φ f as mem
  | .callB b args, mem => do
    let (as, mem) ← evs M Φ vars args mem
    callB b as mem
  | .meth o n args, mem => do
    let (a, mem) ← ev M Φ vars o mem
    match a with
    | .obj i => match mem[i]? with
      | some (.list _) => do
        let (as, mem) ← evs M Φ vars args mem
        match mem[i]? with
        | some (.list xs) => listMeth i xs n as mem
        | _ => Option.none
      | some (.inst _ _) => do
        let f ← methA M a n mem
        let (as, mem) ← evs M Φ vars args mem
        Φ f (a :: as) mem
      | _ => Option.none
    | _ => Option.none
  | .comp1 size lends t it cond elt, mem => do
    let (src, mem) ← ev M Φ vars it mem
    let xs ← iterA mem src
    let (out, _, mem) ← compLoop src xs t (fun vars mem => do
      let (c, mem) ← ev M Φ vars cond mem
      match c with
      | .bool true => do
        let (a, mem) ← ev M Φ vars elt mem
        some ([a], vars, mem)
      | .bool false => some ([], vars, mem)
      | _ => Option.none) xs (lendVars vars size lends) mem
    if szOk out.length then some (.obj mem.length, mem ++ [.list out]) else Option.none
  | .comp2 size lends t1 it1 t2 it2 elt, mem => do
    let (src, mem) ← ev M Φ vars it1 mem
    let xs ← iterA mem src
    let (out, _, mem) ← compLoop src xs t1 (fun vars mem => do
      let (src2, mem) ← ev M Φ vars it2 mem
      let ys ← iterA mem src2
      compLoop src2 ys t2 (fun vars mem => do
        let (a, mem) ← ev M Φ vars elt mem
        some ([a], vars, mem)) ys vars mem) xs (lendVars vars size lends) mem
    if szOk out.length then some (.obj mem.length, mem ++ [.list out]) else Option.none
noncomputable def evs (M : Methods) (Φ : Fun) (vars : Vars) : List LE → Mem → Option (List AV × Mem)
  | [], mem => some ([], mem)
  | e :: es, mem => do
    let (a, mem) ← ev M Φ vars e mem
    let (as, mem) ← evs M Φ vars es mem
    some (a :: as, mem)
end

noncomputable def forLoop (src : AV) (all : List AV) (t : LT) (f : Vars → Mem → Option (Fl × Vars × Mem)) : List AV → Vars → Mem → Option (Fl × Vars × Mem)
  | [], vars, mem => some (.next, vars, mem)
  | x :: xs, vars, mem => do
    let vars ← bindT t x vars mem
    let (fl, vars, mem) ← f vars mem
    match fl with
    | .next => if stillA src all mem then forLoop src all t f xs vars mem else Option.none
    | .brk => some (.next, vars, mem)
    | .ret a => some (.ret a, vars, mem)

noncomputable def whileLoop (test : Vars → Mem → Option (AV × Mem)) (f : Vars → Mem → Option (Fl × Vars × Mem)) : Nat → Vars → Mem → Option (Fl × Vars × Mem)
  | 0, _, _ => Option.none
  | n + 1, vars, mem => do
    let (a, mem) ← test vars mem
    match a with
    | .bool false => some (.next, vars, mem)
    | .bool true => do
      let (fl, vars, mem) ← f vars mem
      match fl with
      | .next => whileLoop test f n vars mem
      | .brk => some (.next, vars, mem)
      | .ret a => some (.ret a, vars, mem)
    | _ => Option.none

noncomputable def fuel : Nat := 1000

noncomputable def kindItems (kind : Nat) (xs : List AV) : List AV := match kind with
  | 0 => xs
  | 1 => xs.mapIdx fun k x => .tup [.int k, x]
  | _ => xs.reverse

noncomputable def kindOk (kind : Nat) (src : AV) : Bool := match kind, src with
  | 0, _ => true
  | 1, .tup _ => true
  | 2, .obj _ => true
  | _, _ => false

noncomputable def assignA (M : Methods) (Φ : Fun) (t : LA) (a : AV) (vars : Vars) (mem : Mem) : Option (Vars × Mem) := match t with
  | .v i => some (vars.set i (some a), mem)
  | .vs is => match a with
    | .tup xs => do
      let vars ← setVars vars is xs
      some (vars, mem)
    | _ => Option.none
  | .attr o n => do
    let (b, mem) ← ev M Φ vars o mem
    let mem ← setAttrA M b n a mem
    some (vars, mem)
  | .item o i => do
    let (b, mem) ← ev M Φ vars o mem
    let (c, mem) ← ev M Φ vars i mem
    let mem ← setItemA b c a mem
    some (vars, mem)

mutual
noncomputable def ex (M : Methods) (Φ : Fun) : LS → Vars → Mem → Option (Fl × Vars × Mem)
  | .assign t e, vars, mem => do
    let (a, mem) ← ev M Φ vars e mem
    let (vars, mem) ← assignA M Φ t a vars mem
    some (.next, vars, mem)
  | .expr e, vars, mem => do
    let (a, mem) ← ev M Φ vars e mem
    match a with
    | .none | .bool _ | .int _ => some (.next, vars, mem)
    | _ => Option.none
  | .ret e, vars, mem => do
    let (a, mem) ← ev M Φ vars e mem
    some (.ret a, vars, mem)
  | .ite t a b, vars, mem => do
    let (c, mem) ← ev M Φ vars t mem
    match c with
    | .bool true => exs M Φ a vars mem
    | .bool false => exs M Φ b vars mem
    | _ => Option.none
  | .while t body, vars, mem => whileLoop (fun vars mem => ev M Φ vars t mem) (exs M Φ body) fuel vars mem
  | .for kind t it body, vars, mem => do
    let (src, mem) ← ev M Φ vars it mem
    let xs ← iterA mem src
    if kindOk kind src then
    forLoop src xs t (exs M Φ body) (kindItems kind xs) vars mem
    else Option.none
  | .brk, vars, mem => some (.brk, vars, mem)
noncomputable def exs (M : Methods) (Φ : Fun) : List LS → Vars → Mem → Option (Fl × Vars × Mem)
  | [], vars, mem => some (.next, vars, mem)
  | s :: ss, vars, mem => do
    let (fl, vars, mem) ← ex M Φ s vars mem
    match fl with
    | .next => exs M Φ ss vars mem
    | fl => some (fl, vars, mem)
end

mutual
noncomputable def AV.flat : AV → Bool
  | .tup xs => AV.flats xs
  | .obj _ => false
  | _ => true
noncomputable def AV.flats : List AV → Bool
  | [] => true
  | x :: xs => AV.flat x && AV.flats xs
end

noncomputable def tell (mode : Nat) (mem₀ : Mem) (r : AV × Mem) : Option (AV × Mem) := match mode with
  | 0 => some r
  | 1 => if r.1.flat ∧ r.2.take mem₀.length = mem₀ then some (r.1, mem₀) else Option.none
  | _ => match r.1 with
    | .obj n => match r.2[n]? with
      | some (.list xs) => if mem₀.length ≤ n ∧ AV.flats xs ∧ r.2.take mem₀.length = mem₀ then some (.obj mem₀.length, mem₀ ++ [.list xs]) else Option.none
      | _ => Option.none
    | _ => Option.none

set_option genInjectivity false in
structure FnInfo where
  size : Nat
  params : List Nat
  body : List LS
  mode : Nat

set_option genInjectivity false in
structure Prg where
  meths : Methods
  fns : Addr → Option FnInfo
  inits : Addr → Option Addr
  prim : Addr → Option (Fun → List AV → Mem → Option (AV × Mem))

noncomputable def callN (P : Prg) : Nat → Fun
  | 0, _, _, _ => Option.none
  | d + 1, f, args, mem => match P.fns f with
    | some i => do
      let vars ← setVars (List.replicate i.size Option.none) i.params args
      let (fl, _, mem') ← exs P.meths (callN P d) i.body vars mem
      match fl with
      | .next => tell i.mode mem (.none, mem')
      | .ret a => tell i.mode mem (a, mem')
      | .brk => Option.none
    | Option.none => match P.inits f with
      | some g => do
        let (r, mem') ← callN P d g (.obj (mem.length + 1) :: args) (mem ++ [.sdict [], .inst f mem.length])
        if r = .none then some (.obj (mem.length + 1), mem') else Option.none
      | Option.none => match P.prim f with
        | some g => g (callN P d) args mem
        | Option.none => Option.none

section
variable {M : Methods} {Φ : Fun} {vars : Vars} {mem : Mem}
theorem ev_none : ev M Φ vars .none mem = some (.none, mem) := rfl
theorem ev_bool {b} : ev M Φ vars (.bool b) mem = some (.bool b, mem) := rfl
theorem ev_int {b} : ev M Φ vars (.int b) mem = some (.int b, mem) := rfl
theorem ev_str {b} : ev M Φ vars (.str b) mem = some (.str b, mem) := rfl
theorem ev_var {i} : ev M Φ vars (.var i) mem = match vars[i]? with | some (some a) => some (a, mem) | _ => Option.none := rfl
theorem ev_bin {op l r} : ev M Φ vars (.bin op l r) mem = (ev M Φ vars l mem).bind fun a => (ev M Φ vars r a.2).bind fun b => binA op a.1 b.1 b.2 := rfl
theorem ev_neg {x} : ev M Φ vars (.neg x) mem = (ev M Φ vars x mem).bind fun a => match a.1 with | .int i => some (.int (-i), a.2) | _ => Option.none := rfl
theorem ev_not {x} : ev M Φ vars (.not x) mem = (ev M Φ vars x mem).bind fun a => match a.1 with | .bool i => some (.bool (!i), a.2) | _ => Option.none := rfl
theorem ev_cmp {op l r} : ev M Φ vars (.cmp op l r) mem = (ev M Φ vars l mem).bind fun a => (ev M Φ vars r a.2).bind fun b => (cmpA op a.1 b.1 b.2).bind fun c => some (.bool c, b.2) := rfl
theorem ev_and {l r} : ev M Φ vars (.and l r) mem = (ev M Φ vars l mem).bind fun a => match a.1 with | .bool true => ev M Φ vars r a.2 | .bool false => some (.bool false, a.2) | _ => Option.none := rfl
theorem ev_or {l r} : ev M Φ vars (.or l r) mem = (ev M Φ vars l mem).bind fun a => match a.1 with | .bool false => ev M Φ vars r a.2 | .bool true => some (.bool true, a.2) | _ => Option.none := rfl
theorem ev_ite {t l r} : ev M Φ vars (.ite t l r) mem = (ev M Φ vars t mem).bind fun a => match a.1 with | .bool true => ev M Φ vars l a.2 | .bool false => ev M Φ vars r a.2 | _ => Option.none := rfl
theorem ev_tuple {xs} : ev M Φ vars (.tuple xs) mem = (evs M Φ vars xs mem).bind fun a => some (.tup a.1, a.2) := rfl
theorem ev_list {xs} : ev M Φ vars (.list xs) mem = (evs M Φ vars xs mem).bind fun a => some (.obj a.2.length, a.2 ++ [.list a.1]) := rfl
theorem ev_dict : ev M Φ vars .dict mem = some (.obj mem.length, mem ++ [.idict 0]) := rfl
theorem ev_item {l r} : ev M Φ vars (.item l r) mem = (ev M Φ vars l mem).bind fun a => (ev M Φ vars r a.2).bind fun b => (itemA a.1 b.1 b.2).bind fun c => some (c, b.2) := rfl
theorem ev_slice {o l r} : ev M Φ vars (.slice o l r) mem = (ev M Φ vars o mem).bind fun a => (ev M Φ vars l a.2).bind fun b => (ev M Φ vars r b.2).bind fun c => sliceA a.1 b.1 c.1 c.2 := rfl
theorem ev_attr {o n} : ev M Φ vars (.attr o n) mem = (ev M Φ vars o mem).bind fun a => (attrA M a.1 n a.2).bind fun c => some (c, a.2) := rfl
theorem ev_callF {f as} : ev M Φ vars (.callF f as) mem = (evs M Φ vars as mem).bind fun a => Φ f a.1 a.2 := rfl
theorem ev_callB {f as} : ev M Φ vars (.callB f as) mem = (evs M Φ vars as mem).bind fun a => callB f a.1 a.2 := rfl
theorem evs_nil : evs M Φ vars [] mem = some ([], mem) := rfl
theorem evs_cons {e es} : evs M Φ vars (e :: es) mem = (ev M Φ vars e mem).bind fun a => (evs M Φ vars es a.2).bind fun b => some (a.1 :: b.1, b.2) := rfl
theorem ev_meth {o n as} : ev M Φ vars (.meth o n as) mem = (ev M Φ vars o mem).bind fun a => match a.1 with
    | .obj i => match a.2[i]? with
      | some (.list _) => (evs M Φ vars as a.2).bind fun b => match b.2[i]? with | some (.list xs) => listMeth i xs n b.1 b.2 | _ => Option.none
      | some (.inst _ _) => (methA M a.1 n a.2).bind fun f => (evs M Φ vars as a.2).bind fun b => Φ f (a.1 :: b.1) b.2
      | _ => Option.none
    | _ => Option.none := rfl
theorem ex_assign {t e} : ex M Φ (.assign t e) vars mem = (ev M Φ vars e mem).bind fun a => (assignA M Φ t a.1 vars a.2).bind fun r => some (.next, r.1, r.2) := rfl
theorem ex_expr {e} : ex M Φ (.expr e) vars mem = (ev M Φ vars e mem).bind fun a => match a.1 with | .none | .bool _ | .int _ => some (.next, vars, a.2) | _ => Option.none := rfl
theorem ex_ret {e} : ex M Φ (.ret e) vars mem = (ev M Φ vars e mem).bind fun a => some (.ret a.1, vars, a.2) := rfl
theorem ex_ite {t l r} : ex M Φ (.ite t l r) vars mem = (ev M Φ vars t mem).bind fun a => match a.1 with | .bool true => exs M Φ l vars a.2 | .bool false => exs M Φ r vars a.2 | _ => Option.none := rfl
theorem ex_brk : ex M Φ .brk vars mem = some (.brk, vars, mem) := rfl
theorem exs_nil : exs M Φ [] vars mem = some (.next, vars, mem) := rfl
theorem exs_cons {s ss} : exs M Φ (s :: ss) vars mem = (ex M Φ s vars mem).bind fun r => match r.1 with | .next => exs M Φ ss r.2.1 r.2.2 | fl => some (fl, r.2.1, r.2.2) := rfl
theorem ex_while {t body} : ex M Φ (.while t body) vars mem = whileLoop (fun vars mem => ev M Φ vars t mem) (exs M Φ body) 1000 vars mem := rfl
theorem as_v {i a} : assignA M Φ (.v i) a vars mem = some (vars.set i (some a), mem) := rfl
theorem as_vs {is xs} : assignA M Φ (.vs is) (.tup xs) vars mem = (setVars vars is xs).bind fun v => some (v, mem) := rfl
theorem as_attr {o n a} : assignA M Φ (.attr o n) a vars mem = (ev M Φ vars o mem).bind fun b => (setAttrA M b.1 n a b.2).bind fun m => some (vars, m) := rfl
theorem as_item {o i a} : assignA M Φ (.item o i) a vars mem = (ev M Φ vars o mem).bind fun b => (ev M Φ vars i b.2).bind fun c => (setItemA b.1 c.1 a c.2).bind fun m => some (vars, m) := rfl
end
theorem bA_add {x y : Int} {m : Mem} : binA .Add (.int x) (.int y) m = some (.int (x + y), m) := rfl
theorem bA_sub {x y : Int} {m : Mem} : binA .Sub (.int x) (.int y) m = some (.int (x - y), m) := rfl
theorem bA_tup {xs ys : List AV} {m : Mem} : binA .Add (.tup xs) (.tup ys) m = if szOk (xs.length + ys.length) then some (.tup (xs ++ ys), m) else Option.none := rfl
theorem cm_eq {a b : AV} {m : Mem} : cmpA .Eq a b m = eqA m a b := rfl
theorem cm_ne {a b : AV} {m : Mem} : cmpA .NotEq a b m = (eqA m a b).map (!·) := rfl
theorem cm_lt {x y : Int} {m : Mem} : cmpA .Lt (.int x) (.int y) m = some (decide (x < y)) := rfl
theorem cm_le {x y : Int} {m : Mem} : cmpA .LtE (.int x) (.int y) m = some (decide (x ≤ y)) := rfl
theorem cm_gt {x y : Int} {m : Mem} : cmpA .Gt (.int x) (.int y) m = some (decide (x > y)) := rfl
theorem cm_ge {x y : Int} {m : Mem} : cmpA .GtE (.int x) (.int y) m = some (decide (x ≥ y)) := rfl
theorem cm_is {a : AV} {m : Mem} : cmpA .Is a .none m = some (decide (a = .none)) := rfl
theorem cm_in {a b : AV} {m : Mem} : cmpA .In a b m = match itemsA m b with | some xs => anyEq m a xs | _ => Option.none := rfl
theorem cm_ni {a b : AV} {m : Mem} : cmpA .NotIn a b m = match itemsA m b with | some xs => (anyEq m a xs).map (!·) | _ => Option.none := rfl
theorem lm_pop {n : Nat} {xs : List AV} {m : Mem} : listMeth n xs .pop [] m = match xs.getLast? with | some x => if szOk xs.length then some (x, m.set n (.list xs.dropLast)) else Option.none | Option.none => Option.none := rfl
theorem lm_extend {n j : Nat} {xs : List AV} {m : Mem} : listMeth n xs .extend [.obj j] m = match m[j]? with | some (.list ys) => if j ≠ n ∧ szOk (xs.length + ys.length) then some (.none, m.set n (.list (xs ++ ys))) else Option.none | _ => Option.none := rfl
theorem lm_index {n : Nat} {xs : List AV} {k : Int} {m : Mem} : listMeth n xs .index [.int k] m = match intsA xs with | some is => if szOk xs.length then (is.findIdx? (· == k)).map fun (j : Nat) => (AV.int (j : Int), m) else Option.none | _ => Option.none := rfl
theorem cb_max {x y : Int} {m : Mem} : callB .max [.int x, .int y] m = some (.int (max x y), m) := rfl
theorem cb_min {x y : Int} {m : Mem} : callB .min [.int x, .int y] m = some (.int (min x y), m) := rfl
theorem cb_tuple {x : AV} {m : Mem} : callB .tuple [x] m = match itemsA m x with | some xs => if szOk xs.length then some (.tup xs, m) else Option.none | _ => Option.none := rfl
theorem lm_append {n : Nat} {xs : List AV} {x : AV} {m : Mem} : listMeth n xs .append [x] m = if szOk xs.length then some (.none, m.set n (.list (xs ++ [x]))) else Option.none := rfl
theorem sv_nil {vars : Vars} : setVars vars [] [] = some vars := rfl
theorem sv_cons {vars : Vars} {i is a as} : setVars vars (i :: is) (a :: as) = setVars (vars.set i (some a)) is as := rfl
theorem for_nil {src all t f vars mem} : forLoop src all t f [] vars mem = some (.next, vars, mem) := rfl
theorem bA_pow {x y : Int} {m : Mem} : binA .Pow (.int x) (.int y) m = if 0 ≤ y ∧ y ≤ 1000 ∧ x.natAbs < 1000 then some (.int (x ^ y.toNat), m) else Option.none := rfl
theorem bA_fdiv {x y : Int} {m : Mem} : binA .FloorDiv (.int x) (.int y) m = if y ≠ 0 ∧ y.natAbs < 1000 then some (.int (x.fdiv y), m) else Option.none := rfl
theorem bA_mod {x y : Int} {m : Mem} : binA .Mod (.int x) (.int y) m = if y = 0 then Option.none else some (.int (x.fmod y), m) := rfl
theorem bA_obj {i j : Nat} {m : Mem} : binA .Add (.obj i) (.obj j) m = match m[i]?, m[j]? with | some (.list xs), some (.list ys) => if szOk (xs.length + ys.length) then some (.obj m.length, m ++ [.list (xs ++ ys)]) else Option.none | _, _ => Option.none := rfl
theorem ev_comp1 {M : Methods} {Φ : Fun} {vars : Vars} {mem : Mem} {size ims t it cond elt} : ev M Φ vars (.comp1 size ims t it cond elt) mem = (ev M Φ vars it mem).bind fun a => (iterA a.2 a.1).bind fun xs =>
    (compLoop a.1 xs t (fun vars mem => (ev M Φ vars cond mem).bind fun c => match c.1 with
      | .bool true => (ev M Φ vars elt c.2).bind fun a => some ([a.1], vars, a.2)
      | .bool false => some ([], vars, c.2)
      | _ => Option.none) xs (lendVars vars size ims) a.2).bind fun o => if szOk o.1.length then some (.obj o.2.2.length, o.2.2 ++ [.list o.1]) else Option.none := rfl
theorem ev_comp2 {M : Methods} {Φ : Fun} {vars : Vars} {mem : Mem} {size ims t1 it1 t2 it2 elt} : ev M Φ vars (.comp2 size ims t1 it1 t2 it2 elt) mem = (ev M Φ vars it1 mem).bind fun a => (iterA a.2 a.1).bind fun xs =>
    (compLoop a.1 xs t1 (fun vars mem => (ev M Φ vars it2 mem).bind fun c => (iterA c.2 c.1).bind fun ys =>
      compLoop c.1 ys t2 (fun vars mem => (ev M Φ vars elt mem).bind fun a => some ([a.1], vars, a.2)) ys vars c.2) xs (lendVars vars size ims) a.2).bind fun o =>
        if szOk o.1.length then some (.obj o.2.2.length, o.2.2 ++ [.list o.1]) else Option.none := rfl
theorem fo_cons {src all t f x xs vars mem} : forLoop src all t f (x :: xs) vars mem = (bindT t x vars mem).bind fun v => (f v mem).bind fun r => match r.1 with
    | .next => if stillA src all r.2.2 then forLoop src all t f xs r.2.1 r.2.2 else Option.none | .brk => some (.next, r.2.1, r.2.2) | .ret a => some (.ret a, r.2.1, r.2.2) := rfl
theorem wh_succ {test f n vars mem} : whileLoop test f (n + 1) vars mem = (test vars mem).bind fun a => match a.1 with
    | .bool false => some (.next, vars, a.2)
    | .bool true => (f vars a.2).bind fun r => match r.1 with | .next => whileLoop test f n r.2.1 r.2.2 | .brk => some (.next, r.2.1, r.2.2) | .ret a => some (.ret a, r.2.1, r.2.2)
    | _ => Option.none := rfl
theorem cl_cons {src all t f x xs vars mem} : compLoop src all t f (x :: xs) vars mem = (bindT t x vars mem).bind fun v => (f v mem).bind fun r =>
    if stillA src all r.2.2 then (compLoop src all t f xs r.2.1 r.2.2).bind fun z => some (r.1 ++ z.1, z.2.1, z.2.2) else Option.none := rfl
theorem tp_tup {mem : Mem} {xs : List AV} : toPy mem (.tup xs) = (toPys mem xs).map .tuple := rfl
theorem tps_cons {mem : Mem} {x : AV} {xs : List AV} : toPys mem (x :: xs) = match toPy mem x, toPys mem xs with | some d, some ds => some (d :: ds) | _, _ => Option.none := rfl
theorem cn_succ {P : Prg} {d : Nat} {f : Addr} {args : List AV} {mem : Mem} : callN P (d + 1) f args mem = match P.fns f with
    | some i => do
      let vars ← setVars (List.replicate i.size Option.none) i.params args
      let (fl, _, mem') ← exs P.meths (callN P d) i.body vars mem
      match fl with
      | .next => tell i.mode mem (.none, mem')
      | .ret a => tell i.mode mem (a, mem')
      | .brk => Option.none
    | Option.none => match P.inits f with
      | some g => do
        let (r, mem') ← callN P d g (.obj (mem.length + 1) :: args) (mem ++ [.sdict [], .inst f mem.length])
        if r = .none then some (.obj (mem.length + 1), mem') else Option.none
      | Option.none => match P.prim f with
        | some g => g (callN P d) args mem
        | Option.none => Option.none := rfl
end Mine
end

section
open PySem
namespace Mine

noncomputable abbrev Names := List (Str × NameKind)
noncomputable def slotOf (ns : Names) (x : Str) : Option Nat := (ns.findIdx? (fun p => p.1 == x)).bind fun i => match ns[i]? with
  | some (_, .local) | some (_, .cell) | some (_, .free) => some i
  | _ => Option.none
noncomputable def slotW (ns : Names) (x : Str) : Option Nat := (ns.findIdx? (fun p => p.1 == x)).bind fun i => match ns[i]? with
  | some (_, .local) | some (_, .cell) => some i
  | _ => Option.none
noncomputable def okName (x : Str) : Bool := !(x == ("__debug__" : Str)) && !(x == ("__classdict__" : Str))
noncomputable def slotC (ns : Names) (x : Str) : Option Nat := (ns.findIdx? (fun p => p.1 == x)).bind fun i => match ns[i]? with
  | some (_, .cell) | some (_, .free) => some i
  | _ => Option.none
noncomputable def distinct : Names → Bool
  | [] => true
  | p :: r => !(r.any fun q => q.1 == p.1) && distinct r
noncomputable def scopeOk (s : Scope) : Bool := decide (s.kind = .function) && distinct s.names
noncomputable def isGlobal (ns : Names) (x : Str) : Bool := ns.lookup x == some .globalImplicit

noncomputable def globals : List (Str × Addr) := [("put_behind", 28), ("from_values", 35), ("least", 42), ("greatest", 49), ("next_from", 56), ("has", 63), ("has_domains", 63), ("up_to", 68), ("from_on", 73), ("without", 80), ("meet", 87), ("negation", 94), ("struck", 101), ("said_of", 108),
  ("Store", 258), ("Propagator", 300), ("Precede", 358), ("_law_digit", 367), ("_law_numbers", 374), ("_law_true", 381), ("_law_keeps", 388), ("_law_tuples", 393), ("_law_holds", 398), ("_law_barred", 403), ("_law_other", 410), ("_law_said_right", 415), ("_law_asked_right", 420), ("_law_check_right", 425), ("law", 430)]
noncomputable def builtinNames : List (Str × Bi) := [("len", .len), ("max", .max), ("min", .min), ("sorted", .sorted), ("all", .all), ("any", .any), ("list", .list), ("tuple", .tuple), ("range", .range)]
noncomputable def Nm.str : Nm → Str
  | .domains => "domains" | .firsts => "firsts" | .trail => "trail" | .marks => "marks" | .news => "news" | .speaker => "speaker" | .isFailed => "is_failed" | .clash => "clash"
  | .number => "number" | .scope => "scope" | .strength => "strength" | .s => "s" | .t => "t"
  | .append => "append" | .pop => "pop" | .extend => "extend" | .index => "index"
  | .newVar => "new_var" | .size => "size" | .dom => "dom" | .has => "has" | .isFixed => "is_fixed" | .value => "value" | .enter => "enter" | .strike => "strike" | .decide => "decide" | .fail => "fail"
  | .push => "push" | .depth => "depth"
  | .propagate => "propagate" | .firstSpot => "first_spot" | .needFirst => "need_first" | .check => "check" | .told => "told"
noncomputable def allNms : List Nm := [.domains, .firsts, .trail, .marks, .news, .speaker, .isFailed, .clash, .number, .scope, .strength, .s, .t, .append, .pop, .extend, .index, .newVar, .size, .dom, .has, .isFixed, .value,
  .enter, .strike, .decide, .fail, .push, .depth, .propagate, .firstSpot, .needFirst, .check, .told]
noncomputable def Nm.of (x : Str) : Option Nm := allNms.find? fun n => n.str == x

noncomputable def slotsOf (ns : Names) : List Expr → Option (List Nat)
  | [] => some []
  | .Name x _ :: r => do some ((← slotW ns x) :: (← slotsOf ns r))
  | _ :: _ => Option.none
noncomputable def compT (ns : Names) : Expr → Option LT
  | .Name x _ => (slotW ns x).map .v
  | .Tuple es _ _ => (slotsOf ns es).map .vs
  | _ => Option.none

noncomputable def lendsOf (outer inner : Names) : Option (List (Nat × Nat)) :=
  (inner.zipIdx.filter fun p => p.1.2 == .free).mapM fun p => (slotC outer p.1.1).map fun j => (p.2, j)

noncomputable def plainBase : Expr → Bool
  | .Call (.Name _ _) [] [] _ => false
  | _ => true
mutual
noncomputable def compE (ns : Names) : Expr → Option LE
  | .Constant .none _ _ => some .none
  | .Constant (.bool b) _ _ => some (.bool b)
  | .Constant (.int i) _ _ => some (.int i)
  | .Constant (.str s) _ _ => some (.str s)
  | .Name x _ => if okName x then (slotOf ns x).map .var else Option.none
  | .BinOp l op r _ => do some (.bin op (← compE ns l) (← compE ns r))
  | .UnaryOp .USub x _ => do some (.neg (← compE ns x))
  | .UnaryOp .Not x _ => do some (.not (← compE ns x))
  | .Compare l [op] [r] _ => do if behindInMarks op r then Option.none else some (.cmp op (← compE ns l) (← compE ns r))
  | .BoolOp op xs _ => compBool ns op xs
  | .IfExp t b o _ => do some (.ite (← compE ns t) (← compE ns b) (← compE ns o))
  | .Tuple xs _ _ => do if xs.length < 1000 then some (.tuple (← compEs ns xs)) else Option.none
  | .List xs _ => do if xs.length < 1000 then some (.list (← compEs ns xs)) else Option.none
  | .Dict [] [] _ => some .dict
  | .Subscript o (.Slice lo hi Option.none _) _ => do some (.slice (← compE ns o) (← compO ns lo) (← compO ns hi))
  | .Subscript o i _ => do some (.item (← compE ns o) (← compE ns i))
  | .Attribute o n _ => do if plainBase o then some (.attr (← compE ns o) (← Nm.of n)) else Option.none
  | .Call (.Name f _) args [] _ => do
    if isGlobal ns f && okName f then
      let as ← compEs ns args
      match globals.lookup f with
      | some a => some (.callF a as)
      | Option.none => do some (.callB (← builtinNames.lookup f) as)
    else Option.none
  | .Call (.Attribute o n ap) args [] p => do
    if ap.endLine == p.line && args.length < 20 && plainBase o then some (.meth (← compE ns o) (← Nm.of n) (← compEs ns args)) else Option.none
  | .ListComp elt [⟨t, it, [], 0⟩] s _ => do
    if !scopeOk s then Option.none else
    some (.comp1 s.names.length (← lendsOf ns s.names) (← compT s.names t) (← compE ns it) (.bool true) (← compE s.names elt))
  | .ListComp elt [⟨t, it, [c], 0⟩] s _ => do
    if !scopeOk s then Option.none else
    some (.comp1 s.names.length (← lendsOf ns s.names) (← compT s.names t) (← compE ns it) (← compE s.names c) (← compE s.names elt))
  | .ListComp elt [⟨t, it, [], 0⟩, ⟨t2, it2, [], 0⟩] s _ => do
    if !scopeOk s then Option.none else
    some (.comp2 s.names.length (← lendsOf ns s.names) (← compT s.names t) (← compE ns it) (← compT s.names t2) (← compE s.names it2) (← compE s.names elt))
  | _ => Option.none
noncomputable def compEs (ns : Names) : List Expr → Option (List LE)
  | [] => some []
  | e :: es => do some ((← compE ns e) :: (← compEs ns es))
noncomputable def compO (ns : Names) : Option Expr → Option LE
  | Option.none => some .none
  | some e => compE ns e
noncomputable def compBool (ns : Names) (op : BoolOp) : List Expr → Option LE
  | [] => Option.none
  | [x] => compE ns x
  | x :: xs => do
    let l ← compE ns x
    let r ← compBool ns op xs
    some (match op with | .And => .and l r | .Or => .or l r)
end

noncomputable def compA (ns : Names) : Expr → Option LA
  | .Name x _ => (slotW ns x).map .v
  | .Tuple es _ _ => (slotsOf ns es).bind fun is => if decide is.Nodup then some (.vs is) else Option.none
  | .Attribute o n _ => do some (.attr (← compE ns o) (← Nm.of n))
  | .Subscript o (.Slice ..) _ => Option.none
  | .Subscript o i _ => do some (.item (← compE ns o) (← compE ns i))
  | _ => Option.none

noncomputable def iterKind (ns : Names) : Expr → Nat × Expr
  | .Call (.Name f p) [e] [] q => if isGlobal ns f && f == ("enumerate" : Str) then (1, e) else if isGlobal ns f && f == ("reversed" : Str) then (2, e) else (0, .Call (.Name f p) [e] [] q)
  | e => (0, e)

noncomputable def assignOk : Expr → Expr → Bool
  | .Tuple _ _ _, .Tuple vs _ _ => !(vs.all (constantsAlone 8))
  | _, _ => true
noncomputable def notComp : Expr → Bool
  | .ListComp .. => false
  | _ => true
noncomputable def isTuple : Expr → Bool
  | .Tuple .. => true
  | _ => false
mutual
noncomputable def compS (ns : Names) : Stmt → Option LS
  | .Assign [t] e _ => do if assignOk t e then some (.assign (← compA ns t) (← compE ns e)) else Option.none
  | .Expr e _ => do if notComp e then some (.expr (← compE ns e)) else Option.none
  | .Return Option.none _ => some (.ret .none)
  | .Return (some e) _ => do some (.ret (← compE ns e))
  | .If t a b _ => do some (.ite (← compE ns t) (← compSs ns a) (← compSs ns b))
  | .While t body [] _ => do some (.while (← compE ns t) (← compSs ns body))
  | .For t it body [] _ => do
    let ke := iterKind ns it
    if ke.1 != 1 || isTuple t then some (.for ke.1 (← compT ns t) (← compE ns ke.2) (← compSs ns body)) else Option.none
  | .Break _ => some .brk
  | _ => Option.none
noncomputable def compSs (ns : Names) : List Stmt → Option (List LS)
  | [] => some []
  | s :: ss => do some ((← compS ns s) :: (← compSs ns ss))
end

section
variable {ns : Names} {p q ap : Pos} {k : Nat}
theorem cE_none {k} : compE ns (.Constant .none k p) = some .none := rfl
theorem cE_bool {b k} : compE ns (.Constant (.bool b) k p) = some (.bool b) := rfl
theorem cE_int {i k} : compE ns (.Constant (.int i) k p) = some (.int i) := rfl
theorem cE_str {s k} : compE ns (.Constant (.str s) k p) = some (.str s) := rfl
theorem cE_name {x} : compE ns (.Name x p) = if okName x then (slotOf ns x).map .var else Option.none := rfl
theorem cE_bin {l op r} : compE ns (.BinOp l op r p) = (compE ns l).bind fun a => (compE ns r).bind fun b => some (.bin op a b) := rfl
theorem cE_neg {x} : compE ns (.UnaryOp .USub x p) = (compE ns x).bind fun a => some (.neg a) := rfl
theorem cE_not {x} : compE ns (.UnaryOp .Not x p) = (compE ns x).bind fun a => some (.not a) := rfl
theorem cE_cmp {l op r} : compE ns (.Compare l [op] [r] p) = if behindInMarks op r then Option.none else (compE ns l).bind fun a => (compE ns r).bind fun b => some (.cmp op a b) := rfl
theorem cE_boolOp {op xs} : compE ns (.BoolOp op xs p) = compBool ns op xs := rfl
theorem cE_ite {t b o} : compE ns (.IfExp t b o p) = (compE ns t).bind fun t' => (compE ns b).bind fun b' => (compE ns o).bind fun o' => some (.ite t' b' o') := rfl
theorem cE_tuple {xs k} : compE ns (.Tuple xs k p) = if xs.length < 1000 then (compEs ns xs).bind fun l => some (.tuple l) else Option.none := rfl
theorem cE_list {xs} : compE ns (.List xs p) = if xs.length < 1000 then (compEs ns xs).bind fun l => some (.list l) else Option.none := rfl
theorem cE_dict : compE ns (.Dict [] [] p) = some .dict := rfl
theorem cE_slice {o lo hi} : compE ns (.Subscript o (.Slice lo hi Option.none q) p) = (compE ns o).bind fun o' => (compO ns lo).bind fun l => (compO ns hi).bind fun h => some (.slice o' l h) := rfl
theorem cE_attr {o n} : compE ns (.Attribute o n p) = if plainBase o then (compE ns o).bind fun o' => (Nm.of n).bind fun m => some (.attr o' m) else Option.none := rfl
theorem cE_callF {f args} : compE ns (.Call (.Name f q) args [] p) = if isGlobal ns f && okName f then (compEs ns args).bind fun as => match globals.lookup f with
  | some a => some (.callF a as)
  | Option.none => (builtinNames.lookup f).bind fun b => some (.callB b as)
  else Option.none := rfl
theorem cE_meth {o n args} : compE ns (.Call (.Attribute o n ap) args [] p) = if ap.endLine == p.line && args.length < 20 && plainBase o then (compE ns o).bind fun o' => (Nm.of n).bind fun m => (compEs ns args).bind fun as => some (.meth o' m as) else Option.none := rfl
theorem cE_comp {elt t it s} : compE ns (.ListComp elt [⟨t, it, [], 0⟩] s p) = if !scopeOk s then Option.none else (lendsOf ns s.names).bind fun im => (compT s.names t).bind fun t' => (compE ns it).bind fun i' => (compE s.names elt).bind fun e' => some (.comp1 s.names.length im t' i' (.bool true) e') := rfl
theorem cE_compI {elt t it c s} : compE ns (.ListComp elt [⟨t, it, [c], 0⟩] s p) = if !scopeOk s then Option.none else (lendsOf ns s.names).bind fun im => (compT s.names t).bind fun t' => (compE ns it).bind fun i' => (compE s.names c).bind fun c' => (compE s.names elt).bind fun e' => some (.comp1 s.names.length im t' i' c' e') := rfl
theorem cE_comp2 {elt t it t2 it2 s} : compE ns (.ListComp elt [⟨t, it, [], 0⟩, ⟨t2, it2, [], 0⟩] s p) = if !scopeOk s then Option.none else (lendsOf ns s.names).bind fun im => (compT s.names t).bind fun t' => (compE ns it).bind fun i' => (compT s.names t2).bind fun u' => (compE s.names it2).bind fun j' => (compE s.names elt).bind fun e' => some (.comp2 s.names.length im t' i' u' j' e') := rfl
theorem cEs_nil : compEs ns [] = some [] := rfl
theorem cEs_cons {e es} : compEs ns (e :: es) = (compE ns e).bind fun a => (compEs ns es).bind fun l => some (a :: l) := rfl
theorem cO_none : compO ns Option.none = some .none := rfl
theorem cO_some {e} : compO ns (some e) = compE ns e := rfl
theorem cB_nil {op} : compBool ns op [] = Option.none := rfl
theorem cB_one {op x} : compBool ns op [x] = compE ns x := rfl
theorem cB_cons {op x y xs} : compBool ns op (x :: y :: xs) = (compE ns x).bind fun l => (compBool ns op (y :: xs)).bind fun r => some (match op with | .And => .and l r | .Or => .or l r) := rfl
theorem cS_assign {t e} : compS ns (.Assign [t] e p) = if assignOk t e then (compA ns t).bind fun a => (compE ns e).bind fun b => some (.assign a b) else Option.none := rfl
theorem cS_expr {e} : compS ns (.Expr e p) = if notComp e then (compE ns e).bind fun b => some (.expr b) else Option.none := rfl
theorem cS_ret0 : compS ns (.Return Option.none p) = some (.ret .none) := rfl
theorem cS_ret {e} : compS ns (.Return (some e) p) = (compE ns e).bind fun b => some (.ret b) := rfl
theorem cS_if {t a b} : compS ns (.If t a b p) = (compE ns t).bind fun t' => (compSs ns a).bind fun a' => (compSs ns b).bind fun b' => some (.ite t' a' b') := rfl
theorem cS_while {t a} : compS ns (.While t a [] p) = (compE ns t).bind fun t' => (compSs ns a).bind fun a' => some (.while t' a') := rfl
theorem cS_for {t it a} : compS ns (.For t it a [] p) = if (iterKind ns it).1 != 1 || isTuple t then (compT ns t).bind fun t' => (compE ns (iterKind ns it).2).bind fun i' => (compSs ns a).bind fun a' => some (.for (iterKind ns it).1 t' i' a') else Option.none := rfl
theorem cK_call {f e} : iterKind ns (.Call (.Name f p) [e] [] q) = if isGlobal ns f && f == ("enumerate" : Str) then (1, e) else if isGlobal ns f && f == ("reversed" : Str) then (2, e) else (0, .Call (.Name f p) [e] [] q) := rfl
theorem cS_brk : compS ns (.Break p) = some .brk := rfl
theorem cSs_nil : compSs ns [] = some [] := rfl
theorem cSs_cons {e es} : compSs ns (e :: es) = (compS ns e).bind fun a => (compSs ns es).bind fun l => some (a :: l) := rfl
end

noncomputable def defIn (n : Str) : List Stmt → Option (Arguments × List Stmt × Scope)
  | [] => Option.none
  | .FunctionDef m args body _ _ _ sc _ _ _ :: r => if m = n then some (args, body, sc) else defIn n r
  | _ :: r => defIn n r
noncomputable def classIn (n : Str) : List Stmt → List Stmt
  | [] => []
  | .ClassDef m _ _ b _ _ _ _ _ _ _ :: r => if m = n then b else classIn n r
  | _ :: r => classIn n r
noncomputable def mainBody : List Stmt := PySem.Challenge.pw_no0306_01.main.body
noncomputable def plainArgs (a : Arguments) : Bool := a.posonlyargs.isEmpty && a.kwonlyargs.isEmpty && a.vararg.isNone && a.kwarg.isNone
noncomputable def defOk (args : Arguments) (sc : Scope) : Bool :=
  plainArgs args && scopeOk sc && !sc.isGenerator && !sc.isCoroutine && sc.names.all (fun p => !(p.2 == .free)) && decide ((args.args.map (·.arg)).Nodup)
noncomputable def fnInfo (mode : Nat) (d : Option (Arguments × List Stmt × Scope)) : Option FnInfo := do
  let (args, body, sc) ← d
  if defOk args sc then
    let ps ← args.args.mapM fun a => slotW sc.names a.arg
    let b ← compSs sc.names body
    some ⟨sc.names.length, ps, b, mode⟩
  else Option.none

noncomputable def fnDefs : List (Addr × Nat × Option (Arguments × List Stmt × Scope)) := [(28, 0, defIn "put_behind" mainBody), (35, 1, defIn "from_values" mainBody), (56, 1, defIn "next_from" mainBody), (63, 1, defIn "has" mainBody), (68, 1, defIn "up_to" mainBody), (73, 1, defIn "from_on" mainBody), (80, 1, defIn "without" mainBody), (87, 1, defIn "meet" mainBody), (94, 1, defIn "negation" mainBody), (101, 1, defIn "struck" mainBody), (122, 0, defIn "__init__" (classIn "Store" mainBody)), (129, 0, defIn "new_var" (classIn "Store" mainBody)), (136, 1, defIn "size" (classIn "Store" mainBody)), (143, 1, defIn "dom" (classIn "Store" mainBody)), (171, 1, defIn "has" (classIn "Store" mainBody)), (178, 1, defIn "is_fixed" (classIn "Store" mainBody)), (185, 1, defIn "value" (classIn "Store" mainBody)), (206, 0, defIn "enter" (classIn "Store" mainBody)), (213, 0, defIn "strike" (classIn "Store" mainBody)), (220, 0, defIn "decide" (classIn "Store" mainBody)), (227, 0, defIn "fail" (classIn "Store" mainBody)), (234, 0, defIn "push" (classIn "Store" mainBody)), (241, 0, defIn "pop" (classIn "Store" mainBody)), (248, 1, defIn "depth" (classIn "Store" mainBody)), (276, 0, defIn "__init__" (classIn "Propagator" mainBody)), (327, 0, defIn "propagate" (classIn "Precede" mainBody)), (334, 0, defIn "first_spot" (classIn "Precede" mainBody)), (341, 0, defIn "need_first" (classIn "Precede" mainBody)), (348, 1, defIn "check" (classIn "Precede" mainBody)), (355, 1, defIn "told" (classIn "Precede" mainBody)), (367, 0, defIn "_law_digit" mainBody), (374, 2, defIn "_law_numbers" mainBody), (381, 1, defIn "_law_true" mainBody), (388, 1, defIn "_law_keeps" mainBody), (393, 2, defIn "_law_tuples" mainBody), (398, 1, defIn "_law_holds" mainBody), (403, 1, defIn "_law_barred" mainBody), (410, 1, defIn "_law_other" mainBody), (415, 1, defIn "_law_said_right" mainBody), (420, 0, defIn "_law_asked_right" mainBody), (425, 1, defIn "_law_check_right" mainBody), (430, 0, defIn "law" mainBody)]
noncomputable def fnsAll (f : Addr) : Option FnInfo := (fnDefs.find? fun p => p.1 == f).bind fun p => fnInfo p.2.1 p.2.2
noncomputable def methList : List (Addr × Nm × Addr) := [(258, .newVar, 129), (258, .size, 136), (258, .dom, 143), (258, .has, 171), (258, .isFixed, 178), (258, .value, 185), (258, .enter, 206), (258, .strike, 213), (258, .decide, 220), (258, .fail, 227), (258, .push, 234), (258, .pop, 241), (258, .depth, 248), (358, .propagate, 327), (358, .firstSpot, 334), (358, .needFirst, 341), (358, .check, 348), (358, .told, 355)]
noncomputable def methsOf (c : Addr) (n : Nm) : Option Addr := (methList.find? fun p => p.1 == c && p.2.1 == n).map (·.2.2)
noncomputable def fldList : List (Addr × Nm) := [(258, .domains), (258, .firsts), (258, .trail), (258, .marks), (258, .news), (258, .speaker), (258, .isFailed), (258, .clash), (358, .number), (358, .scope), (358, .strength), (358, .s), (358, .t)]
noncomputable def fldOf (c : Addr) (n : Nm) : Bool := fldList.any fun p => p.1 == c && p.2 == n
noncomputable def initsAll (f : Addr) : Option Addr := if f = 258 then some 122 else Option.none
noncomputable def precNames : Names := [("self", .local), ("s", .local), ("t", .local), ("row", .local)]
noncomputable def precTail : List LS := [.assign (.attr (.var 0) .s) (.var 1), .assign (.attr (.var 0) .t) (.var 2)]
noncomputable def primPrecede (Φ : Fun) (args : List AV) (mem : Mem) : Option (AV × Mem) := match args with
  | [s, t, row] => do
    let (_, m1) ← Φ 276 [.obj (mem.length + 1), row, .str "values"] (mem ++ [.sdict [], .inst 358 mem.length])
    let (fl, _, m2) ← exs ⟨methsOf, fldOf⟩ Φ precTail [some (.obj (mem.length + 1)), some s, some t, some row] m1
    match fl with
    | .next => some (.obj (mem.length + 1), m2)
    | _ => Option.none
  | _ => Option.none
noncomputable def prg : Prg := { meths := ⟨methsOf, fldOf⟩, fns := fnsAll, inits := initsAll, prim := fun a => if a = 358 then some primPrecede else Option.none }
end Mine
end

section
open PySem PySem.Spec PySem.Calls PyProof.Rows PySem.W
set_option linter.unusedVariables false
set_option autoImplicit false
set_option maxRecDepth 100000
set_option maxHeartbeats 8000000
namespace Mine
noncomputable def lookFn (o : Obj) : Option (Arguments × FuncBody × Scope × List (Str × Addr) × Addr × Addr × Value) := match o.data with
  | .func fd => some (fd.params, fd.body, fd.scope, fd.closure, fd.globals, fd.builtins, fd.defaults)
  | _ => none
noncomputable def codeB (K : Frag) (f : Addr) : Bool := match K.lookup f with
  | some ⟨_, _, .func fd, _⟩ => codeIn K fd.code fd.qualname
  | _ => false
noncomputable def wantFn (d : Option (Arguments × List Stmt × Scope)) : Option (Arguments × FuncBody × Scope × List (Str × Addr) × Addr × Addr × Value) := match d with
  | some (a, b, s) => some (a, .stmts b, s, [], mainGlobals, builtinsNs, .none)
  | none => none
noncomputable def precDef : Option (Arguments × List Stmt × Scope) := defIn "__init__" (classIn "Precede" mainBody)
noncomputable def wantPrec (d : Option (Arguments × List Stmt × Scope)) : Option (Arguments × FuncBody × Scope × List (Str × Addr) × Addr × Addr × Value) := match d with
  | some (a, b, s) => some (a, .stmts b, s, [(("__class__" : Str), (308 : Addr))], mainGlobals, builtinsNs, .none)
  | none => none
noncomputable def cellB (K : Frag) : Bool := match K.lookup 308 with
  | some ⟨_, _, .cell (some (.ref x)), _⟩ => x == 358
  | _ => false
noncomputable def fileB (prog : Program) (K : Frag) : Bool := match K.lookup 319 with
  | some ⟨_, _, .fields vs, _⟩ => (match (vs[2]? : Option Value) with | some (Value.str file _) => (prog.main.file : Str) == file | _ => false)
  | _ => false
noncomputable def nsB (K : Frag) (p : Str × Addr) : Bool := match nsIn K mainGlobals p.1 with
  | some (some (.ref b)) => b == p.2
  | _ => false
noncomputable def nsNone (K : Frag) (p : Str × Bi) : Bool := match nsIn K mainGlobals p.1 with
  | some none => true
  | _ => false

noncomputable def codeOf (o : Obj) : Option Value := match o.data with | .func fd => some fd.code | _ => none
set_option genInjectivity false in
structure Seen where
  fns : List (Option (Arguments × FuncBody × Scope × List (Str × Addr) × Addr × Addr × Value))
  prec : Option (Arguments × FuncBody × Scope × List (Str × Addr) × Addr × Addr × Value)
  code : Option Value
  ga : List (Option (Option Value))
  gk : List (Option (Option Value))
  sa : List (Option (Option Value))
  fld : List (Option (Option Value))
  me : List (Option (Option Value))
  meT : List (Option Value)
  ini : List (Option (Option Value))
  ty : List (Option Value)
  ns : List (Option (Option Value))
  mro : Option Bool
  bools : Bool
noncomputable def cs : List Addr := [258, 358]
noncomputable def tys : List Addr := [122, 320, 276]
noncomputable def noNames : List (Addr × Str) := [(cStatics, "thirdparty.any"), (mainGlobals, "enumerate"), (mainGlobals, "reversed"), (mainGlobals, "super")]
noncomputable def obsK (K : Frag) : Seen where
  fns := fnDefs.map fun p => (K.lookup p.1).bind lookFn
  prec := (K.lookup 320).bind lookFn
  code := (K.lookup 320).bind codeOf
  ga := cs.map fun C => findIn K (.ref C) "__getattribute__"
  gk := cs.map fun C => findIn K (.ref C) "__getattr__"
  sa := cs.map fun C => findIn K (.ref C) "__setattr__"
  fld := fldList.map fun p => findIn K (.ref p.1) p.2.str
  me := methList.map fun p => findIn K (.ref p.1) p.2.1.str
  meT := methList.map fun p => typeIn K (.ref p.2.2)
  ini := [findIn K (.ref 258) "__init__", findIn K (.ref 358) "__init__", ks_superIn K 358 358 "__init__"]
  ty := tys.map fun a => typeIn K (.ref a)
  ns := noNames.map fun p => nsIn K p.1 p.2
  mro := mroIn K 358 (.ref 358)
  bools := (fnDefs.all fun p => codeB K p.1) && (codeB K 320 && ((cs.all fun C => (clsIn K C).any (·.hasDict)) && ((cs.all fun C => plainOver K C) && (makesIn K 258 && (makesIn K 358 && (cellB K && (fileB PySem.Challenge.pw_no0306_01 K && ((clsIn K 358).isSome &&
    (fnIn K 276 && (globals.all (nsB K) && ((globals.all fun p => keepIn K (.ref p.2)) && (builtinNames.all (nsNone K) && methList.all fun p => keepIn K (.ref p.2.2)))))))))))))
noncomputable def valK : Seen where
  fns := fnDefs.map fun p => wantFn p.2.2
  prec := wantPrec precDef
  code := some (.ref 319)
  ga := cs.map fun _ => some (some (.builtin "object.__getattribute__"))
  gk := cs.map fun _ => some none
  sa := cs.map fun _ => some (some (.builtin "object.__setattr__"))
  fld := fldList.map fun _ => some none
  me := methList.map fun p => some (some (.ref p.2.2))
  meT := methList.map fun _ => some (.type "function")
  ini := [some (some (.ref 122)), some (some (.ref 320)), some (some (.ref 276))]
  ty := tys.map fun _ => some (.type "function")
  ns := noNames.map fun _ => some none
  mro := some true
  bools := true
noncomputable def K0 (h : Heap) : Frag := (List.range 431).filterMap fun a => (h.get? a).map fun o => (a, o)
noncomputable def lawView : Program := view PySem.Challenge.pw_no0306_01 [33]
noncomputable def looseL : List Str := ["_wall", "put_behind", "from_values", "least", "greatest", "next_from", "has", "has_domains", "up_to", "from_on", "without", "meet", "negation", "struck", "said_of", "Store", "Propagator", "Precede", "_law_digit", "_law_numbers", "_law_true", "_law_keeps", "_law_tuples", "_law_holds", "_law_barred", "_law_other", "_law_said_right", "_law_asked_right", "_law_check_right"]
noncomputable abbrev XtL (s : Shared) : Bool := xlAt lawView [] s && recOk (RowW.records PySem.Challenge.rw_no0306_01.row.toRowW) s
end Mine
end

section
open PySem PySem.Spec PySem.Calls PyProof.Rows PySem.W
set_option linter.unusedVariables false
set_option autoImplicit false
set_option maxRecDepth 100000
set_option maxHeartbeats 8000000
namespace Mine
theorem run_ok : ∀ w : World, (fun os => (topFrom treeTable PySem.Challenge.pw_no0306_01 w 5000 ⟨boot_heap w.params, Array.mk [], boot_drawn, boot_toks, os⟩).map fun s => (openSeen lawView looseL (importedModules PySem.Challenge.pw_no0306_01.main.body) XtL true s, obsK (K0 s.heap))) = fun _ => some (openGood lawView looseL, valK) := by
  intro w
  unfold topFrom
  rw [PySem.W.Fast.te14082659384304107361, PySem.W.Fast.te4187177175401517315]
  kernel_rfl
theorem said_ok' : PySem.Challenge.rw_no0306_01.wellSaid = true := by
  rw [PySem.W.Fast.te9446332074065402090]
  kernel_rfl
end Mine
end

section
open PySem PySem.Spec PySem.Calls PyProof.Rows PySem.W
set_option linter.unusedVariables false
set_option autoImplicit false
namespace Mine

noncomputable abbrev listOb (vs : List Value) (n : Nat) : Obj := { cls := .type "list", data := .seq vs.toArray n }
noncomputable abbrev tupOb (vs : List Value) (n : Nat) : Obj := { cls := .type "tuple", data := .seq vs.toArray n }

mutual
inductive Val (ρ : List Addr) (h : Heap) : Value → AV → Prop
  | none : Val ρ h .none .none
  | bool (b : Bool) : Val ρ h (.bool b) (.bool b)
  | int (i : Int) (t : Tok) : Val ρ h (.int i t) (.int i)
  | str (s : Str) (t : Tok) : Val ρ h (.str s t) (.str s)
  | tup {a : Addr} {vs : List Value} {n : Nat} {xs : List AV} : h.get? a = some (tupOb vs n) → Vals ρ h vs xs → Val ρ h (.ref a) (.tup xs)
  | rng {a : Addr} {x y : Int} {t u v : Tok} : IsRange h a x y 1 t u v → Val ρ h (.ref a) (.rng x y)
  | obj {a : Addr} {n : Nat} : ρ[n]? = some a → Val ρ h (.ref a) (.obj n)
inductive Vals (ρ : List Addr) (h : Heap) : List Value → List AV → Prop
  | nil : Vals ρ h [] []
  | cons {v : Value} {vs : List Value} {a : AV} {as : List AV} : Val ρ h v a → Vals ρ h vs as → Vals ρ h (v :: vs) (a :: as)
end

section
variable {ρ : List Addr} {h : Heap} {v : Value}
theorem Val.none_inv (x : Val ρ h v .none) : v = .none := by cases x; rfl
theorem Val.bool_inv {b : Bool} (x : Val ρ h v (.bool b)) : v = .bool b := by cases x; rfl
theorem Val.int_inv {i : Int} (x : Val ρ h v (.int i)) : ∃ t, v = .int i t := by cases x; exact ⟨_, rfl⟩
theorem Val.tup_inv {xs : List AV} (x : Val ρ h v (.tup xs)) : ∃ a vs n, v = .ref a ∧ h.get? a = some (tupOb vs n) ∧ Vals ρ h vs xs := by cases x with | tup g r => exact ⟨_, _, _, rfl, g, r⟩
theorem Val.rng_inv {i j : Int} (x : Val ρ h v (.rng i j)) : ∃ a t u w, v = .ref a ∧ IsRange h a i j 1 t u w := by cases x with | rng g => exact ⟨_, _, _, _, rfl, g⟩
theorem Val.obj_inv {n : Nat} (x : Val ρ h v (.obj n)) : ∃ a, v = .ref a ∧ ρ[n]? = some a := by cases x with | obj g => exact ⟨_, rfl, g⟩
theorem Vals.nil_inv {vs : List Value} (x : Vals ρ h vs []) : vs = [] := by cases x; rfl
theorem Vals.nil_l {as : List AV} (x : Vals ρ h [] as) : as = [] := by cases x; rfl
theorem Vals.cons_inv {vs : List Value} {a : AV} {as : List AV} (x : Vals ρ h vs (a :: as)) : ∃ v ws, vs = v :: ws ∧ Val ρ h v a ∧ Vals ρ h ws as := by cases x with | cons y z => exact ⟨_, _, rfl, y, z⟩
theorem Vals.one_inv {vs : List Value} {a : AV} (x : Vals ρ h vs [a]) : ∃ v, vs = [v] ∧ Val ρ h v a := by
  obtain ⟨v, ws, rfl, y, z⟩ := x.cons_inv
  exact ⟨v, by rw [z.nil_inv], y⟩
theorem Vals.two_inv {vs : List Value} {a b : AV} (x : Vals ρ h vs [a, b]) : ∃ v u, vs = [v, u] ∧ Val ρ h v a ∧ Val ρ h u b := by
  obtain ⟨v, ws, rfl, y, z⟩ := x.cons_inv
  obtain ⟨u, rfl, z2⟩ := z.one_inv
  exact ⟨v, u, rfl, y, z2⟩
end

inductive Ents (ρ : List Addr) (h : Heap) : List DictEntry → List (Nm × AV) → Prop
  | nil : Ents ρ h [] []
  | cons {hs : Int} {n : Nm} {t : Tok} {v : Value} {a : AV} {es : List DictEntry} {fs : List (Nm × AV)} : Val ρ h v a → Ents ρ h es fs → Ents ρ h (⟨hs, .str n.str t, v⟩ :: es) ((n, a) :: fs)

noncomputable def Rep (ρ : List Addr) (h : Heap) (a : Addr) : MObj → Prop
  | .list xs => ∃ vs n, h.get? a = some (listOb vs n) ∧ Vals ρ h vs xs
  | .inst c d => ∃ dx, ρ[d]? = some dx ∧ h.get? a = some (instObj c dx)
  | .sdict fs => ∃ es n, h.get? a = some (dictOf es n) ∧ Ents ρ h es fs
  | .idict c => (∃ f, h.IntMap a f) ∧ h.DictLe a c

structure Wd (h₀ : Heap) (ρ : List Addr) (mem : Mem) (h : Heap) : Prop where
  len : ρ.length = mem.length
  nodup : ρ.Nodup
  rep : ∀ (i : Nat) (a : Addr) (o : MObj), ρ[i]? = some a → mem[i]? = some o → Rep ρ h a o
  base : ∀ b o, h₀.get? b = some o → h.get? b = some o
  fresh : ∀ a ∈ ρ, h₀.get? a = none

structure Step (ρ ρ' : List Addr) (h h' : Heap) : Prop where
  ext : ∃ e, ρ' = ρ ++ e
  new : ∀ a ∈ ρ', a ∉ ρ → h.get? a = none
  keep : ∀ b o, b ∉ ρ → h.get? b = some o → h'.get? b = some o

theorem Step.refl (ρ : List Addr) (h : Heap) : Step ρ ρ h h := ⟨⟨[], by simp⟩, fun a h1 h2 => absurd h1 h2, fun _ _ _ e => e⟩
theorem Step.trans {ρ ρ' ρ'' : List Addr} {h h' h'' : Heap} (x : Step ρ ρ' h h') (y : Step ρ' ρ'' h' h'') : Step ρ ρ'' h h'' := by
  obtain ⟨e1, he1⟩ := x.ext
  obtain ⟨e2, he2⟩ := y.ext
  refine ⟨⟨e1 ++ e2, by rw [he2, he1, List.append_assoc]⟩, fun a h1 h2 => ?_, fun b o hb e => ?_⟩
  · by_cases ha : a ∈ ρ'
    · exact x.new a ha h2
    · have hn := y.new a h1 ha
      cases q : h.get? a with
      | none => rfl
      | some o => rw [x.keep a o h2 q] at hn; cases hn
  · refine y.keep b o (fun hb' => ?_) (x.keep b o hb e)
    rw [x.new b hb' hb] at e; cases e
theorem Step.of_keeps {ρ : List Addr} {h h' : Heap} (k : ∀ b o, h.get? b = some o → h'.get? b = some o) : Step ρ ρ h h' :=
  ⟨⟨[], by simp⟩, fun a h1 h2 => absurd h1 h2, fun b o _ e => k b o e⟩
theorem Step.push {ρ : List Addr} {h : Heap} (o : Obj) : Step ρ ρ h (h.push o) := .of_keeps fun b o' e => Heap.get?_push_of_some o e
theorem Step.get {ρ ρ' : List Addr} {h h' : Heap} (x : Step ρ ρ' h h') {n : Nat} {a : Addr} (e : ρ[n]? = some a) : ρ'[n]? = some a := by
  obtain ⟨e1, rfl⟩ := x.ext
  rw [List.getElem?_append_left (List.getElem?_eq_some_iff.mp e).1]; exact e

noncomputable def Still (o : Obj) : Prop := (o.cls = .type "tuple" ∨ o.cls = .type "range") ∧ (∀ es ep, o.data ≠ .dict es ep) ∧ ∀ v, o.data ≠ .cell v
theorem still_tup (vs : List Value) (n : Nat) : Still (tupOb vs n) := ⟨.inl rfl, fun _ _ e => (nomatch e), fun _ e => (nomatch e)⟩
theorem still_rng {x y : Int} {t u v : Tok} : Still ({ cls := .type "range", dict := none, data := .fields #[.int x t, .int y u, .int 1 v], slots := #[] }) := ⟨.inr rfl, fun _ _ e => (nomatch e), fun _ e => (nomatch e)⟩
noncomputable def KeepT (ρ ρ' : List Addr) (h h' : Heap) : Prop :=
  (∀ (n : Nat) (a : Addr), ρ[n]? = some a → ρ'[n]? = some a) ∧ ∀ b o, Still o → h.get? b = some o → h'.get? b = some o

theorem Val.both {ρ : List Addr} {h : Heap} {P : Value → AV → Prop} {R : List Value → List AV → Prop} (h1 : P .none .none) (h2 : ∀ b, P (.bool b) (.bool b)) (h3 : ∀ i t, P (.int i t) (.int i)) (h4 : ∀ s t, P (.str s t) (.str s))
    (h5 : ∀ {a vs n xs}, h.get? a = some (tupOb vs n) → R vs xs → P (.ref a) (.tup xs)) (h6 : ∀ {a x y t u v}, IsRange h a x y 1 t u v → P (.ref a) (.rng x y)) (h7 : ∀ {a n}, ρ[n]? = some a → P (.ref a) (.obj n))
    (h8 : R [] []) (h9 : ∀ {v vs a as}, P v a → R vs as → R (v :: vs) (a :: as)) : (∀ {v a}, Val ρ h v a → P v a) ∧ ∀ {vs as}, Vals ρ h vs as → R vs as :=
  ⟨fun x => Val.rec (motive_1 := fun v a _ => P v a) (motive_2 := fun vs as _ => R vs as) h1 h2 h3 h4 (fun g _ r => h5 g r) h6 h7 h8 (fun _ _ p r => h9 p r) x,
   fun x => Vals.rec (motive_1 := fun v a _ => P v a) (motive_2 := fun vs as _ => R vs as) h1 h2 h3 h4 (fun g _ r => h5 g r) h6 h7 h8 (fun _ _ p r => h9 p r) x⟩
theorem Val.keepTs {ρ ρ' : List Addr} {h h' : Heap} (k : KeepT ρ ρ' h h') : (∀ {v a}, Val ρ h v a → Val ρ' h' v a) ∧ ∀ {vs as}, Vals ρ h vs as → Vals ρ' h' vs as :=
  Val.both .none .bool .int .str (fun e r => .tup (k.2 _ _ (still_tup _ _) e) r) (fun e => .rng (k.2 _ _ still_rng e)) (fun e => .obj (k.1 _ _ e)) .nil .cons
theorem Val.keepT {ρ ρ' : List Addr} {h h' : Heap} (k : KeepT ρ ρ' h h') {v : Value} {a : AV} (x : Val ρ h v a) : Val ρ' h' v a := (Val.keepTs k).1 x
theorem Vals.keepT {ρ ρ' : List Addr} {h h' : Heap} (k : KeepT ρ ρ' h h') {vs : List Value} {as : List AV} (x : Vals ρ h vs as) : Vals ρ' h' vs as := (Val.keepTs k).2 x
theorem Ents.keepT {ρ ρ' : List Addr} {h h' : Heap} (k : KeepT ρ ρ' h h') {es : List DictEntry} {fs : List (Nm × AV)} (x : Ents ρ h es fs) : Ents ρ' h' es fs := by
  induction x with
  | nil => exact .nil
  | cons a _ ih => exact .cons (a.keepT k) ih

theorem Rep.cls {ρ : List Addr} {h : Heap} {a : Addr} {o : MObj} {ob : Obj} (r : Rep ρ h a o) (e : h.get? a = some ob) : ob.cls ≠ .type "tuple" ∧ ob.cls ≠ .type "range" := by
  cases o with
  | list xs =>
    obtain ⟨vs, n, e', _⟩ := r
    rw [e] at e'; cases e'
    show Value.type "list" ≠ _ ∧ Value.type "list" ≠ _
    decide
  | inst c d =>
    obtain ⟨dx, _, e'⟩ := r
    rw [e] at e'; cases e'; exact And.intro (fun x => nomatch x) (fun x => nomatch x)
  | sdict fs =>
    obtain ⟨es, n, e', _⟩ := r
    rw [e] at e'; cases e'
    show Value.type "dict" ≠ _ ∧ Value.type "dict" ≠ _
    decide
  | idict c =>
    obtain ⟨⟨f, o', es, ep, e', hc, _⟩, _⟩ := r
    rw [e] at e'; cases e'; rw [hc]; decide

theorem Wd.at {h₀ : Heap} {ρ : List Addr} {mem : Mem} {h : Heap} (W : Wd h₀ ρ mem h) {i : Nat} {o : MObj} (e : mem[i]? = some o) : ∃ a, ρ[i]? = some a ∧ Rep ρ h a o := by
  have hi := (List.getElem?_eq_some_iff.mp e).1
  have hi' : i < ρ.length := W.len ▸ hi
  exact ⟨ρ[i], List.getElem?_eq_getElem hi', W.rep i _ o (List.getElem?_eq_getElem hi') e⟩
theorem Wd.of_mem {h₀ : Heap} {ρ : List Addr} {mem : Mem} {h : Heap} (W : Wd h₀ ρ mem h) {a : Addr} (m : a ∈ ρ) : ∃ (i : Nat) (o : MObj), ρ[i]? = some a ∧ mem[i]? = some o ∧ Rep ρ h a o := by
  obtain ⟨i, hi, rfl⟩ := List.getElem_of_mem m
  have hi' : i < mem.length := W.len ▸ hi
  exact ⟨i, mem[i], List.getElem?_eq_getElem hi, List.getElem?_eq_getElem hi', W.rep i _ _ (List.getElem?_eq_getElem hi) (List.getElem?_eq_getElem hi')⟩
theorem Wd.live {h₀ : Heap} {ρ : List Addr} {mem : Mem} {h : Heap} (W : Wd h₀ ρ mem h) {a : Addr} (m : a ∈ ρ) : ∃ ob, h.get? a = some ob := by
  obtain ⟨i, o, _, _, r⟩ := W.of_mem m
  cases o with
  | list => obtain ⟨_, _, e, _⟩ := r; exact ⟨_, e⟩
  | inst => obtain ⟨_, _, e⟩ := r; exact ⟨_, e⟩
  | sdict => obtain ⟨_, _, e, _⟩ := r; exact ⟨_, e⟩
  | idict => obtain ⟨⟨_, _, _, _, e, _⟩, _⟩ := r; exact ⟨_, e⟩
theorem Wd.out {h₀ : Heap} {ρ : List Addr} {mem : Mem} {h : Heap} (W : Wd h₀ ρ mem h) {a : Addr} (hn : h.get? a = none) : a ∉ ρ := fun m => (W.live m).elim fun _ e => noS (hn.symm.trans e)
theorem Wd.base_none {h₀ : Heap} {ρ : List Addr} {mem : Mem} {h : Heap} (W : Wd h₀ ρ mem h) {a : Addr} (hn : h.get? a = none) : h₀.get? a = none :=
  Option.eq_none_iff_forall_ne_some.mpr fun o q => noS (hn.symm.trans (W.base _ _ q))
theorem Wd.notIn {h₀ : Heap} {ρ : List Addr} {mem : Mem} {h : Heap} (W : Wd h₀ ρ mem h) {a : Addr} {o : Obj} (hc : o.cls = .type "tuple" ∨ o.cls = .type "range") (e : h.get? a = some o) : a ∉ ρ := fun m => by
  obtain ⟨i, ob, _, _, r⟩ := W.of_mem m
  rcases hc with hc | hc
  · exact (r.cls e).1 hc
  · exact (r.cls e).2 hc
theorem Wd.keepT {h₀ : Heap} {ρ ρ' : List Addr} {mem : Mem} {h h' : Heap} (W : Wd h₀ ρ mem h) (S : Step ρ ρ' h h') : KeepT ρ ρ' h h' :=
  ⟨fun _ _ e => S.get e, fun b o hc e => S.keep b o (W.notIn hc.1 e) e⟩
theorem Val.step {h₀ : Heap} {ρ ρ' : List Addr} {mem : Mem} {h h' : Heap} {v : Value} {a : AV} (x : Val ρ h v a) (W : Wd h₀ ρ mem h) (S : Step ρ ρ' h h') : Val ρ' h' v a := x.keepT (W.keepT S)
theorem Vals.step {h₀ : Heap} {ρ ρ' : List Addr} {mem : Mem} {h h' : Heap} {v : List Value} {a : List AV} (x : Vals ρ h v a) (W : Wd h₀ ρ mem h) (S : Step ρ ρ' h h') : Vals ρ' h' v a := x.keepT (W.keepT S)

theorem Rep.keeps {ρ : List Addr} {h h' : Heap} (k : ∀ b o, h.get? b = some o → h'.get? b = some o) {a : Addr} {o : MObj} (r : Rep ρ h a o) : Rep ρ h' a o := by
  have kt : KeepT ρ ρ h h' := ⟨fun _ _ e => e, fun b o _ e => k b o e⟩
  cases o with
  | list xs => obtain ⟨vs, n, e, x⟩ := r; exact ⟨vs, n, k _ _ e, x.keepT kt⟩
  | inst c d => obtain ⟨dx, hd, e⟩ := r; exact ⟨dx, hd, k _ _ e⟩
  | sdict fs => obtain ⟨es, n, e, x⟩ := r; exact ⟨es, n, k _ _ e, x.keepT kt⟩
  | idict c =>
    obtain ⟨⟨f, o', es, ep, e, r⟩, le⟩ := r
    exact ⟨⟨f, o', es, ep, k _ _ e, r⟩, fun o₂ es₂ ep₂ e₂ d₂ => by rw [k _ _ e] at e₂; cases e₂; exact le _ _ _ e d₂⟩
theorem Wd.keeps {h₀ : Heap} {ρ : List Addr} {mem : Mem} {h h' : Heap} (W : Wd h₀ ρ mem h) (k : ∀ b o, h.get? b = some o → h'.get? b = some o) : Wd h₀ ρ mem h' :=
  ⟨W.len, W.nodup, fun i a o e1 e2 => (W.rep i a o e1 e2).keeps k, fun b o e => k b o (W.base b o e), W.fresh⟩
theorem Wd.push {h₀ : Heap} {ρ : List Addr} {mem : Mem} {h : Heap} (W : Wd h₀ ρ mem h) (o : Obj) : Wd h₀ ρ mem (h.push o) := W.keeps fun b o' e => Heap.get?_push_of_some o e

theorem Rep.but {ρ ρ' : List Addr} {h h' : Heap} {c : Addr} (kt : KeepT ρ ρ' h h') (k : ∀ b o, b ≠ c → h.get? b = some o → h'.get? b = some o) {a : Addr} {o : MObj} (hne : a ≠ c) (r : Rep ρ h a o) : Rep ρ' h' a o := by
  cases o with
  | list xs => obtain ⟨vs, n, e, x⟩ := r; exact ⟨vs, n, k _ _ hne e, x.keepT kt⟩
  | inst c d => obtain ⟨dx, hd, e⟩ := r; exact ⟨dx, kt.1 _ _ hd, k _ _ hne e⟩
  | sdict fs => obtain ⟨es, n, e, x⟩ := r; exact ⟨es, n, k _ _ hne e, x.keepT kt⟩
  | idict c =>
    obtain ⟨⟨f, o', es, ep, e, r⟩, le⟩ := r
    exact ⟨⟨f, o', es, ep, k _ _ hne e, r⟩, fun o₂ es₂ ep₂ e₂ d₂ => by rw [k _ _ hne e] at e₂; cases e₂; exact le _ _ _ e d₂⟩

theorem Wd.upd {h₀ : Heap} {ρ : List Addr} {mem : Mem} {h h' : Heap} (W : Wd h₀ ρ mem h) {i : Nat} {a : Addr} {o o' : MObj} (hi : mem[i]? = some o) (ha : ρ[i]? = some a)
    (hs : Heap.SameBut a h h') (hr : (∀ kt : KeepT ρ ρ h h', Rep ρ h' a o')) : Wd h₀ ρ (mem.set i o') h' ∧ Step ρ ρ h h' := by
  have hm : a ∈ ρ := List.mem_of_getElem? ha
  have S : Step ρ ρ h h' := ⟨⟨[], by simp⟩, fun a h1 h2 => absurd h1 h2, fun b ob hb e => (hs.2 b (fun q => hb (q ▸ hm))).trans e⟩
  have kt := W.keepT S
  refine ⟨⟨by rw [List.length_set]; exact W.len, W.nodup, fun j b ob e1 e2 => ?_, fun b ob e => ?_, W.fresh⟩, S⟩
  · by_cases hj : i = j
    · subst hj
      rw [ha] at e1; cases e1
      rw [List.getElem?_set_self (List.getElem?_eq_some_iff.mp hi).1] at e2
      cases e2
      exact hr kt
    · rw [List.getElem?_set_ne hj] at e2
      refine (W.rep j b ob e1 e2).but kt (fun b' o'' hb' e' => (hs.2 b' hb').trans e') fun q => hj ?_
      subst q
      obtain ⟨l1, e1'⟩ := List.getElem?_eq_some_iff.mp e1
      obtain ⟨l2, e2'⟩ := List.getElem?_eq_some_iff.mp ha
      exact (List.getElem_inj W.nodup).mp (e2'.trans e1'.symm)
  · refine (hs.2 b (fun q => ?_)).trans (W.base b ob e)
    subst q
    rw [W.fresh _ hm] at e; cases e

theorem Wd.new {h₀ : Heap} {ρ : List Addr} {mem : Mem} {h : Heap} (W : Wd h₀ ρ mem h) {ob : Obj} {o : MObj} (hf : ob.isFreed = false) (hr : Rep (ρ ++ [h.objs.size]) (h.push ob) h.objs.size o) :
    Wd h₀ (ρ ++ [h.objs.size]) (mem ++ [o]) (h.push ob) ∧ Step ρ (ρ ++ [h.objs.size]) h (h.push ob) := by
  have hnone : h.get? h.objs.size = none := by
    cases q : h.get? h.objs.size with
    | none => rfl
    | some o => exact absurd (Heap.lt_size q) (Nat.lt_irrefl _)
  have hout : h.objs.size ∉ ρ := W.out hnone
  have S : Step ρ (ρ ++ [h.objs.size]) h (h.push ob) := ⟨⟨_, rfl⟩, fun a h1 h2 => by
      rcases List.mem_append.mp h1 with m | m
      · exact absurd m h2
      · rw [List.mem_singleton.mp m]; exact hnone, fun b o' _ e => Heap.get?_push_of_some ob e⟩
  have kt := W.keepT S
  refine ⟨⟨by simp [W.len], List.nodup_append.mpr ⟨W.nodup, by simp, fun a ha b hb => ?_⟩, fun i a o' e1 e2 => ?_, fun b o' e => Heap.get?_push_of_some ob (W.base b o' e), fun a ha => ?_⟩, S⟩
  · rw [List.mem_singleton.mp hb]; exact fun q => hout (q ▸ ha)
  · by_cases hi : i < mem.length
    · rw [List.getElem?_append_left hi] at e2
      rw [List.getElem?_append_left (W.len ▸ hi)] at e1
      have r := W.rep i a o' e1 e2
      exact r.but (c := h.objs.size) kt (fun b o'' _ e => Heap.get?_push_of_some ob e) (fun q => hout (q ▸ List.mem_of_getElem? e1))
    · have hi2 : i < (mem ++ [o]).length := (List.getElem?_eq_some_iff.mp e2).1
      have hi3 : i = mem.length := by simp at hi2; omega
      subst hi3
      rw [List.getElem?_append_right (Nat.le_refl _), Nat.sub_self] at e2
      rw [← W.len, List.getElem?_append_right (Nat.le_refl _), Nat.sub_self] at e1
      simp at e1 e2
      subst e1 e2
      exact hr
  · rcases List.mem_append.mp ha with m | m
    · exact W.fresh a m
    · rw [List.mem_singleton.mp m]
      exact W.base_none hnone

section
variable {ρ : List Addr} {h : Heap} {vs ws : List Value} {as bs : List AV} {v : Value} {a : AV}
theorem Vals.ind {R : List Value → List AV → Prop} (h8 : R [] []) (h9 : ∀ {v vs a as}, Val ρ h v a → Vals ρ h vs as → R vs as → R (v :: vs) (a :: as)) (x : Vals ρ h vs as) : R vs as :=
  ((Val.both (P := Val ρ h) (R := fun vs as => Vals ρ h vs as ∧ R vs as) .none .bool .int .str (fun g r => .tup g r.1) .rng .obj ⟨.nil, h8⟩ fun x r => ⟨.cons x r.1, h9 x r.1 r.2⟩).2 x).2
theorem Vals.length (x : Vals ρ h vs as) : vs.length = as.length := Vals.ind (R := fun vs as => vs.length = as.length) rfl (fun _ _ e => congrArg (· + 1) e) x
theorem Vals.append (x : Vals ρ h vs as) (y : Vals ρ h ws bs) : Vals ρ h (vs ++ ws) (as ++ bs) := Vals.ind (R := fun vs as => Vals ρ h (vs ++ ws) (as ++ bs)) y (fun x _ r => .cons x r) x
theorem Vals.get (x : Vals ρ h vs as) : ∀ {k : Nat} {a : AV}, as[k]? = some a → ∃ v, vs[k]? = some v ∧ Val ρ h v a :=
  Vals.ind (R := fun vs as => ∀ {k : Nat} {a : AV}, as[k]? = some a → ∃ v, vs[k]? = some v ∧ Val ρ h v a) (fun e => by cases e) (fun {v _ _ _} x _ r k _ e => by
    cases k with
    | zero => cases e; exact ⟨v, rfl, x⟩
    | succ k => exact r e) x
theorem Vals.take (k : Nat) (x : Vals ρ h vs as) : Vals ρ h (vs.take k) (as.take k) :=
  Vals.ind (R := fun vs as => ∀ k, Vals ρ h (vs.take k) (as.take k)) (fun k => by cases k <;> exact .nil) (fun x _ r k => by
    cases k with
    | zero => exact .nil
    | succ k => exact .cons x (r k)) x k
theorem Vals.drop (k : Nat) (x : Vals ρ h vs as) : Vals ρ h (vs.drop k) (as.drop k) :=
  Vals.ind (R := fun vs as => ∀ k, Vals ρ h (vs.drop k) (as.drop k)) (fun k => by cases k <;> exact .nil) (fun x y r k => by
    cases k with
    | zero => exact .cons x y
    | succ k => exact r k) x k
theorem Vals.set (y : Val ρ h v a) (k : Nat) (x : Vals ρ h vs as) : Vals ρ h (vs.set k v) (as.set k a) :=
  Vals.ind (R := fun vs as => ∀ k, Vals ρ h (vs.set k v) (as.set k a)) (fun k => .nil) (fun x z r k => by
    cases k with
    | zero => exact .cons y z
    | succ k => exact .cons x (r k)) x k
theorem Vals.reverse (x : Vals ρ h vs as) : Vals ρ h vs.reverse as.reverse :=
  Vals.ind (R := fun vs as => Vals ρ h vs.reverse as.reverse) .nil (fun x _ r => by rw [List.reverse_cons, List.reverse_cons]; exact r.append (.cons x .nil)) x
end

theorem Val.readsB {ρ : List Addr} {h : Heap} {mem : Mem} : (∀ {v a}, Val ρ h v a → ∀ d, toPy mem a = some d → ∃ as, Reads h v d as) ∧ ∀ {vs as}, Vals ρ h vs as → ∀ ds, toPys mem as = some ds → ∃ bs, ReadsAll h vs ds bs := by
  refine Val.both (fun _ e => ?_) (fun b _ e => ?_) (fun i t _ e => ?_) (fun s t _ e => ?_) (fun g r d e => ?_) (fun _ _ e => ?_) (fun _ _ e => ?_) (fun _ e => ?_) fun {v vs a as} x r d e => ?_
  · cases e; exact ⟨_, .none⟩
  · cases e; exact ⟨_, .bool b⟩
  · cases e; exact ⟨_, .int i t⟩
  · cases e; exact ⟨_, .str s t⟩
  · obtain ⟨ds, e2, rfl⟩ := Option.map_eq_some_iff.mp e
    obtain ⟨as, x⟩ := r _ e2
    exact ⟨as, .tuple g rfl rfl (by simpa using x)⟩
  · cases e
  · cases e
  · cases e; exact ⟨_, .nil⟩
  · change (match toPy mem a, toPys mem as with | some d, some ds => some (d :: ds) | _, _ => Option.none) = some d at e
    cases h1 : toPy mem a with
    | none => rw [h1] at e; cases e
    | some d =>
      cases h2 : toPys mem as with
      | none => rw [h1, h2] at e; cases e
      | some ds =>
        rw [h1, h2] at e
        cases e
        obtain ⟨as1, y⟩ := x _ h1
        obtain ⟨as2, z⟩ := r _ h2
        exact ⟨_, .cons y z⟩
theorem Val.reads {ρ : List Addr} {h : Heap} {mem : Mem} {v : Value} {a : AV} {d : PyData} (x : Val ρ h v a) (e : toPy mem a = some d) : ∃ as, Reads h v d as := Val.readsB.1 x d e
theorem Vals.reads {ρ : List Addr} {h : Heap} {mem : Mem} {vs : List Value} {as : List AV} {ds : List PyData} (x : Vals ρ h vs as) (e : toPys mem as = some ds) : ∃ bs, ReadsAll h vs ds bs := Val.readsB.2 x ds e
theorem reads_data {h₀ : Heap} {ρ : List Addr} {h : Heap} {mem : Mem} (W : Wd h₀ ρ mem h) {v : Value} {a : AV} {d : PyData} (x : Val ρ h v a) (e : dataOf mem a = some d) : ∃ as, Reads h v d as := by
  cases x with
  | obj g =>
    rename_i adr n
    simp only [dataOf] at e
    split at e
    · rename_i xs hm
      simp only [Option.map_eq_some_iff] at e
      obtain ⟨ds, e, rfl⟩ := e
      obtain ⟨vs, k, hg, r⟩ := W.rep n adr _ g hm
      obtain ⟨as, y⟩ := Vals.reads r e
      exact ⟨_, .list hg rfl rfl (by simpa using y)⟩
    · cases e
  | none => exact Val.reads (ρ := ρ) .none (by simpa [dataOf] using e)
  | bool b => exact Val.reads (ρ := ρ) (.bool b) (by simpa [dataOf] using e)
  | int i t => exact Val.reads (ρ := ρ) (.int i t) (by simpa [dataOf] using e)
  | str s t => exact Val.reads (ρ := ρ) (.str s t) (by simpa [dataOf] using e)
  | tup g r => exact Val.reads (.tup g r) (by simpa [dataOf] using e)
  | rng g => exact Val.reads (ρ := ρ) (.rng g) (by simpa [dataOf] using e)

end Mine
end

section
open PySem PySem.Spec PySem.Calls PyProof.Rows PySem.W
set_option linter.unusedVariables false
set_option autoImplicit false
namespace Mine

noncomputable def Ok (h₀ : Heap) (ρ : List Addr) (s : Shared) (mem' : Mem) (a : AV) (Q : Value → Shared → Prop) : Prop :=
  ∀ v ρ' h' tk', Wd h₀ ρ' mem' h' → Step ρ ρ' s.heap h' → Val ρ' h' v a → Q v { s with heap := h', toks := tk' }
noncomputable def OkU (h₀ : Heap) (ρ : List Addr) (s : Shared) (mem' : Mem) (Q : Unit → Shared → Prop) : Prop :=
  ∀ ρ' h' tk', Wd h₀ ρ' mem' h' → Step ρ ρ' s.heap h' → Q () { s with heap := h', toks := tk' }
structure Room (A : Around) (n : Nat) : Prop where
  depth : A.depth + 3 * n < recursionLimit
  units : A.units + 20 * n + 200 < cLine
  handled : A.handled = none

theorem sizeLine_big : (1000001 : Nat) ≤ sizeLine := by rw [sizeLine_eq]; decide
theorem szOk_le {n : Nat} (h : szOk n = true) : n ≤ 1000000 := of_decide_eq_true h

section
variable {prog : Program} {w : World} {A : Around} {E : Value → Shared → Prop} {s : Shared} {h₀ : Heap} {ρ : List Addr} {mem mem' : Mem} {v u : Value} {a b r : AV}

theorem Ok.same {Q : Value → Shared → Prop} (k : Ok h₀ ρ s mem a Q) (W : Wd h₀ ρ mem s.heap) {v : Value} (x : Val ρ s.heap v a) (tk : Nat) : Q v { s with toks := tk } :=
  k v ρ s.heap tk W (Step.refl _ _) x
theorem Ok.same' {Q : Value → Shared → Prop} (k : Ok h₀ ρ s mem a Q) (W : Wd h₀ ρ mem s.heap) {v : Value} (x : Val ρ s.heap v a) : Q v s :=
  k v ρ s.heap s.toks W (Step.refl _ _) x

theorem new_list (W : Wd h₀ ρ mem s.heap) {vs : List Value} {xs : List AV} (x : Vals ρ s.heap vs xs) :
    Wd h₀ (ρ ++ [s.heap.objs.size]) (mem ++ [.list xs]) (s.heap.push (listOb vs 0)) ∧ Step ρ (ρ ++ [s.heap.objs.size]) s.heap (s.heap.push (listOb vs 0)) ∧
    Val (ρ ++ [s.heap.objs.size]) (s.heap.push (listOb vs 0)) (.ref s.heap.objs.size) (.obj mem.length) := by
  have kt : KeepT ρ (ρ ++ [s.heap.objs.size]) s.heap (s.heap.push (listOb vs 0)) := ⟨fun n a e => by
    rw [List.getElem?_append_left (List.getElem?_eq_some_iff.mp e).1]; exact e, fun b o _ e => Heap.get?_push_of_some _ e⟩
  obtain ⟨W', S⟩ := W.new (ob := listOb vs 0) (o := .list xs) rfl ⟨vs, 0, Heap.get?_push_size _ rfl, x.keepT kt⟩
  refine ⟨W', S, .obj ?_⟩
  rw [← W.len, List.getElem?_append_right (Nat.le_refl _), Nat.sub_self]; rfl
theorem new_tuple (W : Wd h₀ ρ mem s.heap) {vs : List Value} {xs : List AV} (x : Vals ρ s.heap vs xs) :
    Wd h₀ ρ mem (s.heap.push (tupOb vs 0)) ∧ Step ρ ρ s.heap (s.heap.push (tupOb vs 0)) ∧ Val ρ (s.heap.push (tupOb vs 0)) (.ref s.heap.objs.size) (.tup xs) :=
  ⟨W.push _, Step.push _, .tup (Heap.get?_push_size _ rfl) (x.step W (Step.push _))⟩
theorem Ok.newList {Q : Value → Shared → Prop} {xs : List AV} (k : Ok h₀ ρ s (mem ++ [.list xs]) (.obj mem.length) Q) (W : Wd h₀ ρ mem s.heap) {vs : List Value} (x : Vals ρ s.heap vs xs) (tk : Nat) :
    Q (.ref s.heap.objs.size) { s with heap := s.heap.push (listOb vs 0), toks := tk } :=
  let ⟨W', S, V⟩ := new_list W x
  k _ _ _ _ W' S V
theorem Ok.newTuple {Q : Value → Shared → Prop} {xs : List AV} (k : Ok h₀ ρ s mem (.tup xs) Q) (W : Wd h₀ ρ mem s.heap) {vs : List Value} (x : Vals ρ s.heap vs xs) (tk : Nat) :
    Q (.ref s.heap.objs.size) { s with heap := s.heap.push (tupOb vs 0), toks := tk } :=
  let ⟨W', S, V⟩ := new_tuple W x
  k _ _ _ _ W' S V

omit s v u in
theorem int3 {β : Type} {f : Int → Int → Option β} {r : β} (e : (match a, b with | .int x, .int y => f x y | _, _ => Option.none) = some r) : ∃ x y, a = .int x ∧ b = .int y ∧ f x y = some r := by
  cases a with
  | int x => cases b with
    | int y => exact ⟨x, y, rfl, rfl, e⟩
    | _ => exact noS e
  | _ => exact noS e
omit s v u in
theorem bA_ints {op : Operator} {r : AV × Mem} (e : binA op a b mem = some r) (ho : op ≠ .Add) : ∃ x y, a = .int x ∧ b = .int y := by
  cases op <;> first | exact absurd rfl ho | exact noS e | (cases a <;> first | exact noS e | (cases b <;> first | exact ⟨_, _, rfl, rfl⟩ | exact noS e))
theorem bA_objs {i j : Nat} {mem : Mem} {r : AV × Mem} (e : binA .Add (.obj i) (.obj j) mem = some r) : ∃ xs ys, mem[i]? = some (.list xs) ∧ mem[j]? = some (.list ys) ∧ (if szOk (xs.length + ys.length) then some (AV.obj mem.length, mem ++ [.list (xs ++ ys)]) else Option.none) = some r := by
  change (match mem[i]?, mem[j]? with | some (.list xs), some (.list ys) => if szOk (xs.length + ys.length) then some (AV.obj mem.length, mem ++ [.list (xs ++ ys)]) else Option.none | _, _ => Option.none) = some r at e
  generalize mem[i]? = p, mem[j]? = q at e ⊢
  cases p with
  | none => cases e
  | some p => cases p with
    | list xs => cases q with
      | none => cases e
      | some q => cases q with
        | list ys => exact ⟨xs, ys, rfl, rfl, e⟩
        | _ => exact noS e
    | _ => exact noS e
theorem bin_sound {op : Operator} {Q : Value → Shared → Prop} (e : binA op a b mem = some (r, mem')) (W : Wd h₀ ρ mem s.heap) (x : Val ρ s.heap v a) (y : Val ρ s.heap u b) (k : Ok h₀ ρ s mem' r Q) :
    wpAny (model prog w) A (binaryOp op v u) Q E s := by
  cases op with
  | Add => cases a with
    | int i => cases b with
      | int j => cases e; obtain ⟨_, rfl⟩ := x.int_inv; obtain ⟨_, rfl⟩ := y.int_inv; exact add_int (k.same W (.int _ _) _)
      | _ => exact noS e
    | tup xs => cases b with
      | tup ys =>
        rw [bA_tup] at e
        split at e
        · rename_i hy
          have hz := szOk_le hy
          cases e
          obtain ⟨a1, vs1, n1, rfl, g1, r1⟩ := x.tup_inv
          obtain ⟨a2, vs2, n2, rfl, g2, r2⟩ := y.tup_inv
          have l1 := r1.length
          have l2 := r2.length
          by_cases h1 : vs1 = []
          · subst h1
            obtain rfl := r1.nil_l
            refine concat_meets ⟨_, g1, rfl⟩ ⟨_, g2, rfl⟩ noFill_tuple_add seq_tuple_add F.slot_tuple_add F.entry_tuple_add (F.args_tuple_add_2 _ _) (AutoSeq1.tuple___add___tuple_tuple_0 _ _ n1 _ _ n2 rfl) ⟨g1, g2, ?_⟩
            exact k.same' W (.tup g2 r2)
          · by_cases h2 : vs2 = []
            · subst h2
              obtain rfl := r2.nil_l
              refine concat_meets ⟨_, g1, rfl⟩ ⟨_, g2, rfl⟩ noFill_tuple_add seq_tuple_add F.slot_tuple_add F.entry_tuple_add (F.args_tuple_add_2 _ _) (AutoSeq1.tuple___add___tuple_tuple_1 _ _ n1 _ _ n2 (by simpa using h1) rfl) ⟨g1, g2, ?_⟩
              rw [List.append_nil] at k
              exact k.same' W (.tup g1 r1)
            · have hb := sizeLine_big
              refine P.add_tuple g1 g2 (by simpa using h1) (by simpa using h2) ?_ (by rw [List.size_toArray, List.size_toArray]; omega)
              have q := k.newTuple W (r1.append r2) s.toks
              rw [List.append_toArray]
              exact q
        · cases e
      | _ => exact noS e
    | obj i => cases b with
      | obj j =>
        obtain ⟨xs, ys, hi, hj, e⟩ := bA_objs e
        split at e
        · rename_i hy
          have hz := szOk_le hy
          cases e
          obtain ⟨_, rfl, g1⟩ := x.obj_inv
          obtain ⟨_, rfl, g2⟩ := y.obj_inv
          obtain ⟨vs1, n1, e1, r1⟩ := W.rep _ _ _ g1 hi
          obtain ⟨vs2, n2, e2, r2⟩ := W.rep _ _ _ g2 hj
          have l1 := r1.length
          have l2 := r2.length
          have hb := sizeLine_big
          refine P.add_list e1 e2 ?_ (by rw [List.size_toArray, List.size_toArray]; omega)
          have q := k.newList W (r1.append r2) s.toks
          rw [List.append_toArray]
          exact q
        · cases e
      | _ => exact noS e
    | _ => exact noS e
  | Sub =>
    obtain ⟨i, j, rfl, rfl⟩ := bA_ints e nofun
    cases e; obtain ⟨_, rfl⟩ := x.int_inv; obtain ⟨_, rfl⟩ := y.int_inv
    exact sub_int (k.same W (.int _ _) _)
  | Mod =>
    obtain ⟨i, j, rfl, rfl⟩ := bA_ints e nofun
    replace e : (if j = 0 then Option.none else some (AV.int (i.fmod j), mem)) = some (r, mem') := e
    split at e
    · cases e
    · rename_i hy
      cases e; obtain ⟨_, rfl⟩ := x.int_inv; obtain ⟨_, rfl⟩ := y.int_inv
      exact mod_int' hy (k.same W (.int _ _) _)
  | FloorDiv =>
    obtain ⟨i, j, rfl, rfl⟩ := bA_ints e nofun
    replace e : (if j ≠ 0 ∧ j.natAbs < 1000 then some (AV.int (i.fdiv j), mem) else Option.none) = some (r, mem') := e
    split at e
    · rename_i hy
      cases e; obtain ⟨_, rfl⟩ := x.int_inv; obtain ⟨_, rfl⟩ := y.int_inv
      exact floordiv_int hy.1 (k.same W (.int _ _) _) (.inl (PyProof.noPylong_small (by omega)))
    · cases e
  | Pow =>
    obtain ⟨i, j, rfl, rfl⟩ := bA_ints e nofun
    replace e : (if 0 ≤ j ∧ j ≤ 1000 ∧ i.natAbs < 1000 then some (AV.int (i ^ j.toNat), mem) else Option.none) = some (r, mem') := e
    split at e
    · rename_i hy
      cases e; obtain ⟨_, rfl⟩ := x.int_inv; obtain ⟨_, rfl⟩ := y.int_inv
      exact pow_int_small hy.1 (by omega) (by omega) (k.same W (.int _ _) _)
    · cases e
  | _ => exact noS e

theorem eqA_data {c : Bool} (e : eqA mem a b = some c) : ∃ d f, dataOf mem a = some d ∧ dataOf mem b = some f ∧ okPy d = true ∧ okPy f = true ∧ c = PyData.eqv d f := by
  unfold eqA at e
  split at e
  · rename_i d f h1 h2
    split at e
    · rename_i h
      obtain ⟨h3, h4⟩ := Bool.and_eq_true_iff.mp h
      cases e
      exact ⟨d, f, h1, h2, h3, h4, rfl⟩
    · cases e
  · cases e

theorem eqAt_sound {c : Bool} (e : eqA mem a b = some c) (W : Wd h₀ ρ mem s.heap) (x : Val ρ s.heap v a) (y : Val ρ s.heap u b) (hu : A.units + 64 < cLine) : SeqAt.EqAt A s v u c := by
  obtain ⟨d, f, h1, h2, h3, h4, rfl⟩ := eqA_data e
  obtain ⟨as, r1⟩ := reads_data W x h1
  obtain ⟨bs, r2⟩ := reads_data W y h2
  exact SeqAt.eqAt_reads d f A s v u as bs r1 r2 (SeqAt.canLay_of_shaped h3) (SeqAt.canLay_of_shaped h4) (SeqAt.room_of_shaped h3 hu)

noncomputable def eqTo (h : Heap) (f : PyData) (y : Value) : Bool := @decide (∃ d as, Reads h y d as ∧ d.canLay0 = true ∧ PyData.eqv d f = true) (Classical.propDecidable _)
theorem eqTo_is {h : Heap} {f d : PyData} {y : Value} {as : List Addr} (r : Reads h y d as) (hd : d.canLay0 = true) : eqTo h f y = PyData.eqv d f := by
  unfold eqTo
  by_cases q : PyData.eqv d f = true
  · rw [q]; exact @decide_eq_true _ (Classical.propDecidable _) ⟨d, as, r, hd, q⟩
  · rw [Bool.not_eq_true] at q
    rw [q]
    refine @decide_eq_false _ (Classical.propDecidable _) ?_
    rintro ⟨d', as', r', hd', q'⟩
    rw [SeqAt.Reads.unique d' d y as' as hd' r' r, q] at q'
    cases q'
theorem any_sound (W : Wd h₀ ρ mem s.heap) {f : PyData} (hb : dataOf mem b = some f) (hf : okPy f = true) (y : Val ρ s.heap u b) (hu : A.units + 64 < cLine) :
    ∀ {vs : List Value} {xs : List AV} {c : Bool}, Vals ρ s.heap vs xs → anyEq mem b xs = some c → vs.any (eqTo s.heap f) = c ∧ ∀ z ∈ vs, SeqAt.EqAt A s z u (eqTo s.heap f z)
  | _, _, c, .nil, e => by simp [anyEq] at e; subst e; exact ⟨rfl, fun _ h => nomatch h⟩
  | _, _, c, .cons (v := v) (a := a) (as := as) x r, e => by
    unfold anyEq at e
    split at e
    · rename_i c1 c2 e1 e2
      refine gI fun Gz gz => ?_
      cases e
      obtain ⟨i1, i2⟩ := any_sound W hb hf y hu r e2
      obtain ⟨d, f', h1, h2, h3, h4, h5⟩ := eqA_data e1
      rw [hb] at h2; cases h2
      obtain ⟨as, r1⟩ := reads_data W x h1
      have q := eqTo_is (f := f) r1 (SeqAt.canLay_of_shaped h3)
      refine gz ?_
      refine ⟨by rw [List.any_cons, i1, q, h5], fun z hz => ?_⟩
      rcases List.mem_cons.mp hz with rfl | hz
      · rw [q, ← h5]; exact eqAt_sound e1 W x y hu
      · exact i2 z hz
    · cases e

theorem items_sound (W : Wd h₀ ρ mem s.heap) {xs : List AV} (x : Val ρ s.heap v a) (e : itemsA mem a = some xs) :
    ∃ l vs, v = .ref l ∧ Vals ρ s.heap vs xs ∧ ((∃ n, a = .tup xs ∧ s.heap.get? l = some (tupOb vs n)) ∨ (∃ n i, a = .obj i ∧ mem[i]? = some (.list xs) ∧ ρ[i]? = some l ∧ s.heap.get? l = some (listOb vs n))) := by
  unfold itemsA at e
  split at e
  · cases e
    cases x with | tup g r => exact ⟨_, _, rfl, r, .inl ⟨_, rfl, g⟩⟩
  · split at e
    · rename_i i xs' hm
      cases e
      obtain ⟨_, rfl, g⟩ := x.obj_inv
      obtain ⟨vs, n, g', r⟩ := W.rep _ _ _ g hm
      exact ⟨_, _, rfl, r, .inr ⟨_, _, rfl, hm, g, g'⟩⟩
    · cases e
  · cases e

theorem anyEq_data : ∀ {xs : List AV} {c : Bool}, anyEq mem b xs = some c → xs ≠ [] → ∃ f, dataOf mem b = some f ∧ okPy f = true := by
  intro ys
  induction ys with
  | nil =>
    intro z0 z0 h
    exact absurd rfl h
  | cons y ys ih =>
    intro c e z0
    unfold anyEq at e
    split at e
    · rename_i c1 c2 e1 e2
      obtain ⟨d, f, h1, h2, h3, h4, h5⟩ := eqA_data e1
      exact ⟨f, h2, h4⟩
    · cases e
theorem in_sound {c : Bool} {xs : List AV} {Q : Value → Shared → Prop} (W : Wd h₀ ρ mem s.heap) (x : Val ρ s.heap v a) (y : Val ρ s.heap u b) (hx : itemsA mem b = some xs) (e : anyEq mem a xs = some c) (hu : A.units + 65 < cLine) :
    (Q (.bool c) s → wpAny (model prog w) A (compareOp .In v u) Q E s) ∧ (Q (.bool (!c)) s → wpAny (model prog w) A (compareOp .NotIn v u) Q E s) := by
  obtain ⟨l, vs, rfl, r, hl⟩ := items_sound W y hx
  have key : ∃ p : Value → Bool, vs.any p = c ∧ ∀ z ∈ vs, SeqAt.EqAt A.in1 s z v (p z) := by
    cases xs with
    | nil => cases r; simp [anyEq] at e; exact ⟨fun _ => false, by simp [e], fun _ h => nomatch h⟩
    | cons x0 xr =>
      obtain ⟨f, h1, h2⟩ := anyEq_data e (by simp)
      exact ⟨_, any_sound (A := A.in1) W h1 h2 x (by show A.units + 1 + 64 < cLine; omega) r e⟩
  obtain ⟨p, hp, hq⟩ := key
  have hp' : vs.toArray.any p = c := by rw [List.any_toArray]; exact hp
  have hq' : ∀ z, z ∈ vs.toArray → SeqAt.EqAt A.in1 s z v (p z) := fun z hz => hq z (by simpa using hz)
  rcases hl with ⟨n, _, g⟩ | ⟨n, _, _, _, _, g⟩
  · exact ⟨fun h => SeqAt.in_tupleAt p ⟨_, g, rfl, _, rfl⟩ hq' (by rw [hp']; exact h), fun h => SeqAt.notIn_tupleAt p ⟨_, g, rfl, _, rfl⟩ hq' (by rw [hp']; exact h)⟩
  · exact ⟨fun h => SeqAt.in_listAt p ⟨_, g, rfl, _, rfl⟩ hq' (by rw [hp']; exact h), fun h => SeqAt.notIn_listAt p ⟨_, g, rfl, _, rfl⟩ hq' (by rw [hp']; exact h)⟩

theorem cmp_sound {op : CmpOp} {c : Bool} {Q : Value → Shared → Prop} (e : cmpA op a b mem = some c) (W : Wd h₀ ρ mem s.heap) (x : Val ρ s.heap v a) (y : Val ρ s.heap u b) (hu : A.units + 65 < cLine) (k : Q (.bool c) s) :
    wpAny (model prog w) A (compareOp op v u) Q E s := by
  cases op with
  | Eq =>
    obtain ⟨d, f, h1, h2, h3, h4, rfl⟩ := eqA_data e
    obtain ⟨as, r1⟩ := reads_data W x h1
    obtain ⟨bs, r2⟩ := reads_data W y h2
    exact eq_dataH r1 r2 h3 h4 (by omega) k
  | NotEq =>
    obtain ⟨c', e2, rfl⟩ := Option.map_eq_some_iff.mp e
    obtain ⟨d, f, h1, h2, h3, h4, rfl⟩ := eqA_data e2
    obtain ⟨as, r1⟩ := reads_data W x h1
    obtain ⟨bs, r2⟩ := reads_data W y h2
    exact ne_dataH r1 r2 h3 h4 (by omega) k
  | Lt =>
    obtain ⟨i, j, rfl, rfl, e⟩ := int3 (f := fun i j => some (decide (i < j))) e
    cases e; obtain ⟨_, rfl⟩ := x.int_inv; obtain ⟨_, rfl⟩ := y.int_inv; exact P.lt_int k
  | LtE =>
    obtain ⟨i, j, rfl, rfl, e⟩ := int3 (f := fun i j => some (decide (i ≤ j))) e
    cases e; obtain ⟨_, rfl⟩ := x.int_inv; obtain ⟨_, rfl⟩ := y.int_inv; exact P.le_int k
  | Gt =>
    obtain ⟨i, j, rfl, rfl, e⟩ := int3 (f := fun i j => some (decide (i > j))) e
    cases e; obtain ⟨_, rfl⟩ := x.int_inv; obtain ⟨_, rfl⟩ := y.int_inv; exact P.gt_int k
  | GtE =>
    obtain ⟨i, j, rfl, rfl, e⟩ := int3 (f := fun i j => some (decide (i ≥ j))) e
    cases e; obtain ⟨_, rfl⟩ := x.int_inv; obtain ⟨_, rfl⟩ := y.int_inv; exact P.ge_int k
  | Is =>
    cases b <;> (try exact noS e)
    cases y
    refine is_none ?_
    cases Option.some.inj e
    cases x <;> first | exact k | (rw [decide_eq_false nofun] at k; exact k)
  | IsNot =>
    cases b <;> (try exact noS e)
    cases y
    refine isNot_none ?_
    cases Option.some.inj e
    cases x <;> first | exact k | (rw [decide_eq_true nofun] at k; exact k)
  | In =>
    rw [cm_in] at e
    cases hx : itemsA mem b with
    | none => rw [hx] at e; cases e
    | some xs => rw [hx] at e; exact (in_sound W x y hx e hu).1 k
  | NotIn =>
    rw [cm_ni] at e
    cases hx : itemsA mem b with
    | none => rw [hx] at e; cases e
    | some xs =>
      rw [hx] at e
      obtain ⟨c', e2, rfl⟩ := Option.map_eq_some_iff.mp e
      exact (in_sound W x y hx e2 hu).2 k
end
end Mine
end

section
open PySem PySem.Spec PySem.Calls PyProof.Rows PySem.W
set_option linter.unusedVariables false
set_option autoImplicit false
namespace Mine

inductive Bd : Value → Option Nat → Prop
  | none : Bd .none none
  | int (i : Nat) (t : Tok) : Bd (.int (i : Int) t) (some i)
theorem Bd.part {v : Value} {o : Option Nat} (b : Bd v o) : IsPart v (o.map fun (i : Nat) => (i : Int)) := by
  cases b with
  | none => exact .none
  | int i t => exact .int _ _
section
variable {prog : Program} {w : World} {A : Around} {E : Value → Shared → Prop} {s : Shared} {h₀ : Heap} {ρ : List Addr} {mem mem' : Mem} {v u : Value} {a b r : AV}

theorem slicePart_bd {v : Value} {o : Option Nat} (b : Bd v o) {Q : Option Int → Shared → Prop} (h : Q (o.map fun (i : Nat) => (i : Int)) s) : wpAny (model prog w) A (Builtin.Slice.slicePartIndex v) Q E s := by
  cases b with
  | none => exact slicePart_none h
  | int i t => exact slicePart_int h
theorem adjust_bd (lo hi : Option Nat) (n : Nat) : Builtin.Slice.sliceAdjust (lo.map fun (i : Nat) => (i : Int)) (hi.map fun (i : Nat) => (i : Int)) 1 (n : Int) = (((min (lo.getD 0) n : Nat) : Int), ((min (hi.getD n) n : Nat) : Int)) := by
  unfold Builtin.Slice.sliceAdjust
  have h1 : ¬ ((1 : Int) < 0) := by omega
  simp only [h1, if_false]
  cases lo <;> cases hi <;> simp <;> (try constructor) <;> (try rw [if_neg (by omega)]) <;> omega
theorem places_bd (l h : Nat) : Builtin.Slice.slicePlaces (l : Int) (h : Int) 1 = h - l := by
  unfold Builtin.Slice.slicePlaces
  have h1 : (1 : Int) > 0 := by omega
  simp only [h1, if_true, Int.ediv_one]
  split <;> omega
theorem pick_bd (xs : Array Value) (l h : Nat) : ((List.range (h - l)).filterMap fun (k : Nat) => xs[((l : Int) + (k : Int) * 1).toNat]?).toArray = ((xs.toList.take h).drop l).toArray := by
  have e : (fun (k : Nat) => xs[((l : Int) + (k : Int) * 1).toNat]?) = fun k => xs[l + k]? := by
    funext k
    have : ((l : Int) + (k : Int) * 1).toNat = l + k := by omega
    rw [this]
  rw [e]
  have := pick_run xs l (h - l)
  rw [List.filterMap_map] at this
  have e2 : ((fun x => xs[x]?) ∘ fun x => l + x) = fun k => xs[l + k]? := rfl
  rw [e2] at this
  rw [this, List.drop_take]

theorem sliceApplied_bd {sl : Addr} {vl vu : Value} {lo hi : Option Nat} {n : Nat} {Q : Int × Int × Nat → Shared → Prop} (hs : s.heap.IsSliceOf sl vl vu .none) (pl : Bd vl lo) (pu : Bd vu hi)
    (h : Q (((min (lo.getD 0) n : Nat) : Int), 1, min (hi.getD n) n - min (lo.getD 0) n) s) :
    wpAny (model prog w) A (Builtin.Slice.sliceApplied (.ref sl) (pure (n : Int))) Q E s := by
  obtain ⟨os, hos, hcs, hds⟩ := id hs
  unfold Builtin.Slice.sliceApplied Builtin.Slice.sliceFields
  refine wpAny_bind (wpAny_bind (wpAny_field hos hds (x := vl) rfl (wpAny_bind (wpAny_field hos hds (x := vu) rfl (wpAny_bind (wpAny_field hos hds (x := .none) rfl (wpAny_pure ?_)))))))
  refine wpAny_bind (slicePart_none ?_)
  show wpAny _ _ (if ((1 : Int) == 0) = true then _ else _) _ _ s
  rw [if_neg (by decide)]
  refine wpAny_bind (slicePart_bd pl (wpAny_bind (slicePart_bd pu (wpAny_bind (wpAny_pure ?_)))))
  show wpAny _ _ (match Builtin.Slice.sliceAdjust (lo.map fun (i : Nat) => (i : Int)) (hi.map fun (i : Nat) => (i : Int)) 1 (n : Int) with | (lo, hi) => pure (lo, (1 : Int), Builtin.Slice.slicePlaces lo hi 1)) _ _ s
  rw [adjust_bd lo hi n]
  show wpAny _ _ (pure (((min (lo.getD 0) n : Nat) : Int), (1 : Int), Builtin.Slice.slicePlaces ((min (lo.getD 0) n : Nat) : Int) ((min (hi.getD n) n : Nat) : Int) 1)) _ _ s
  rw [places_bd]
  exact wpAny_pure h

theorem getItem_tuple_slice {t sl : Addr} {items : Array Value} {vl vu : Value} {lo hi : Option Nat} {Q : Value → Shared → Prop} (ht : IsTup s.heap t items) (hs : s.heap.IsSliceOf sl vl vu .none) (pl : Bd vl lo) (pu : Bd vu hi)
    (h1 : (items.toList.take (min (hi.getD items.size) items.size)).drop (min (lo.getD 0) items.size) = items.toList → Q (.ref t) s)
    (h : Q (.ref s.heap.objs.size) { s with heap := s.heap.push { cls := .type "tuple", data := .seq ((items.toList.take (min (hi.getD items.size) items.size)).drop (min (lo.getD 0) items.size)).toArray } })
    (hsz : items.size ≤ sizeLine) : wpAny (model prog w) A (getItem (.ref t) (.ref sl)) Q E s := by
  have hdrop : sizeOk (.seq ((items.toList.take (min (hi.getD items.size) items.size)).drop (min (lo.getD 0) items.size)).toArray) := by
    show ((items.toList.take (min (hi.getD items.size) items.size)).drop (min (lo.getD 0) items.size)).toArray.size ≤ sizeLine
    rw [List.size_toArray, List.length_drop, List.length_take, Array.length_toList]
    omega
  obtain ⟨os, hos, hcs, hds⟩ := id hs
  have hTs : s.TypeIs (.ref sl) "slice" := ⟨os, hos, hcs⟩
  unfold getItem
  try with_reducible refine wpAny_holding ?_
  first | refine wpAny_bind (wpAny_pure ?_) | skip
  refine wpAny_bind (wpAny_sequenceKey ht.typeIs (by decide) ?_)
  refine wpAny_bind (wpAny_callSpecial?_slot (name := Str.ofString "__getitem__") ht.typeIs slot_tuple_getitem
    (wpAny_call_entry slot_tuple_getitem ht.typeIs entry_tuple_getitem ?_ (args_tuple_getitem _ _)))
  show wpAny _ _ (Builtin.Tuple.tupleItemsOf (.ref t) >>= _) _ _ s
  refine wpAny_bind (tupleItemsOf_ ht ?_)
  refine wpAny_bind (wpAny_typeOf hTs ?_)
  rw [if_pos (by decide)]
  refine wpAny_bind (sliceApplied_bd hs pl pu ?_)
  generalize hl : min (lo.getD 0) items.size = l at *
  generalize hh : min (hi.getD items.size) items.size = hgh at *
  have hle : hgh ≤ items.size := by omega
  show wpAny _ _ (if ((l : Int) == 0 && (1 : Int) == 1 && (hgh - l) == items.size) = true then _ else _) _ _ s
  by_cases hw : ((l : Int) == 0 && (1 : Int) == 1 && (hgh - l) == items.size) = true
  · rw [if_pos hw]
    simp at hw
    have e1 : l = 0 := by omega
    have e2 : hgh = items.size := by omega
    subst e1 e2
    have q := h1 (by rw [List.drop_zero]; exact List.take_of_length_le (by simp))
    unfold Builtin.Tuple.tupleIsExact
    refine wpAny_bind (wpAny_bind (wpAny_typeOf ht.typeIs (wpAny_pure ?_)))
    rw [if_pos (by decide)]
    exact wpAny_bind (wpAny_rule (wpAny_pure ⟨_, rfl, wpAny_pure q⟩))
  · rw [if_neg hw, pick_bd items l hgh]
    first
      | exact wpAny_bind (m := Builtin.Tuple.tupleExact _) (wpAny_newObj_type (wpAny_pure ⟨_, rfl, wpAny_pure h⟩) hdrop)
      | exact wpAny_bind (m := Builtin.Tuple.tupleExact _) (wpAny_newObj_type (wpAny_bind (wpAny_pure (wpAny_pure ⟨_, rfl, wpAny_pure h⟩))) hdrop)
      | exact wpAny_bind (wpAny_bind (m := Builtin.Tuple.tupleExact _) (wpAny_newObj_type (wpAny_pure (wpAny_pure ⟨_, rfl, wpAny_pure h⟩)) hdrop))
      | exact wpAny_bind (wpAny_bind (m := Builtin.Tuple.tupleExact _) (wpAny_newObj_type (wpAny_pure ⟨_, rfl, wpAny_pure h⟩) hdrop))

theorem setItem_at {l : Addr} {items : Array Value} {n : Nat} {k : Int} {t : Tok} {v : Value} {j : Nat} {Q : Unit → Shared → Prop} (hl : IsL s.heap l items n) (h0 : 0 ≤ k) (hfit : k < 2 ^ 63) (hn : k < items.size) (hj : j = k.toNat)
    (hQ : Q () { s with heap := s.heap.update l (Obj.mapSeq (·.setIfInBounds j v)) }) : wpAny (model prog w) A (setItem (.ref l) (.int k t) v) Q E s := by
  subst hj
  have hT : s.TypeIs (.ref l) "list" := ⟨_, hl, rfl⟩
  unfold setItem
  try with_reducible refine wpAny_holding ?_
  first | refine wpAny_bind (wpAny_pure ?_) | skip
  refine wpAny_bind (wpAny_sequenceKey hT (by decide) ?_)
  refine wpAny_bind (wpAny_callSpecial?_slot (name := Str.ofString "__setitem__") hT slot_list_setitem
    (wpAny_call_entry slot_list_setitem hT entry_list_setitem ?_ (args_list_setitem _ _ _)))
  show wpAny _ _ (Builtin.List.listSubscript? (.int k t) >>= _) _ _ s
  refine wpAny_bind (wpAny_listSubscript_int (fitsIndex_of h0 hfit) ?_)
  clear hfit
  obtain ⟨j, rfl⟩ := Int.eq_ofNat_of_zero_le h0
  have hj : j < items.size := by omega
  have hx' : items[j]? = some items[j] := Array.getElem?_eq_getElem hj
  show wpAny _ _ ((seqItemAt l j >>= fun r => pure (r.map (j, ·))) >>= _) _ _ s
  refine wpAny_bind (wpAny_bind (wpAny_seqItemAt hl rfl (wpAny_pure ?_)))
  rw [hx']
  show wpAny _ _ (setSeqItemAt l j v >>= _) _ _ s
  refine wpAny_bind (wpAny_setSeqItemAt hl rfl ?_)
  first
    | exact wpAny_bind (wpAny_pure (wpAny_pure ⟨.none, rfl, wpAny_pure hQ⟩))
    | exact wpAny_pure ⟨.none, rfl, wpAny_pure hQ⟩
theorem setItem_neg {l : Addr} {items : Array Value} {n : Nat} {k : Int} {t : Tok} {v : Value} {i : Nat} {Q : Unit → Shared → Prop} (hl : IsL s.heap l items n) (h0 : k < 0) (h1 : -(items.size : Int) ≤ k) (hfit : -(2 ^ 63) ≤ k) (hi : i = (k + items.size).toNat)
    (hQ : Q () { s with heap := s.heap.update l (Obj.mapSeq (·.setIfInBounds i v)) }) : wpAny (model prog w) A (setItem (.ref l) (.int k t) v) Q E s := by
  subst hi
  have hT : s.TypeIs (.ref l) "list" := ⟨_, hl, rfl⟩
  unfold setItem
  try with_reducible refine wpAny_holding ?_
  first | refine wpAny_bind (wpAny_pure ?_) | skip
  refine wpAny_bind (wpAny_sequenceKey hT (by decide) ?_)
  refine wpAny_bind (wpAny_callSpecial?_slot (name := Str.ofString "__setitem__") hT slot_list_setitem
    (wpAny_call_entry slot_list_setitem hT entry_list_setitem ?_ (args_list_setitem _ _ _)))
  show wpAny _ _ (Builtin.List.listSubscript? (.int k t) >>= _) _ _ s
  refine wpAny_bind (wpAny_listSubscript_int (fitsIndex_neg h0 hfit) ?_)
  clear hfit
  have hidx := seqIndex_neg h0 h1
  have hlt : (k + items.size).toNat < items.size := by omega
  have hx : items[(k + items.size).toNat]? = some items[(k + items.size).toNat] := Array.getElem?_eq_getElem hlt
  obtain ⟨j, rfl⟩ : ∃ j : Nat, k = Int.negSucc j := by
    cases k with
    | ofNat n => exact absurd h0 (Int.not_lt.mpr (Int.natCast_nonneg n))
    | negSucc n => exact ⟨n, rfl⟩
  show wpAny _ _ ((Builtin.List.listItems (.ref l) >>= fun xs => pure ((seqIndex? (Int.negSucc j) xs.size).bind fun i => xs[i]?.map (i, ·))) >>= _) _ _ s
  refine wpAny_bind (wpAny_bind ?_)
  show wpAny _ _ (seqItems? (.ref l) >>= _) _ _ s
  refine wpAny_bind (wpAny_seqItems hl rfl (wpAny_pure (wpAny_pure ?_)))
  rw [hidx]
  simp only [Option.bind_some, hx, Option.map_some]
  show wpAny _ _ (setSeqItemAt l _ v >>= _) _ _ s
  refine wpAny_bind (wpAny_setSeqItemAt hl rfl ?_)
  first
    | exact wpAny_bind (wpAny_pure (wpAny_pure ⟨.none, rfl, wpAny_pure hQ⟩))
    | exact wpAny_pure ⟨.none, rfl, wpAny_pure hQ⟩

theorem idx_pos {n : Nat} {i : Int} {j : Nat} (e : idx n i = some j) : n ≤ 1000000 ∧ j < n ∧ ((0 ≤ i ∧ j = i.toNat) ∨ (i < 0 ∧ -(n : Int) ≤ i ∧ j = (i + n).toNat)) := by
  unfold idx at e
  (repeat' split at e) <;> first | (cases e; done) | (cases e; omega)

theorem item_sound {value slice : PySem.Expr} {Q : Value → Shared → Prop} (e : itemA a b mem = some r) (W : Wd h₀ ρ mem s.heap) (x : Val ρ s.heap v a) (y : Val ρ s.heap u b) (k : ∀ z, Val ρ s.heap z r → Q z s)
    (hs : ∀ o i, ∃ ops, subscripted slice false o i = operate ops (getItem o i)) : wpAny (model prog w) A (subscriptTail value slice v u) Q E s := by
  unfold itemA at e
  split at e
  · rename_i xs k' hx
    obtain ⟨j, hj, hy⟩ := bI e
    obtain ⟨l, vs, rfl, rs, hl⟩ := items_sound W x hx
    obtain ⟨t, rfl⟩ := y.int_inv
    obtain ⟨z, hz, xz⟩ := rs.get hy
    have hlen := rs.length
    obtain ⟨hn, hjn, hd⟩ := idx_pos hj
    obtain ⟨ops, hops⟩ := hs (.ref l) (.int k' t)
    rcases hl with ⟨n, _, g⟩ | ⟨n, _, _, _, _, g⟩
    · refine tail_any (T := "tuple") ⟨_, g, rfl⟩ slot_tuple_getitem.lookup ?_ hops
      refine P.getItem_tuple (k := j) (y := z) g (by omega) (by omega) ?_ (by rw [List.getElem?_toArray]; exact hz) (k z xz)
      unfold seqIndex?
      rw [List.size_toArray, hlen]
      rcases hd with ⟨h1, h2⟩ | ⟨h1, h2, h3⟩
      · have : ¬ k' < 0 := by omega
        simp only [this, if_false]
        rw [if_pos (by simp only [Bool.and_eq_true, decide_eq_true_eq]; omega), h2]
      · simp only [h1, if_true]
        rw [if_pos (by simp only [Bool.and_eq_true, decide_eq_true_eq]; omega), h3]
    · refine tail_any (T := "list") ⟨_, g, rfl⟩ slot_list_getitem.lookup ?_ hops
      rcases hd with ⟨h1, h2⟩ | ⟨h1, h2, h3⟩
      · exact wpAny_getItem_list ⟨_, g, rfl, _, rfl⟩ h1 (by omega) (by rw [← h2, List.getElem?_toArray]; exact hz) (k z xz)
      · exact wpAny_getItem_list_neg ⟨_, g, rfl, _, rfl⟩ h1 (by rw [List.size_toArray, hlen]; exact h2) (by omega) (by rw [List.size_toArray, hlen, ← h3, List.getElem?_toArray]; exact hz) (k z xz)
  · cases e

theorem clamp_bd {n d : Nat} {a : AV} {c : Nat} {v : Value} {ρ : List Addr} {h : Heap} (e : clampA n d a = some c) (x : Val ρ h v a) : ∃ o, Bd v o ∧ c = (match o with | some i => min i n | none => d) := by
  unfold clampA at e
  split at e
  · cases e; obtain rfl := x.none_inv; exact ⟨_, .none, rfl⟩
  · split at e
    · rename_i i hi
      cases e
      obtain ⟨_, rfl⟩ := x.int_inv
      obtain ⟨j, rfl⟩ := Int.eq_ofNat_of_zero_le hi
      exact ⟨_, .int _ _, by simp⟩
    · cases e
  · cases e

theorem slice_sound {value slice : PySem.Expr} {lo hi : AV} {vl vu : Value} {sl : Addr} {Q : Value → Shared → Prop} (e : sliceA a lo hi mem = some (r, mem')) (W : Wd h₀ ρ mem s.heap) (x : Val ρ s.heap v a) (y1 : Val ρ s.heap vl lo) (y2 : Val ρ s.heap vu hi)
    (hsl : s.heap.IsSliceOf sl vl vu .none) (k : Ok h₀ ρ s mem' r Q) (hs : ∀ o i, ∃ ops, subscripted slice false o i = operate ops (getItem o i)) : wpAny (model prog w) A (subscriptTail value slice v (.ref sl)) Q E s := by
  unfold sliceA at e
  split at e
  · rename_i xs hx
    split at e
    · rename_i l h hl hh
      split at e
      · cases e
      · rename_i hsz
        have hb := sizeLine_big
        obtain ⟨ol, b1, e1⟩ := clamp_bd hl y1
        obtain ⟨oh, b2, e2⟩ := clamp_bd hh y2
        obtain ⟨ad, vs, rfl, rs, hcase⟩ := items_sound W x hx
        have hlen := rs.length
        obtain ⟨ops, hops⟩ := hs (.ref ad) (.ref sl)
        have q1 : min (ol.getD 0) vs.length = l := by cases ol <;> simp at e1 ⊢ <;> omega
        have q2 : min (oh.getD vs.length) vs.length = h := by cases oh <;> simp at e2 ⊢ <;> omega
        rcases hcase with ⟨n, rfl, g⟩ | ⟨n, i, rfl, hi', ha, g⟩
        · cases e
          refine tail_any (T := "tuple") ⟨_, g, rfl⟩ slot_tuple_getitem.lookup ?_ hops
          have rs' := (rs.take h).drop l
          refine getItem_tuple_slice (lo := ol) (hi := oh) ⟨_, g, rfl, _, rfl⟩ hsl b1 b2 (fun q => ?_) ?_ (by rw [List.size_toArray]; omega)
          · have q' : (vs.take h).drop l = vs := by
              have := q
              simp only [List.size_toArray, q1, q2] at this
              exact this
            have lq : (xs.take h).drop l = xs := by
              have l1 := congrArg List.length q'
              rw [List.length_drop, List.length_take] at l1
              by_cases h0 : xs.length = 0
              · have : xs = [] := by simpa using h0
                subst this; simp
              · have hl0 : l = 0 := by omega
                subst hl0
                rw [List.drop_zero]; exact List.take_of_length_le (by omega)
            rw [lq] at k
            exact k.same' W (.tup g rs)
          · have q := k.newTuple W rs' s.toks
            simp only [List.size_toArray, q1, q2]
            exact q
        · cases e
          refine tail_any (T := "list") ⟨_, g, rfl⟩ slot_list_getitem.lookup ?_ hops
          have rs' := (rs.take h).drop l
          refine wpAny_getItem_list_slice ⟨_, g, rfl, _, rfl⟩ hsl b1.part b2.part .none (by simp) ?_ (by rw [List.size_toArray]; omega)
          have q := k.newList W rs' s.toks
          rw [slicePick_plain]
          have p1 : (Option.map (fun (i : Nat) => (i : Int)) ol).elim 0 (clipAt vs.toArray.size) = l := by
            cases ol with
            | none => simp at e1 ⊢; omega
            | some i => simp only [Option.map_some, Option.elim, clipAt_nat, List.size_toArray]; simp at e1; omega
          have p2 : (Option.map (fun (i : Nat) => (i : Int)) oh).elim vs.toArray.size (clipAt vs.toArray.size) = h := by
            cases oh with
            | none => simp at e2 ⊢; omega
            | some i => simp only [Option.map_some, Option.elim, clipAt_nat, List.size_toArray]; simp at e2; omega
          rw [p1, p2, ← List.drop_take]
          exact q
    · cases e
  · cases e
end
end Mine
end

section
open PySem PySem.Spec PySem.Calls PyProof.Rows PySem.W
set_option linter.unusedVariables false
set_option autoImplicit false
namespace Mine

structure ClsOk (K : Frag) (C : Addr) : Prop where
  ga : findIn K (.ref C) "__getattribute__" = some (some (.builtin "object.__getattribute__"))
  gk : findIn K (.ref C) "__getattr__" = some none
  dict : (clsIn K C).any (·.hasDict) = true
  sa : findIn K (.ref C) "__setattr__" = some (some (.builtin "object.__setattr__"))
  po : plainOver K C = true
structure StaOk (K : Frag) (M : Methods) : Prop where
  fld : ∀ C n, M.fld C n = true → ClsOk K C ∧ findIn K (.ref C) n.str = some none
  meth : ∀ C n f, M.find C n = some f → ClsOk K C ∧ findIn K (.ref C) n.str = some (some (.ref f)) ∧ typeIn K (.ref f) = some (.type "function")

theorem Nm.of_str (n : Nm) : Nm.of n.str = some n := by cases n <;> decide +kernel
theorem Nm.str_inj {a b : Nm} (h : a.str = b.str) : a = b := by
  have := Nm.of_str a
  rw [h, Nm.of_str b] at this
  exact (Option.some.inj this).symm

section
variable {prog : Program} {w : World} {A : Around} {E : Value → Shared → Prop} {s : Shared} {h₀ : Heap} {ρ : List Addr} {mem mem' : Mem} {v u : Value} {a b r : AV} {K : Frag} {M : Methods}

theorem Val.handed {h : Heap} (x : Val ρ h v a) : handedIn v = true := by cases x <;> rfl
theorem isStr_nm (m n : Nm) (t : Tok) : (Value.str m.str t).isStr n.str = decide (m = n) := by
  show (m.str == n.str) = _
  by_cases h : m = n
  · subst h; simp
  · rw [decide_eq_false h, beq_eq_false_iff_ne]
    exact fun e => h (Nm.str_inj e)
theorem Ents.find {h : Heap} {n : Nm} : ∀ {es : List DictEntry} {fs : List (Nm × AV)}, Ents ρ h es fs →
    (∀ a, fieldA fs n = some a → ∃ en, es.find? (·.key.isStr n.str) = some en ∧ Val ρ h en.val a) ∧ (fieldA fs n = none → es.find? (·.key.isStr n.str) = none)
  | _, _, .nil => ⟨fun a e => by simp [fieldA] at e, fun _ => rfl⟩
  | _, _, .cons (n := m) (t := t) (v := v) (a := a) (es := es) (fs := fs) x r => by
    obtain ⟨i1, i2⟩ := r.find (n := n)
    constructor
    · intro a' e
      unfold fieldA at e
      by_cases hm : m = n
      · rw [if_pos hm] at e; cases e
        exact ⟨_, by rw [List.find?_cons, isStr_nm, decide_eq_true hm], x⟩
      · rw [if_neg hm] at e
        obtain ⟨en, h1, h2⟩ := i1 a' e
        exact ⟨en, by rw [List.find?_cons, isStr_nm, decide_eq_false hm]; exact h1, h2⟩
    · intro e
      unfold fieldA at e
      by_cases hm : m = n
      · rw [if_pos hm] at e; cases e
      · rw [if_neg hm] at e
        rw [List.find?_cons, isStr_nm, decide_eq_false hm]; exact i2 e
theorem Ents.noRef {h : Heap} : ∀ {es : List DictEntry} {fs : List (Nm × AV)}, Ents ρ h es fs → es.any (·.refKey) = false
  | _, _, .nil => rfl
  | _, _, .cons x r => by rw [List.any_cons, r.noRef]; rfl
theorem Ents.look {h : Heap} {n : Nm} {es : List DictEntry} {fs : List (Nm × AV)} {k : Nat} {a : AV} (x : Ents ρ h es fs) (e : fieldA fs n = some a) : ∃ v, lookIn n.str (dictOf es k) = some (some v) ∧ Val ρ h v a := by
  obtain ⟨en, h1, h2⟩ := x.find.1 a e
  exact ⟨en.val, by unfold lookIn; dsimp only; rw [h1], h2⟩
theorem Ents.lookNone {h : Heap} {n : Nm} {es : List DictEntry} {fs : List (Nm × AV)} {k : Nat} (x : Ents ρ h es fs) (e : fieldA fs n = none) : lookIn n.str (dictOf es k) = some none := by
  have h1 := x.find.2 e
  unfold lookIn
  dsimp only
  rw [h1, x.noRef]
  rfl
theorem Ents.length {h : Heap} : ∀ {es : List DictEntry} {fs : List (Nm × AV)}, Ents ρ h es fs → es.length = fs.length
  | _, _, .nil => rfl
  | _, _, .cons _ r => by rw [List.length_cons, List.length_cons, r.length]
theorem Ents.put {h : Heap} {n : Nm} {hs : Int} {tk : Tok} {v : Value} {a : AV} (y : Val ρ h v a) : ∀ {es : List DictEntry} {fs : List (Nm × AV)}, Ents ρ h es fs → Ents ρ h (putL n.str hs (.str n.str tk) v es) (putField n a fs)
  | _, _, .nil => .cons y .nil
  | _, _, .cons (n := m) (t := t) x r => by
    unfold putL putField
    rw [isStr_nm]
    by_cases hm : m = n
    · rw [if_pos (decide_eq_true hm), if_pos hm]; exact .cons y r
    · rw [if_neg (by simp [hm]), if_neg hm]; exact .cons x (r.put y)
theorem putL_length (n : Str) (hs : Int) (key v : Value) : ∀ es : List DictEntry, (putL n hs key v es).length ≤ es.length + 1 := by
  intro r
  induction r with
  | nil =>
    exact Nat.le_refl _
  | cons e r ih =>
    unfold putL
    split
    · simp
    · simp only [List.length_cons]; have := ih; omega

theorem inst_at (W : Wd h₀ ρ mem s.heap) {i d : Nat} {c : Addr} {fs : List (Nm × AV)} (hi : mem[i]? = some (.inst c d)) (hd : mem[d]? = some (.sdict fs)) {x : Addr} (hx : ρ[i]? = some x) :
    ∃ dx es n, ρ[d]? = some dx ∧ s.heap.get? dx = some (dictOf es n) ∧ Ents ρ s.heap es fs ∧ InstAt s.heap x (instObj c dx) c (some (dictOf es n)) := by
  obtain ⟨dx, h1, h2⟩ := W.rep _ _ _ hx hi
  obtain ⟨es, n, h3, h4⟩ := W.rep _ _ _ h1 hd
  exact ⟨dx, es, n, h1, h3, h4, h2, rfl, rfl, h3⟩

theorem attr_sound {n : Nm} {expr : Bool} {Q : Value → Shared → Prop} (S : StaOk K M) (X : K.In s.heap) (e : attrA M a n mem = some r) (W : Wd h₀ ρ mem s.heap) (x : Val ρ s.heap v a) (k : ∀ z tk, Val ρ s.heap z r → Q z { s with toks := tk }) :
    wpAny (model prog w) A (getAttr v n.str expr) Q E s := by
  unfold attrA at e
  split at e
  · split at e
    · rename_i i c d hi
      split at e
      · rename_i fs hd
        split at e
        · rename_i hf
          obtain ⟨C, hn⟩ := S.fld _ _ hf
          obtain ⟨_, rfl, hx⟩ := x.obj_inv
          obtain ⟨dx, es, nn, h1, h2, h3, I⟩ := inst_at W hi hd hx
          obtain ⟨z, hz, xz⟩ := h3.look (k := nn) e
          exact get_value X I C.ga (findObj_own (attr := none) C.dict hn rfl hz) xz.handed (k z _ xz)
        · cases e
      · cases e
    · cases e
  · cases e

theorem method_sound {n : Nm} {f : Addr} {pl : Sem Bool} {Q : Value × List Value → Shared → Prop} (S : StaOk K M) (X : K.In s.heap) (e : methA M a n mem = some f) (W : Wd h₀ ρ mem s.heap) (x : Val ρ s.heap v a) (k : Q (.ref f, [v]) s) :
    wpAny (model prog w) A (getMethod v n.str pl) Q E s := by
  unfold methA at e
  split at e
  · split at e
    · rename_i i c d hi
      split at e
      · rename_i fs hd
        split at e
        · rename_i hf
          obtain ⟨C, hn, ht⟩ := S.meth _ _ _ e
          obtain ⟨_, rfl, hx⟩ := x.obj_inv
          obtain ⟨dx, es, nn, h1, h2, h3, I⟩ := inst_at W hi hd hx
          exact method_fn X I C.ga C.gk hn ht (by have q := h3.lookNone (k := nn) hf; simp only [shadowIn, q, Option.map_some]; rfl) k
        · cases e
      · cases e
    · cases e
  · cases e

theorem osa_own {ox : Obj} {x C dx : Addr} {name : Str} {tk : Tok} {v : Value} {es : List DictEntry} {n : Nat} {R : Result → Shared → Prop} (X : K.In s.heap)
    (I : InstAt s.heap x ox C (some (dictOf es n))) (hd : ox.dict = some dx) (hp : plainOver K C = true) (ht : takerIn K C name = some none) (hh : (clsIn K C).any (·.hasDict) = true)
    (hl : (lookIn name (dictOf es n)).isSome = true) (hz : es.length ≤ 990)
    (h : R (.ok (.ret .none)) { s with heap := s.heap.update dx (Obj.putName name (PyData.keyHash w.params name) (.str name s.toks) v), toks := s.toks + 1 }) :
    codeAny (model prog w) A (.call (.builtin "object.__setattr__") ⟨[.ref x, .str name tk, v], []⟩) R s := by
  refine osa_open X I hp ht fun b => ?_
  obtain ⟨cd, hc, hd'⟩ := any_some hh
  obtain ⟨hx, hcl, hn, hD⟩ := I
  obtain ⟨oc, odi, oda, osl⟩ := ox
  dsimp only at hcl hd hD
  subst hcl hd
  have D : s.heap.get? dx = some (dictOf es n) := hD
  have e' := putName_dict name (PyData.keyHash w.params name) (.str name s.toks) v es n
  have D' : (s.heap.update dx (Obj.putName name (PyData.keyHash w.params name) (.str name s.toks) v)).get? dx = some (dictOf (putL name (PyData.keyHash w.params name) (.str name s.toks) v es) (putN name es n)) := by
    have := Heap.get?_update_self (Obj.putName name (PyData.keyHash w.params name) (.str name s.toks) v) D (by rw [e']; rfl)
    rw [e'] at this
    exact this
  refine wpAny_bind (wpAny_pure (wpAny_bind (wpAny_bind (wpAny_loadPart hx (wpAny_bind ((looks_clsIn X hc).here ?_))))))
  rw [hd']
  refine wpAny_pure (a := some dx) (wpAny_bind (wpAny_pure (wpAny_bind ?_)))
  unfold nsSet
  refine wpAny_bind (wpAny_bind (wpAny_askSetting (wpAny_pure (wpAny_bind (wpAny_mkText (wpAny_bind (wpAny_loadPart D ?_)))))))
  dsimp only
  unfold lookIn at hl
  dsimp only at hl
  have c : (!es.toArray.any (·.key.isStr name) && es.toArray.any (·.refKey)) = false := by
    rw [List.any_toArray, List.any_toArray]
    split at hl
    · rename_i en he
      rw [List.any_eq_true.mpr ⟨en, List.mem_of_find?_eq_some he, List.find?_some he⟩]; rfl
    · split at hl
      · cases hl
      · rename_i z; rw [Bool.not_eq_true] at z; rw [z, Bool.and_false]
  rw [aRefKeyMayBeTheName_at, c]
  refine wpAny_updatePart D ?_
  refine wpAny_bind (wpAny_lookBehind D' (pastItsLine_dict (by rw [List.size_toArray, sizeLine_eq]; have := putL_length name (PyData.keyHash w.params name) (.str name s.toks) v es; omega)) ?_)
  exact wpAny_pure h

theorem setAttr_sound {n : Nm} {Q : Unit → Shared → Prop} (S : StaOk K M) (X : K.In s.heap) (e : setAttrA M a n b mem = some mem') (W : Wd h₀ ρ mem s.heap) (x : Val ρ s.heap v a) (y : Val ρ s.heap u b) (k : OkU h₀ ρ s mem' Q) :
    wpAny (model prog w) A (setAttr v n.str u) Q E s := by
  unfold setAttrA at e
  split at e
  · split at e
    · rename_i i c d hi
      split at e
      · rename_i fs hd
        split at e
        · rename_i hf
          obtain ⟨C, hn⟩ := S.fld _ _ hf.1
          cases e
          obtain ⟨_, rfl, hx⟩ := x.obj_inv
          obtain ⟨dx, es, nn, h1, h2, h3, I⟩ := inst_at W hi hd hx
          have hlk : (lookIn n.str (dictOf es nn)).isSome = true := by
            cases q : fieldA fs n with
            | none => rw [h3.lookNone q]; rfl
            | some a => obtain ⟨z, hz, _⟩ := h3.look (k := nn) q; rw [hz]; rfl
          have hlen := h3.length
          refine set_plain X I C.sa (osa_own (s := { s with toks := s.toks + 1 }) X I rfl C.po (by unfold takerIn; rw [hn]; rfl) C.dict hlk (by omega) ?_)
          have e' := putName_dict n.str (PyData.keyHash w.params n.str) (.str n.str (s.toks + 1)) u es nn
          obtain ⟨W', St⟩ := W.upd (h' := s.heap.update dx (Obj.putName n.str (PyData.keyHash w.params n.str) (.str n.str (s.toks + 1)) u)) (o' := .sdict (putField n b fs)) hd h1 (Heap.SameBut.update ..) fun kt => by
            have D' := Heap.get?_update_self (Obj.putName n.str (PyData.keyHash w.params n.str) (.str n.str (s.toks + 1)) u) h2 (by rw [e']; rfl)
            rw [e'] at D'
            exact ⟨_, _, D', (h3.put (n := n) y).keepT kt⟩
          exact k ρ _ _ W' St
        · cases e
      · cases e
    · cases e
  · cases e

theorem mapSeq_list {f : Array Value → Array Value} {vs : List Value} {n : Nat} {ws : List Value} (h : f vs.toArray = ws.toArray) : ∃ k, Obj.mapSeq f (listOb vs n) = listOb ws k := by
  refine ⟨if (f vs.toArray).size == vs.toArray.size then n else n + 1, ?_⟩
  show ({ cls := .type "list", dict := none, data := .seq (f vs.toArray) _, slots := #[] } : Obj) = _
  rw [h]
theorem list_upd (W : Wd h₀ ρ mem s.heap) {i : Nat} {l : Addr} {xs ys : List AV} {vs ws : List Value} {n : Nat} {f : Array Value → Array Value} (hi : mem[i]? = some (.list xs)) (hl : ρ[i]? = some l) (g : s.heap.get? l = some (listOb vs n))
    (h : f vs.toArray = ws.toArray) (y : Vals ρ s.heap ws ys) : Wd h₀ ρ (mem.set i (.list ys)) (s.heap.update l (Obj.mapSeq f)) ∧ Step ρ ρ s.heap (s.heap.update l (Obj.mapSeq f)) := by
  obtain ⟨k, hk⟩ := mapSeq_list (n := n) h
  refine W.upd hi hl (Heap.SameBut.update ..) fun kt => ⟨ws, k, ?_, y.keepT kt⟩
  have := Heap.get?_update_self (Obj.mapSeq f) g (by rw [hk]; rfl)
  rw [hk] at this
  exact this

theorem setItem_sound {i : AV} {vi : Value} {Q : Unit → Shared → Prop} (e : setItemA a i b mem = some mem') (W : Wd h₀ ρ mem s.heap) (x : Val ρ s.heap v a) (xi : Val ρ s.heap vi i) (y : Val ρ s.heap u b) (k : OkU h₀ ρ s mem' Q) :
    wpAny (model prog w) A (setItem v vi u) Q E s := by
  unfold setItemA at e
  split at e
  · rename_i n kk
    split at e
    · rename_i xs hn
      simp only [Option.map_eq_some_iff] at e
      obtain ⟨j, hj, rfl⟩ := e
      obtain ⟨ad, rfl, hx⟩ := x.obj_inv
      obtain ⟨t, rfl⟩ := xi.int_inv
      obtain ⟨vs, m, g, rs⟩ := W.rep _ _ _ hx hn
      have hlen := rs.length
      obtain ⟨hn1, hjn, hd⟩ := idx_pos hj
      have fin : Q () { s with heap := s.heap.update ad (Obj.mapSeq (·.setIfInBounds j u)) } := by
        obtain ⟨W', St⟩ := list_upd (f := (·.setIfInBounds j u)) (ws := vs.set j u) (ys := xs.set j b) W hn hx g (by simp) (rs.set y j)
        exact k ρ _ s.toks W' St
      rcases hd with ⟨h1, h2⟩ | ⟨h1, h2, h3⟩
      · exact setItem_at g h1 (by omega) (by rw [List.size_toArray]; omega) h2 fin
      · exact setItem_neg g h1 (by rw [List.size_toArray, hlen]; exact h2) (by omega) (by rw [List.size_toArray, hlen]; exact h3) fin
    · rename_i c hn
      split at e
      · rename_i hz
        cases e
        have hz' := szOk_le hz
        have hb := sizeLine_big
        obtain ⟨_, rfl, hx⟩ := x.obj_inv
        obtain ⟨t, rfl⟩ := xi.int_inv
        obtain ⟨⟨f, hm⟩, hle⟩ := W.rep _ _ _ hx hn
        refine wpAny_setItem_intMap_le hm hle (by omega) fun h' hm' hle' hs => ?_
        obtain ⟨W', St⟩ := W.upd (o' := .idict (c + 1)) hn hx hs fun kt => ⟨⟨_, hm'⟩, hle'⟩
        exact k ρ _ _ W' St
      · cases e
    · cases e
  · cases e
end
end Mine
end

section
open PySem PySem.Spec PySem.Calls PyProof.Rows PySem.W
set_option linter.unusedVariables false
set_option autoImplicit false
namespace Mine

theorem Wd.newAt {h₀ : Heap} {ρ : List Addr} {mem : Mem} {h h' : Heap} (W : Wd h₀ ρ mem h) {a : Addr} {o : MObj} (hk : ∀ b o, h.get? b = some o → h'.get? b = some o) (hn : h.get? a = none) (hr : KeepT ρ (ρ ++ [a]) h h' → Rep (ρ ++ [a]) h' a o) :
    Wd h₀ (ρ ++ [a]) (mem ++ [o]) h' ∧ Step ρ (ρ ++ [a]) h h' := by
  have hout : a ∉ ρ := W.out hn
  have S : Step ρ (ρ ++ [a]) h h' := ⟨⟨_, rfl⟩, fun b h1 h2 => by
      rcases List.mem_append.mp h1 with m | m
      · exact absurd m h2
      · rw [List.mem_singleton.mp m]; exact hn, fun b o' _ e => hk b o' e⟩
  have kt := W.keepT S
  refine ⟨⟨by simp [W.len], List.nodup_append.mpr ⟨W.nodup, by simp, fun b hb c hc => ?_⟩, fun i b o' e1 e2 => ?_, fun b o' e => hk b o' (W.base b o' e), fun b hb => ?_⟩, S⟩
  · rw [List.mem_singleton.mp hc]; exact fun q => hout (q ▸ hb)
  · by_cases hi : i < mem.length
    · rw [List.getElem?_append_left hi] at e2
      rw [List.getElem?_append_left (W.len ▸ hi)] at e1
      exact (W.rep i b o' e1 e2).but (c := a) kt (fun b o'' _ e => hk b o'' e) (fun q => hout (q ▸ List.mem_of_getElem? e1))
    · have hi2 : i < (mem ++ [o]).length := (List.getElem?_eq_some_iff.mp e2).1
      have hi3 : i = mem.length := by simp at hi2; omega
      subst hi3
      rw [List.getElem?_append_right (Nat.le_refl _), Nat.sub_self] at e2
      rw [← W.len, List.getElem?_append_right (Nat.le_refl _), Nat.sub_self] at e1
      simp at e1 e2
      subst e1 e2
      exact hr kt
  · rcases List.mem_append.mp hb with m | m
    · exact W.fresh b m
    · rw [List.mem_singleton.mp m]
      exact W.base_none hn

section
variable {prog : Program} {w : World} {A : Around} {E : Value → Shared → Prop} {s : Shared} {h₀ : Heap} {ρ : List Addr} {mem mem' : Mem} {v u : Value} {a b r : AV} {K : Frag} {M : Methods}

theorem size_none {h : Heap} {k : Nat} : h.get? (h.objs.size + k) = none := by
  cases q : h.get? (h.objs.size + k) with
  | none => rfl
  | some o => exact absurd (Heap.lt_size q) (Nat.not_lt.mpr (Nat.le_add_right _ _))
theorem Ok.listAt {Q : Value → Shared → Prop} {xs : List AV} (k : Ok h₀ ρ s (mem ++ [.list xs]) (.obj mem.length) Q) (W : Wd h₀ ρ mem s.heap) {h' : Heap} {ad : Addr} {vs : List Value} {n : Nat} {tk : Nat} (hk : ∀ b o, s.heap.get? b = some o → h'.get? b = some o)
    (hn : s.heap.get? ad = none) (g : h'.get? ad = some (listOb vs n)) (x : Vals ρ s.heap vs xs) : Q (.ref ad) { s with heap := h', toks := tk } := by
  obtain ⟨W', S⟩ := W.newAt (a := ad) (o := .list xs) hk hn fun kt => ⟨vs, n, g, x.keepT kt⟩
  refine k _ _ _ tk W' S (.obj ?_)
  rw [← W.len, List.getElem?_append_right (Nat.le_refl _), Nat.sub_self]; rfl
theorem Ok.kept {Q : Value → Shared → Prop} (k : Ok h₀ ρ s mem a Q) (W : Wd h₀ ρ mem s.heap) {h' : Heap} {tk : Nat} (hk : ∀ b o, s.heap.get? b = some o → h'.get? b = some o) (x : Val ρ h' v a) : Q v { s with heap := h', toks := tk } :=
  k v ρ h' tk (W.keeps hk) (Step.of_keeps hk) x

theorem ints_are {h : Heap} : ∀ {vs : List Value} {xs : List AV} {is : List Int}, Vals ρ h vs xs → intsA xs = some is → IntsAre vs is
  | _, _, is, .nil, e => by simp [intsA] at e; subst e; exact .nil
  | _, _, is, .cons (a := a) (as := as) x r, e => by
    cases a with
    | int i =>
      simp only [intsA, Option.map_eq_some_iff] at e
      obtain ⟨js, e, rfl⟩ := e
      obtain ⟨_, rfl⟩ := x.int_inv
      exact .cons _ _ (ints_are r e)
    | _ => simp [intsA] at e
theorem ints_vals {h : Heap} : ∀ {vs : List Value} {is : List Int}, IntsAre vs is → Vals ρ h vs (is.map .int)
  | _, _, .nil => .nil
  | _, _, .cons n t r => .cons (.int n t) (ints_vals r)
theorem insertI_perm (x : Int) : ∀ l : List Int, (insertI x l).Perm (x :: l) := by
  intro r
  induction r with
  | nil =>
    exact .refl _
  | cons y r ih =>
    unfold insertI
    split
    · exact .refl _
    · exact ((ih).cons y).trans (.swap x y r)
theorem sortI_perm : ∀ l : List Int, (sortI l).Perm l := by
  intro r
  induction r with
  | nil =>
    exact .refl _
  | cons x r ih =>
    exact (insertI_perm x (sortI r)).trans ((ih).cons x)
theorem insertI_sorted (x : Int) : ∀ {l : List Int}, l.Pairwise (· ≤ ·) → (insertI x l).Pairwise (· ≤ ·)
  | [], _ => by simp [insertI]
  | y :: r, h => by
    unfold insertI
    obtain ⟨h1, h2⟩ := List.pairwise_cons.mp h
    split
    · rename_i hx
      exact List.pairwise_cons.mpr ⟨fun z hz => by
        rcases List.mem_cons.mp hz with rfl | hz
        · exact hx
        · exact Int.le_trans hx (h1 z hz), h⟩
    · rename_i hx
      refine List.pairwise_cons.mpr ⟨fun z hz => ?_, insertI_sorted x h2⟩
      rcases List.mem_cons.mp ((insertI_perm x r).mem_iff.mp hz) with rfl | hz
      · omega
      · exact h1 z hz
theorem sortI_sorted : ∀ l : List Int, (sortI l).Pairwise (· ≤ ·) := by
  intro r
  induction r with
  | nil =>
    exact .nil
  | cons x r ih =>
    exact insertI_sorted x (ih)
theorem sorted_unique : ∀ {l m : List Int}, l.Perm m → l.Pairwise (· ≤ ·) → m.Pairwise (· ≤ ·) → l = m
  | [], m, p, _, _ => by have := p.length_eq; cases m with | nil => rfl | cons => simp at this
  | x :: l, [], p, _, _ => by have := p.length_eq; simp at this
  | x :: l, y :: m, p, h1, h2 => by
    obtain ⟨a1, a2⟩ := List.pairwise_cons.mp h1
    obtain ⟨b1, b2⟩ := List.pairwise_cons.mp h2
    have e : x = y := by
      have m1 : x ∈ y :: m := p.mem_iff.mp (.head _)
      have m2 : y ∈ x :: l := p.mem_iff.mpr (.head _)
      rcases List.mem_cons.mp m1 with h | h
      · exact h
      · rcases List.mem_cons.mp m2 with h' | h'
        · exact h'.symm
        · have := b1 x h; have := a1 y h'; omega
    subst e
    rw [sorted_unique (p.cons_inv) a2 b2]

theorem bools_are {h : Heap} : ∀ {vs : List Value} {xs : List AV} {bs : List Bool}, Vals ρ h vs xs → boolsA xs = some bs → vs = bs.map .bool
  | _, _, bs, .nil, e => by simp [boolsA] at e; subst e; rfl
  | _, _, bs, .cons (a := a) (as := as) x r, e => by
    cases a with
    | bool i =>
      simp only [boolsA, Option.map_eq_some_iff] at e
      obtain ⟨js, e, rfl⟩ := e
      obtain rfl := x.bool_inv
      rw [bools_are r e]; rfl
    | _ => simp [boolsA] at e
theorem truth_bools (prog : Program) (w : World) (A : Around) (bs : List Bool) : TruthOf prog w A (fun i v => (bs.map Value.bool).toArray[i]? = some v) (fun i => bs.getD i false) := by
  intro i v s Q E hP hQ
  rw [List.getElem?_toArray, List.getElem?_map] at hP
  cases q : bs[i]? with
  | none => rw [q] at hP; cases hP
  | some b =>
    rw [q] at hP
    cases hP
    have : bs.getD i false = b := by rw [List.getD_eq_getElem?_getD, q]; rfl
    have hQ' : Q (bs.getD i false) s := hQ
    rw [this] at hQ'
    exact wpAny_truthy_bool hQ'
theorem range_all (bs : List Bool) : (List.range bs.length).all (fun i => bs.getD i false) = bs.all id := by
  induction bs with
  | nil => rfl
  | cons b r ih =>
    rw [List.length_cons, List.range_succ_eq_map, List.all_cons, List.all_map]
    simp only [Function.comp_def, List.getD_cons_zero, List.getD_cons_succ]
    rw [ih]; rfl
theorem range_any (bs : List Bool) : (List.range bs.length).any (fun i => bs.getD i false) = bs.any id := by
  induction bs with
  | nil => rfl
  | cons b r ih =>
    rw [List.length_cons, List.range_succ_eq_map, List.any_cons, List.any_map]
    simp only [Function.comp_def, List.getD_cons_zero, List.getD_cons_succ]
    rw [ih]; rfl
theorem rng_items {h : Heap} {x : Int} {n : Nat} {acc : Array Value} (I : ItemsOf (fun i v => ∃ t, v = .int (x + i * 1) t) acc n) : Vals ρ h acc.toList ((List.range n).map fun (k : Nat) => AV.int (x + (k : Int))) := by
  have key : ∀ (l : List Value) (i : Nat), (∀ (j : Nat) v, l[j]? = some v → ∃ t, v = .int (x + ((i + j : Nat) : Int)) t) → Vals ρ h l ((List.range l.length).map fun (k : Nat) => AV.int (x + ((i + k : Nat) : Int))) := by
    intro l
    induction l with
    | nil => intro i _; exact .nil
    | cons v l ih =>
      intro i hl
      rw [List.length_cons, List.range_succ_eq_map, List.map_cons, List.map_map]
      obtain ⟨t, ht⟩ := hl 0 v rfl
      subst ht
      refine .cons (.int _ _) ?_
      have := ih (i + 1) fun j v' hv => by
        obtain ⟨t, ht⟩ := hl (j + 1) v' (by rw [List.getElem?_cons_succ]; exact hv)
        exact ⟨t, by rw [ht]; congr 2 <;> omega⟩
      have e : ((fun (k : Nat) => AV.int (x + ((i + k : Nat) : Int))) ∘ Nat.succ) = fun (k : Nat) => AV.int (x + ((i + 1 + k : Nat) : Int)) := by
        funext k
        simp only [Function.comp_def]
        congr 2 <;> omega
      rw [e]; exact this
  have := key acc.toList 0 fun j v hv => by
    obtain ⟨t, ht⟩ := I.2 j v (by rw [← Array.getElem?_toList]; exact hv)
    exact ⟨t, by rw [ht]; congr 1 <;> omega⟩
  rw [Array.length_toList, I.1] at this
  simpa using this
theorem small_rng {x y : Int} (h1 : -1000000 ≤ x) (h2 : x ≤ 1000000) (h3 : -1000000 ≤ y) (h4 : y ≤ 1000000) : Builtin.Range.small x y 1 = true := by
  unfold Builtin.Range.small Builtin.Range.rangeFitsLong
  rw [rangeSize_one]
  simp only [Bool.and_eq_true, Bool.or_eq_true, decide_eq_true_eq, beq_iff_eq]
  have e : ∀ z : Int, -1000000 ≤ z → z ≤ 2000000 → (-2 ^ 63 ≤ z ∧ z < 2 ^ 63) := fun z a b => by omega
  have q1 := e x h1 (by omega)
  have q2 := e y h3 (by omega)
  refine ⟨⟨⟨⟨q1, q2⟩, by omega⟩, ?_⟩, .inr ?_⟩
  · split
    · exact e _ (by omega) (by omega)
    · exact e _ (by omega) (by omega)
  · rw [if_pos (by decide)]
    have q3 := e (y + (1 - 1)) (by omega) (by omega)
    rw [Bool.and_eq_true, decide_eq_true_eq, decide_eq_true_eq]
    exact q3

noncomputable def Bi.val : Bi → Value
  | .len => .builtin "len" | .max => .builtin "max" | .min => .builtin "min" | .sorted => .builtin "sorted" | .all => .builtin "all" | .any => .builtin "any" | .list => .type "list" | .tuple => .type "tuple" | .range => .type "range"
theorem of_ite {c : Prop} [Decidable c] {α : Type} {x r : α} (e : (if c then some x else none) = some r) : c ∧ some x = some r := by
  by_cases h : c
  · exact ⟨h, (if_pos h).symm.trans e⟩
  · exact nomatch (if_neg h).symm.trans e
theorem of_items {o : Option (List AV)} {β : Type} {f : List AV → Option β} {r : β} (e : (match o with | some xs => f xs | _ => none) = some r) : ∃ x, o = some x ∧ f x = some r := by
  cases o with
  | none => cases e
  | some x => exact ⟨x, rfl, e⟩
theorem of_intsA {o : Option (List Int)} {β : Type} {f : List Int → Option β} {r : β} (e : (match o with | some xs => f xs | _ => none) = some r) : ∃ x, o = some x ∧ f x = some r := by
  cases o with
  | none => cases e
  | some x => exact ⟨x, rfl, e⟩
theorem of_list {o : Option MObj} {β : Type} {f : List AV → Option β} {r : β} (e : (match o with | some (.list xs) => f xs | _ => none) = some r) : ∃ xs, o = some (.list xs) ∧ f xs = some r := by
  cases o with
  | none => cases e
  | some x => cases x with
    | list xs => exact ⟨xs, rfl, e⟩
    | _ => exact noS e
theorem of_one {β : Type} {args : List AV} {f : AV → Option β} {r : β} (e : (match args with | [x] => f x | _ => none) = some r) : ∃ x, args = [x] ∧ f x = some r := by
  match args with
  | [x] => exact ⟨x, rfl, e⟩
  | [] => cases e
  | _ :: _ :: _ => cases e
theorem of_obj {β : Type} {args : List AV} {f : Nat → Option β} {r : β} (e : (match args with | [.obj n] => f n | _ => none) = some r) : ∃ n, args = [.obj n] ∧ f n = some r := by
  match args with
  | [x] => cases x with
    | obj n => exact ⟨n, rfl, e⟩
    | _ => exact noS e
  | [] => cases e
  | x :: _ :: _ => cases x <;> cases e
theorem of_ints {β : Type} {args : List AV} {f : Int → Int → Option β} {r : β} (e : (match args with | [.int x, .int y] => f x y | _ => none) = some r) : ∃ x y, args = [.int x, .int y] ∧ f x y = some r := by
  match args with
  | [x, y] => cases x with
    | int x => cases y with
      | int y => exact ⟨x, y, rfl, e⟩
      | _ => exact noS e
    | _ => exact noS e
  | [] => cases e
  | [x] => cases x <;> cases e
  | x :: y :: _ :: _ => cases x with
    | int x => cases y <;> cases e
    | _ => exact noS e
theorem Ok.of {Q : Value → Shared → Prop} {m : Mem} (k : Ok h₀ ρ s mem' r Q) (e : some (a, m) = some (r, mem')) : Ok h₀ ρ s m a Q := by cases e; exact k
theorem len_sound {Q : Value → Shared → Prop} {xs : List AV} (hx : itemsA mem a = some xs) (hz : xs.length ≤ 1000000) (W : Wd h₀ ρ mem s.heap) (x0 : Val ρ s.heap v a) (k : Ok h₀ ρ s mem (.int xs.length) Q) : wpAny (model prog w) A (call (.builtin "len") [v]) Q E s := by
  have hb := sizeLine_big
  obtain ⟨l, vs, rfl, rs, hl⟩ := items_sound W x0 hx
  have hlen := rs.length
  rcases hl with ⟨n, _, g⟩ | ⟨n, _, _, _, _, g⟩
  · refine P.len_tuple g (by rw [List.size_toArray]; omega) ?_
    rw [List.size_toArray, hlen]
    exact k.same W (.int _ _) _
  · refine call_len_list ⟨_, g, rfl, _, rfl⟩ (by rw [List.size_toArray]; omega) ?_
    rw [List.size_toArray, hlen]
    exact k.same W (.int _ _) _
theorem max_sound {Q : Value → Shared → Prop} {p q : Int} (W : Wd h₀ ρ mem s.heap) (x0 : Val ρ s.heap v (.int p)) (x1 : Val ρ s.heap u (.int q)) (hh : A.handled = none) (k : Ok h₀ ρ s mem (.int (max p q)) Q) : wpAny (model prog w) A (call (.builtin "max") [v, u]) Q E s := by
  obtain ⟨t1, rfl⟩ := x0.int_inv
  obtain ⟨t2, rfl⟩ := x1.int_inv
  refine max_two_ints hh fun h' tk hk => k.kept W hk ?_
  by_cases hc : q > p
  · rw [if_pos hc, Int.max_eq_right (Int.le_of_lt hc)]; exact .int _ _
  · rw [if_neg hc, Int.max_eq_left (Int.not_lt.mp hc)]; exact .int _ _
theorem min_sound {Q : Value → Shared → Prop} {p q : Int} (W : Wd h₀ ρ mem s.heap) (x0 : Val ρ s.heap v (.int p)) (x1 : Val ρ s.heap u (.int q)) (hh : A.handled = none) (k : Ok h₀ ρ s mem (.int (min p q)) Q) : wpAny (model prog w) A (call (.builtin "min") [v, u]) Q E s := by
  obtain ⟨t1, rfl⟩ := x0.int_inv
  obtain ⟨t2, rfl⟩ := x1.int_inv
  refine min_two_ints hh fun h' tk hk => k.kept W hk ?_
  by_cases hc : q < p
  · rw [if_pos hc, Int.min_eq_right (Int.le_of_lt hc)]; exact .int _ _
  · rw [if_neg hc, Int.min_eq_left (Int.not_lt.mp hc)]; exact .int _ _
theorem sorted_sound {Q : Value → Shared → Prop} {n : Nat} {xs : List AV} {is : List Int} (hx : mem[n]? = some (.list xs)) (his : intsA xs = some is) (hz : xs.length < 64) (W : Wd h₀ ρ mem s.heap) (x0 : Val ρ s.heap v (.obj n)) (k : Ok h₀ ρ s (mem ++ [.list ((sortI is).map .int)]) (.obj mem.length) Q) : wpAny (model prog w) A (call (.builtin "sorted") [v]) Q E s := by
  obtain ⟨l, rfl, g0⟩ := x0.obj_inv
  obtain ⟨vs, n, g, rs⟩ := W.rep _ _ _ g0 hx
  have hlen:= rs.length
  refine sorted_ints ⟨_, g, rfl, _, rfl⟩ (ints_are rs his) (by omega) fun out ns' i1 i2 i3 => ?_
  have e1 : ns' = sortI is := sorted_unique (i2.trans (sortI_perm is).symm) i3 (sortI_sorted is)
  subst e1
  obtain ⟨c, hc⟩ := sortedAll_at s.heap vs out
  exact k.listAt W (fun b o => sortedAll_old) size_none (n := c) (vs := out.toList) (by simpa using hc) (ints_vals i1)
theorem all_sound {Q : Value → Shared → Prop} {n : Nat} {xs : List AV} {bs : List Bool} (hx : mem[n]? = some (.list xs)) (hbs : boolsA xs = some bs) (W : Wd h₀ ρ mem s.heap) (x0 : Val ρ s.heap v (.obj n)) (hh : A.handled = none) (k : Ok h₀ ρ s mem (.bool (bs.all id)) Q) : wpAny (model prog w) A (call (.builtin "all") [v]) Q E s := by
  obtain ⟨l, rfl, g0⟩ := x0.obj_inv
  obtain⟨vs, n, g, rs⟩ := W.rep _ _ _ g0 hx
  have e1 := bools_are rs hbs
  subst e1
  have hne : l ≠ s.heap.objs.size := fun q => Nat.lt_irrefl _ (q ▸ Heap.lt_size g)
  refine call_all_walk (wpAny_pyIter_list ⟨_, g, rfl, _, rfl⟩ ⟨s.heap.objs.size, _, _, _, _, _, fun i => bs.getD i false, rfl, Walks.list (A := A.in1) hh s.heap.objs.size l hne (bs.map Value.bool).toArray,
    ⟨⟨_, Heap.get?_push_size _ rfl, rfl, rfl⟩, ⟨_, Heap.get?_push_of_some _ g, rfl, _, rfl⟩⟩, truth_bools prog w A.in1 bs, fun h' tk hk => ?_⟩)
  rw [show ((bs.map Value.bool).toArray).size = bs.length by simp, range_all]
  refine k.kept W (fun b o e' => hk b o (fun q => ?_) (Heap.get?_push_of_some _ e')) (.bool _)
  rw [List.mem_singleton.mp q] at e'
  exact Nat.lt_irrefl _ (Heap.lt_size e')
theorem any_sound' {Q : Value → Shared → Prop} {n : Nat} {xs : List AV} {bs : List Bool} (hx : mem[n]? = some (.list xs)) (hbs : boolsA xs = some bs) (W : Wd h₀ ρ mem s.heap) (x0 : Val ρ s.heap v (.obj n)) (hh : A.handled = none) (k : Ok h₀ ρ s mem (.bool (bs.any id)) Q) : wpAny (model prog w) A (call (.builtin "any") [v]) Q E s := by
  obtain ⟨l, rfl, g0⟩ := x0.obj_inv
  obtain⟨vs, n, g, rs⟩ := W.rep _ _ _ g0 hx
  have e1 := bools_are rs hbs
  subst e1
  have hne : l ≠ s.heap.objs.size := fun q => Nat.lt_irrefl _ (q ▸ Heap.lt_size g)
  refine call_any_walk (wpAny_pyIter_list ⟨_, g, rfl, _, rfl⟩ ⟨s.heap.objs.size, _, _, _, _, _, fun i => bs.getD i false, rfl, Walks.list (A := A.in1) hh s.heap.objs.size l hne (bs.map Value.bool).toArray,
    ⟨⟨_, Heap.get?_push_size _ rfl, rfl, rfl⟩, ⟨_, Heap.get?_push_of_some _ g, rfl, _, rfl⟩⟩, truth_bools prog w A.in1 bs, fun h' tk hk => ?_⟩)
  rw [show ((bs.map Value.bool).toArray).size = bs.length by simp, range_any]
  refine k.kept W (fun b o e' => hk b o (fun q => ?_) (Heap.get?_push_of_some _ e')) (.bool _)
  rw [List.mem_singleton.mp q] at e'
  exact Nat.lt_irrefl _ (Heap.lt_size e')
theorem listRng_sound {Q : Value → Shared → Prop} {p q : Int} (hz2 : -1000000 ≤ p ∧ p ≤ 1000000 ∧ -1000000 ≤ q ∧ q ≤ 1000000) (hz : (rngItems p q).length ≤ 1000000) (W : Wd h₀ ρ mem s.heap) (x0 : Val ρ s.heap v (.rng p q)) (hh : A.handled = none) (k : Ok h₀ ρ s (mem ++ [.list (rngItems p q)]) (.obj mem.length) Q) : wpAny (model prog w) A (call (.type "list") [v]) Q E s := by
  have hb := sizeLine_big
  obtain ⟨l, t, u, w', rfl, g⟩ := x0.rng_inv
  have hn : Builtin.Range.rangeSize p q 1 = ((q - p).toNat : Nat) := by
    rw [rangeSize_one]; split <;> omega
  refine call_list_range hh g (small_rng hz2.1 hz2.2.1 hz2.2.2.1 hz2.2.2.2) hn (by omega) fun h' tk acc' c' hk g' I => ?_
  have rs := rng_items (ρ := ρ) (h := s.heap) I
  have g2 : h'.get? s.heap.objs.size = some (listOb acc'.toList c') := g'
  exact k.listAt W hk (by have := size_none (h := s.heap) (k := 0); exact this) g2 rs
theorem listSeq_sound {Q : Value → Shared → Prop} {xs : List AV} (hx : itemsA mem a = some xs) (hz : xs.length ≤ 1000000) (W : Wd h₀ ρ mem s.heap) (x0 : Val ρ s.heap v a) (k : Ok h₀ ρ s (mem ++ [.list xs]) (.obj mem.length) Q) : wpAny (model prog w) A (call (.type "list") [v]) Q E s := by
  have hb := sizeLine_big
  obtain ⟨l, vs, rfl, rs, hl⟩ := items_sound W x0 hx
  have hlen := rs.length
  rcases hl with ⟨n, _, g⟩ | ⟨n, _, _, _, _, g⟩
  · exact call_list_seq l (.inr rfl) g rfl rfl (fun h' c' hk g' => k.listAt W hk (by have := size_none (h := s.heap) (k := 0); exact this) g' rs) (by rw [List.size_toArray]; omega)
  · exact call_list_seq l (.inl rfl) g rfl rfl (fun h' c' hk g' => k.listAt W hk (by have := size_none (h := s.heap) (k := 0); exact this) g' rs) (by rw [List.size_toArray]; omega)
theorem tuple_sound {Q : Value → Shared → Prop} {xs : List AV} (hx : itemsA mem a = some xs) (hz : xs.length ≤ 1000000) (W : Wd h₀ ρ mem s.heap) (x0 : Val ρ s.heap v a) (k : Ok h₀ ρ s mem (.tup xs) Q) : wpAny (model prog w) A (call (.type "tuple") [v]) Q E s := by
  have hb := sizeLine_big
  obtain ⟨l, vs, rfl, rs, hl⟩ := items_sound W x0 hx
  have hlen := rs.length
  rcases hl with ⟨n, hq, g⟩ | ⟨n, _, _, _, _, g⟩
  · exact call_tuple_same ⟨_, g, rfl, _, rfl⟩ (k.same' W (.tup g rs))
  · refine call_tuple_list ⟨_, g, rfl, _, rfl⟩ (fun h' hk => ?_) (by rw [List.size_toArray]; omega)
    have hk' : ∀ b o, s.heap.get? b = some o → (h'.push (tupOb vs 0)).get? b = some o := fun b o e' => Heap.get?_push_of_some _ (hk b o e')
    exact k.kept W hk' (.tup (Heap.get?_push_size _ rfl) (rs.step W (Step.of_keeps hk')))
theorem range_sound {Q : Value → Shared → Prop} {args : List AV} (e : callB .range args mem = some (r, mem')) (W : Wd h₀ ρ mem s.heap) {vs : List Value} (x : Vals ρ s.heap vs args) (k : Ok h₀ ρ s mem' r Q) : wpAny (model prog w) A (call (.type "range") vs) Q E s := by
  match args, x, e with
  | [.int n], x, e =>
    replace k := k.of (of_ite e).2
    obtain ⟨v, rfl, y⟩ := x.one_inv
    obtain ⟨t, rfl⟩ := y.int_inv
    exact call_range_1 (k.kept W (fun b o e' => Heap.get?_push_of_some _ e') (.rng (IsRange.new ..)))
  | [.int a, .int n], x, e =>
    replace k := k.of (of_ite e).2
    obtain ⟨v, u, rfl, y, z⟩ := x.two_inv
    obtain ⟨t, rfl⟩ := y.int_inv
    obtain ⟨t', rfl⟩ := z.int_inv
    exact call_range_2 (k.kept W (fun b o e' => Heap.get?_push_of_some _ e') (.rng (IsRange.new ..)))
theorem iterA_inv {xs : List AV} (hx : iterA mem a = some xs) : (∃ p q, a = .rng p q ∧ (-1000000 ≤ p ∧ p ≤ 1000000 ∧ -1000000 ≤ q ∧ q ≤ 1000000) ∧ rngItems p q = xs) ∨ itemsA mem a = some xs := by
  cases a with
  | rng p q =>
    obtain ⟨h, e⟩ := of_ite hx
    exact .inl ⟨p, q, rfl, h, Option.some.inj e⟩
  | _ => exact .inr hx
theorem callB_sound {b : Bi} {args : List AV} {vs : List Value} {Q : Value → Shared → Prop} (e : callB b args mem = some (r, mem')) (W : Wd h₀ ρ mem s.heap) (x : Vals ρ s.heap vs args) (hh : A.handled = none) (k : Ok h₀ ρ s mem' r Q) :
    wpAny (model prog w) A (call b.val vs) Q E s := by
  cases b with
  | len =>
    obtain ⟨a0, rfl, e1⟩ := of_one e
    obtain ⟨xs, hx, e2⟩ := of_items e1
    obtain ⟨hz, e3⟩ := of_ite e2
    obtain ⟨v0, rfl, x0⟩ := x.one_inv
    exact len_sound hx (szOk_le hz) W x0 (k.of e3)
  | max =>
    obtain ⟨p, q, rfl, e1⟩ := of_ints e
    obtain ⟨v0, v1, rfl, x0, x1⟩ := x.two_inv
    exact max_sound W x0 x1 hh (k.of e1)
  | min =>
    obtain ⟨p, q, rfl, e1⟩ := of_ints e
    obtain ⟨v0, v1, rfl, x0, x1⟩ := x.two_inv
    exact min_sound W x0 x1 hh (k.of e1)
  | sorted =>
    refine gI fun Gz gz => ?_
    obtain ⟨n, rfl, e1⟩ := of_obj e
    obtain ⟨xs, hx, e2⟩ := of_list e1
    obtain ⟨is, his, e2⟩ := of_intsA e2
    obtain ⟨hz, e3⟩ := of_ite e2
    obtain ⟨v0, rfl, x0⟩ := x.one_inv
    refine gz ?_
    exact sorted_sound hx his hz W x0 (k.of e3)
  | all =>
    obtain ⟨n, rfl, e1⟩ := of_obj e
    obtain ⟨xs, hx, e2⟩ := of_list e1
    obtain ⟨bs, hbs, e3⟩ := Option.map_eq_some_iff.mp e2
    obtain ⟨v0, rfl, x0⟩ := x.one_inv
    exact all_sound hx hbs W x0 hh (k.of (congrArg some e3))
  | any =>
    obtain ⟨n, rfl, e1⟩ := of_obj e
    obtain ⟨xs, hx, e2⟩ := of_list e1
    obtain ⟨bs, hbs, e3⟩ := Option.map_eq_some_iff.mp e2
    obtain ⟨v0, rfl, x0⟩ := x.one_inv
    exact any_sound' hx hbs W x0 hh (k.of (congrArg some e3))
  | list =>
    obtain ⟨a0, rfl, e1⟩ := of_one e
    obtain ⟨xs, hx, e2⟩ := of_items e1
    obtain ⟨hz, e3⟩ := of_ite e2
    obtain ⟨v0, rfl, x0⟩ := x.one_inv
    rcases iterA_inv hx with ⟨p, q, rfl, h, rfl⟩ | hx
    · exact listRng_sound h (szOk_le hz) W x0 hh (k.of e3)
    · exact listSeq_sound hx (szOk_le hz) W x0 (k.of e3)
  | tuple =>
    obtain ⟨a0, rfl, e1⟩ := of_one e
    obtain ⟨xs, hx, e2⟩ := of_items e1
    obtain ⟨hz, e3⟩ := of_ite e2
    obtain ⟨v0, rfl, x0⟩ := x.one_inv
    exact tuple_sound hx (szOk_le hz) W x0 (k.of e3)
  | range => exact range_sound e W x k

noncomputable def Nm.listId : Nm → String
  | .append => "list.append" | .pop => "list.pop" | .extend => "list.extend" | .index => "list.index" | _ => ""

theorem type_list_pop : typeOf (.builtin "list.pop") = pure (.type "method_descriptor") := by show builtinType _ = _; rw [builtinType_eq_fast]; kernel_rfl
theorem type_list_extend : typeOf (.builtin "list.extend") = pure (.type "method_descriptor") := by show builtinType _ = _; rw [builtinType_eq_fast]; kernel_rfl
theorem type_list_index : typeOf (.builtin "list.index") = pure (.type "method_descriptor") := by show builtinType _ = _; rw [builtinType_eq_fast]; kernel_rfl
theorem listGet_sound {m : Nm} {l : Addr} {vs : List Value} {n : Nat} {pl : Sem Bool} {Q : Value × List Value → Shared → Prop} (hm : m = .append ∨ m = .pop ∨ m = .extend ∨ m = .index) (g : s.heap.get? l = some (listOb vs n)) (k : Q (.builtin m.listId, [.ref l]) s) :
    wpAny (model prog w) A (getMethod (.ref l) m.str pl) Q E s := by
  have hT : s.TypeIs (.ref l) "list" := ⟨_, g, rfl⟩
  have hd : ∀ a, Value.ref l = .ref a → ∃ o, s.heap.get? a = some o ∧ o.dict = none := fun a e => by cases e; exact ⟨_, g, rfl⟩
  rcases hm with rfl | rfl | rfl | rfl
  · exact getMethod_builtin hT PySem.F.plainAttrs_list PySem.F.slot_list_append PySem.F.type_list_append hd k
  · exact getMethod_builtin hT PySem.F.plainAttrs_list PySem.F.slot_list_pop type_list_pop hd k
  · exact getMethod_builtin hT PySem.F.plainAttrs_list PySem.F.slot_list_extend type_list_extend hd k
  · exact getMethod_builtin hT PySem.F.plainAttrs_list PySem.F.slot_list_index type_list_index hd k
theorem listMeth_names {n : Nat} {xs : List AV} {m : Nm} {args : List AV} (e : listMeth n xs m args mem = some (r, mem')) : m = .append ∨ m = .pop ∨ m = .extend ∨ m = .index := by
  cases m with
  | append => exact .inl rfl
  | pop => exact .inr (.inl rfl)
  | extend => exact .inr (.inr (.inl rfl))
  | index => exact .inr (.inr (.inr rfl))
  | _ => exact noS e
theorem of_nil {β : Type} {args : List AV} {f : Option β} {r : β} (e : (match args with | [] => f | _ => none) = some r) : args = [] ∧ f = some r := by
  cases args with
  | nil => exact ⟨rfl, e⟩
  | cons => cases e
theorem of_last {o : Option AV} {β : Type} {f : AV → Option β} {r : β} (e : (match o with | some x => f x | none => none) = some r) : ∃ x, o = some x ∧ f x = some r := by
  cases o with
  | none => cases e
  | some x => exact ⟨x, rfl, e⟩
theorem of_int {β : Type} {args : List AV} {f : Int → Option β} {r : β} (e : (match args with | [.int n] => f n | _ => none) = some r) : ∃ n, args = [.int n] ∧ f n = some r := by
  match args with
  | [x] => cases x with
    | int n => exact ⟨n, rfl, e⟩
    | _ => exact noS e
  | [] => cases e
  | x :: _ :: _ => cases x <;> cases e
theorem appendB_sound {n : Nat} {xs : List AV} {l : Addr} {Q : Value → Shared → Prop} (W : Wd h₀ ρ mem s.heap) (hn : mem[n]? = some (.list xs)) (hl : ρ[n]? = some l) (hz : xs.length ≤ 1000000) (x0 : Val ρ s.heap v a) (k : Ok h₀ ρ s (mem.set n (.list (xs ++ [a]))) .none Q) : wpAny (model prog w) A (call (.builtin "list.append") (.ref l :: [v])) Q E s := by
  have hb := sizeLine_big
  obtain ⟨ls, c, g, rs⟩ := W.rep _ _ _ hl hn
  have hlen := rs.length
  refine call_meets PySem.F.slot_list_append ⟨_, g, rfl⟩ PySem.F.entry_list_append (PySem.F.args_list_append_2 _ _) (PySem.list_append _ _ c _ (by rw [List.size_toArray]; omega)) ⟨g, ?_⟩
  obtain ⟨W', St⟩ := list_upd (f := fun x_1 => x_1.push _) W hn hl g (by rw [List.push_toArray]) (rs.append (.cons x0 .nil))
  exact k _ _ _ s.toks W' St .none
theorem popB_sound {n : Nat} {xs : List AV} {l : Addr} {Q : Value → Shared → Prop} (W : Wd h₀ ρ mem s.heap) (hn : mem[n]? = some (.list xs)) (hl : ρ[n]? = some l) {y : AV} (hy : xs.getLast? = some y) (hz : xs.length ≤ 1000000) (k : Ok h₀ ρ s (mem.set n (.list xs.dropLast)) y Q) : wpAny (model prog w) A (call (.builtin "list.pop") (.ref l :: [])) Q E s := by
  have hb := sizeLine_big
  obtain ⟨ls, c, g, rs⟩ := W.rep _ _ _ hl hn
  have hlen := rs.length
  obtain ⟨v, hv, xv⟩ := rs.get (k := xs.length - 1) (by rw [← List.getLast?_eq_getElem?]; exact hy)
  refine call_meets PySem.F.slot_list_pop ⟨_, g, rfl⟩ PySem.F.entry_list_pop (PySem.F.args_list_pop_1 _) (MeetsSeq.list_pop_last _ _ c v (by rw [List.size_toArray, hlen, List.getElem?_toArray]; exact hv) (by rw [List.size_toArray]; omega)) ⟨g, ?_⟩
  have rd : Vals ρ s.heap (ls.take (xs.length - 1)) xs.dropLast := by rw [List.dropLast_eq_take]; exact rs.take _
  obtain ⟨W', St⟩ := list_upd (f := fun xs => xs.eraseIdxIfInBounds (ls.toArray.size - 1)) (ws := ls.take (xs.length - 1)) W hn hl g (by
    apply Array.toList_inj.mp
    rw [Array.toList_eraseIdxIfInBounds, List.size_toArray, hlen]
    show ls.eraseIdx _ = ls.take _
    rw [← hlen, List.eraseIdx_eq_take_drop_succ, Nat.sub_add_cancel (by
      have := (List.getElem?_eq_some_iff.mp hv).1; omega), List.drop_length, List.append_nil]) rd
  exact k _ _ _ s.toks W' St (xv.step W St)
theorem extendB_sound {n : Nat} {xs : List AV} {l : Addr} {Q : Value → Shared → Prop} (W : Wd h₀ ρ mem s.heap) (hn : mem[n]? = some (.list xs)) (hl : ρ[n]? = some l) {j : Nat} {ys : List AV} (hy : mem[j]? = some (.list ys)) (hz1 : xs.length + ys.length ≤ 1000000) (x0 : Val ρ s.heap v (.obj j)) (k : Ok h₀ ρ s (mem.set n (.list (xs ++ ys))) .none Q) : wpAny (model prog w) A (call (.builtin "list.extend") (.ref l :: [v])) Q E s := by
  have hb := sizeLine_big
  obtain ⟨ls, c, g, rs⟩ := W.rep _ _ _ hl hn
  have hlen := rs.length
  obtain ⟨l0, rfl, g0⟩ := x0.obj_inv
  obtain ⟨ls2, c2, g2, rs2⟩ := W.rep _ _ _ g0 hy
  have hlen2 := rs2.length
  refine call_meets PySem.F.slot_list_extend ⟨_, g, rfl⟩ PySem.F.entry_list_extend (PySem.F.args_list_extend_2 _ _) (PySem.AutoSeq1.list_extend_list_list_0 _ _ c _ _ c2 (by
    have : ¬ (ls.toArray.size + ls2.toArray.size > sizeLine) := by rw [List.size_toArray, List.size_toArray]; omega
    simp only [Builtin.List.listTooLong, decide_eq_false this, Bool.and_false]; exact Bool.false_ne_true) (by rw [List.size_toArray]; omega) (by rw [List.size_toArray, List.size_toArray]; omega)) ⟨g, g2, ?_⟩
  obtain ⟨W', St⟩ := list_upd (f := fun x => x ++ ls2.toArray) W hn hl g (by rw [List.append_toArray]) (rs.append rs2)
  exact k _ _ _ s.toks W' St .none
theorem indexB_sound {n : Nat} {xs : List AV} {l : Addr} {Q : Value → Shared → Prop} (W : Wd h₀ ρ mem s.heap) (hn : mem[n]? = some (.list xs)) (hl : ρ[n]? = some l) {kk : Int} {is : List Int} {j : Nat} (his : intsA xs = some is) (hz : xs.length ≤ 1000000) (hj : is.findIdx? (· == kk) = some j) (x0 : Val ρ s.heap v (.int kk)) (k : Ok h₀ ρ s mem (.int (j : Int)) Q) : wpAny (model prog w) A (call (.builtin "list.index") (.ref l :: [v])) Q E s := by
  have hb := sizeLine_big
  obtain ⟨ls, c, g, rs⟩ := W.rep _ _ _ hl hn
  have hlen := rs.length
  obtain ⟨t, rfl⟩ := x0.int_inv
  have hi := ints_are rs his
  have hil := hi.length
  obtain ⟨hj1, hj2, hj3⟩ := List.findIdx?_eq_some_iff_getElem.mp hj
  refine call_meets PySem.F.slot_list_index ⟨_, g, rfl⟩ PySem.F.entry_list_index (PySem.F.args_list_index_2 _ _)
    (SeqAt.list_indexAt _ _ c none #[] (.int kk t) (isInt kk) j (by rw [List.size_toArray]; omega) (by omega) ?_ ?_) ⟨g, fun y hy => (eq_isInt kk t hi y (by simpa using hy)).at _ _, k.same W (.int _ _) _⟩
  · show isInt kk ls[j] = true
    rw [isInt_at kk hi j _ hj1]; exact hj2
  · intro m hm hmj
    show isInt kk ls[m] = false
    rw [isInt_at kk hi m _ (by omega)]
    have := hj3 m hmj
    simpa using this
theorem listMeth_sound {n : Nat} {xs : List AV} {m : Nm} {args : List AV} {l : Addr} {vs : List Value} {Q : Value → Shared → Prop} (e : listMeth n xs m args mem = some (r, mem')) (W : Wd h₀ ρ mem s.heap) (hn : mem[n]? = some (.list xs)) (hl : ρ[n]? = some l)
    (x : Vals ρ s.heap vs args) (k : Ok h₀ ρ s mem' r Q) : wpAny (model prog w) A (call (.builtin m.listId) (.ref l :: vs)) Q E s := by
  cases m with
  | append =>
    obtain ⟨a0, rfl, e1⟩ := of_one e
    obtain ⟨hz, e2⟩ := of_ite e1
    obtain ⟨v0, rfl, x0⟩ := x.one_inv
    exact appendB_sound W hn hl (szOk_le hz) x0 (k.of e2)
  | pop =>
    obtain ⟨rfl, e1⟩ := of_nil e
    obtain ⟨y, hy, e2⟩ := of_last e1
    obtain ⟨hz, e3⟩ := of_ite e2
    cases x.nil_inv
    exact popB_sound W hn hl hy (szOk_le hz) (k.of e3)
  | extend =>
    obtain ⟨j, rfl, e1⟩ := of_obj e
    obtain ⟨ys, hy, e2⟩ := of_list e1
    obtain ⟨hz, e3⟩ := of_ite e2
    obtain ⟨v0, rfl, x0⟩ := x.one_inv
    exact extendB_sound W hn hl hy (szOk_le hz.2) x0 (k.of e3)
  | index =>
    obtain ⟨kk, rfl, e1⟩ := of_int e
    obtain ⟨is, his, e2⟩ := of_intsA e1
    by_cases hz : szOk xs.length = true
    · rw [if_pos hz] at e2
      obtain ⟨j, hj, e3⟩ := Option.map_eq_some_iff.mp e2
      obtain ⟨v0, rfl, x0⟩ := x.one_inv
      exact indexB_sound W hn hl his (szOk_le hz) hj x0 (k.of (congrArg some e3))
    · rw [if_neg hz] at e2
      cases e2
  | _ => exact noS e
end
end Mine
end

section
open PySem PySem.Spec PySem.Calls PyProof.Rows PySem.W
set_option linter.unusedVariables false
set_option autoImplicit false
namespace Mine

theorem findIdx_lookup {x : Str} : ∀ {ns : Names} {i : Nat}, ns.findIdx? (fun p => p.1 == x) = some i → ∃ k, ns[i]? = some (x, k) ∧ ns.lookup x = some k := by
  intro r
  induction r with
  | nil =>
    intro i e
    simp at e
  | cons z0 r ih =>
    obtain ⟨y, k⟩ := z0
    intro i e
    rw [List.findIdx?_cons] at e
    by_cases h : (y == x) = true
    · dsimp only at e
      rw [if_pos h] at e; cases e
      have hy := beq_iff_eq.mp h
      subst hy
      exact ⟨k, rfl, by rw [List.lookup_cons, beq_self_eq_true]⟩
    · dsimp only at e
      rw [if_neg h] at e
      simp only [Option.map_eq_some_iff] at e
      obtain ⟨j, hj, rfl⟩ := e
      obtain ⟨k', h1, h2⟩ := ih hj
      refine ⟨k', by rw [List.getElem?_cons_succ]; exact h1, ?_⟩
      rw [List.lookup_cons]
      have : (x == y) = false := by
        cases q : (x == y) with
        | false => rfl
        | true => exact absurd (by rw [beq_iff_eq.mp q]; exact beq_self_eq_true y) h
      rw [this]; exact h2
theorem slotOf_is {ns : Names} {x : Str} {i : Nat} (e : slotOf ns x = some i) : ∃ k, ns[i]? = some (x, k) ∧ ns.lookup x = some k ∧ (k = .local ∨ k = .cell ∨ k = .free) := by
  unfold slotOf at e
  simp only [Option.bind_eq_some_iff] at e
  obtain ⟨j, hj, e⟩ := e
  obtain ⟨k, h1, h2⟩ := findIdx_lookup hj
  rw [h1] at e
  cases k <;> simp at e <;> subst e <;> exact ⟨_, h1, h2, by simp⟩
theorem slotW_is {ns : Names} {x : Str} {i : Nat} (e : slotW ns x = some i) : slotOf ns x = some i ∧ ∃ k, ns[i]? = some (x, k) ∧ ns.lookup x = some k ∧ (k = .local ∨ k = .cell) := by
  unfold slotW at e
  simp only [Option.bind_eq_some_iff] at e
  obtain ⟨j, hj, e⟩ := e
  obtain ⟨k, h1, h2⟩ := findIdx_lookup hj
  rw [h1] at e
  have q : slotOf ns x = (match ns[j]? with
  | some (_, .local) | some (_, .cell) | some (_, .free) => some j
  | _ => Option.none) := by unfold slotOf; rw [hj]; rfl
  rw [q, h1]
  cases k <;> simp at e <;> subst e <;> exact ⟨rfl, _, h1, h2, by simp⟩
theorem slot_inj {ns : Names} {x y : Str} {i : Nat} (e : slotOf ns x = some i) (f : slotOf ns y = some i) : x = y := by
  obtain ⟨_, h1, _⟩ := slotOf_is e
  obtain ⟨_, h2, _⟩ := slotOf_is f
  rw [h1] at h2
  cases h2; rfl

structure Fr (h₀ : Heap) (ns : Names) (env : Env) (ρ : List Addr) (vars : Vars) (h : Heap) : Prop where
  kind : env.scope.kind = .function
  glob : env.globals = mainGlobals
  blt : env.builtins = builtinsNs
  kinds : ∀ x k, ns.lookup x = some k → ∃ k', env.kindOf x = some k' ∧ (k' = k ∨ (k = .free ∧ k' = .cell))
  out : env.locals ∉ ρ ∧ h₀.get? env.locals = none
  loc : ∃ m, h.Ns env.locals m ∧ ∀ x i a, ns.lookup x = some .local → slotOf ns x = some i → vars[i]? = some (some a) → ∃ v, m x = some v ∧ Val ρ h v a
  cel : ∀ x i k, ns.lookup x = some k → (k = .cell ∨ k = .free) → slotOf ns x = some i → ∃ c v₀, env.cells.lookup x = some c ∧ h.IsCell c v₀ ∧ ∀ a, vars[i]? = some (some a) → ∃ v, v₀ = some v ∧ Val ρ h v a
  cout : ∀ x c, env.cells.lookup x = some c → c ∉ ρ ∧ (ns.lookup x = some .cell → h₀.get? c = none) ∧ ∃ v₀, h.IsCell c v₀
  apart : ∀ x y c, env.cells.lookup x = some c → env.cells.lookup y = some c → x = y

theorem Fr.move {h₀ : Heap} {ns : Names} {env : Env} {ρ ρ' : List Addr} {vars : Vars} {h h' : Heap} (F : Fr h₀ ns env ρ vars h) (kt : KeepT ρ ρ' h h') (hnew : ∀ a ∈ ρ', a ∉ ρ → h.get? a = none)
    (hk : ∀ b o, (b = env.locals ∨ ∃ x, env.cells.lookup x = some b) → h.get? b = some o → h'.get? b = some o) : Fr h₀ ns env ρ' vars h' := by
  have hloc := F.loc
  obtain ⟨m, hn, hv⟩ := hloc
  have keepCell : ∀ x c v₀, env.cells.lookup x = some c → h.IsCell c v₀ → h'.IsCell c v₀ := fun x c v₀ hc ⟨o, ho, hd⟩ => ⟨o, hk c o (.inr ⟨x, hc⟩) ho, hd⟩
  refine ⟨F.kind, F.glob, F.blt, F.kinds, ⟨fun hm => ?_, F.out.2⟩, ⟨m, ?_, fun x i a h1 h2 h3 => ?_⟩, fun x i k h1 h2 h3 => ?_, fun x c hc => ?_, F.apart⟩
  · have := hnew _ hm F.out.1
    obtain ⟨o, _, _, e, _⟩ := hn
    rw [this] at e; cases e
  · obtain ⟨o, es, ep, e, r⟩ := hn
    exact ⟨o, es, ep, hk _ _ (.inl rfl) e, r⟩
  · obtain ⟨v, q1, q2⟩ := hv x i a h1 h2 h3
    exact ⟨v, q1, q2.keepT kt⟩
  · obtain ⟨c, v₀, q1, q2, q3⟩ := F.cel x i k h1 h2 h3
    refine ⟨c, v₀, q1, keepCell x c v₀ q1 q2, fun a e => ?_⟩
    obtain ⟨v, p1, p2⟩ := q3 a e
    exact ⟨v, p1, p2.keepT kt⟩
  · obtain ⟨q1, q2, v₀, q3⟩ := F.cout x c hc
    refine ⟨fun hm => ?_, q2, v₀, keepCell x c v₀ hc q3⟩
    have := hnew _ hm q1
    obtain ⟨o, e, _⟩ := q3
    rw [this] at e; cases e
theorem Fr.step {h₀ : Heap} {ns : Names} {env : Env} {ρ ρ' : List Addr} {vars : Vars} {mem : Mem} {h h' : Heap} (F : Fr h₀ ns env ρ vars h) (W : Wd h₀ ρ mem h) (S : Step ρ ρ' h h') : Fr h₀ ns env ρ' vars h' :=
  F.move (W.keepT S) S.new fun b o hb e => S.keep b o (by
    rcases hb with rfl | ⟨x, hx⟩
    · exact F.out.1
    · exact (F.cout x b hx).1) e

structure Base (K : Frag) (M : Methods) (h₀ : Heap) : Prop where
  inK : K.In h₀
  nolimit : h₀.NoLimit
  sta : StaOk K M
  g : ∃ mg mb, h₀.Ns mainGlobals mg ∧ h₀.Ns builtinsNs mb ∧ (∀ x a, globals.lookup x = some a → mg x = some (.ref a)) ∧ (∀ x b, builtinNames.lookup x = some b → mg x = none ∧ mb x = some b.val) ∧
    (mg "enumerate" = none ∧ mb "enumerate" = some (.type "enumerate")) ∧ mg "reversed" = none ∧ mb "reversed" = some (.type "reversed")
  keepG : ∀ x a, globals.lookup x = some a → keepIn K (.ref a) = true
  keepM : ∀ C n f, M.find C n = some f → keepIn K (.ref f) = true

section
variable {prog : Program} {w : World} {A : Around} {E : Value → Shared → Prop} {s : Shared} {h₀ : Heap} {ρ : List Addr} {mem mem' : Mem} {v u : Value} {a b r : AV} {K : Frag} {M : Methods} {ns : Names} {env : Env} {vars : Vars}

theorem Base.inH (B : Base K M h₀) (W : Wd h₀ ρ mem s.heap) : K.In s.heap := fun a o e => W.base _ _ (B.inK a o e)

theorem name_sound {x : Str} {i : Nat} {pos : Pos} {Q : Value → Shared → Prop} (F : Fr h₀ ns env ρ vars s.heap) (ok : okName x = true) (hs : slotOf ns x = some i) (e : vars[i]? = some (some a)) (k : ∀ v, Val ρ s.heap v a → Q v s) :
    wpAny (model prog w) A (eval (.Name x pos) env) Q E s := by
  unfold okName at ok
  rw [Bool.and_eq_true, Bool.not_eq_true', Bool.not_eq_true'] at ok
  refine wpAny_Name ?_ ok.1
  obtain ⟨kd, h1, h2, h3⟩ := slotOf_is hs
  obtain ⟨k', q1, q2⟩ := F.kinds x kd h2
  rcases h3 with rfl | h3
  · obtain ⟨m, hn, hv⟩ := F.loc
    obtain ⟨v, p1, p2⟩ := hv x i a h2 hs e
    rcases q2 with rfl | ⟨q2, _⟩
    · exact wpAny_loadName_local F.kind q1 hn p1 (k v p2)
    · cases q2
  · obtain ⟨c, v₀, p1, p2, p3⟩ := F.cel x i kd h2 h3 hs
    obtain ⟨v, rfl, p4⟩ := p3 a e
    have hk' : k' = .cell ∨ k' = .free := by
      rcases q2 with rfl | ⟨_, rfl⟩
      · exact h3
      · exact .inl rfl
    rcases hk' with rfl | rfl
    · exact wpAny_loadName_cell F.kind q1 p1 p2 (k v p4)
    · exact wpAny_loadName_free F.kind q1 p1 p2 (k v p4) ok.2

theorem global_sound {x : Str} {f : Addr} {pos : Pos} {Q : Value → Shared → Prop} (B : Base K M h₀) (W : Wd h₀ ρ mem s.heap) (F : Fr h₀ ns env ρ vars s.heap) (hx : isGlobal ns x = true) (hd : (x == ("__debug__" : Str)) = false) (hf : globals.lookup x = some f) (k : Q (.ref f) s) :
    wpAny (model prog w) A (eval (.Name x pos) env) Q E s := by
  obtain ⟨mg, mb, hg, hb, g1, g2, _⟩ := B.g
  obtain ⟨k', q1, q2⟩ := F.kinds x _ (beq_iff_eq.mp hx)
  have q3 : k' = .globalImplicit := by
    rcases q2 with rfl | ⟨q2, _⟩
    · rfl
    · cases q2
  subst q3
  exact Name_function_global F.kind q1 (loadGlobal_global (by rw [F.glob]; exact hg.keeps W.base) (g1 x f hf) k) hd
theorem builtinName_sound {x : Str} {bv : Value} {pos : Pos} {Q : Value → Shared → Prop} (W : Wd h₀ ρ mem s.heap) (F : Fr h₀ ns env ρ vars s.heap) (hx : isGlobal ns x = true) (hd : (x == ("__debug__" : Str)) = false)
    (hf : ∃ mg mb, h₀.Ns mainGlobals mg ∧ h₀.Ns builtinsNs mb ∧ mg x = none ∧ mb x = some bv) (k : Q bv s) :
    wpAny (model prog w) A (eval (.Name x pos) env) Q E s := by
  obtain ⟨mg, mb, hg, hb, g1, g2⟩ := hf
  obtain ⟨k', q1, q2⟩ := F.kinds x _ (beq_iff_eq.mp hx)
  have q3 : k' = .globalImplicit := by
    rcases q2 with rfl | ⟨q2, _⟩
    · rfl
    · cases q2
  subst q3
  exact Name_function_global F.kind q1 (loadGlobal_builtin (by rw [F.glob]; exact hg.keeps W.base) g1 (by rw [F.blt]; exact hb.keeps W.base) g2 k) hd

noncomputable def Own (ns : Names) (env : Env) (b : Addr) : Prop := b = env.locals ∨ ∃ x, ns.lookup x = some .cell ∧ env.cells.lookup x = some b

structure StepO (O : Addr → Prop) (ρ ρ' : List Addr) (h h' : Heap) : Prop where
  ext : ∃ e, ρ' = ρ ++ e
  new : ∀ a ∈ ρ', a ∉ ρ → h.get? a = none
  keep : ∀ b o, b ∉ ρ → ¬ O b → h.get? b = some o → h'.get? b = some o
  kt : KeepT ρ ρ' h h'
  has : ∀ b o, b ∉ ρ → h.get? b = some o → ∃ o', h'.get? b = some o'
theorem StepO.refl (O : Addr → Prop) (ρ : List Addr) (h : Heap) : StepO O ρ ρ h h := ⟨⟨[], by simp⟩, fun a h1 h2 => absurd h1 h2, fun _ _ _ _ e => e, ⟨fun _ _ e => e, fun _ _ _ e => e⟩, fun _ o _ e => ⟨o, e⟩⟩
theorem StepO.trans {O : Addr → Prop} {ρ ρ' ρ'' : List Addr} {h h' h'' : Heap} (x : StepO O ρ ρ' h h') (y : StepO O ρ' ρ'' h' h'') : StepO O ρ ρ'' h h'' := by
  obtain ⟨e1, he1⟩ := x.ext
  obtain ⟨e2, he2⟩ := y.ext
  have stay : ∀ b o, b ∉ ρ → h.get? b = some o → b ∉ ρ' := fun b o hb e hb' => by rw [x.new b hb' hb] at e; cases e
  refine ⟨⟨e1 ++ e2, by rw [he2, he1, List.append_assoc]⟩, fun a h1 h2 => ?_, fun b o hb hO e => ?_, ⟨fun n a e => y.kt.1 n a (x.kt.1 n a e), fun b o ho e => y.kt.2 b o ho (x.kt.2 b o ho e)⟩, fun b o hb e => ?_⟩
  · by_cases ha : a ∈ ρ'
    · exact x.new a ha h2
    · have hn := y.new a h1 ha
      cases q : h.get? a with
      | none => rfl
      | some o =>
        obtain ⟨o', e'⟩ := x.has a o h2 q
        rw [e'] at hn; cases hn
  · exact y.keep b o (stay b o hb e) hO (x.keep b o hb hO e)
  · obtain ⟨o', e'⟩ := x.has b o hb e
    exact y.has b o' (stay b o hb e) e'
theorem StepO.of {O : Addr → Prop} {ρ ρ' : List Addr} {mem : Mem} {h₀ h h' : Heap} (W : Wd h₀ ρ mem h) (S : Step ρ ρ' h h') : StepO O ρ ρ' h h' :=
  ⟨S.ext, S.new, fun b o hb _ e => S.keep b o hb e, W.keepT S, fun b o hb e => ⟨o, S.keep b o hb e⟩⟩
theorem StepO.drop {O O' : Addr → Prop} {ρ ρ' : List Addr} {h h' : Heap} (x : StepO O' ρ ρ' h h') (hO : ∀ b, O' b → O b ∨ h.get? b = none) : StepO O ρ ρ' h h' :=
  ⟨x.ext, x.new, fun b o hb hn e => x.keep b o hb (fun q => by
    rcases hO b q with q | q
    · exact hn q
    · rw [q] at e; cases e) e, x.kt, x.has⟩
theorem StepO.wide {O O' : Addr → Prop} {ρ ρ' : List Addr} {h h' : Heap} (x : StepO O ρ ρ' h h') (hO : ∀ b, O b → O' b) : StepO O' ρ ρ' h h' := x.drop fun b q => .inl (hO b q)
theorem StepO.step {ρ ρ' : List Addr} {h h' : Heap} (x : StepO (fun _ => False) ρ ρ' h h') : Step ρ ρ' h h' := ⟨x.ext, x.new, fun b o hb e => x.keep b o hb (fun q => q) e⟩
theorem StepO.one {O : Addr → Prop} {ρ : List Addr} {h h' : Heap} {c : Addr} (hs : Heap.SameBut c h h') (hO : O c) (hc : ∃ o, h.get? c = some o ∧ ¬ Still o) (hc' : ∃ o, h'.get? c = some o) : StepO O ρ ρ h h' := by
  obtain ⟨o₁, e₁, ns⟩ := hc
  refine ⟨⟨[], by simp⟩, fun a h1 h2 => absurd h1 h2, fun b o hb hn e => (hs.2 b (fun q => hn (q ▸ hO))).trans e, ⟨fun _ _ e => e, fun b o ho e => ?_⟩, fun b o hb e => ?_⟩
  · by_cases q : b = c
    · subst q; rw [e₁] at e; cases e; exact absurd ho ns
    · exact (hs.2 b q).trans e
  · by_cases q : b = c
    · subst q; exact hc'
    · exact ⟨o, (hs.2 b q).trans e⟩
theorem Wd.but {h₀ : Heap} {ρ : List Addr} {mem : Mem} {h h' : Heap} {c : Addr} (W : Wd h₀ ρ mem h) (hs : Heap.SameBut c h h') (hc : c ∉ ρ) (h0 : h₀.get? c = none) (hst : ∃ o, h.get? c = some o ∧ ¬ Still o) : Wd h₀ ρ mem h' := by
  obtain ⟨o₁, e₁, hns⟩ := hst
  have kt : KeepT ρ ρ h h' := ⟨fun _ _ e => e, fun b o ho e => by
    by_cases q : b = c
    · subst q; rw [e₁] at e; cases e; exact absurd ho hns
    · exact (hs.2 b q).trans e⟩
  refine ⟨W.len, W.nodup, fun i a o e1 e2 => (W.rep i a o e1 e2).but (c := c) kt (fun b o hb e => (hs.2 b hb).trans e) (fun q => hc (q ▸ List.mem_of_getElem? e1)), fun b o e => ?_, W.fresh⟩
  refine (hs.2 b (fun q => ?_)).trans (W.base b o e)
  subst q; rw [h0] at e; cases e

theorem Heap.Ns.place {h : Heap} {a : Addr} {m : Str → Option Value} (n : h.Ns a m) : ∃ o, h.get? a = some o ∧ ¬ Still o := by
  obtain ⟨o, es, ep, e, d, _⟩ := n
  exact ⟨o, e, fun q => q.2.1 es ep d⟩
theorem Heap.IsCell.place {h : Heap} {a : Addr} {v : Option Value} (n : h.IsCell a v) : ∃ o, h.get? a = some o ∧ ¬ Still o := by
  obtain ⟨o, e, d⟩ := n
  exact ⟨o, e, fun q => q.2.2 v d⟩
theorem ns_cell {h : Heap} {a : Addr} {m : Str → Option Value} {v : Option Value} (n : h.Ns a m) (c : h.IsCell a v) : False := by
  obtain ⟨o, es, ep, e, d, _⟩ := n
  obtain ⟨o', e', d'⟩ := c
  rw [e] at e'; cases e'; rw [d] at d'; cases d'

theorem store_sound {x : Str} {i : Nat} {Q : Unit → Shared → Prop} (W : Wd h₀ ρ mem s.heap) (F : Fr h₀ ns env ρ vars s.heap) (hs : slotW ns x = some i) (y : Val ρ s.heap v a)
    (k : ∀ h' tk', Wd h₀ ρ mem h' → StepO (Own ns env) ρ ρ s.heap h' → Fr h₀ ns env ρ (vars.set i (some a)) h' → Q () { s with heap := h', toks := tk' }) : wpAny (model prog w) A (storeName env x v) Q E s := by
  obtain ⟨hsl, kd, h1, h2, h3⟩ := slotW_is hs
  obtain ⟨k', q1, q2⟩ := F.kinds x kd h2
  have hk : k' = kd := by
    rcases q2 with q2 | ⟨q2, _⟩
    · exact q2
    · subst q2; rcases h3 with h3 | h3 <;> cases h3
  subst hk
  obtain ⟨m, hn, hv⟩ := F.loc
  rcases h3 with rfl | rfl
  · refine wpAny_storeName_local q1 hn (fun h' hn' hsb => ?_) (by rw [F.kind]; rfl)
    have S : StepO (Own ns env) ρ ρ s.heap h' := StepO.one hsb (.inl rfl) (Heap.Ns.place hn) (let ⟨o, _, _, e, _⟩ := hn'; ⟨o, e⟩)
    refine k h' _ (W.but hsb F.out.1 F.out.2 (Heap.Ns.place hn)) S ⟨F.kind, F.glob, F.blt, F.kinds, F.out, ⟨_, hn', fun z j b e1 e2 e3 => ?_⟩, fun z j kz e1 e2 e3 => ?_, fun z c e => ?_, F.apart⟩
    · by_cases hz : z = x
      · subst hz
        rw [hsl] at e2; cases e2
        rw [List.getElem?_set_self (by
          have := (List.getElem?_eq_some_iff.mp e3).1
          simpa using this)] at e3
        cases e3
        exact ⟨v, if_pos rfl, y.keepT S.kt⟩
      · have hj : i ≠ j := fun q => hz (slot_inj e2 (q ▸ hsl))
        rw [List.getElem?_set_ne hj] at e3
        obtain ⟨u, p1, p2⟩ := hv z j b e1 e2 e3
        exact ⟨u, by rw [if_neg hz]; exact p1, p2.keepT S.kt⟩
    · have hj : i ≠ j := fun q => by
        have := slot_inj e3 (q ▸ hsl)
        subst this
        rw [h2] at e1; cases e1
        rcases e2 with e2 | e2 <;> cases e2
      obtain ⟨c, v₀, p1, p2, p3⟩ := F.cel z j kz e1 e2 e3
      refine ⟨c, v₀, p1, p2.sameBut hsb (fun q => ns_cell hn (q ▸ p2)), fun b e => ?_⟩
      rw [List.getElem?_set_ne hj] at e
      obtain ⟨u, r1, r2⟩ := p3 b e
      exact ⟨u, r1, r2.keepT S.kt⟩
    · obtain ⟨r1, r2, v₀, r3⟩ := F.cout z c e
      exact ⟨r1, r2, v₀, r3.sameBut hsb (fun q => ns_cell hn (q ▸ r3))⟩
  · obtain ⟨c, v₀, p1, p2, p3⟩ := F.cel x i .cell h2 (.inl rfl) hsl
    obtain ⟨o1, o2, _⟩ := F.cout x c p1
    refine wpAny_storeName_cell F.kind q1 p1 p2 fun h' hc' hsb => ?_
    have S : StepO (Own ns env) ρ ρ s.heap h' := StepO.one hsb (.inr ⟨x, h2, p1⟩) (Heap.IsCell.place p2) (let ⟨o, e, _⟩ := hc'; ⟨o, e⟩)
    refine k h' s.toks (W.but hsb o1 (o2 h2) (Heap.IsCell.place p2)) S ⟨F.kind, F.glob, F.blt, F.kinds, F.out, ⟨m, hn.sameBut hsb (fun q => ns_cell (q ▸ hn) p2), fun z j b e1 e2 e3 => ?_⟩, fun z j kz e1 e2 e3 => ?_, fun z c' e => ?_, F.apart⟩
    · have hj : i ≠ j := fun q => by
        have := slot_inj e2 (q ▸ hsl)
        subst this
        rw [h2] at e1; cases e1
      rw [List.getElem?_set_ne hj] at e3
      obtain ⟨u, r1, r2⟩ := hv z j b e1 e2 e3
      exact ⟨u, r1, r2.keepT S.kt⟩
    · by_cases hz : z = x
      · subst hz
        rw [hsl] at e3; cases e3
        refine ⟨c, some v, p1, hc', fun b e => ?_⟩
        rw [List.getElem?_set_self (by
          have := (List.getElem?_eq_some_iff.mp e).1
          simpa using this)] at e
        cases e
        exact ⟨v, rfl, y.keepT S.kt⟩
      · have hj : i ≠ j := fun q => hz (slot_inj e3 (q ▸ hsl))
        obtain ⟨c', v₁, r1, r2, r3⟩ := F.cel z j kz e1 e2 e3
        refine ⟨c', v₁, r1, r2.sameBut hsb (fun q => hz (F.apart z x c (q ▸ r1) p1)), fun b e => ?_⟩
        rw [List.getElem?_set_ne hj] at e
        obtain ⟨u, t1, t2⟩ := r3 b e
        exact ⟨u, t1, t2.keepT S.kt⟩
    · obtain ⟨r1, r2, v₁, r3⟩ := F.cout z c' e
      refine ⟨r1, r2, ?_⟩
      by_cases hz : c' = c
      · subst hz; exact ⟨_, hc'⟩
      · exact ⟨v₁, r3.sameBut hsb hz⟩
end
end Mine
end

section
open PySem PySem.Spec PySem.Calls PyProof.Rows PySem.W
set_option linter.unusedVariables false
set_option autoImplicit false
namespace Mine

set_option genInjectivity false in
structure Cx where
  prog : Program
  w : World
  A : Around
  h₀ : Heap
  K : Frag
  M : Methods
  Φ : Fun

noncomputable def FunOk (c : Cx) : Prop := ∀ f args mem r mem', c.Φ f args mem = some (r, mem') → ∀ (ρ : List Addr) (s : Shared) (vs : List Value) (E : Value → Shared → Prop) (Q : Value → Shared → Prop),
  Wd c.h₀ ρ mem s.heap → Vals ρ s.heap vs args → Ok c.h₀ ρ s mem' r Q → wpAny (model c.prog c.w) c.A (call (.ref f) vs) Q E s
structure CxOk (c : Cx) : Prop where
  base : Base c.K c.M c.h₀
  fn : FunOk c
  hh : c.A.handled = none
  hu : c.A.units + 65 < cLine

noncomputable def OkB (h₀ : Heap) (ρ : List Addr) (s : Shared) (mem' : Mem) (b : Bool) (Q : Bool → Shared → Prop) : Prop :=
  ∀ ρ' h' tk', Wd h₀ ρ' mem' h' → Step ρ ρ' s.heap h' → Q b { s with heap := h', toks := tk' }
noncomputable def OkL (h₀ : Heap) (ρ : List Addr) (s : Shared) (mem' : Mem) (as : List AV) (Q : List Value → Shared → Prop) : Prop :=
  ∀ vs ρ' h' tk', Wd h₀ ρ' mem' h' → Step ρ ρ' s.heap h' → Vals ρ' h' vs as → Q vs { s with heap := h', toks := tk' }

theorem Ok.next {h₀ : Heap} {ρ ρ' : List Addr} {s : Shared} {h' : Heap} {tk' : Nat} {mem' : Mem} {a : AV} {Q : Value → Shared → Prop} (k : Ok h₀ ρ s mem' a Q) (S : Step ρ ρ' s.heap h') : Ok h₀ ρ' { s with heap := h', toks := tk' } mem' a Q :=
  fun v ρ₂ h₂ tk₂ W₂ S₂ V₂ => k v ρ₂ h₂ tk₂ W₂ (S.trans S₂) V₂
theorem OkB.next {h₀ : Heap} {ρ ρ' : List Addr} {s : Shared} {h' : Heap} {tk' : Nat} {mem' : Mem} {a : Bool} {Q : Bool → Shared → Prop} (k : OkB h₀ ρ s mem' a Q) (S : Step ρ ρ' s.heap h') : OkB h₀ ρ' { s with heap := h', toks := tk' } mem' a Q :=
  fun ρ₂ h₂ tk₂ W₂ S₂ => k ρ₂ h₂ tk₂ W₂ (S.trans S₂)
theorem OkL.next {h₀ : Heap} {ρ ρ' : List Addr} {s : Shared} {h' : Heap} {tk' : Nat} {mem' : Mem} {a : List AV} {Q : List Value → Shared → Prop} (k : OkL h₀ ρ s mem' a Q) (S : Step ρ ρ' s.heap h') : OkL h₀ ρ' { s with heap := h', toks := tk' } mem' a Q :=
  fun v ρ₂ h₂ tk₂ W₂ S₂ V₂ => k v ρ₂ h₂ tk₂ W₂ (S.trans S₂) V₂

noncomputable def SndE (c : Cx) (e : Expr) : Prop := ∀ (ns : Names) (le : LE), compE ns e = some le → ∀ (vars : Vars) (mem : Mem) (r : AV) (mem' : Mem), ev c.M c.Φ vars le mem = some (r, mem') →
  ∀ (ρ : List Addr) (env : Env) (s : Shared) (E : Value → Shared → Prop) (Q : Value → Shared → Prop), Wd c.h₀ ρ mem s.heap → Fr c.h₀ ns env ρ vars s.heap → Ok c.h₀ ρ s mem' r Q →
  wpAny (model c.prog c.w) c.A (eval e env) Q E s
noncomputable def SndT (c : Cx) (e : Expr) : Prop := ∀ (ns : Names) (le : LE), compE ns e = some le → ∀ (vars : Vars) (mem : Mem) (b : Bool) (mem' : Mem), ev c.M c.Φ vars le mem = some (.bool b, mem') →
  ∀ (ρ : List Addr) (env : Env) (s : Shared) (E : Value → Shared → Prop) (Q : Bool → Shared → Prop), Wd c.h₀ ρ mem s.heap → Fr c.h₀ ns env ρ vars s.heap → OkB c.h₀ ρ s mem' b Q →
  wpAny (model c.prog c.w) c.A (isTrue e env (eval e env)) Q E s
noncomputable def Snd (c : Cx) (e : Expr) : Prop := SndE c e ∧ SndT c e

section
variable {c : Cx}

theorem bind2 {α β γ : Type} {x : Option α} {f : α → Option β} {y : β} (e : (x >>= f) = some y) : ∃ a, x = some a ∧ f a = some y := by
  cases x with
  | none => cases e
  | some a => exact ⟨a, rfl, e⟩

theorem snd_bool {e : Expr} (C : CxOk c) (h : SndE c e) (he : ∀ env, isTrue e env (eval e env) = (do let v ← eval e env; standAt e.pos; holding [v] (truthy v)) := by intro _; rfl) : Snd c e :=
  ⟨h, fun ns le hc vars mem b mem' e1 ρ env s E Q W F k => wpAny_isTrue_value (h ns le hc vars mem _ mem' e1 ρ env s E _ W F fun v ρ' h' tk' W' S' V' => by
    obtain rfl := V'.bool_inv; exact wpAny_truthy_bool (k ρ' h' tk' W' S')) (he env)⟩

theorem snd_none (C : CxOk c) {k : Nat} {p : Pos} : Snd c (.Constant .none k p) := snd_bool C fun ns le hc vars mem r mem' e ρ env s E Q W F kk => by
  cases hc; cases e
  exact fun _ _ _ => kk.same' W .none
theorem snd_cbool (C : CxOk c) {b : Bool} {k : Nat} {p : Pos} : Snd c (.Constant (.bool b) k p) := snd_bool C fun ns le hc vars mem r mem' e ρ env s E Q W F kk => by
  cases hc; cases e
  exact fun _ _ _ => kk.same' W (.bool b)
theorem snd_int (C : CxOk c) {i : Int} {k : Nat} {p : Pos} : Snd c (.Constant (.int i) k p) := snd_bool C fun ns le hc vars mem r mem' e ρ env s E Q W F kk => by
  cases hc; cases e
  exact wpAny_Constant_int (kk.same W (.int i _) _)
theorem snd_str (C : CxOk c) {x : Str} {k : Nat} {p : Pos} : Snd c (.Constant (.str x) k p) := snd_bool C fun ns le hc vars mem r mem' e ρ env s E Q W F kk => by
  cases hc; cases e
  exact Constant_str (kk.same W (.str x _) _)
theorem snd_name (C : CxOk c) {x : Str} {p : Pos} : Snd c (.Name x p) := snd_bool C fun ns le hc vars mem r mem' e ρ env s E Q W F kk => by
  simp only [cE_name] at hc
  split at hc
  · rename_i ok
    simp only [Option.map_eq_some_iff] at hc
    obtain ⟨i, hi, rfl⟩ := hc
    replace e : (match vars[i]? with | some (some a) => some (a, mem) | _ => none) = some (r, mem') := e
    split at e
    · rename_i a ha
      cases e
      exact name_sound F ok hi ha fun v V => kk.same' W V
    · cases e
  · cases hc
theorem snd_bin (C : CxOk c) {l r : Expr} {op : Operator} {p : Pos} (hl : SndE c l) (hr : SndE c r) : Snd c (.BinOp l op r p) := snd_bool C fun ns le hc vars mem a mem' e ρ env s E Q W F k => by
  refine gI fun Gz gz => ?_
  obtain ⟨l', h1, hc⟩ := bI hc
  obtain ⟨r', h2, hc⟩ := bI hc
  cases hc
  obtain ⟨⟨a1, m1⟩, e1, e⟩ := bI e
  obtain ⟨⟨a2, m2⟩, e2, e⟩ := bI e
  refine gz ?_
  refine wpAny_BinOp (hl ns l' h1 vars mem a1 m1 e1 ρ env s E _ W F fun v ρ1 hp1 tk1 W1 S1 V1 => ?_)
  refine hr ns r' h2 vars m1 a2 m2 e2 ρ1 env _ E _ W1 (F.step W S1) fun u ρ2 hp2 tk2 W2 S2 V2 => ?_
  exact bin_sound e W2 (V1.step W1 S2) V2 (k.next (S1.trans S2))
theorem snd_neg (C : CxOk c) {x : Expr} {p : Pos} (hx : SndE c x) : Snd c (.UnaryOp .USub x p) := snd_bool C fun ns le hc vars mem a mem' e ρ env s E Q W F k => by
  obtain ⟨x', h1, hc⟩ := bI hc
  cases hc
  obtain ⟨⟨a1, m1⟩, e1, e⟩ := bI e
  refine wpAny_UnaryOp (hx ns x' h1 vars mem a1 m1 e1 ρ env s E _ W F fun v ρ1 hp1 tk1 W1 S1 V1 => ?_)
  dsimp only at e
  split at e
  · cases e
    obtain ⟨_, rfl⟩ := V1.int_inv
    exact P.neg_int ((k.next S1).same W1 (.int _ _) _)
  · cases e
theorem snd_cmp (C : CxOk c) {l r : Expr} {op : CmpOp} {p : Pos} (hl : SndE c l) (hr : SndE c r) : Snd c (.Compare l [op] [r] p) := by
  have key : ∀ ns le, compE ns (.Compare l [op] [r] p) = some le → behindInMarks op r = false ∧ ∃ l' r', compE ns l = some l' ∧ compE ns r = some r' ∧ le = .cmp op l' r' := by
    intro ns le hc
    simp only [cE_cmp] at hc
    split at hc
    · cases hc
    · rename_i hb
      obtain ⟨l', h1, hc⟩ := bI hc
      obtain ⟨r', h2, hc⟩ := bI hc
      cases hc
      exact ⟨Bool.not_eq_true _ ▸ hb, l', r', h1, h2, rfl⟩
  constructor
  · intro ns le hc vars mem a mem' e ρ env s E Q W F k
    refine gI fun Gz gz => ?_
    obtain ⟨hb, l', r', h1, h2, rfl⟩ := key ns le hc
    obtain ⟨⟨a1, m1⟩, e1, e⟩ := bI e
    obtain ⟨⟨a2, m2⟩, e2, e⟩ := bI e
    obtain ⟨b, e3, e⟩ := bI e
    cases e
    refine gz ?_
    refine wpAny_Compare1 (hl ns l' h1 vars mem a1 m1 e1 ρ env s E _ W F fun v ρ1 hp1 tk1 W1 S1 V1 => ?_) hb
    refine hr ns r' h2 vars m1 a2 mem' e2 ρ1 env _ E _ W1 (F.step W S1) fun u ρ2 hp2 tk2 W2 S2 V2 => ?_
    exact cmp_sound e3 W2 (V1.step W1 S2) V2 C.hu ((k.next (S1.trans S2)).same' W2 (.bool b))
  · intro ns le hc vars mem a mem' e ρ env s E Q W F k
    refine gI fun Gz gz => ?_
    obtain ⟨hb, l', r', h1, h2, rfl⟩ := key ns le hc
    obtain ⟨⟨a1, m1⟩, e1, e⟩ := bI e
    obtain ⟨⟨a2, m2⟩, e2, e⟩ := bI e
    obtain ⟨b, e3, e⟩ := bI e
    cases e
    refine gz ?_
    refine wpAny_isTrue_Compare1 (hl ns l' h1 vars mem a1 m1 e1 ρ env s E _ W F fun v ρ1 hp1 tk1 W1 S1 V1 => ?_) hb
    refine hr ns r' h2 vars m1 a2 mem' e2 ρ1 env _ E _ W1 (F.step W S1) fun u ρ2 hp2 tk2 W2 S2 V2 => ?_
    exact cmp_sound e3 W2 (V1.step W1 S2) V2 C.hu (wpAny_truthy_bool (k ρ2 _ _ W2 (S1.trans S2)))
theorem snd_not (C : CxOk c) {x : Expr} {p : Pos} (hx : Snd c x) : Snd c (.UnaryOp .Not x p) := by
  have key : ∀ ns le, compE ns (.UnaryOp .Not x p) = some le → ∃ x', compE ns x = some x' ∧ le = .not x' := by
    intro ns le hc
    obtain ⟨x', h1, hc⟩ := bI hc
    cases hc
    exact ⟨x', h1, rfl⟩
  constructor
  · intro ns le hc vars mem a mem' e ρ env s E Q W F k
    obtain ⟨x', h1, rfl⟩ := key ns le hc
    obtain ⟨⟨a1, m1⟩, e1, e⟩ := bI e
    refine wpAny_UnaryOp (hx.1 ns x' h1 vars mem a1 m1 e1 ρ env s E _ W F fun v ρ1 hp1 tk1 W1 S1 V1 => ?_)
    dsimp only at e
    split at e
    · cases e
      obtain rfl := V1.bool_inv
      exact wpAny_holding (wpAny_bind (wpAny_truthy_bool (wpAny_pure ((k.next S1).same' W1 (.bool _)))))
    · cases e
  · intro ns le hc vars mem a mem' e ρ env s E Q W F k
    obtain ⟨x', h1, rfl⟩ := key ns le hc
    obtain ⟨⟨a1, m1⟩, e1, e⟩ := bI e
    dsimp only at e
    split at e
    · cases e
      exact wpAny_isTrue_Not (hx.2 ns x' h1 vars mem _ _ e1 ρ env s E _ W F k)
    · cases e
theorem snd_ite (C : CxOk c) {t b o : Expr} {p : Pos} (ht : SndT c t) (hb : Snd c b) (ho : Snd c o) : Snd c (.IfExp t b o p) := by
  have key : ∀ ns le, compE ns (.IfExp t b o p) = some le → ∃ t' b' o', compE ns t = some t' ∧ compE ns b = some b' ∧ compE ns o = some o' ∧ le = .ite t' b' o' := by
    intro ns le hc
    obtain ⟨t', h1, hc⟩ := bI hc
    obtain ⟨b', h2, hc⟩ := bI hc
    obtain ⟨o', h3, hc⟩ := bI hc
    cases hc
    exact ⟨t', b', o', h1, h2, h3, rfl⟩
  constructor
  · intro ns le hc vars mem a mem' e ρ env s E Q W F k
    obtain ⟨t', b', o', h1, h2, h3, rfl⟩ := key ns le hc
    obtain ⟨⟨a1, m1⟩, e1, e⟩ := bI e
    dsimp only at e
    split at e
    · exact wpAny_IfExp (ht ns t' h1 vars mem _ m1 e1 ρ env s E _ W F fun ρ1 hp1 tk1 W1 S1 => hb.1 ns b' h2 vars m1 a mem' e ρ1 env _ E _ W1 (F.step W S1) (k.next S1))
    · exact wpAny_IfExp (ht ns t' h1 vars mem _ m1 e1 ρ env s E _ W F fun ρ1 hp1 tk1 W1 S1 => ho.1 ns o' h3 vars m1 a mem' e ρ1 env _ E _ W1 (F.step W S1) (k.next S1))
    · cases e
  · intro ns le hc vars mem a mem' e ρ env s E Q W F k
    obtain ⟨t', b', o', h1, h2, h3, rfl⟩ := key ns le hc
    obtain ⟨⟨a1, m1⟩, e1, e⟩ := bI e
    dsimp only at e
    have arm : isTrue (.IfExp t b o p) env (eval (.IfExp t b o p) env) = (do if ← isTrue t env (eval t env) then isTrue b env (eval b env) else isTrue o env (eval o env)) := rfl
    rw [arm]
    split at e
    · exact wpAny_bind (ht ns t' h1 vars mem _ m1 e1 ρ env s E _ W F fun ρ1 hp1 tk1 W1 S1 => hb.2 ns b' h2 vars m1 a mem' e ρ1 env _ E _ W1 (F.step W S1) (k.next S1))
    · exact wpAny_bind (ht ns t' h1 vars mem _ m1 e1 ρ env s E _ W F fun ρ1 hp1 tk1 W1 S1 => ho.2 ns o' h3 vars m1 a mem' e ρ1 env _ E _ W1 (F.step W S1) (k.next S1))
    · cases e

noncomputable def BoP (c : Cx) (op : BoolOp) (pos : Pos) (xs : List Expr) : Prop := ∀ (ns : Names) (le : LE), compBool ns op xs = some le → ∀ (vars : Vars) (mem : Mem) (r : AV) (mem' : Mem), ev c.M c.Φ vars le mem = some (r, mem') →
  ∀ (ρ : List Addr) (env : Env) (s : Shared) (E : Value → Shared → Prop) (Q : Value → Shared → Prop), Wd c.h₀ ρ mem s.heap → Fr c.h₀ ns env ρ vars s.heap → Ok c.h₀ ρ s mem' r Q →
  wpAny (model c.prog c.w) c.A (boolOp pos op (evalEach xs env)) Q E s
theorem snd_boolOp (C : CxOk c) (op : BoolOp) (pos : Pos) : ∀ (xs : List Expr), (∀ x ∈ xs, Snd c x) → BoP c op pos xs := by
  intro xs
  induction xs with
  | nil => exact fun _ ns le hc => noS hc
  | cons x xs ih => cases xs with
   | nil =>
    intro hx ns le hc vars mem r mem' e ρ env s E Q W F k
    exact (hx x (.head _)).1 ns le hc vars mem r mem' e ρ env s E Q W F k
   | cons y xs =>
    intro hx ns le hc vars mem r mem' e ρ env s E Q W F k
    obtain ⟨l, h1, hc⟩ := bI hc
    obtain ⟨l2, h2, hc⟩ := bI hc
    cases hc
    have ih := ih (fun z hz => hx z (.tail _ hz)) ns l2 h2
    show wpAny _ _ (do let v ← eval x env; standAt pos; let t ← holding [v] (truthy v); match op, t with | .And, false | .Or, true => pure v | _, _ => boolOp pos op (evalEach (y :: xs) env)) Q E s
    cases op with
    | And =>
      obtain ⟨⟨a1, m1⟩, e1, e⟩ := bI e
      refine wpAny_bind ((hx x (.head _)).1 ns l h1 vars mem a1 m1 e1 ρ env s E _ W F fun v ρ1 hp1 tk1 W1 S1 V1 => ?_)
      dsimp only at e
      split at e
      · obtain rfl := V1.bool_inv
        exact wpAny_bind (wpAny_standAt (wpAny_bind (wpAny_holding (wpAny_truthy_bool (ih vars m1 r mem' e ρ1 env _ E Q W1 (F.step W S1) (k.next S1))))))
      · cases e
        obtain rfl := V1.bool_inv
        exact wpAny_bind (wpAny_standAt (wpAny_bind (wpAny_holding (wpAny_truthy_bool (wpAny_pure ((k.next S1).same' W1 (.bool _)))))))
      · cases e
    | Or =>
      obtain ⟨⟨a1, m1⟩, e1, e⟩ := bI e
      refine wpAny_bind ((hx x (.head _)).1 ns l h1 vars mem a1 m1 e1 ρ env s E _ W F fun v ρ1 hp1 tk1 W1 S1 V1 => ?_)
      dsimp only at e
      split at e
      · obtain rfl := V1.bool_inv
        exact wpAny_bind (wpAny_standAt (wpAny_bind (wpAny_holding (wpAny_truthy_bool (ih vars m1 r mem' e ρ1 env _ E Q W1 (F.step W S1) (k.next S1))))))
      · cases e
        obtain rfl := V1.bool_inv
        exact wpAny_bind (wpAny_standAt (wpAny_bind (wpAny_holding (wpAny_truthy_bool (wpAny_pure ((k.next S1).same' W1 (.bool _)))))))
      · cases e
noncomputable def AlT (c : Cx) (op : BoolOp) (xs : List Expr) : Prop := ∀ (ns : Names) (le : LE), compBool ns op xs = some le → ∀ (vars : Vars) (mem : Mem) (b : Bool) (mem' : Mem), ev c.M c.Φ vars le mem = some (.bool b, mem') →
  ∀ (ρ : List Addr) (env : Env) (s : Shared) (E : Value → Shared → Prop) (Q : Bool → Shared → Prop), Wd c.h₀ ρ mem s.heap → Fr c.h₀ ns env ρ vars s.heap → OkB c.h₀ ρ s mem' b Q →
  wpAny (model c.prog c.w) c.A (allTrue op xs env) Q E s
theorem snd_allTrue (C : CxOk c) (op : BoolOp) : ∀ (xs : List Expr), (∀ x ∈ xs, Snd c x) → AlT c op xs := by
  intro xs
  induction xs with
  | nil => exact fun _ ns le hc => noS hc
  | cons x xs ih => cases xs with
   | nil =>
    intro hx ns le hc vars mem r mem' e ρ env s E Q W F k
    cases op with
    | And =>
      refine wpAny_allTrue_And_cons ((hx x (.head _)).2 ns le hc vars mem r mem' e ρ env s E _ W F fun ρ1 hp1 tk1 W1 S1 => ?_)
      cases r
      · exact k ρ1 hp1 tk1 W1 S1
      · exact wpAny_allTrue_And_nil (k ρ1 hp1 tk1 W1 S1)
    | Or =>
      refine wpAny_allTrue_Or_cons ((hx x (.head _)).2 ns le hc vars mem r mem' e ρ env s E _ W F fun ρ1 hp1 tk1 W1 S1 => ?_)
      cases r
      · exact wpAny_allTrue_Or_nil (k ρ1 hp1 tk1 W1 S1)
      · exact k ρ1 hp1 tk1 W1 S1
   | cons y xs =>
    intro hx ns le hc vars mem r mem' e ρ env s E Q W F k
    obtain ⟨l, h1, hc⟩ := bI hc
    obtain ⟨l2, h2, hc⟩ := bI hc
    cases hc
    have ih := ih (fun z hz => hx z (.tail _ hz)) ns l2 h2
    cases op with
    | And =>
      obtain ⟨⟨a1, m1⟩, e1, e⟩ := bI e
      dsimp only at e
      split at e
      · exact wpAny_allTrue_And_cons ((hx x (.head _)).2 ns l h1 vars mem _ m1 e1 ρ env s E _ W F fun ρ1 hp1 tk1 W1 S1 => ih vars m1 r mem' e ρ1 env _ E Q W1 (F.step W S1) (k.next S1))
      · cases e
        exact wpAny_allTrue_And_cons ((hx x (.head _)).2 ns l h1 vars mem _ _ e1 ρ env s E _ W F fun ρ1 hp1 tk1 W1 S1 => k ρ1 hp1 tk1 W1 S1)
      · cases e
    | Or =>
      obtain ⟨⟨a1, m1⟩, e1, e⟩ := bI e
      dsimp only at e
      split at e
      · exact wpAny_allTrue_Or_cons ((hx x (.head _)).2 ns l h1 vars mem _ m1 e1 ρ env s E _ W F fun ρ1 hp1 tk1 W1 S1 => ih vars m1 r mem' e ρ1 env _ E Q W1 (F.step W S1) (k.next S1))
      · cases e
        exact wpAny_allTrue_Or_cons ((hx x (.head _)).2 ns l h1 vars mem _ _ e1 ρ env s E _ W F fun ρ1 hp1 tk1 W1 S1 => k ρ1 hp1 tk1 W1 S1)
      · cases e
theorem snd_bools (C : CxOk c) {op : BoolOp} {xs : List Expr} {p : Pos} (hx : ∀ x ∈ xs, Snd c x) : Snd c (.BoolOp op xs p) := by
  constructor
  · intro ns le hc vars mem a mem' e ρ env s E Q W F k
    exact snd_boolOp C op p xs hx ns le hc vars mem a mem' e ρ env s E Q W F k
  · intro ns le hc vars mem a mem' e ρ env s E Q W F k
    exact wpAny_isTrue_BoolOp (snd_allTrue C op xs hx ns le hc vars mem a mem' e ρ env s E Q W F k)

theorem comp_plain {ns : Names} {e : Expr} {le : LE} (h : compE ns e = some le) (env : Env) (r : List Expr) : starEach (e :: r) env = (false, eval e env) :: starEach r env := by
  cases e <;> first | rfl | exact noS h
theorem plain_args {ns : Names} (pos : Pos) (env : Env) : ∀ (ys : List Expr) (zs : List LE), compEs ns ys = some zs → (backTo pos (starEach ys env)).any (·.1) = false := by
  intro ys
  induction ys with
  | nil =>
    intro z0 z0
    exact rfl
  | cons y ys ih =>
    intro zs hz
    obtain ⟨z1, q1, hz⟩ := bI hz
    obtain ⟨z2, q2, hz⟩ := bI hz
    rw [comp_plain q1]
    show (false || (backTo pos (starEach ys env)).any (·.1)) = false
    rw [ih z2 q2]; rfl
theorem spliced_sound (C : CxOk c) (pos : Pos) : ∀ (xs : List Expr), (∀ x ∈ xs, SndE c x) → ∀ (ns : Names) (les : List LE), compEs ns xs = some les → ∀ (vars : Vars) (mem : Mem) (as : List AV) (mem' : Mem), evs c.M c.Φ vars les mem = some (as, mem') →
  ∀ (ρ : List Addr) (env : Env) (s : Shared) (E : Value → Shared → Prop) (Q : List Value → Shared → Prop), Wd c.h₀ ρ mem s.heap → Fr c.h₀ ns env ρ vars s.heap → OkL c.h₀ ρ s mem' as Q →
  wpAny (model c.prog c.w) c.A (spliced (backTo pos (starEach xs env))) Q E s
  | [], _, ns, les, hc, vars, mem, as, mem', e, ρ, env, s, E, Q, W, F, k => by
    cases hc
    cases e
    exact spliced_nil (k [] ρ _ s.toks W (Step.refl _ _) .nil)
  | x :: xs, hx, ns, les, hc, vars, mem, as, mem', e, ρ, env, s, E, Q, W, F, k => by
    refine gI fun Gz gz => ?_
    obtain ⟨l, h1, hc⟩ := bI hc
    obtain ⟨ls, h2, hc⟩ := bI hc
    cases hc
    obtain ⟨⟨a1, m1⟩, e1, e⟩ := bI e
    obtain ⟨⟨as2, m2⟩, e2, e⟩ := bI e
    cases e
    refine gz ?_
    rw [comp_plain h1]
    refine spliced_cons (hx x (.head _) ns l h1 vars mem a1 m1 e1 ρ env s E _ W F fun v ρ1 hp1 tk1 W1 S1 V1 => ?_)
    exact spliced_sound C pos xs (fun z hz => hx z (.tail _ hz)) ns ls h2 vars m1 as2 mem' e2 ρ1 env _ E _ W1 (F.step W S1) fun vs ρ2 hp2 tk2 W2 S2 V2 => k _ ρ2 hp2 tk2 W2 (S1.trans S2) (.cons (V1.step W1 S2) V2)
theorem compEs_length {ns : Names} : ∀ {xs : List Expr} {les : List LE}, compEs ns xs = some les → les.length = xs.length := by
  intro xs
  induction xs with
  | nil =>
    intro les h
    cases h; rfl
  | cons x xs ih =>
    intro les h
    obtain ⟨z1, q1, h⟩ := bI h
    obtain ⟨z2, q2, h⟩ := bI h
    cases h
    rw [List.length_cons, List.length_cons, ih q2]
theorem evs_length {M : Methods} {Φ : Fun} {vars : Vars} : ∀ {les : List LE} {mem mem' : Mem} {as : List AV}, evs M Φ vars les mem = some (as, mem') → as.length = les.length := by
  intro xs
  induction xs with
  | nil =>
    intro mem mem' as h
    cases h; rfl
  | cons x xs ih =>
    intro mem mem' as h
    obtain ⟨⟨z1, m1⟩, q1, h⟩ := bI h
    obtain ⟨⟨z2, m2⟩, q2, h⟩ := bI h
    cases h
    rw [List.length_cons, List.length_cons, ih q2]
theorem snd_tuple (C : CxOk c) {xs : List Expr} {x1} {p : Pos} (hx : ∀ x ∈ xs, SndE c x) : Snd c (.Tuple xs x1 p) := snd_bool C fun ns le hc vars mem a mem' e ρ env s E Q W F k => by
  simp only [cE_tuple] at hc
  split at hc
  · rename_i hlen
    obtain ⟨ls, h1, hc⟩ := bI hc
    cases hc
    obtain ⟨⟨as, m1⟩, e1, e⟩ := bI e
    cases e
    have hb := sizeLine_big
    show wpAny _ _ (do standAt p; newTuple (← spliced (backTo p (starEach xs env)))) Q E s
    refine wpAny_bind (wpAny_standAt (wpAny_bind (spliced_sound C p xs hx ns ls h1 vars mem as mem' e1 ρ env s E _ W F fun vs ρ1 hp1 tk1 W1 S1 V1 => ?_)))
    have l1 := V1.length
    have l2 := evs_length e1
    have l3 := compEs_length h1
    exact wpAny_newTuple ((k.next S1).newTuple W1 V1 _) (by omega)
  · cases hc
theorem snd_list (C : CxOk c) {xs : List Expr} {p : Pos} (hx : ∀ x ∈ xs, SndE c x) : Snd c (.List xs p) := snd_bool C fun ns le hc vars mem a mem' e ρ env s E Q W F k => by
  simp only [cE_list] at hc
  split at hc
  · rename_i hlen
    obtain ⟨ls, h1, hc⟩ := bI hc
    cases hc
    obtain ⟨⟨as, m1⟩, e1, e⟩ := bI e
    cases e
    have hb := sizeLine_big
    show wpAny _ _ (do standAt p; newList (← spliced (backTo p (starEach xs env)))) Q E s
    refine wpAny_bind (wpAny_standAt (wpAny_bind (spliced_sound C p xs hx ns ls h1 vars mem as m1 e1 ρ env s E _ W F fun vs ρ1 hp1 tk1 W1 S1 V1 => ?_)))
    have l1 := V1.length
    have l2 := evs_length e1
    have l3 := compEs_length h1
    exact wpAny_newList ((k.next S1).newList W1 V1 _) (by omega)
  · cases hc
theorem snd_dict (C : CxOk c) {p : Pos} : Snd c (.Dict [] [] p) := snd_bool C fun ns le hc vars mem a mem' e ρ env s E Q W F k => by
  cases hc
  cases e
  refine wpAny_Dict_empty ?_
  obtain ⟨W', S⟩ := W.new (ob := { cls := .type "dict", data := .dict #[] }) (o := .idict 0) rfl ⟨⟨_, Heap.IntMap.new _⟩, Heap.DictLe.new _⟩
  refine k _ _ _ s.toks W' S (.obj ?_)
  rw [← W.len, List.getElem?_append_right (Nat.le_refl _), Nat.sub_self]; rfl

theorem args_sound (C : CxOk c) (pos : Pos) {f : Value} {xs : List Expr} (hx : ∀ x ∈ xs, SndE c x) {ns : Names} {les : List LE} (h1 : compEs ns xs = some les) {vars : Vars} {mem mem' : Mem} {as : List AV} (e : evs c.M c.Φ vars les mem = some (as, mem'))
    {ρ : List Addr} {env : Env} {s : Shared} {E : Value → Shared → Prop} {Q : Args → Shared → Prop} (W : Wd c.h₀ ρ mem s.heap) (F : Fr c.h₀ ns env ρ vars s.heap) (k : OkL c.h₀ ρ s mem' as fun vs s' => Q ⟨vs, []⟩ s') :
    wpAny (model c.prog c.w) c.A (evalArgs f true (backTo pos (starEach xs env)) []) Q E s := by
  cases xs with
  | nil =>
    cases h1
    cases e
    exact PySem.evalArgs_none (k [] ρ _ s.toks W (Step.refl _ _) .nil)
  | cons x xs =>
    have q := spliced_sound C pos (x :: xs) hx ns les h1 vars mem as mem' e ρ env s E (fun vs s' => Q ⟨vs, []⟩ s') W F k
    obtain ⟨l, h2, _⟩ := bI h1
    rw [comp_plain h2] at q ⊢
    exact evalArgs_plain q
theorem subscripted_ops (slice : Expr) (o i : Value) : ∃ ops, subscripted slice false o i = operate ops (getItem o i) := by
  cases slice with
  | Slice a b d q => cases d <;> exact ⟨_, rfl⟩
  | _ => exact ⟨_, rfl⟩
theorem snd_item (C : CxOk c) {o i : Expr} {p : Pos} (hn : ∀ a b q, i ≠ .Slice a b none q) (ho : SndE c o) (hi : SndE c i) : Snd c (.Subscript o i p) := snd_bool C fun ns le hc vars mem a mem' e ρ env s E Q W F k => by
  have hc' : (do some (LE.item (← compE ns o) (← compE ns i))) = some le := by
    rw [← hc]
    cases i with
    | Slice a b d q => cases d with
      | none => exact absurd rfl (hn a b q)
      | some d => rfl
    | _ => rfl
  refine gI fun Gz gz => ?_
  obtain ⟨o', h1, hc'⟩ := bI hc'
  obtain ⟨i', h2, hc'⟩ := bI hc'
  cases hc'
  obtain ⟨⟨a1, m1⟩, e1, e⟩ := bI e
  obtain ⟨⟨a2, m2⟩, e2, e⟩ := bI e
  obtain ⟨b, e3, e⟩ := bI e
  cases e
  refine gz ?_
  refine Subscript_ (ho ns o' h1 vars mem a1 m1 e1 ρ env s E _ W F fun v ρ1 hp1 tk1 W1 S1 V1 => ?_)
  refine hi ns i' h2 vars m1 a2 mem' e2 ρ1 env _ E _ W1 (F.step W S1) fun u ρ2 hp2 tk2 W2 S2 V2 => ?_
  exact item_sound e3 W2 (V1.step W1 S2) V2 (fun z V => (k.next (S1.trans S2)).same' W2 V) (subscripted_ops i)
theorem opt_sound {lo : Option Expr} (h : ∀ x, lo = some x → SndE c x) {ns : Names} {l' : LE} (hc : compO ns lo = some l') {vars : Vars} {mem mem' : Mem} {a : AV} (e : ev c.M c.Φ vars l' mem = some (a, mem'))
    {ρ : List Addr} {env : Env} {s : Shared} {E : Value → Shared → Prop} {Q : Value → Shared → Prop} (W : Wd c.h₀ ρ mem s.heap) (F : Fr c.h₀ ns env ρ vars s.heap) (k : Ok c.h₀ ρ s mem' a Q) :
    wpAny (model c.prog c.w) c.A (valueOrNone (evalOpt lo env)) Q E s := by
  cases lo with
  | none =>
    cases hc
    cases e
    exact wpAny_pure (k.same' W .none)
  | some x =>
    exact h x rfl ns l' hc vars mem a mem' e ρ env s E Q W F k
theorem snd_slice (C : CxOk c) {o : Expr} {lo hi : Option Expr} {p q : Pos} (ho : SndE c o) (hlo : ∀ x, lo = some x → SndE c x) (hhi : ∀ x, hi = some x → SndE c x) : Snd c (.Subscript o (.Slice lo hi none q) p) := snd_bool C fun ns le hc vars mem a mem' e ρ env s E Q W F k => by
  refine gI fun Gz gz => ?_
  obtain ⟨o', h1, hc⟩ := bI hc
  obtain ⟨l', h2, hc⟩ := bI hc
  obtain ⟨r', h3, hc⟩ := bI hc
  cases hc
  obtain ⟨⟨a1, m1⟩, e1, e⟩ := bI e
  obtain ⟨⟨a2, m2⟩, e2, e⟩ := bI e
  obtain ⟨⟨a3, m3⟩, e3, e⟩ := bI e
  refine gz ?_
  refine Subscript_ (ho ns o' h1 vars mem a1 m1 e1 ρ env s E _ W F fun v ρ1 hp1 tk1 W1 S1 V1 => ?_)
  have arm : eval (.Slice lo hi none q) env = (do
    let l ← valueOrNone (evalOpt lo env)
    let u ← holding [l] (valueOrNone (evalOpt hi env))
    let s ← holding [l, u] (valueOrNone (evalOpt none env))
    newFields "slice" [l, u, s]) := rfl
  rw [arm]
  refine wpAny_bind (opt_sound hlo h2 e2 W1 (F.step W S1) fun v2 ρ2 hp2 tk2 W2 S2 V2 => ?_)
  refine wpAny_bind (wpAny_holding (opt_sound hhi h3 e3 W2 (F.step W (S1.trans S2)) fun v3 ρ3 hp3 tk3 W3 S3 V3 => ?_))
  refine wpAny_bind (wpAny_holding (wpAny_pure ?_))
  refine wpAny_newObj_type ?_
  have W4 := W3.push { cls := .type "slice", data := .fields #[v2, v3, .none] }
  have S4 := Step.push (ρ := ρ3) (h := hp3) { cls := .type "slice", data := .fields #[v2, v3, .none] }
  exact slice_sound e W4 (((V1.step W1 S2).step W2 S3).step W3 S4) ((V2.step W2 S3).step W3 S4) (V3.step W3 S4) ⟨_, Heap.get?_push_size _ rfl, rfl, rfl⟩ (k.next (((S1.trans S2).trans S3).trans S4)) (subscripted_ops _)
theorem Nm.of_is {n : Str} {m : Nm} (h : Nm.of n = some m) : m.str = n := by
  unfold Nm.of at h
  have := List.find?_some h
  exact beq_iff_eq.mp this
theorem methA_find {M : Methods} {a : AV} {n : Nm} {mem : Mem} {f : Addr} (e : methA M a n mem = some f) : ∃ C' n', M.find C' n' = some f := by
  unfold methA at e
  split at e
  · split at e
    · split at e
      · split at e
        · exact ⟨_, _, e⟩
        · cases e
      · cases e
    · cases e
  · cases e
theorem base_plain {o : Expr} (h : plainBase o = true) (attr : Str) (env : Env) (whole : Sem Value) : attributeBase o attr env whole = whole := by
  cases o with
  | Call f args kws p => cases f with
    | Name id q => cases args with
      | nil => cases kws with
        | nil => exact (Bool.false_ne_true h).elim
        | cons => rfl
      | cons => rfl
    | _ => rfl
  | _ => rfl
theorem snd_attr (C : CxOk c) {o : Expr} {n : Str} {p : Pos} (ho : SndE c o) : Snd c (.Attribute o n p) := snd_bool C fun ns le hc vars mem a mem' e ρ env s E Q W F k => by
  simp only [cE_attr] at hc
  split at hc
  · rename_i hp
    refine gI fun Gz gz => ?_
    obtain ⟨o', h1, hc⟩ := bI hc
    obtain ⟨m, h2, hc⟩ := bI hc
    cases hc
    obtain ⟨⟨a1, m1⟩, e1, e⟩ := bI e
    obtain ⟨b, e2, e⟩ := bI e
    cases e
    have hm : m.str = n := Nm.of_is h2
    subst hm
    refine gz ?_
    show wpAny _ _ (do let ov ← attributeBase o m.str env (eval o env); standAt p.atName; let r ← holding [ov] (getAttr ov m.str true); letTemporaryGo o ov r; pure r) Q E s
    rw [base_plain hp]
    refine wpAny_bind (ho ns o' h1 vars mem a1 mem' e1 ρ env s E _ W F fun v ρ1 hp1 tk1 W1 S1 V1 => ?_)
    refine wpAny_bind (wpAny_standAt (wpAny_bind (wpAny_holding (attr_sound C.base.sta (C.base.inH W1) e2 W1 V1 fun z tk V => ?_))))
    exact wpAny_bind (wpAny_letTemporaryGo (wpAny_pure ((k.next S1).same W1 V tk)))
  · cases hc
theorem call_looks {M : Model} {f : Value} (hf : ∀ a, f ≠ .ref a) (h : Heap) (_ : True) : ∃ k, (k = Keeper.frame ∨ k = Keeper.machine ∨ k = Keeper.boundFrame) ∧ Looks M h (keeperOf f) k := by
  refine ⟨.machine, .inr (.inl rfl), ?_⟩
  unfold keeperOf
  cases f <;> first | exact .now | exact absurd rfl (hf _)
theorem Bi.noRef (b : Bi) : ∀ a, b.val ≠ .ref a := by cases b <;> exact fun a h => nomatch h
theorem snd_callF (C : CxOk c) {f : Str} {xs : List Expr} {p q : Pos} (hx : ∀ x ∈ xs, SndE c x) : Snd c (.Call (.Name f q) xs [] p) := snd_bool C fun ns le hc vars mem a mem' e ρ env s E Q W F k => by
  simp only [cE_callF] at hc
  split at hc
  · rename_i hg
    obtain ⟨hg, hok⟩ := Bool.and_eq_true_iff.mp hg
    have hd : (f == ("__debug__" : Str)) = false := by
      unfold okName at hok
      rw [Bool.and_eq_true, Bool.not_eq_true'] at hok
      exact hok.1
    obtain ⟨ls, h1, hc⟩ := bI hc
    split at hc
    · rename_i ad had
      cases hc
      obtain ⟨⟨as, m1⟩, e1, e⟩ := bI e
      refine Call_ (global_sound C.base W F hg hd had ?_)
      refine callWith_of (P := c.K.In) (by rw [plain_args p env xs ls h1]; rfl) (keeps_K (C.base.keepG f ad had)) ?_
      refine args_sound C p hx h1 e1 W F fun vs ρ1 hp1 tk1 W1 S1 V1 => ⟨C.base.inH (s := { s with heap := hp1, toks := tk1 }) W1, ?_⟩
      exact C.fn ad as m1 a mem' e ρ1 _ _ E Q W1 V1 (k.next S1)
    · obtain ⟨b, hb, hc⟩ := bI hc
      cases hc
      obtain ⟨⟨as, m1⟩, e1, e⟩ := bI e
      obtain ⟨mg, mb, G1, G2, G3, G4, _⟩ := C.base.g
      refine Call_ (builtinName_sound (bv := b.val) W F hg hd ⟨mg, mb, G1, G2, (G4 f b hb).1, (G4 f b hb).2⟩ ?_)
      refine callWith_of (P := fun _ => True) (by rw [plain_args p env xs ls h1]; rfl) (call_looks b.noRef) ?_
      refine args_sound C p hx h1 e1 W F fun vs ρ1 hp1 tk1 W1 S1 V1 => ⟨trivial, ?_⟩
      exact callB_sound e W1 V1 C.hh (k.next S1)
  · cases hc
theorem snd_meth (C : CxOk c) {o : Expr} {n : Str} {xs : List Expr} {p q : Pos} (ho : SndE c o) (hx : ∀ x ∈ xs, SndE c x) : Snd c (.Call (.Attribute o n q) xs [] p) := snd_bool C fun ns le hc vars mem a mem' e ρ env s E Q W F k => by
  simp only [cE_meth] at hc
  split at hc
  · rename_i hg
    refine gI fun Gz gz => ?_
    obtain ⟨hg, hp⟩ := Bool.and_eq_true_iff.mp hg
    obtain ⟨hline, hlen⟩ := Bool.and_eq_true_iff.mp hg
    obtain ⟨o', h1, hc⟩ := bI hc
    obtain ⟨m, h2, hc⟩ := bI hc
    obtain ⟨ls, h3, hc⟩ := bI hc
    cases hc
    have hm : m.str = n := Nm.of_is h2
    subst hm
    have hlen := of_decide_eq_true hlen
    obtain ⟨⟨a1, m1⟩, e1, e⟩ := bI e
    have hpl := plain_args p env xs ls h3
    have few : methodCallForm (xs.length + ([] : List Keyword).length) (backTo p (starEach xs env)) (backToKw p (keywordEach [] env)) = true := by
      unfold methodCallForm
      have e1 : (backTo p (starEach xs env)).all (!·.1) = true := by
        rw [List.all_eq_true]
        intro x hx
        have := List.any_eq_false.mp hpl x hx
        simpa using this
      rw [e1]
      rw [show keywordEach [] env = [] from rfl]
      simp [backToKw]
      omega
    refine gz ?_
    show wpAny _ _ (do
      let ov ← attributeBase o m.str env (eval o env)
      standAt q.atName
      methodCall o m.str q p env ov (xs.length + ([] : List Keyword).length) (backTo p (starEach xs env)) (backToKw p (keywordEach [] env))) Q E s
    rw [base_plain hp]
    refine wpAny_bind (ho ns o' h1 vars mem a1 m1 e1 ρ env s E _ W F fun v ρ1 hp1 tk1 W1 S1 V1 => ?_)
    refine wpAny_bind (wpAny_standAt ?_)
    unfold methodCall
    rw [few]
    have hpos : methodCallPos true o env q p = pure p := by unfold methodCallPos; simp [hline]
    rw [hpos]
    dsimp only at e
    split at e
    · rename_i i
      split at e
      · rename_i xs0 hl0
        obtain ⟨⟨as, m2⟩, e2, e⟩ := bI e
        dsimp only at e
        split at e
        · rename_i xs1 hl1
          obtain ⟨ad, rfl, hi⟩ := V1.obj_inv
          obtain ⟨vs0, n0, g0, r0⟩ := W1.rep _ _ _ hi hl0
          have hnm := listMeth_names e
          refine wpAny_bind (wpAny_holding ?_)
          show wpAny _ _ (getMethod (.ref ad) m.str _) _ _ _
          refine listGet_sound hnm g0 ?_
          refine wpAny_bind (wpAny_pure ?_)
          refine callWith_of (P := fun _ => True) (by rw [hpl]; rfl) (call_looks (fun a h => nomatch h)) ?_
          refine args_sound C p hx h3 e2 W1 (F.step W S1) fun vs ρ2 hp2 tk2 W2 S2 V2 => ⟨trivial, ?_⟩
          exact listMeth_sound e W2 hl1 (S2.get hi) V2 (k.next (S1.trans S2))
        · cases e
      · rename_i cc dd hl0
        obtain ⟨f, e2, e⟩ := bI e
        obtain ⟨⟨as, m2⟩, e3, e⟩ := bI e
        refine wpAny_bind (wpAny_holding ?_)
        show wpAny _ _ (getMethod v m.str _) _ _ _
        refine method_sound C.base.sta (C.base.inH W1) e2 W1 V1 ?_
        refine wpAny_bind (wpAny_pure ?_)
        have hfind := methA_find e2
        obtain ⟨C', n', hfind⟩ := hfind
        refine callWith_of (P := c.K.In) (by rw [hpl]; rfl) (keeps_K (C.base.keepM C' n' f hfind)) ?_
        refine args_sound C p hx h3 e3 W1 (F.step W S1) fun vs ρ2 hp2 tk2 W2 S2 V2 => ⟨C.base.inH (s := { s with heap := hp2, toks := tk2 }) W2, ?_⟩
        exact C.fn f (_ :: as) m2 a mem' e ρ2 _ _ E Q W2 (.cons (V1.step W1 S2) V2) (k.next (S1.trans S2))
      · cases e
    · cases e
  · cases hc
end
end Mine
end

section
open PySem PySem.Spec PySem.Calls PyProof.Rows PySem.W
set_option linter.unusedVariables false
set_option autoImplicit false
namespace Mine

noncomputable def Kept (IS : Addr → Prop) (h h' : Heap) : Prop := ∀ b o, ¬ IS b → h.get? b = some o → h'.get? b = some o
noncomputable def Lives (IS : Addr → Prop) (h : Heap) : Prop := ∀ b, IS b → ∃ o, h.get? b = some o ∧ ¬ Still o
structure Off (h₀ : Heap) (ρ : List Addr) (IS : Addr → Prop) : Prop where
  out : ∀ b, IS b → b ∉ ρ
  base : ∀ b, IS b → h₀.get? b = none

theorem Kept.kt {IS : Addr → Prop} {ρ : List Addr} {h h' : Heap} (k : Kept IS h h') (L : Lives IS h) : KeepT ρ ρ h h' :=
  ⟨fun _ _ e => e, fun b o ho e => k b o (fun q => by
    obtain ⟨o', e', n⟩ := L b q
    rw [e] at e'; cases e'; exact n ho) e⟩
theorem Rep.off {ρ ρ' : List Addr} {h h' : Heap} {IS : Addr → Prop} (kt : KeepT ρ ρ' h h') (k : Kept IS h h') {a : Addr} {o : MObj} (hne : ¬ IS a) (r : Rep ρ h a o) : Rep ρ' h' a o := by
  cases o with
  | list xs => obtain ⟨vs, n, e, x⟩ := r; exact ⟨vs, n, k _ _ hne e, x.keepT kt⟩
  | inst c d => obtain ⟨dx, hd, e⟩ := r; exact ⟨dx, kt.1 _ _ hd, k _ _ hne e⟩
  | sdict fs => obtain ⟨es, n, e, x⟩ := r; exact ⟨es, n, k _ _ hne e, x.keepT kt⟩
  | idict c =>
    obtain ⟨⟨f, o', es, ep, e, r⟩, le⟩ := r
    exact ⟨⟨f, o', es, ep, k _ _ hne e, r⟩, fun o₂ es₂ ep₂ e₂ d₂ => by rw [k _ _ hne e] at e₂; cases e₂; exact le _ _ _ e d₂⟩
theorem Wd.off {h₀ : Heap} {ρ : List Addr} {mem : Mem} {h h' : Heap} {IS : Addr → Prop} (W : Wd h₀ ρ mem h) (k : Kept IS h h') (L : Lives IS h) (O : Off h₀ ρ IS) : Wd h₀ ρ mem h' :=
  ⟨W.len, W.nodup, fun i a o e1 e2 => (W.rep i a o e1 e2).off (k.kt L) k (fun q => O.out a q (List.mem_of_getElem? e1)), fun b o e => k b o (fun q => by rw [O.base b q] at e; cases e) (W.base b o e), W.fresh⟩
theorem StepO.off {IS : Addr → Prop} {ρ : List Addr} {h h' : Heap} (k : Kept IS h h') (L : Lives IS h) (L' : Lives IS h') : StepO IS ρ ρ h h' :=
  ⟨⟨[], by simp⟩, fun a h1 h2 => absurd h1 h2, fun b o _ hn e => k b o hn e, k.kt L, fun b o _ e => by
    by_cases q : IS b
    · obtain ⟨o', e', _⟩ := L' b q; exact ⟨o', e'⟩
    · exact ⟨o, k b o q e⟩⟩
theorem StepO.last {O O' IS : Addr → Prop} {ρ ρ' : List Addr} {h h₁ h₂ : Heap} (x : StepO O' ρ ρ' h h₁) (hO : ∀ b, O' b → O b ∨ h.get? b = none) (hI : ∀ b, IS b → h.get? b = none) (k : Kept IS h₁ h₂) : StepO O ρ ρ' h h₂ := by
  have y := x.drop (O := O) hO
  have nI : ∀ b o, h.get? b = some o → ¬ IS b := fun b o e q => by rw [hI b q] at e; cases e
  exact ⟨y.ext, y.new, fun b o hb hn e => k b o (nI b o e) (y.keep b o hb hn e), ⟨y.kt.1, fun b o ho e => k b o (nI b o e) (y.kt.2 b o ho e)⟩, fun b o hb e => by
    obtain ⟨o', e'⟩ := y.has b o hb e
    exact ⟨o', k b o' (nI b o e) e'⟩⟩
theorem Off.move {h₀ : Heap} {ρ ρ' : List Addr} {IS O : Addr → Prop} {h h' : Heap} (x : Off h₀ ρ IS) (S : StepO O ρ ρ' h h') (L : Lives IS h) : Off h₀ ρ' IS :=
  ⟨fun b q m => by
    obtain ⟨o, e, _⟩ := L b q
    rw [S.new b m (x.out b q)] at e
    exact absurd e (by simp), x.base⟩
theorem Fr.moveO {h₀ : Heap} {ns : Names} {env : Env} {ρ ρ' : List Addr} {vars : Vars} {h h' : Heap} {O : Addr → Prop} (F : Fr h₀ ns env ρ vars h) (S : StepO O ρ ρ' h h') (hO : ¬ O env.locals ∧ ∀ x b, env.cells.lookup x = some b → ¬ O b) : Fr h₀ ns env ρ' vars h' :=
  F.move S.kt S.new fun b o hb e => by
    rcases hb with rfl | ⟨x, hx⟩
    · exact S.keep _ o F.out.1 hO.1 e
    · exact S.keep _ o (F.cout x b hx).1 (hO.2 x b hx) e
theorem Fr.off {h₀ : Heap} {ns : Names} {env : Env} {ρ : List Addr} {vars : Vars} {h h' : Heap} {IS : Addr → Prop} (F : Fr h₀ ns env ρ vars h) (k : Kept IS h h') (L : Lives IS h) (hO : ¬ IS env.locals ∧ ∀ x b, env.cells.lookup x = some b → ¬ IS b) : Fr h₀ ns env ρ vars h' :=
  F.move (k.kt L) (fun a h1 h2 => absurd h1 h2) fun b o hb e => by
    rcases hb with rfl | ⟨x, hx⟩
    · exact k _ o hO.1 e
    · exact k _ o (hO.2 x b hx) e

noncomputable def OkA (h₀ : Heap) (ns : Names) (env : Env) (ρ : List Addr) (s : Shared) (vars' : Vars) (mem' : Mem) (Q : Unit → Shared → Prop) : Prop :=
  ∀ ρ' h' tk', Wd h₀ ρ' mem' h' → StepO (Own ns env) ρ ρ' s.heap h' → Fr h₀ ns env ρ' vars' h' → Q () { s with heap := h', toks := tk' }
theorem OkA.next {h₀ : Heap} {ns : Names} {env : Env} {ρ ρ' : List Addr} {s : Shared} {h' : Heap} {tk' : Nat} {vars' : Vars} {mem' : Mem} {Q : Unit → Shared → Prop} (k : OkA h₀ ns env ρ s vars' mem' Q) (S : StepO (Own ns env) ρ ρ' s.heap h') :
    OkA h₀ ns env ρ' { s with heap := h', toks := tk' } vars' mem' Q := fun ρ₂ h₂ tk₂ W₂ S₂ F₂ => k ρ₂ h₂ tk₂ W₂ (S.trans S₂) F₂

section
variable {c : Cx}

theorem assign_name (C : CxOk c) {ns : Names} {env : Env} {x : Str} {p : Pos} {i : Nat} {v : Value} {a : AV} {ρ : List Addr} {mem : Mem} {vars : Vars} {s : Shared} {E : Value → Shared → Prop} {Q : Unit → Shared → Prop}
    (hs : slotW ns x = some i) (W : Wd c.h₀ ρ mem s.heap) (F : Fr c.h₀ ns env ρ vars s.heap) (y : Val ρ s.heap v a) (k : OkA c.h₀ ns env ρ s (vars.set i (some a)) mem Q) : wpAny (model c.prog c.w) c.A (assign (.Name x p) env v) Q E s :=
  wpAny_assign_Name (store_sound W F hs y fun h' tk' W' S' F' => k ρ h' tk' W' S' F')

theorem assign_each (C : CxOk c) {ns : Names} {env : Env} : ∀ {es : List Expr} {is : List Nat} (_ : slotsOf ns es = some is) {vs : List Value} {as : List AV} {ρ : List Addr} {mem : Mem} {vars vars' : Vars} {s : Shared} {E : Value → Shared → Prop} {Q : Unit → Shared → Prop}
    (_ : setVars vars is as = some vars') (_ : Wd c.h₀ ρ mem s.heap) (_ : Fr c.h₀ ns env ρ vars s.heap) (_ : Vals ρ s.heap vs as) (_ : OkA c.h₀ ns env ρ s vars' mem Q),
    wpAny (model c.prog c.w) c.A (assignInOrder ((assignEach es env).map (·.2)) vs) Q E s := by
  intro es
  induction es with
  | nil =>
    intro is hs vs as ρ mem vars vars' s E Q e W F V k
    cases hs
    cases as with
    | nil =>
      cases e
      cases V.nil_inv
      exact wpAny_pure (k ρ _ s.toks W (StepO.refl _ _ _) F)
    | cons => cases e
  | cons x es ih =>
    intro is hs vs as ρ mem vars vars' s E Q e W F V k
    cases x with
    | Name n p =>
      obtain ⟨i, h1, hs⟩ := bI hs
      obtain ⟨is', h2, hs⟩ := bI hs
      cases hs
      cases as with
      | nil => cases e
      | cons a as =>
        obtain ⟨_, _, rfl, V1, V2⟩ := V.cons_inv
        show wpAny _ _ (assignInOrder (assign (.Name n p) env :: (assignEach es env).map (·.2)) (_ :: _)) Q E s
        refine wpAny_assignInOrder_more (assign_name C h1 W F V1 fun ρ1 h1' tk1 W1 S1 F1 => ?_)
        exact ih h2 e W1 F1 (V2.keepT S1.kt) (k.next S1)
    | _ => exact noS hs
theorem slotsOf_len {ns : Names} {env : Env} : ∀ {es : List Expr} {is : List Nat}, slotsOf ns es = some is → (assignEach es env).length = is.length ∧ (assignEach es env).findIdx? (·.1) = none := by
  intro es
  induction es with
  | nil =>
    intro is h
    cases h; exact ⟨rfl, rfl⟩
  | cons x es ih =>
    intro is h
    cases x with
    | Name n p =>
      obtain ⟨i, h1, h⟩ := bI h
      obtain ⟨is', h2, h⟩ := bI h
      cases h
      obtain ⟨q1, q2⟩ := ih h2
      refine ⟨by show (assignEach es env).length + 1 = _; rw [q1]; rfl, ?_⟩
      show ((false, assign (.Name n p) env) :: assignEach es env).findIdx? (·.1) = none
      rw [List.findIdx?_cons, q2]; rfl
    | _ => exact noS h
theorem setVars_len : ∀ {is : List Nat} {as : List AV} {vars vars' : Vars}, setVars vars is as = some vars' → is.length = as.length
  | [], [], _, _, _ => rfl
  | [], _ :: _, _, _, h => by cases h
  | _ :: _, [], _, _, h => by cases h
  | _ :: is, _ :: as, _, _, h => by rw [List.length_cons, List.length_cons, setVars_len (sv_cons.symm.trans h)]
theorem assign_tuple (C : CxOk c) {ns : Names} {env : Env} {es : List Expr} {x1} {p : Pos} {is : List Nat} (hs : slotsOf ns es = some is) {v : Value} {a : AV} {as : List AV} {ρ : List Addr} {mem : Mem} {vars vars' : Vars} {s : Shared} {E : Value → Shared → Prop} {Q : Unit → Shared → Prop}
    (ha : a = .tup as) (e : setVars vars is as = some vars') (W : Wd c.h₀ ρ mem s.heap) (F : Fr c.h₀ ns env ρ vars s.heap) (y : Val ρ s.heap v a) (k : OkA c.h₀ ns env ρ s vars' mem Q) : wpAny (model c.prog c.w) c.A (assign (.Tuple es x1 p) env v) Q E s := by
  subst ha
  obtain ⟨ad, vs, n, rfl, g, r⟩ := y.tup_inv
  obtain ⟨q1, q2⟩ := slotsOf_len (env := env) hs
  have l1 := r.length
  have l2 := setVars_len e
  refine wpAny_assign_Tuple C.hh ⟨_, g, rfl, n, rfl⟩ (by rw [q1, List.size_toArray, l1, l2]) q2 fun h' he => ?_
  have hk : ∀ b o, s.heap.get? b = some o → h'.get? b = some o := fun b o e => he b o (Nat.ne_of_lt (Heap.lt_size e)) e
  have S := Step.of_keeps (ρ := ρ) hk
  have W' := W.keeps hk
  exact assign_each C hs e W' (F.step W S) (r.step W S) (k.next (tk' := s.toks) (StepO.of W S))
end
end Mine
end

section
open PySem PySem.Spec PySem.Calls PyProof.Rows PySem.W
set_option linter.unusedVariables false
set_option autoImplicit false
namespace Mine

noncomputable def SrcIs (src : AV) (all : List AV) (mem : Mem) : Prop := match src with
  | .obj n => mem[n]? = some (.list all)
  | _ => True
theorem srcIs_still {src : AV} {all : List AV} {mem : Mem} (h : stillA src all mem = true) : SrcIs src all mem := by
  cases src with
  | obj n =>
    unfold stillA at h
    show mem[n]? = some (.list all)
    exact of_decide_eq_true h
  | _ => trivial

theorem not_still_ri {x : Data} (st : Still { cls := .type "range_iterator", dict := none, data := x, slots := #[] }) : False := by
  have h1 : (Value.type "range_iterator" = Value.type "tuple") → False := by decide
  have h2 : (Value.type "range_iterator" = Value.type "range") → False := by decide
  exact st.1.elim h1 h2
structure Turns (c : Cx) (target : Expr) (it : Value) (IS : Addr → Prop) (src : AV) (all items : List AV) (St : List Addr → Heap → Nat → Prop) : Prop where
  item : ∀ {ρ : List Addr} {mem : Mem} {s : Shared} {k : Nat} {a : AV} {E1 E2 : Value → Shared → Prop} {Q : Value → Shared → Prop}, Wd c.h₀ ρ mem s.heap → SrcIs src all mem → St ρ s.heap k → items[k]? = some a →
    (∀ v h' tk', Kept IS s.heap h' → Lives IS h' → Val ρ h' v a → St ρ h' (k + 1) → Q v { s with heap := h', toks := tk' }) →
    wpAny (model c.prog c.w) c.A (pyNext it) (fun r s₁ => match r with
      | none => False
      | some v => wpAny (model c.prog c.w) c.A (letOwnedTupleGo target it v) (fun _ s₂ => Q v s₂) E2 s₁) E1 s
  done : ∀ {ρ : List Addr} {mem : Mem} {s : Shared} {E1 : Value → Shared → Prop} {Q : Shared → Prop}, Wd c.h₀ ρ mem s.heap → SrcIs src all mem → St ρ s.heap items.length →
    (∀ h' tk', Kept IS s.heap h' → Q { s with heap := h', toks := tk' }) → wpAny (model c.prog c.w) c.A (pyNext it) (fun r s₁ => r = none ∧ Q s₁) E1 s
  lives : ∀ {ρ : List Addr} {h : Heap} {k : Nat}, St ρ h k → Lives IS h
  move : ∀ {ρ ρ' : List Addr} {h h' : Heap} {k : Nat}, St ρ h k → KeepT ρ ρ' h h' → (∀ b o, IS b → h.get? b = some o → h'.get? b = some o) → St ρ' h' k

theorem owned_plain {prog : Program} {w : World} {A : Around} {E : Value → Shared → Prop} {s : Shared} {target : Expr} {I : Addr} {o : Obj} {T : String} {v : Value} {Q : Unit → Shared → Prop} (ho : s.heap.get? I = some o) (hc : o.cls = .type T)
    (hT : ["enumerate", "zip", "dict_itemiterator", "dict_reverseitemiterator", "odict_iterator", "itertools.zip_longest", "itertools.pairwise"].contains T = false) (k : Q () s) :
    wpAny (model prog w) A (letOwnedTupleGo target (.ref I) v) Q E s := by
  have key : wpAny (model prog w) A (do
      let (.ref r, .ref a) := (Value.ref I, v) | return
      let o ← load r
      match o.cls, o.data with
      | .type n, .fields vs =>
        if ["enumerate", "zip", "dict_itemiterator", "dict_reverseitemiterator", "odict_iterator", "itertools.zip_longest", "itertools.pairwise"].contains n && vs[0]? == some (rawInt a) then
          rule "for.unpacks-the-owned-tuple"
          updateField r 0 .none
      | _, _ => pure ()) Q E s := by
    cases v with
    | ref a =>
      refine wpAny_bind (wpAny_load ho ?_)
      rw [hc]
      cases o.data <;> first | exact wpAny_pure k | (dsimp only; rw [hT]; exact wpAny_pure k)
    | _ => exact wpAny_pure k
  cases target <;> first | exact wpAny_pure k | exact key
section
variable {c : Cx}
theorem turns_list (C : CxOk c) {target : Expr} {I : Addr} {n : Nat} {all : List AV} : Turns c target (.ref I) (· = I) (.obj n) all all (fun ρ h k => ∃ l, ρ[n]? = some l ∧ l ≠ I ∧ h.IsListIter I l k) where
  item := fun {ρ mem s k a E1 E2 Q} W hs st ha hQ => by
    obtain ⟨l, hl, hne, hit⟩ := st
    obtain ⟨vs, m, g, rs⟩ := W.rep _ _ _ hl hs
    obtain ⟨v, hv, xv⟩ := rs.get ha
    refine wpAny_pyNext_list_item hit ⟨_, g, rfl, _, rfl⟩ (x := v) (by rw [List.getElem?_toArray]; exact hv) fun h' hit' hs' => ?_
    obtain ⟨o, ho, hc, hd⟩ := id hit'
    have L' : Lives (· = I) h' := fun b q => ⟨o, q ▸ ho, fun st => by
      rcases st.1 with q | q <;> (rw [hc] at q; revert q; decide)⟩
    obtain ⟨o0, ho0, hc0, _⟩ := id hit
    have L0 : Lives (· = I) s.heap := fun b q => ⟨o0, q ▸ ho0, fun st => by
      rcases st.1 with q | q <;> (rw [hc0] at q; revert q; decide)⟩
    have kk : Kept (· = I) s.heap h' := fun b o hb e => (hs'.2 b hb).trans e
    exact owned_plain (s := { s with heap := h' }) ho hc (by decide) (hQ v h' s.toks kk L' (xv.keepT (kk.kt L0)) ⟨l, hl, hne, hit'⟩)
  done := fun {ρ mem s E1 Q} W hs st hQ => by
    obtain ⟨l, hl, hne, hit⟩ := st
    obtain ⟨vs, m, g, rs⟩ := W.rep _ _ _ hl hs
    have hlen := rs.length
    exact wpAny_pyNext_list_end C.hh hit ⟨_, g, rfl, _, rfl⟩ (by rw [List.getElem?_toArray]; exact List.getElem?_eq_none (by omega)) fun h' he => ⟨rfl, hQ h' s.toks fun b o hb e => he b o hb e⟩
  lives := fun {ρ h k} st b q => by
    obtain ⟨l, hl, hne, o, ho, hc, hd⟩ := st
    exact ⟨o, q ▸ ho, fun st => by rcases st.1 with q | q <;> (rw [hc] at q; revert q; decide)⟩
  move := fun {ρ ρ' h h' k} st kt hk => by
    obtain ⟨l, hl, hne, o, ho, r⟩ := st
    exact ⟨l, kt.1 _ _ hl, hne, o, hk I o rfl ho, r⟩
theorem turns_tuple (C : CxOk c) {target : Expr} {I : Addr} {all : List AV} : Turns c target (.ref I) (· = I) (.tup all) all all (fun ρ h k => ∃ l vs m, l ≠ I ∧ h.get? l = some (tupOb vs m) ∧ Vals ρ h vs all ∧ h.IsTupleIter I l k) where
  item := fun {ρ mem s k a E1 E2 Q} W hs st ha hQ => by
    obtain ⟨l, vs, m, hne, g, rs, hit⟩ := st
    obtain ⟨v, hv, xv⟩ := rs.get ha
    refine wpAny_pyNext_tuple_item hit ⟨_, g, rfl, _, rfl⟩ (x := v) (by rw [List.getElem?_toArray]; exact hv) fun h' hit' hs' => ?_
    obtain ⟨o, ho, hc, hd⟩ := id hit'
    have L' : Lives (· = I) h' := fun b q => ⟨o, q ▸ ho, fun st => by
      rcases st.1 with q | q <;> (rw [hc] at q; revert q; decide)⟩
    obtain ⟨o0, ho0, hc0, _⟩ := id hit
    have L0 : Lives (· = I) s.heap := fun b q => ⟨o0, q ▸ ho0, fun st => by
      rcases st.1 with q | q <;> (rw [hc0] at q; revert q; decide)⟩
    have kk : Kept (· = I) s.heap h' := fun b o hb e => (hs'.2 b hb).trans e
    exact owned_plain (s := { s with heap := h' }) ho hc (by decide) (hQ v h' s.toks kk L' (xv.keepT (kk.kt L0)) ⟨l, vs, m, hne, kk _ _ hne g, rs.keepT (kk.kt L0), hit'⟩)
  done := fun {ρ mem s E1 Q} W hs st hQ => by
    obtain ⟨l, vs, m, hne, g, rs, hit⟩ := st
    have hlen := rs.length
    exact wpAny_pyNext_tuple_end C.hh hit ⟨_, g, rfl, _, rfl⟩ (by rw [List.getElem?_toArray]; exact List.getElem?_eq_none (by omega)) fun h' he => ⟨rfl, hQ h' s.toks fun b o hb e => he b o hb e⟩
  lives := fun {ρ h k} st b q => by
    obtain ⟨l, vs, m, hne, g, rs, o, ho, hc, hd⟩ := st
    exact ⟨o, q ▸ ho, fun st => by rcases st.1 with q | q <;> (rw [hc] at q; revert q; decide)⟩
  move := fun {ρ ρ' h h' k} st kt hk => by
    obtain ⟨l, vs, m, hne, g, rs, o, ho, r⟩ := st
    exact ⟨l, vs, m, hne, kt.2 _ _ (still_tup _ _) g, rs.keepT kt, o, hk I o rfl ho, r⟩
theorem rngItems_len (x y : Int) : (rngItems x y).length = (y - x).toNat := by simp [rngItems]
theorem turns_range (C : CxOk c) {target : Expr} {I : Addr} {x y : Int} : Turns c target (.ref I) (· = I) (.rng x y) (rngItems x y) (rngItems x y) (fun ρ h k => IsRangeIter h I (x + (k : Int)) (((y - x).toNat : Int) - (k : Int)) 1) where
  item := fun {ρ mem s k a E1 E2 Q} W hs st ha hQ => by
    have hk : k < (y - x).toNat := by
      have := (List.getElem?_eq_some_iff.mp ha).1
      rwa [rngItems_len] at this
    have e : a = .int (x + (k : Int)) := by
      unfold rngItems at ha
      rw [List.getElem?_map, List.getElem?_range hk] at ha
      cases ha; rfl
    subst e
    refine wpAny_pyNext_range_item st (by omega) fun h' hit' hs' => ?_
    have L' : Lives (· = I) h' := fun b q => ⟨_, q ▸ hit', fun st => by exact not_still_ri st⟩
    have kk : Kept (· = I) s.heap h' := fun b o hb e => (hs'.2 b hb).trans e
    have e1 : x + (k : Int) + 1 = x + ((k + 1 : Nat) : Int) := by push_cast; omega
    have e2 : ((y - x).toNat : Int) - (k : Int) - 1 = ((y - x).toNat : Int) - ((k + 1 : Nat) : Int) := by push_cast; omega
    rw [e1, e2] at hit'
    exact owned_plain (s := { s with heap := h', toks := s.toks + 1 }) hit' rfl (by decide) (hQ _ h' _ kk L' (.int _ _) hit')
  done := fun {ρ mem s E1 Q} W hs st hQ => by
    rw [rngItems_len] at st
    exact wpAny_pyNext_range_end C.hh st (by omega) fun h' he => ⟨rfl, hQ h' s.toks fun b o hb e => he b o hb e⟩
  lives := fun {ρ h k} st b q => ⟨_, q ▸ st, fun st => by exact not_still_ri st⟩
  move := fun {ρ ρ' h h' k} st kt hk => hk I _ rfl st
theorem turns_rev (C : CxOk c) {target : Expr} {I : Addr} {n : Nat} {all : List AV} : Turns c target (.ref I) (· = I) (.obj n) all all.reverse (fun ρ h k => ∃ l, ρ[n]? = some l ∧ l ≠ I ∧ h.IsRevIter I l ((all.length : Int) - 1 - (k : Int))) where
  item := fun {ρ mem s k a E1 E2 Q} W hs st ha hQ => by
    obtain ⟨l, hl, hne, hit⟩ := st
    obtain ⟨vs, m, g, rs⟩ := W.rep _ _ _ hl hs
    have hk : k < all.length := by
      have := (List.getElem?_eq_some_iff.mp ha).1
      rwa [List.length_reverse] at this
    rw [List.getElem?_reverse hk] at ha
    obtain ⟨v, hv, xv⟩ := rs.get ha
    have e : (all.length : Int) - 1 - (k : Int) = ((all.length - 1 - k : Nat) : Int) := by omega
    rw [e] at hit
    refine wpAny_pyNext_rev_item hit ⟨_, g, rfl, _, rfl⟩ (x := v) (by rw [List.getElem?_toArray]; exact hv) fun h' hit' hs' => ?_
    obtain ⟨o, ho, hc, hd⟩ := id hit'
    have L' : Lives (· = I) h' := fun b q => ⟨o, q ▸ ho, fun st => by
      rcases st.1 with q | q <;> (rw [hc] at q; revert q; decide)⟩
    obtain ⟨o0, ho0, hc0, _⟩ := id hit
    have L0 : Lives (· = I) s.heap := fun b q => ⟨o0, q ▸ ho0, fun st => by
      rcases st.1 with q | q <;> (rw [hc0] at q; revert q; decide)⟩
    have kk : Kept (· = I) s.heap h' := fun b o hb e => (hs'.2 b hb).trans e
    have e2 : ((all.length - 1 - k : Nat) : Int) - 1 = (all.length : Int) - 1 - ((k + 1 : Nat) : Int) := by omega
    rw [e2] at hit'
    exact owned_plain (s := { s with heap := h' }) ho hc (by decide) (hQ v h' s.toks kk L' (xv.keepT (kk.kt L0)) ⟨l, hl, hne, hit'⟩)
  done := fun {ρ mem s E1 Q} W hs st hQ => by
    obtain ⟨l, hl, hne, hit⟩ := st
    rw [List.length_reverse, show (all.length : Int) - 1 - (all.length : Int) = -1 by omega] at hit
    exact wpAny_pyNext_rev_end C.hh hit fun h' he => ⟨rfl, hQ h' s.toks fun b o hb e => he b o hb e⟩
  lives := fun {ρ h k} st b q => by
    obtain ⟨l, hl, hne, o, ho, hc, hd⟩ := st
    exact ⟨o, q ▸ ho, fun st => by rcases st.1 with q | q <;> (rw [hc] at q; revert q; decide)⟩
  move := fun {ρ ρ' h h' k} st kt hk => by
    obtain ⟨l, hl, hne, o, ho, r⟩ := st
    exact ⟨l, kt.1 _ _ hl, hne, o, hk I o rfl ho, r⟩

theorem iter_sound (C : CxOk c) {target : Expr} {src : AV} {all : List AV} {v : Value} {ρ : List Addr} {mem : Mem} {s : Shared} {E : Value → Shared → Prop} {Q : Value → Shared → Prop} (e : iterA mem src = some all) (W : Wd c.h₀ ρ mem s.heap) (x : Val ρ s.heap v src)
    (k : ∀ (I : Addr) (h' : Heap) (St : List Addr → Heap → Nat → Prop), s.heap.get? I = none → (∀ b o, s.heap.get? b = some o → h'.get? b = some o) → Turns c target (.ref I) (· = I) src all all St → St ρ h' 0 → SrcIs src all mem →
      (∀ (i : Nat) (ρ : List Addr) (s' : Shared) (E' : Value → Shared → Prop) (Q' : Value → Shared → Prop), St ρ s'.heap i → Q' (.ref I) s' → wpAny (model c.prog c.w) c.A (pyIter (.ref I)) Q' E' s') → Q (.ref I) { s with heap := h' }) :
    wpAny (model c.prog c.w) c.A (pyIter v) Q E s := by
  unfold iterA at e
  have fresh : s.heap.get? s.heap.objs.size = none := by
    cases q : s.heap.get? s.heap.objs.size with
    | none => rfl
    | some o => exact absurd (Heap.lt_size q) (Nat.lt_irrefl _)
  split at e
  · rename_i p q
    split at e
    · rename_i hb
      cases e
      obtain ⟨_, _, _, _, rfl, g⟩ := x.rng_inv
      have hn : Builtin.Range.rangeSize p q 1 = ((q - p).toNat : Nat) := by rw [rangeSize_one]; split <;> omega
      refine wpAny_pyIter_range g (small_rng hb.1 hb.2.1 hb.2.2.1 hb.2.2.2) ?_
      rw [hn]
      refine k s.heap.objs.size _ _ fresh (fun b o e => Heap.get?_push_of_some _ e) (turns_range C) ?_ trivial (fun i ρ s' E' Q' st h => wpAny_pyIter_rangeiter st h)
      have := Heap.get?_push_size s.heap (o := { cls := .type "range_iterator", data := .fields #[rawInt p, rawInt ((q - p).toNat : Nat), rawInt 1] }) rfl
      simpa using this
    · cases e
  · obtain ⟨l, vs, rfl, rs, hl⟩ := items_sound W x e
    rcases hl with ⟨n, rfl, g⟩ | ⟨n, i, rfl, hm, hr, g⟩
    · refine wpAny_pyIter_tuple ⟨_, g, rfl, _, rfl⟩ ?_
      refine k s.heap.objs.size _ _ fresh (fun b o e => Heap.get?_push_of_some _ e) (turns_tuple C) ?_ trivial (fun i ρ s' E' Q' st h => let ⟨l, vs, m, _, _, _, hit⟩ := st; wpAny_pyIter_tupleiter hit h)
      refine ⟨l, vs, n, Nat.ne_of_lt (Heap.lt_size g), Heap.get?_push_of_some _ g, rs.step W (Step.push _), _, Heap.get?_push_size _ rfl, rfl, rfl⟩
    · refine wpAny_pyIter_list ⟨_, g, rfl, _, rfl⟩ ?_
      refine k s.heap.objs.size _ _ fresh (fun b o e => Heap.get?_push_of_some _ e) (turns_list C) ?_ hm (fun i ρ s' E' Q' st h => let ⟨l, _, _, hit⟩ := st; wpAny_pyIter_listiter hit h)
      exact ⟨l, hr, Nat.ne_of_lt (Heap.lt_size g), _, Heap.get?_push_size _ rfl, rfl, rfl⟩

theorem target_sound (C : CxOk c) {ns : Names} {env : Env} {target : Expr} {t : LT} (hc : compT ns target = some t) {v : Value} {a : AV} {ρ : List Addr} {mem : Mem} {vars vars' : Vars} {s : Shared} {E : Value → Shared → Prop} {Q : Unit → Shared → Prop}
    (e : bindT t a vars mem = some vars') (W : Wd c.h₀ ρ mem s.heap) (F : Fr c.h₀ ns env ρ vars s.heap) (y : Val ρ s.heap v a) (k : OkA c.h₀ ns env ρ s vars' mem Q) : wpAny (model c.prog c.w) c.A (assign target env v) Q E s := by
  cases target with
  | Name x p =>
    obtain ⟨i, hi, rfl⟩ := Option.map_eq_some_iff.mp hc
    cases e
    exact assign_name C hi W F y k
  | Tuple es x1 p =>
    obtain ⟨is, hi, rfl⟩ := Option.map_eq_some_iff.mp hc
    cases a with
    | tup xs => exact assign_tuple C hi rfl e W F y k
    | _ => exact noS e
  | _ => exact noS hc
end
end Mine
end

section
open PySem PySem.Spec PySem.Calls PyProof.Rows PySem.W
set_option linter.unusedVariables false
set_option autoImplicit false
namespace Mine

theorem distinct_lookup : ∀ {ns : Names}, distinct ns = true → ∀ {x : Str} {k : NameKind}, (x, k) ∈ ns → ns.lookup x = some k
  | [], _, x, k, h => nomatch h
  | (y, k') :: r, hd, x, k, h => by
    unfold distinct at hd
    obtain ⟨h1, h2⟩ := Bool.and_eq_true_iff.mp hd
    rw [List.lookup_cons]
    rcases List.mem_cons.mp h with e | h
    · cases e; rw [beq_self_eq_true]
    · have : (x == y) = false := by
        cases q : (x == y) with
        | false => rfl
        | true =>
          rw [Bool.not_eq_true'] at h1
          have := List.any_eq_false.mp h1 (x, k) h
          exact absurd q this
      rw [this]; exact distinct_lookup h2 h

structure CellsP (cs : List (Str × Addr)) (h : Heap) : Prop where
  live : ∀ x c, cs.lookup x = some c → ∃ v, h.IsCell c v
  apart : ∀ x y c, cs.lookup x = some c → cs.lookup y = some c → x = y
theorem lookup_cons_ne {α : Type} {x y : Str} {v : α} {l : List (Str × α)} (h : x ≠ y) : List.lookup x ((y, v) :: l) = l.lookup x := by
  rw [List.lookup_cons, beq_eq_false_iff_ne.mpr h]
theorem lookup_cons_eq {α : Type} {x : Str} {v : α} {l : List (Str × α)} : List.lookup x ((x, v) :: l) = some v := by
  rw [List.lookup_cons, beq_self_eq_true]
theorem cellsFrom_spec : ∀ (names : Names) (h : Heap) (acc : List (Str × Addr)), CellsP acc h →
    CellsP (cellsFrom h.objs.size names acc) (pushCells h names) ∧ (∀ z, (z, NameKind.cell) ∉ names → (cellsFrom h.objs.size names acc).lookup z = acc.lookup z) ∧
    (∀ z, (z, NameKind.cell) ∈ names → ∃ c, (cellsFrom h.objs.size names acc).lookup z = some c ∧ h.objs.size ≤ c ∧ (pushCells h names).IsCell c none) := by
  intro r
  induction r with
  | nil =>
    intro h acc P
    exact ⟨P, fun _ _ => rfl, fun _ m => (nomatch m)⟩
  | cons z0 r ih =>
    obtain ⟨x, k⟩ := z0
    intro h acc P
    unfold cellsFrom pushCells
    by_cases hk : (k == NameKind.cell) = true
    · rw [if_pos hk, if_pos hk]
      have hk' : k = .cell := by cases k <;> first | rfl | cases hk
      subst hk'
      have P' : CellsP ((x, h.objs.size) :: acc) (h.push { cls := .type "cell", data := .cell none }) := by
        constructor
        · intro z c e
          by_cases q : z = x
          · subst q; rw [lookup_cons_eq] at e; cases e
            exact ⟨none, _, Heap.get?_push_size _ rfl, rfl⟩
          · rw [lookup_cons_ne q] at e
            obtain ⟨v, hv⟩ := P.live z c e
            exact ⟨v, hv.keeps fun b o e => Heap.get?_push_of_some _ e⟩
        · intro z y c e1 e2
          have lt : ∀ z, acc.lookup z = some c → c < h.objs.size := fun z e => let ⟨v, hv⟩ := P.live z c e; hv.lt
          by_cases q1 : z = x <;> by_cases q2 : y = x
          · rw [q1, q2]
          · subst q1; rw [lookup_cons_eq] at e1; cases e1; rw [lookup_cons_ne q2] at e2
            exact absurd (lt y e2) (Nat.lt_irrefl _)
          · subst q2; rw [lookup_cons_eq] at e2; cases e2; rw [lookup_cons_ne q1] at e1
            exact absurd (lt z e1) (Nat.lt_irrefl _)
          · rw [lookup_cons_ne q1] at e1; rw [lookup_cons_ne q2] at e2; exact P.apart z y c e1 e2
      have ih := ih (h.push { cls := .type "cell", data := .cell none }) ((x, h.objs.size) :: acc) P'
      rw [Heap.size_push] at ih
      obtain ⟨i1, i2, i3⟩ := ih
      refine ⟨i1, fun z hz => ?_, fun z hz => ?_⟩
      · have q : z ≠ x := fun q => hz (q ▸ .head _)
        rw [i2 z (fun m => hz (.tail _ m)), lookup_cons_ne q]
      · by_cases m : (z, NameKind.cell) ∈ r
        · obtain ⟨c, h1, h2, h3⟩ := i3 z m
          exact ⟨c, h1, by omega, h3⟩
        · rcases List.mem_cons.mp hz with e | m'
          · cases e
            rw [i2 _ m, lookup_cons_eq]
            exact ⟨h.objs.size, rfl, Nat.le_refl _, _, pushCells_keeps _ _ _ _ (Heap.get?_push_size _ rfl), rfl⟩
          · exact absurd m' m
    · rw [if_neg hk, if_neg hk]
      obtain ⟨i1, i2, i3⟩ := ih h acc P
      refine ⟨i1, fun z hz => i2 z (fun m => hz (.tail _ m)), fun z hz => i3 z ?_⟩
      rcases List.mem_cons.mp hz with e | m
      · cases e; exact absurd rfl hk
      · exact m

noncomputable def clOf (env : Env) : Names → List (Str × Addr) → List (Str × Addr)
  | [], acc => acc
  | (x, k) :: r, acc => if k == .free then clOf env r ((x, (env.cells.lookup x).getD 0) :: acc) else clOf env r acc
theorem closure_is {scope : Scope} {env : Env} (h : ∀ x, (x, NameKind.free) ∈ scope.names → ∃ c, env.cells.lookup x = some c) : closureFor scope env = pure (clOf env scope.names []) := by
  simp only [closureFor]
  have key : ∀ (names : Names) (acc : List (Str × Addr)), (∀ x, (x, NameKind.free) ∈ names → ∃ c, env.cells.lookup x = some c) →
      (forIn names acc (fun (p : Str × NameKind) (cs : List (Str × Addr)) => (match p with | (name, kind) => if (kind == NameKind.free) = true then (do let __do_lift ← cellOf env name; pure (ForInStep.yield ((name, __do_lift) :: cs))) else pure (ForInStep.yield cs) : Sem (ForInStep (List (Str × Addr)))))) = pure (clOf env names acc) := by
    intro names
    induction names with
    | nil => intro acc _; rw [List.forIn_nil]; rfl
    | cons p r ih =>
      intro acc hn
      obtain ⟨x, k⟩ := p
      rw [List.forIn_cons]
      dsimp only
      unfold clOf
      by_cases hk : (k == NameKind.free) = true
      · rw [if_pos hk, if_pos hk]
        have hk' : k = .free := by cases k <;> first | rfl | cases hk
        subst hk'
        obtain ⟨c, hc⟩ := hn x (.head _)
        have : cellOf env x = pure c := by unfold cellOf; rw [hc]
        rw [this, hc]
        simp only [pure_bind]
        exact ih _ fun y hy => hn y (.tail _ hy)
      · rw [if_neg hk, if_neg hk]
        simp only [pure_bind]
        exact ih _ fun y hy => hn y (.tail _ hy)
  have q := key scope.names [] h
  first
    | exact q
    | (rw [q]; rfl)
    | (simp only [q, pure_bind])
theorem clOf_lookup (env : Env) : ∀ (names : Names) (acc : List (Str × Addr)) (z : Str), ((z, NameKind.free) ∈ names → (clOf env names acc).lookup z = some ((env.cells.lookup z).getD 0)) ∧ ((z, NameKind.free) ∉ names → (clOf env names acc).lookup z = acc.lookup z) := by
  intro r
  induction r with
  | nil =>
    intro acc z
    exact ⟨fun h => (nomatch h), fun _ => rfl⟩
  | cons z0 r ih =>
    obtain ⟨x, k⟩ := z0
    intro acc z
    unfold clOf
    by_cases hk : (k == NameKind.free) = true
    · rw [if_pos hk]
      have hk' : k = .free := by cases k <;> first | rfl | cases hk
      subst hk'
      obtain ⟨i1, i2⟩ := ih ((x, (env.cells.lookup x).getD 0) :: acc) z
      constructor
      · intro h
        by_cases m : (z, NameKind.free) ∈ r
        · exact i1 m
        · rcases List.mem_cons.mp h with e | m'
          · cases e
            rw [i2 m, lookup_cons_eq]
          · exact absurd m' m
      · intro h
        have q : z ≠ x := fun q => h (q ▸ .head _)
        rw [i2 (fun m => h (.tail _ m)), lookup_cons_ne q]
    · rw [if_neg hk]
      obtain ⟨i1, i2⟩ := ih acc z
      constructor
      · intro h
        rcases List.mem_cons.mp h with e | m
        · cases e; exact absurd rfl hk
        · exact i1 m
      · intro h; exact i2 fun m => h (.tail _ m)

section
variable {M : Model} {A : Around} {E : Value → Shared → Prop} {s : Shared}
theorem newEnv_comp {scope : Scope} {globals : Addr} {cl : List (Str × Addr)} {qual : Str} {outer : Env} {Q : Env → Shared → Prop}
    (h : Q (newEnv scope s.heap.objs.size globals (cellsFrom (s.heap.objs.size + 1) scope.names cl) qual none .none (some outer) builtinsNs) { s with heap := pushCells (s.heap.push { cls := .type "dict", data := .dict #[] }) scope.names }) :
    wpAny M A (newFunctionEnv scope globals cl [] qual none .none (some outer)) Q E s := by
  simp only [newFunctionEnv, Option.isSome_some, if_true]
  refine wpAny_bind (wpAny_alloc ?_)
  refine wpAny_bind (wpAny_layCells _ (fun name kind cells => by cases hkc : kind == NameKind.cell <;> simp [hkc]) _ _ _ _ ?_)
  rw [show ({ s with heap := s.heap.push { cls := .type "dict", data := .dict #[] } } : Shared).heap.objs.size = s.heap.objs.size + 1 from Heap.size_push ..]
  exact wpAny_bind (wpAny_pure (wpAny_pure h))
end

theorem mapM_mem {α β : Type} {f : α → Option β} : ∀ {l : List α} {r : List β}, l.mapM f = some r → (∀ y ∈ r, ∃ x ∈ l, f x = some y) ∧ ∀ x ∈ l, ∃ y, f x = some y := by
  intro l
  induction l with
  | nil =>
    intro r h
    rw [List.mapM_nil] at h
    cases h
    exact ⟨fun y h => (nomatch h), fun x h => (nomatch h)⟩
  | cons x l ih =>
    intro r h
    rw [List.mapM_cons] at h
    obtain ⟨y, h1, h⟩ := bI h
    obtain ⟨ys, h2, h⟩ := bI h
    cases h
    obtain ⟨i1, i2⟩ := ih h2
    refine ⟨fun z hz => ?_, fun z hz => ?_⟩
    · rcases List.mem_cons.mp hz with rfl | hz
      · exact ⟨x, .head _, h1⟩
      · obtain ⟨w, q1, q2⟩ := i1 z hz
        exact ⟨w, .tail _ q1, q2⟩
    · rcases List.mem_cons.mp hz with rfl | hz
      · exact ⟨y, h1⟩
      · exact i2 z hz
theorem slotC_is {ns : Names} {x : Str} {i : Nat} (e : slotC ns x = some i) : slotOf ns x = some i ∧ ∃ k, ns[i]? = some (x, k) ∧ ns.lookup x = some k ∧ (k = .cell ∨ k = .free) := by
  unfold slotC at e
  simp only [Option.bind_eq_some_iff] at e
  obtain ⟨j, hj, e⟩ := e
  obtain ⟨k, h1, h2⟩ := findIdx_lookup hj
  rw [h1] at e
  have q : slotOf ns x = (match ns[j]? with
  | some (_, .local) | some (_, .cell) | some (_, .free) => some j
  | _ => Option.none) := by unfold slotOf; rw [hj]; rfl
  rw [q, h1]
  cases k <;> simp at e <;> subst e <;> exact ⟨rfl, _, h1, h2, by simp⟩
theorem imports_spec {outer inner : Names} {lends : List (Nat × Nat)} (h : lendsOf outer inner = some lends) :
    (∀ i j, (i, j) ∈ lends → ∃ x, inner[i]? = some (x, NameKind.free) ∧ slotC outer x = some j) ∧ ∀ x, (x, NameKind.free) ∈ inner → ∃ j, slotC outer x = some j := by
  unfold lendsOf at h
  obtain ⟨h1, h2⟩ := mapM_mem h
  constructor
  · intro i j m
    refine gI fun Gz gz => ?_
    obtain ⟨⟨⟨x, k⟩, i'⟩, hm, hf⟩ := h1 _ m
    simp only [Option.map_eq_some_iff] at hf
    obtain ⟨j', hj, e⟩ := hf
    cases e
    obtain ⟨hm, hk⟩ := List.mem_filter.mp hm
    have hk' : k = .free := by cases k <;> first | rfl | cases hk
    subst hk'
    refine gz ?_
    exact ⟨x, by
      have := List.mem_zipIdx hm
      obtain ⟨_, q2, q3⟩ := this
      simp only [Nat.zero_add, Nat.sub_zero] at q2 q3
      rw [List.getElem?_eq_getElem q2, ← q3], hj⟩
  · intro x m
    obtain ⟨i, hi, e⟩ := List.getElem_of_mem m
    obtain ⟨y, hy⟩ := h2 ((x, NameKind.free), i) (List.mem_filter.mpr ⟨by
      rw [List.mem_zipIdx_iff_getElem?]
      rw [List.getElem?_eq_getElem hi, e], rfl⟩)
    simp only [Option.map_eq_some_iff] at hy
    obtain ⟨j, hj, _⟩ := hy
    exact ⟨j, hj⟩
theorem lendVars_spec {vars : Vars} {size : Nat} {lends : List (Nat × Nat)} {i : Nat} {a : AV} (h : (lendVars vars size lends)[i]? = some (some a)) : ∃ j, (i, j) ∈ lends ∧ vars[j]? = some (some a) := by
  unfold lendVars at h
  have key : ∀ (l : List (Nat × Nat)) (v0 : Vars), (l.foldl (fun inner p => inner.set p.1 ((vars[p.2]?).getD Option.none)) v0)[i]? = some (some a) → v0[i]? = some (some a) ∨ ∃ j, (i, j) ∈ l ∧ vars[j]? = some (some a) := by
    intro l
    induction l with
    | nil => intro v0 h; exact .inl h
    | cons p l ih =>
      intro v0 h
      rw [List.foldl_cons] at h
      rcases ih _ h with h | ⟨j, h1, h2⟩
      · by_cases q : p.1 = i
        · have lt := (List.getElem?_eq_some_iff.mp h).1
          rw [List.length_set] at lt
          rw [q, List.getElem?_set_self lt] at h
          refine .inr ⟨p.2, by rw [← q]; exact .head _, ?_⟩
          cases hv : vars[p.2]? with
          | none => rw [hv] at h; simp at h
          | some o => rw [hv] at h; simpa using h
        · rw [List.getElem?_set_ne q] at h; exact .inl h
      · exact .inr ⟨j, .tail _ h1, h2⟩
  rcases key lends _ h with h | h
  · rw [List.getElem?_replicate] at h
    split at h <;> simp at h
  · exact h

theorem relabel_lookup {scope : Scope} {env : Env} {x : Str} {k : NameKind} (h : scope.names.lookup x = some k) : ∃ k', (relabel scope env).names.lookup x = some k' ∧ (k' = k ∨ (k = .free ∧ k' = .cell)) := by
  unfold relabel
  dsimp only
  generalize scope.names = names at h
  induction names with
  | nil => simp at h
  | cons p r ih =>
    obtain ⟨y, ky⟩ := p
    rw [List.map_cons]
    by_cases q : x = y
    · subst q
      rw [lookup_cons_eq] at h; obtain rfl := (Option.some.inj h).symm
      dsimp only
      split
      · rename_i hc
        rw [lookup_cons_eq]
        simp only [Bool.and_eq_true] at hc
        have : k = .free := by
          have := hc.1.1
          cases k <;> first | rfl | cases this
        exact ⟨_, rfl, .inr ⟨this, rfl⟩⟩
      · rw [lookup_cons_eq]; exact ⟨_, rfl, .inl rfl⟩
    · rw [lookup_cons_ne q] at h
      dsimp only
      split <;> (rw [lookup_cons_ne q]; exact ih h)

theorem comp_frame {h₀ : Heap} {ns : Names} {env : Env} {ρ : List Addr} {vars : Vars} {mem : Mem} {h : Heap} {scope : Scope} {lends : List (Nat × Nat)} (F : Fr h₀ ns env ρ vars h) (W : Wd h₀ ρ mem h) (hok : scopeOk scope = true) (hi : lendsOf ns scope.names = some lends) :
    closureFor scope env = pure (clOf env scope.names []) ∧
    Fr h₀ scope.names { newEnv scope h.objs.size env.globals (cellsFrom (h.objs.size + 1) scope.names (clOf env scope.names [])) env.qual none .none (some env) builtinsNs with scope := relabel scope env } ρ (lendVars vars scope.names.length lends) (pushCells (h.push { cls := .type "dict", data := .dict #[] }) scope.names) ∧
    (∀ b o, h.get? b = some o → (pushCells (h.push { cls := .type "dict", data := .dict #[] }) scope.names).get? b = some o) ∧
    (∀ b, Own scope.names { newEnv scope h.objs.size env.globals (cellsFrom (h.objs.size + 1) scope.names (clOf env scope.names [])) env.qual none .none (some env) builtinsNs with scope := relabel scope env } b → h.get? b = none) ∧
    (∀ x b, (cellsFrom (h.objs.size + 1) scope.names (clOf env scope.names [])).lookup x = some b → h.get? b = none ∨ env.cells.lookup x = some b) := by
  unfold scopeOk at hok
  obtain ⟨hkind, hdis⟩ := Bool.and_eq_true_iff.mp hok
  have hkind := of_decide_eq_true hkind
  obtain ⟨i1, i2⟩ := imports_spec hi
  have hfree : ∀ x, (x, NameKind.free) ∈ scope.names → ∃ j k c v₀, slotC ns x = some j ∧ ns.lookup x = some k ∧ env.cells.lookup x = some c ∧ h.IsCell c v₀ ∧ ∀ a, vars[j]? = some (some a) → ∃ v, v₀ = some v ∧ Val ρ h v a := by
    intro x m
    obtain ⟨j, hj⟩ := i2 x m
    obtain ⟨hs, k, h1, h2, h3⟩ := slotC_is hj
    obtain ⟨c, v₀, q1, q2, q3⟩ := F.cel x j k h2 h3 hs
    exact ⟨j, k, c, v₀, hj, h2, q1, q2, q3⟩
  have hclos := closure_is (scope := scope) (env := env) fun x m => let ⟨_, _, c, _, _, _, q, _⟩ := hfree x m; ⟨c, q⟩
  have none_ge : ∀ c, h.objs.size ≤ c → h.get? c = none := fun c hc => by
    cases q : h.get? c with
    | none => rfl
    | some o => exact absurd (Heap.lt_size q) (Nat.not_lt.mpr hc)
  have keeps : ∀ b o, h.get? b = some o → (pushCells (h.push { cls := .type "dict", data := .dict #[] }) scope.names).get? b = some o := fun b o e => pushCells_keeps _ _ b o (Heap.get?_push_of_some _ e)
  have P0 : CellsP (clOf env scope.names []) (h.push { cls := .type "dict", data := .dict #[] }) := by
    constructor
    · intro x c e
      by_cases m : (x, NameKind.free) ∈ scope.names
      · rw [(clOf_lookup env scope.names [] x).1 m] at e
        obtain ⟨_, _, c', v₀, _, _, q1, q2, _⟩ := hfree x m
        rw [q1] at e; cases e
        exact ⟨v₀, q2.keeps fun b o e => Heap.get?_push_of_some _ e⟩
      · rw [(clOf_lookup env scope.names [] x).2 m] at e; cases e
    · intro x y c e1 e2
      by_cases m1 : (x, NameKind.free) ∈ scope.names
      · by_cases m2 : (y, NameKind.free) ∈ scope.names
        · rw [(clOf_lookup env scope.names [] x).1 m1] at e1
          rw [(clOf_lookup env scope.names [] y).1 m2] at e2
          obtain ⟨_, _, c1, _, _, _, q1, _⟩ := hfree x m1
          obtain ⟨_, _, c2, _, _, _, q2, _⟩ := hfree y m2
          rw [q1] at e1; rw [q2] at e2; cases e1; cases e2
          exact F.apart x y _ q1 q2
        · rw [(clOf_lookup env scope.names [] y).2 m2] at e2; cases e2
      · rw [(clOf_lookup env scope.names [] x).2 m1] at e1; cases e1
  have sz : (h.push { cls := .type "dict", data := .dict #[] }).objs.size = h.objs.size + 1 := Heap.size_push ..
  obtain ⟨P1, P2, P3⟩ := cellsFrom_spec scope.names (h.push { cls := .type "dict", data := .dict #[] }) (clOf env scope.names []) P0
  rw [sz] at P1 P2 P3
  have S := Step.of_keeps (ρ := ρ) keeps
  have one : ∀ {x : Str} {k k' : NameKind}, scope.names.lookup x = some k → (x, k') ∈ scope.names → k = k' := fun e m => by
    rw [distinct_lookup hdis m] at e; cases e; rfl
  have noImp : ∀ {x : Str} {i : Nat} {k : NameKind} {a : AV}, scope.names.lookup x = some k → k ≠ .free → slotOf scope.names x = some i → (lendVars vars scope.names.length lends)[i]? = some (some a) → False := by
    intro x i k a h1 h2 h3 h4
    obtain ⟨j, hj, _⟩ := lendVars_spec h4
    obtain ⟨y, hy, _⟩ := i1 i j hj
    obtain ⟨k', q1, q2, _⟩ := slotOf_is h3
    rw [hy] at q1; cases q1
    rw [h1] at q2; cases q2
    exact h2 rfl
  have ge : ∀ x c, (cellsFrom (h.objs.size + 1) scope.names (clOf env scope.names [])).lookup x = some c → ((x, NameKind.cell) ∈ scope.names ∧ h.objs.size < c) ∨ ((x, NameKind.cell) ∉ scope.names ∧ env.cells.lookup x = some c) := by
    intro x c e
    by_cases m : (x, NameKind.cell) ∈ scope.names
    · obtain ⟨c', q1, q2, _⟩ := P3 x m
      rw [q1] at e; cases e
      exact .inl ⟨m, by omega⟩
    · rw [P2 x m] at e
      by_cases m1 : (x, NameKind.free) ∈ scope.names
      · rw [(clOf_lookup env scope.names [] x).1 m1] at e
        obtain ⟨_, _, c1, _, _, _, q1, _⟩ := hfree x m1
        rw [q1] at e; cases e
        exact .inr ⟨m, q1⟩
      · rw [(clOf_lookup env scope.names [] x).2 m1] at e; cases e
  have base : ∀ c, h.objs.size ≤ c → c ∉ ρ ∧ h₀.get? c = none := by
    intro c hc
    constructor
    · intro m
      exact W.out (none_ge c hc) m
    · exact W.base_none (none_ge c hc)
  refine ⟨hclos, ⟨?_, F.glob, ?_, fun x k e => relabel_lookup e, base _ (Nat.le_refl _), ⟨fun _ => none, (Heap.Ns.new h (.type "dict")).keeps (pushCells_keeps _ _), fun x i a e1 e2 e3 => (noImp e1 (by decide) e2 e3).elim⟩, fun x i k e1 e2 e3 => ?_, fun x c e => ?_, P1.apart⟩, keeps, fun b hb => ?_, fun x b e => ?_⟩
  · show scope.kind = .function
    exact hkind
  · exact F.blt
  · obtain ⟨_, q1, q2, _⟩ := slotOf_is e3
    rw [e1] at q2; cases q2
    have m := List.mem_of_getElem? q1
    rcases e2 with rfl | rfl
    · obtain ⟨c, p1, p2, p3⟩ := P3 x m
      exact ⟨c, none, p1, p3, fun a e => (noImp e1 (by decide) e3 e).elim⟩
    · obtain ⟨j, k, c, v₀, p1, p2, p3, p4, p5⟩ := hfree x m
      have nm : (x, NameKind.cell) ∉ scope.names := fun m' => by
        have := distinct_lookup hdis m'
        rw [e1] at this; cases this
      refine ⟨c, v₀, ?_, p4.keeps keeps, fun a e => ?_⟩
      · show (cellsFrom (h.objs.size + 1) scope.names (clOf env scope.names [])).lookup x = some c
        rw [P2 x nm, (clOf_lookup env scope.names [] x).1 m, p3]; rfl
      · obtain ⟨j', hj', ej⟩ := lendVars_spec e
        obtain ⟨y, hy, hyc⟩ := i1 i j' hj'
        rw [q1] at hy; cases hy
        rw [p1] at hyc; cases hyc
        obtain ⟨v, r1, r2⟩ := p5 a ej
        exact ⟨v, r1, r2.step W S⟩
  · rcases ge x c e with ⟨m, lt⟩ | ⟨m, e'⟩
    · obtain ⟨b1, b2⟩ := base c (Nat.le_of_lt lt)
      exact ⟨b1, fun _ => b2, P1.live x c e⟩
    · obtain ⟨b1, b2, _⟩ := F.cout x c e'
      exact ⟨b1, fun q => absurd (mem_of_lookup q) m, P1.live x c e⟩
  · rcases hb with rfl | ⟨x, h1, h2⟩
    · exact none_ge _ (Nat.le_refl _)
    · rcases ge x b h2 with ⟨m, lt⟩ | ⟨m, e'⟩
      · exact none_ge _ (Nat.le_of_lt lt)
      · exact absurd (mem_of_lookup h1) m
  · rcases ge x b e with ⟨m, lt⟩ | ⟨m, e'⟩
    · exact .inl (none_ge _ (Nat.le_of_lt lt))
    · exact .inr e'
end Mine
end

section
open PySem PySem.Spec PySem.Calls PyProof.Rows PySem.W
set_option linter.unusedVariables false
set_option autoImplicit false
namespace Mine

noncomputable def AccAt (h₀ : Heap) (ρ : List Addr) (h : Heap) (D : Addr) (outs : List AV) : Prop := ∃ ds n, h.get? D = some (listOb ds n) ∧ Vals ρ h ds outs ∧ D ∉ ρ ∧ h₀.get? D = none
theorem AccAt.move {h₀ : Heap} {ρ ρ' : List Addr} {h h' : Heap} {D : Addr} {outs : List AV} (x : AccAt h₀ ρ h D outs) (kt : KeepT ρ ρ' h h') (new : ∀ a ∈ ρ', a ∉ ρ → h.get? a = none) (keep : ∀ o, h.get? D = some o → h'.get? D = some o) : AccAt h₀ ρ' h' D outs := by
  obtain ⟨ds, n, g, r, o, b⟩ := x
  exact ⟨ds, n, keep _ g, r.keepT kt, fun m => (by rw [new D m o] at g; cases g), b⟩
theorem not_still_list {ds : List Value} {n : Nat} : ¬ Still (listOb ds n) := fun st => by
  rcases st.1 with q | q <;> (revert q; show Value.type "list" = _ → False; decide)

noncomputable def OD (ns : Names) (env : Env) (D b : Addr) : Prop := Own ns env b ∨ b = D
structure CompAt (h₀ : Heap) (ns : Names) (env : Env) (ρ : List Addr) (vars : Vars) (mem : Mem) (D : Addr) (outs : List AV) (h : Heap) : Prop where
  wd : Wd h₀ ρ mem h
  fr : Fr h₀ ns env ρ vars h
  acc : AccAt h₀ ρ h D outs
noncomputable def BodySnd (c : Cx) (ns : Names) (env : Env) (D : Addr) (f : Vars → Mem → Option (List AV × Vars × Mem)) (m : Sem Unit) : Prop :=
  ∀ vars mem out1 vars2 mem2, f vars mem = some (out1, vars2, mem2) → ∀ (ρ : List Addr) (s : Shared) (outs : List AV) (E : Value → Shared → Prop) (Q : Unit → Shared → Prop), CompAt c.h₀ ns env ρ vars mem D outs s.heap → outs.length + out1.length ≤ 1000000 →
    (∀ ρ' h' tk', StepO (OD ns env D) ρ ρ' s.heap h' → CompAt c.h₀ ns env ρ' vars2 mem2 D (outs ++ out1) h' → Q () { s with heap := h', toks := tk' }) → wpAny (model c.prog c.w) c.A m Q E s

section
variable {c : Cx}

theorem compLoop_sound (C : CxOk c) {e target : Expr} {depth : Nat} {I D : Addr} {cenv : Env} {ns : Names} {p : Pos} {m : Sem Unit} {t : LT} {src : AV} {all : List AV} {St : List Addr → Heap → Nat → Prop} {f : Vars → Mem → Option (List AV × Vars × Mem)} {R : Result → Shared → Prop}
    (hq : (Code.compLoop e depth (.ref I) (.ref D) cenv).quiet = true)
    (hden : (model c.prog c.w).den (.compLoop e depth (.ref I) (.ref D) cenv) = (compTurn e depth (.ref I) (.ref D) cenv).onRaise (fun x => do noteFrame x cenv; theTreesLotGoes x))
    (hA : c.A.under (.compLoop e depth (.ref I) (.ref D) cenv) = c.A)
    (hturn : compTurn e depth (.ref I) (.ref D) cenv = (standAt p >>= fun _ => pyNext (.ref I) >>= fun r => match r with
      | none => pure (.done .next)
      | some v => letOwnedTupleGo target (.ref I) v >>= fun _ => assign target cenv v >>= fun _ => m >>= fun _ => again (.compLoop e depth (.ref I) (.ref D) cenv)))
    (T : Turns c target (.ref I) (· = I) src all all St) (hT : compT ns target = some t) (hm : BodySnd c ns cenv D f m) (hID : I ≠ D) (hIL : I ≠ cenv.locals ∧ ∀ x b, cenv.cells.lookup x = some b → b ≠ I) (hDL : D ≠ cenv.locals ∧ ∀ x b, cenv.cells.lookup x = some b → b ≠ D) :
    ∀ (xs : List AV) (k : Nat) (vars : Vars) (mem : Mem) (outs : List AV) (ρ : List Addr) (s : Shared) (out : List AV) (varsE : Vars) (memE : Mem), all.drop k = xs → k ≤ all.length → compLoop src all t f xs vars mem = some (out, varsE, memE) →
      CompAt c.h₀ ns cenv ρ vars mem D outs s.heap → SrcIs src all mem → St ρ s.heap k → Off c.h₀ ρ (· = I) → outs.length + out.length ≤ 1000000 →
      (∀ ρ' h1 h' tk', StepO (fun b => OD ns cenv D b ∨ b = I) ρ ρ' s.heap h1 → Kept (· = I) h1 h' → CompAt c.h₀ ns cenv ρ' varsE memE D (outs ++ out) h' → R (.ok .next) { s with heap := h', toks := tk' }) →
      codeAny (model c.prog c.w) c.A (.compLoop e depth (.ref I) (.ref D) cenv) R s := by
  intro xs
  induction xs with
  | nil =>
    intro k vars mem outs ρ s out varsE memE hd hk ev X hs st O hsz hfin
    cases ev
    have hk' : k = all.length := by
      have := congrArg List.length hd
      rw [List.length_drop, List.length_nil] at this
      omega
    subst hk'
    refine codeAny_of_tree ?_
    rw [hden, hA, hturn]
    refine wpAny_noted (wpAny_bind (wpAny_standAt (wpAny_bind (wpAny_mono (T.done X.wd hs st (Q := fun s' => R (.ok .next) s') fun h' tk' kk => ?_) (fun r s' hr => ?_) fun _ _ e => e))))
    · have L := T.lives st
      refine hfin ρ s.heap h' tk' (StepO.refl _ _ _) kk ⟨X.wd.off kk L O, X.fr.off kk L ⟨fun q => hIL.1 q.symm, fun x b e q => hIL.2 x b e q⟩, ?_⟩
      rw [List.append_nil]
      exact X.acc.move (kk.kt L) (fun a h1 h2 => absurd h1 h2) fun o e => kk D o (fun q => hID q.symm) e
    · obtain ⟨rfl, hr⟩ := hr
      exact wpAny_pure hr
  | cons x xs ih =>
    intro k vars mem outs ρ s out varsE memE hd hk ev X hs st O hsz hfin
    obtain ⟨v1, e1, ev⟩ := bI ev
    obtain ⟨⟨out1, v2, m2⟩, e2, ev⟩ := bI ev
    dsimp only at ev
    split at ev
    · rename_i hstill
      obtain ⟨⟨rest, v3, m3⟩, e3, ev⟩ := bI ev
      cases ev
      rw [List.length_append] at hsz
      dsimp only at hsz hfin
      have hx : all[k]? = some x := by
        have := congrArg (·[0]?) hd
        simpa using this
      have hk1 : k < all.length := (List.getElem?_eq_some_iff.mp hx).1
      have hd' : all.drop (k + 1) = xs := by
        have := congrArg (List.drop 1) hd
        rw [List.drop_drop] at this
        simpa using this
      have L0 := T.lives st
      refine codeAny_of_tree ?_
      rw [hden, hA, hturn]
      refine wpAny_noted (wpAny_bind (wpAny_standAt (wpAny_bind (wpAny_mono (T.item X.wd hs st hx (E2 := notedBy (model c.prog c.w) c.A cenv fun e s' => R (.error e) s') (Q := fun v s₂ => wpAny (model c.prog c.w) c.A (assign target cenv v >>= fun _ => m >>= fun _ => again (.compLoop e depth (.ref I) (.ref D) cenv)) (fun fin s' => match fin with | .done f => R (.ok f) s' | .again c' => c'.quiet = true ∧ codeAny (model c.prog c.w) c.A c' R s') (notedBy (model c.prog c.w) c.A cenv fun e s' => R (.error e) s') s₂) fun v h1 tk1 kk L1 xv st1 => ?_) (fun r s' hr => ?_) fun _ _ e => e))))
      · have W1 := X.wd.off kk L0 O
        have F1 := X.fr.off kk L0 ⟨fun q => hIL.1 q.symm, fun x b e q => hIL.2 x b e q⟩
        have A1 : AccAt c.h₀ ρ h1 D outs := X.acc.move (kk.kt L0) (fun a h1 h2 => absurd h1 h2) fun o e => kk D o (fun q => hID q.symm) e
        have S1 : StepO (fun b => OD ns cenv D b ∨ b = I) ρ ρ s.heap h1 := (StepO.off kk L0 L1).wide fun b q => .inr q
        refine wpAny_bind (target_sound C hT e1 W1 F1 xv fun ρ2 h2 tk2 W2 S2 F2 => ?_)
        have nOwnI : ∀ b, b = I → ¬ OD ns cenv D b := fun b q => by
          rintro ((r | ⟨x, _, r⟩) | r)
          · exact hIL.1 (q ▸ r)
          · exact hIL.2 x b r q
          · exact hID (q ▸ r)
        have O1 : Off c.h₀ ρ (· = I) := O
        have ownD : ∀ b, Own ns cenv b → b ≠ D := fun b q r => by
          rcases q with q | ⟨x, _, q⟩
          · exact hDL.1 (r ▸ q)
          · exact hDL.2 x b q r
        have D1 := A1.choose_spec.choose_spec
        have A2 : AccAt c.h₀ ρ2 h2 D outs := A1.move S2.kt S2.new fun o e => S2.keep D o D1.2.2.1 (fun q => ownD D q rfl) e
        have st2 : St ρ2 h2 (k + 1) := T.move st1 S2.kt fun b o q e => S2.keep b o (O1.out b q) (fun r => nOwnI b q (.inl r)) e
        refine wpAny_bind (hm v1 mem out1 v2 m2 e2 ρ2 _ outs _ _ ⟨W2, F2, A2⟩ (by omega) fun ρ3 h3 tk3 S3 X3 => ?_)
        have O2 : Off c.h₀ ρ2 (· = I) := O1.move S2 L1
        have st3 : St ρ3 h3 (k + 1) := T.move st2 S3.kt fun b o q e => S3.keep b o (O2.out b q) (nOwnI b q) e
        have L2 := T.lives st2
        refine wpAny_pure ⟨hq, ?_⟩
        refine ih (k + 1) v2 m2 (outs ++ out1) ρ3 _ rest v3 m3 hd' hk1 e3 X3 (srcIs_still hstill) st3 (O2.move S3 L2) (by rw [List.length_append]; omega) fun ρ' h1' h' tk' S4 kk4 X4 => ?_
        refine hfin ρ' h1' h' tk' ?_ kk4 (by rw [← List.append_assoc]; exact X4)
        exact ((S1.trans (S2.wide fun b q => .inl (.inl q))).trans (S3.wide fun b q => .inl q)).trans S4
      · cases r with
        | none => exact hr.elim
        | some v => exact wpAny_bind hr
    · cases ev

theorem append_sound (C : CxOk c) {ns : Names} {env : Env} {D : Addr} {ρ : List Addr} {vars : Vars} {mem : Mem} {outs : List AV} {s : Shared} {v : Value} {a : AV} {E : Value → Shared → Prop} {Q : Value → Shared → Prop} (X : CompAt c.h₀ ns env ρ vars mem D outs s.heap) (x : Val ρ s.heap v a)
    (hsz : outs.length + 1 ≤ 1000000) (hDL : D ≠ env.locals ∧ ∀ x b, env.cells.lookup x = some b → b ≠ D)
    (k : ∀ h' tk', StepO (OD ns env D) ρ ρ s.heap h' → CompAt c.h₀ ns env ρ vars mem D (outs ++ [a]) h' → Q .none { s with heap := h', toks := tk' }) :
    wpAny (model c.prog c.w) c.A (call (.builtin "list.append") [.ref D, v]) Q E s := by
  have hb := sizeLine_big
  obtain ⟨ds, n, g, r, ho, hb0⟩ := X.acc
  have hlen := r.length
  refine call_meets PySem.F.slot_list_append ⟨_, g, rfl⟩ PySem.F.entry_list_append (PySem.F.args_list_append_2 _ _) (PySem.list_append _ _ n _ (by rw [List.size_toArray]; omega)) ⟨g, ?_⟩
  obtain ⟨n', hn'⟩ := mapSeq_list (f := fun x_1 => x_1.push v) (vs := ds) (n := n) (ws := ds ++ [v]) (by rw [List.push_toArray])
  have g' : (s.heap.update D (Obj.mapSeq fun x_1 => x_1.push v)).get? D = some (listOb (ds ++ [v]) n') := by
    have := Heap.get?_update_self (Obj.mapSeq fun x_1 => x_1.push v) g (by rw [hn']; rfl)
    rw [hn'] at this
    exact this
  have hs := Heap.SameBut.update s.heap D (Obj.mapSeq fun x_1 => x_1.push v)
  have kk : Kept (· = D) s.heap (s.heap.update D (Obj.mapSeq fun x_1 => x_1.push v)) := fun b o hb e => (hs.2 b hb).trans e
  have L0 : Lives (· = D) s.heap := fun b q => ⟨_, q ▸ g, not_still_list⟩
  have L1 : Lives (· = D) (s.heap.update D (Obj.mapSeq fun x_1 => x_1.push v)) := fun b q => by
    subst q
    exact ⟨_, g', not_still_list⟩
  refine k _ s.toks ((StepO.off kk L0 L1).wide fun b q => .inr q) ⟨X.wd.off kk L0 ⟨fun b q => q ▸ ho, fun b q => q ▸ hb0⟩, X.fr.off kk L0 ⟨fun q => hDL.1 q.symm, fun x b e q => hDL.2 x b e q⟩, ?_⟩
  exact ⟨ds ++ [v], n', g', (r.append (.cons x .nil)).keepT (kk.kt L0), ho, hb0⟩

theorem CompAt.step {h₀ : Heap} {ns : Names} {env : Env} {ρ ρ' : List Addr} {vars : Vars} {mem mem' : Mem} {D : Addr} {outs : List AV} {h h' : Heap} (X : CompAt h₀ ns env ρ vars mem D outs h) (W' : Wd h₀ ρ' mem' h') (S : Step ρ ρ' h h') : CompAt h₀ ns env ρ' vars mem' D outs h' :=
  ⟨W', X.fr.step X.wd S, X.acc.move (X.wd.keepT S) S.new fun o e => let ⟨_, _, _, _, q, _⟩ := X.acc; S.keep D o q e⟩

theorem emit_sound (C : CxOk c) {ns : Names} {env : Env} {D : Addr} {elt : Expr} {le : LE} (h : SndE c elt) (hc : compE ns elt = some le) (hDL : D ≠ env.locals ∧ ∀ x b, env.cells.lookup x = some b → b ≠ D) :
    BodySnd c ns env D (fun vars mem => do
        let (a, mem) ← ev c.M c.Φ vars le mem
        some ([a], vars, mem)) (eval elt env >>= fun x => call (.builtin "list.append") [.ref D, x] >>= fun _ => pure ()) := by
  intro vars mem out1 vars2 mem2 e ρ s outs E Q X hsz k
  obtain ⟨⟨a, m1⟩, e1, e⟩ := bI e
  cases e
  refine wpAny_bind (h ns le hc _ mem a _ e1 ρ env s E _ X.wd X.fr fun v ρ1 h1 tk1 W1 S1 V1 => ?_)
  refine wpAny_bind (append_sound C (s := { s with heap := h1, toks := tk1 }) (X.step W1 S1) V1 hsz hDL fun h2 tk2 S2 X2 => ?_)
  exact wpAny_pure (k ρ1 h2 tk2 ((StepO.of X.wd S1).trans S2) X2)
theorem test_sound (C : CxOk c) {ns : Names} {env : Env} {D : Addr} {cond elt : Expr} {lc le : LE} (h1 : SndT c cond) (hc1 : compE ns cond = some lc) (h : SndE c elt) (hc : compE ns elt = some le) (hDL : D ≠ env.locals ∧ ∀ x b, env.cells.lookup x = some b → b ≠ D) :
    BodySnd c ns env D (fun vars mem => do
      let (c', mem) ← ev c.M c.Φ vars lc mem
      match c' with
      | .bool true => do
        let (a, mem) ← ev c.M c.Φ vars le mem
        some ([a], vars, mem)
      | .bool false => some ([], vars, mem)
      | _ => Option.none) (isTrue cond env (eval cond env) >>= fun ok => if ok = true then (eval elt env >>= fun x => call (.builtin "list.append") [.ref D, x] >>= fun _ => pure ()) else pure ()) := by
  intro vars mem out1 vars2 mem2 e ρ s outs E Q X hsz k
  obtain ⟨⟨a, m1⟩, e1, e⟩ := bI e
  dsimp only at e
  split at e
  · refine wpAny_bind (h1 ns lc hc1 vars mem true m1 e1 ρ env s E _ X.wd X.fr fun ρ1 hp1 tk1 W1 S1 => ?_)
    rw [if_pos rfl]
    exact emit_sound C h hc hDL vars m1 out1 vars2 mem2 e ρ1 { s with heap := hp1, toks := tk1 } outs E Q (X.step W1 S1) hsz fun ρ2 h2 tk2 S2 X2 => k ρ2 h2 tk2 ((StepO.of X.wd S1).trans S2) X2
  · cases e
    refine wpAny_bind (h1 ns lc hc1 vars mem false _ e1 ρ env s E _ X.wd X.fr fun ρ1 hp1 tk1 W1 S1 => ?_)
    rw [if_neg (by decide)]
    rw [List.append_nil] at k
    exact wpAny_pure (k ρ1 hp1 tk1 (StepO.of X.wd S1) (X.step W1 S1))
  · cases e
end
end Mine
end

section
open PySem PySem.Spec PySem.Calls PyProof.Rows PySem.W
set_option linter.unusedVariables false
set_option autoImplicit false
namespace Mine

theorem Wd.adopt {h₀ : Heap} {ρ : List Addr} {mem : Mem} {h : Heap} {D : Addr} {o : MObj} (W : Wd h₀ ρ mem h) (hD : D ∉ ρ) (h0 : h₀.get? D = none) (r : KeepT ρ (ρ ++ [D]) h h → Rep (ρ ++ [D]) h D o) : Wd h₀ (ρ ++ [D]) (mem ++ [o]) h := by
  have kt : KeepT ρ (ρ ++ [D]) h h := ⟨fun n a e => by rw [List.getElem?_append_left (List.getElem?_eq_some_iff.mp e).1]; exact e, fun _ _ _ e => e⟩
  refine ⟨by simp [W.len], List.nodup_append.mpr ⟨W.nodup, by simp, fun b hb c hc => ?_⟩, fun i b o' e1 e2 => ?_, W.base, fun b hb => ?_⟩
  · rw [List.mem_singleton.mp hc]; exact fun q => hD (q ▸ hb)
  · by_cases hi : i < mem.length
    · rw [List.getElem?_append_left hi] at e2
      rw [List.getElem?_append_left (W.len ▸ hi)] at e1
      exact (W.rep i b o' e1 e2).off (IS := fun _ => False) kt (fun b o _ e => e) (fun q => q)
    · have hi2 : i < (mem ++ [o]).length := (List.getElem?_eq_some_iff.mp e2).1
      have hi3 : i = mem.length := by simp at hi2; omega
      subst hi3
      rw [List.getElem?_append_right (Nat.le_refl _), Nat.sub_self] at e2
      rw [← W.len, List.getElem?_append_right (Nat.le_refl _), Nat.sub_self] at e1
      simp at e1 e2
      subst e1 e2
      exact r kt
  · rcases List.mem_append.mp hb with m | m
    · exact W.fresh b m
    · rw [List.mem_singleton.mp m]; exact h0

section
variable {c : Cx}

theorem folded_plain {ns : Names} {e : Expr} {le : LE} (h : compE ns e = some le) (env : Env) (x : Value) : foldedSetIterable e env x = pure x := by
  cases e <;> first | rfl | (cases h; done)

structure Done (c : Cx) (ρ : List Addr) (s : Shared) (mem' : Mem) (acc : Value) (a : AV) (Cl : Addr) (ρ' : List Addr) (h' : Heap) : Prop where
  wd : Wd c.h₀ ρ' mem' h'
  st : Step ρ ρ' s.heap h'
  val : Val ρ' h' acc a
  ns : ∃ m, h'.Ns Cl m
  new : s.heap.get? Cl = none
  out : Cl ∉ ρ'
  base : c.h₀.get? Cl = none

theorem comp_top (C : CxOk c) {elt target it : Expr} {ifs : List Expr} {rest : List Comprehension} {scope : Scope} {pos p : Pos} {ns : Names} {lit : LE} {lends : List (Nat × Nat)} {t : LT} {f : Vars → Mem → Option (List AV × Vars × Mem)}
    (hit : SndE c it) (hci : compE ns it = some lit) (hok : scopeOk scope = true) (him : lendsOf ns scope.names = some lends) (hT : compT scope.names target = some t)
    (body : ∀ (cenv : Env) (D : Addr), (D ≠ cenv.locals ∧ ∀ x b, cenv.cells.lookup x = some b → b ≠ D) → ∃ (m : Sem Unit) (p' : Pos),
      (∀ I, compTurn (.ListComp elt (⟨target, it, ifs, 0⟩ :: rest) scope pos) 0 (.ref I) (.ref D) cenv = (standAt p' >>= fun _ => pyNext (.ref I) >>= fun r => match r with
        | none => pure (.done .next)
        | some v => letOwnedTupleGo target (.ref I) v >>= fun _ => assign target cenv v >>= fun _ => m >>= fun _ => again (.compLoop (.ListComp elt (⟨target, it, ifs, 0⟩ :: rest) scope pos) 0 (.ref I) (.ref D) cenv))) ∧
      BodySnd c scope.names cenv D f m)
    {vars : Vars} {mem mem1 mem2 : Mem} {src : AV} {all out : List AV} {varsE : Vars} (e1 : ev c.M c.Φ vars lit mem = some (src, mem1)) (e2 : iterA mem1 src = some all)
    (e3 : compLoop src all t f all (lendVars vars scope.names.length lends) mem1 = some (out, varsE, mem2)) (hsz : szOk out.length = true)
    {ρ : List Addr} {env : Env} {s : Shared} {E : Value → Shared → Prop} {Q : Value → Shared → Prop} {use : Option (Value → Sem Unit)} (W : Wd c.h₀ ρ mem s.heap) (F : Fr c.h₀ ns env ρ vars s.heap)
    (k : ∀ acc Cl ρ' h' tk', Done c ρ s (mem2 ++ [.list out]) acc (.obj mem2.length) Cl ρ' h' → compPost (model c.prog c.w) c.A E use Q acc Cl (.ok .next) { s with heap := h', toks := tk' }) :
    wpAny (model c.prog c.w) c.A (comprehension (.ListComp elt (⟨target, it, ifs, 0⟩ :: rest) scope pos) scope env p (newList []) false (eval it env) use) Q E s := by
  have hb := sizeLine_big
  have hz := szOk_le hsz
  obtain ⟨hclos, _⟩ := comp_frame F W hok him
  have hok' := hok
  unfold scopeOk at hok'
  obtain ⟨hkind, hdis⟩ := Bool.and_eq_true_iff.mp hok'
  have hkind := of_decide_eq_true hkind
  refine wpAny_comprehension_free (use := use) (g := ⟨target, it, ifs, 0⟩) (gs := rest) rfl (folded_plain hci env) hclos hkind (fun x hx hl => distinct_lookup hdis (by rw [← hl]; exact hx)) ?_
  refine hit ns lit hci vars mem src mem1 e1 ρ env s E _ W F fun xv ρ1 h1 tk1 W1 S1 V1 => ?_
  refine iter_sound C (target := target) e2 W1 V1 fun I h2 St hIn hk2 T st0 hsrc hself => ?_
  refine wpAny_newList (items := []) ?_ (by simp)
  have hD2 : h2.get? h2.objs.size = none := by
    cases q : h2.get? h2.objs.size with
    | none => rfl
    | some o => exact absurd (Heap.lt_size q) (Nat.lt_irrefl _)
  generalize hD : h2.objs.size = D at hD2
  have g3 : (h2.push (listOb [] 0)).get? D = some (listOb [] 0) := by rw [← hD]; exact Heap.get?_push_size _ rfl
  have k3 : ∀ b o, h2.get? b = some o → (h2.push (listOb [] 0)).get? b = some o := fun b o e => Heap.get?_push_of_some _ e
  show wpAny (model c.prog c.w) c.A (newFunctionEnv scope env.globals (clOf env scope.names []) [] env.qual none .none (some env)) _ E { s with heap := h2.push (listOb [] 0), toks := tk1 }
  generalize hh3 : h2.push (listOb [] 0) = h3 at g3 k3
  have k13 : ∀ b o, h1.get? b = some o → h3.get? b = some o := fun b o e => k3 b o (hk2 b o e)
  have S13 := Step.of_keeps (ρ := ρ1) k13
  have W3 := W1.keeps k13
  have F3 := (F.step W S1).step W1 S13
  obtain ⟨_, F4, k4, own4, cells4⟩ := comp_frame F3 W3 hok him
  refine newEnv_comp ?_
  dsimp only
  generalize hh4 : pushCells (h3.push { cls := .type "dict", data := .dict #[] }) scope.names = h4 at F4 k4
  generalize hce : ({ newEnv scope h3.objs.size env.globals (cellsFrom (h3.objs.size + 1) scope.names (clOf env scope.names [])) env.qual none .none (some env) builtinsNs with scope := relabel scope env } : Env) = cenv at F4 own4 ⊢
  have hcl : (newEnv scope h3.objs.size env.globals (cellsFrom (h3.objs.size + 1) scope.names (clOf env scope.names [])) env.qual none .none (some env) builtinsNs).locals = cenv.locals := by rw [← hce]
  have hcc : cenv.cells = cellsFrom (h3.objs.size + 1) scope.names (clOf env scope.names []) := by rw [← hce]; rfl
  rw [hcl]
  have k14 : ∀ b o, h1.get? b = some o → h4.get? b = some o := fun b o e => k4 b o (k13 b o e)
  have k24 : ∀ b o, h2.get? b = some o → h4.get? b = some o := fun b o e => k4 b o (k3 b o e)
  have W4 := W1.keeps k14
  have S14 := Step.of_keeps (ρ := ρ1) k14
  have n31 : ∀ b, h3.get? b = none → h1.get? b = none := fun b e => by
    cases q : h1.get? b with
    | none => rfl
    | some o => rw [k13 b o q] at e; cases e
  have D1 : h1.get? D = none := by
    cases q : h1.get? D with
    | none => rfl
    | some o => rw [hk2 D o q] at hD2; cases hD2
  have inρ : ∀ b, h1.get? b = none → b ∉ ρ1 := fun b hb => W1.out hb
  have in0 : ∀ b, h1.get? b = none → c.h₀.get? b = none := fun b hb => W1.base_none hb
  have g4 : h4.get? D = some (listOb [] 0) := k4 _ _ g3
  have liveI : ∃ o, h2.get? I = some o ∧ ¬ Still o := T.lives st0 I rfl
  obtain ⟨oI, eI, hIst⟩ := liveI
  have g4I : h4.get? I = some oI := k24 _ _ eI
  have hID : I ≠ D := fun q => by rw [q, hD2] at eI; cases eI
  have lc : ∀ b o, h3.get? b = some o → (b ≠ cenv.locals) := fun b o e q => by
    have := own4 b (.inl q)
    rw [this] at e; cases e
  obtain ⟨mC, nC, _⟩ := F4.loc
  have cellNe : ∀ (b : Addr) (o : Obj), h4.get? b = some o → (∀ v, o.data ≠ .cell v) → ∀ x b', cenv.cells.lookup x = some b' → b' ≠ b := fun b o e hn x b' hx q => by
    obtain ⟨_, _, v₀, o', e', hd⟩ := F4.cout x b' hx
    rw [q, e] at e'; cases e'; exact hn _ hd
  have hDL : D ≠ cenv.locals ∧ ∀ x b, cenv.cells.lookup x = some b → b ≠ D := ⟨lc D _ g3, cellNe D _ g4 (fun v q => by cases q)⟩
  have hIL : I ≠ cenv.locals ∧ ∀ x b, cenv.cells.lookup x = some b → b ≠ I := by
    refine ⟨lc I _ (k3 _ _ eI), ?_⟩
    intro x b hx q
    obtain ⟨_, hb0, v₀, o', e', hd⟩ := F4.cout x b hx
    rw [q, g4I] at e'
    cases e'
    have hcls : ∀ x b, cenv.cells.lookup x = some b → (∃ v, h1.IsCell b v) ∨ h3.get? b = none := by
      intro x b e
      rw [hcc] at e
      rcases cells4 x b e with q | q
      · exact .inr q
      · exact .inl ((F.step W S1).cout x b q).2.2
    rcases hcls x b hx with ⟨v, hv⟩ | hn
    · obtain ⟨o', e', _⟩ := hv
      rw [q, hIn] at e'; cases e'
    · rw [q, k3 _ _ eI] at hn; cases hn
  obtain ⟨m, p', hturn, hm⟩ := body cenv D hDL
  have st4 : St ρ1 h4 0 := T.move st0 ⟨fun _ _ e => e, fun b o _ e => k24 b o e⟩ fun b o _ e => k24 b o e
  have A4 : AccAt c.h₀ ρ1 h4 D [] := ⟨[], 0, g4, .nil, inρ D D1, in0 D D1⟩
  have OI : Off c.h₀ ρ1 (· = I) := ⟨fun b q => q ▸ inρ I hIn, fun b q => q ▸ in0 I hIn⟩
  have loop : codeAny (model c.prog c.w) c.A (.compLoop (.ListComp elt (⟨target, it, ifs, 0⟩ :: rest) scope pos) 0 (.ref I) (.ref D) cenv) (compPost (model c.prog c.w) c.A E use Q (.ref D) cenv.locals) { s with heap := h4, toks := tk1 } := by
    refine compLoop_sound C rfl rfl rfl (hturn I) T hT hm hID hIL hDL all 0 (lendVars vars scope.names.length lends) mem1 [] ρ1 { s with heap := h4, toks := tk1 } out varsE mem2 (List.drop_zero) (Nat.zero_le _) e3 ⟨W4, F4, A4⟩ hsrc st4 OI (by simpa using hz) fun ρ' h5 h' tk' S5 kk X => ?_
    rw [List.nil_append] at X
    have S15 : StepO (fun b => OD scope.names cenv D b ∨ b = I) ρ1 ρ' h1 h5 := (StepO.of W1 S14).trans S5
    have Sfin : Step ρ1 ρ' h1 h' := (S15.last (O := fun _ => False) (IS := (· = I)) (fun b q => by
      rcases q with (q | q) | q
      · exact .inr (n31 b (own4 b q))
      · exact .inr (q ▸ D1)
      · exact .inr (q ▸ hIn)) (fun b q => q ▸ hIn) kk).step
    obtain ⟨ds, nD, gD, rD, oD, bD⟩ := X.acc
    have Wf := X.wd.adopt (o := .list out) oD bD fun kt => ⟨ds, nD, gD, rD.keepT kt⟩
    have nC' : h1.get? cenv.locals = none := n31 _ (own4 _ (.inl rfl))
    have old : ∀ b, h1.get? b = none → s.heap.get? b = none ∨ b ∈ ρ := fun b hb => by
      by_cases hm : b ∈ ρ
      · exact .inr hm
      · refine .inl ?_
        cases q : s.heap.get? b with
        | none => rfl
        | some o => rw [S1.keep b o hm q] at hb; cases hb
    have notρ : ∀ b, h1.get? b = none → b ∉ ρ := fun b hb hm => inρ b hb (by
      obtain ⟨e, he⟩ := S1.ext
      rw [he]; exact List.mem_append_left _ hm)
    have Stot : Step ρ (ρ' ++ [D]) s.heap h' := by
      have S := S1.trans Sfin
      obtain ⟨ee, hee⟩ := S.ext
      refine ⟨⟨ee ++ [D], by rw [hee, List.append_assoc]⟩, fun a h1 h2 => ?_, S.keep⟩
      rcases List.mem_append.mp h1 with m | m
      · exact S.new a m h2
      · rw [List.mem_singleton.mp m]
        exact (old D D1).resolve_right (notρ D D1)
    obtain ⟨mE, nE, _⟩ := X.fr.loc
    refine k (.ref D) cenv.locals (ρ' ++ [D]) h' tk' ⟨Wf, Stot, .obj ?_, ⟨mE, nE⟩, (old _ nC').resolve_right (notρ _ nC'), fun m => ?_, X.fr.out.2⟩
    · rw [← X.wd.len, List.getElem?_append_right (Nat.le_refl _), Nat.sub_self]; rfl
    · rcases List.mem_append.mp m with m | m
      · exact X.fr.out.1 m
      · exact hDL.1 (List.mem_singleton.mp m).symm
  have hstart := codeAny_compStart_list (prog := c.prog) (w := c.w) (A := c.A) (s := { s with heap := h4, toks := tk1 }) (elt := elt) (target := target) (iter := it) (ifs := ifs) (rest := rest) (scope := scope) (pos := pos) (it := .ref I) (acc := .ref D) (env := cenv) loop (hself 0 ρ1 _ _ _ st4 loop)
  exact hstart
end
end Mine
end

section
open PySem PySem.Spec PySem.Calls PyProof.Rows PySem.W
set_option linter.unusedVariables false
set_option autoImplicit false
namespace Mine

theorem turn_if (elt target iter cond : Expr) (scope : Scope) (pos : Pos) (it acc : Value) (env : Env) :
    compTurn (.ListComp elt [⟨target, iter, [cond], 0⟩] scope pos) 0 it acc env = (standAt iter.pos >>= fun _ => pyNext it >>= fun r => match r with
      | none => pure (.done .next)
      | some v => letOwnedTupleGo target it v >>= fun _ => assign target env v >>= fun _ =>
        (isTrue cond env (eval cond env) >>= fun ok => if ok = true then (eval elt env >>= fun x => call (.builtin "list.append") [acc, x] >>= fun _ => pure ()) else pure ()) >>= fun _ =>
          again (.compLoop (.ListComp elt [⟨target, iter, [cond], 0⟩] scope pos) 0 it acc env)) := by
  rw [compTurn_list]
  simp only [List.forIn_cons, List.forIn_nil, if_true, bind_assoc, pure_bind]
  congr 1; funext _
  congr 1; funext r
  cases r with
  | none => rfl
  | some v =>
    dsimp only
    congr 1; funext _
    congr 1; funext _
    congr 1; funext ok
    cases ok <;> simp [bind_assoc]
theorem turn_two0 (elt target iter target2 iter2 : Expr) (scope : Scope) (pos : Pos) (it acc : Value) (env : Env) :
    compTurn (.ListComp elt [⟨target, iter, [], 0⟩, ⟨target2, iter2, [], 0⟩] scope pos) 0 it acc env = (standAt iter.pos >>= fun _ => pyNext it >>= fun r => match r with
      | none => pure (.done .next)
      | some v => letOwnedTupleGo target it v >>= fun _ => assign target env v >>= fun _ =>
        (eval iter2 env >>= fun x => standAt iter2.pos >>= fun _ => foldedSetIterable iter2 env x >>= fun x => holding [x] (pyIter x) >>= fun it2 => runOwn (.compStart (.ListComp elt [⟨target, iter, [], 0⟩, ⟨target2, iter2, [], 0⟩] scope pos) 1 it2 acc env) env >>= fun _ => pure ()) >>= fun _ =>
          again (.compLoop (.ListComp elt [⟨target, iter, [], 0⟩, ⟨target2, iter2, [], 0⟩] scope pos) 0 it acc env)) := by
  show (standAt iter.pos >>= fun _ => pyNext it >>= fun r => match r with
      | none => pure (.done .next)
      | some v => letOwnedTupleGo target it v >>= fun _ => assign target env v >>= fun _ =>
        (eval iter2 env >>= fun x => standAt iter2.pos >>= fun _ => foldedSetIterable iter2 env x >>= fun x => holding [x] (pyIter x) >>= fun it2 => runOwn (.compStart (.ListComp elt [⟨target, iter, [], 0⟩, ⟨target2, iter2, [], 0⟩] scope pos) 1 it2 acc env) env >>= fun _ => again (.compLoop (.ListComp elt [⟨target, iter, [], 0⟩, ⟨target2, iter2, [], 0⟩] scope pos) 0 it acc env))) = _
  congr 1; funext _
  congr 1; funext r
  cases r with
  | none => rfl
  | some v =>
    dsimp only
    congr 1; funext _
    congr 1; funext _
    simp only [bind_assoc, pure_bind]
theorem turn_two1 (elt target iter target2 iter2 : Expr) (scope : Scope) (pos : Pos) (it acc : Value) (env : Env) :
    compTurn (.ListComp elt [⟨target, iter, [], 0⟩, ⟨target2, iter2, [], 0⟩] scope pos) 1 it acc env = (standAt iter2.pos >>= fun _ => pyNext it >>= fun r => match r with
      | none => pure (.done .next)
      | some v => letOwnedTupleGo target2 it v >>= fun _ => assign target2 env v >>= fun _ =>
        (eval elt env >>= fun x => call (.builtin "list.append") [acc, x] >>= fun _ => pure ()) >>= fun _ =>
          again (.compLoop (.ListComp elt [⟨target, iter, [], 0⟩, ⟨target2, iter2, [], 0⟩] scope pos) 1 it acc env)) := by
  rfl

section
variable {c : Cx}
theorem compStart_one {prog : Program} {w : World} {A : Around} {R : Result → Shared → Prop} {s : Shared} {elt target iter target2 iter2 : Expr} {scope : Scope} {pos : Pos} {it acc : Value} {env : Env}
    (h0 : codeAny (model prog w) A (.compLoop (.ListComp elt [⟨target, iter, [], 0⟩, ⟨target2, iter2, [], 0⟩] scope pos) 1 it acc env) R s)
    (h : wpAny (model prog w) A (pyIter it) (fun it' s' => codeAny (model prog w) A (.compLoop (.ListComp elt [⟨target, iter, [], 0⟩, ⟨target2, iter2, [], 0⟩] scope pos) 1 it' acc env) R s')
      (notedBy (model prog w) A env fun x s' => R (.error x) s') s) :
    codeAny (model prog w) A (.compStart (.ListComp elt [⟨target, iter, [], 0⟩, ⟨target2, iter2, [], 0⟩] scope pos) 1 it acc env) R s := by
  refine codeAny_of_tree ?_
  show wpAny _ _ ((compStart (.ListComp elt [⟨target, iter, [], 0⟩, ⟨target2, iter2, [], 0⟩] scope pos) 1 it acc env).onRaise (fun x => do noteFrame x env; standAt theWindowsPlace)) _ _ s
  refine wpAny_notedAt ?_
  unfold compStart
  show wpAny _ _ (ask >>= _) _ _ s
  refine wpAny_bind (wpAny_askSetting (wpAny_ite ?_))
  split
  · first
      | exact wpAny_bind (wpAny_pure (wpAny_pure (And.intro rfl h0)))
      | exact wpAny_pure (And.intro rfl h0)
  · first
      | exact wpAny_bind (wpAny_rule (wpAny_bind (wpAny_standAt (wpAny_bind (wpAny_mono h (fun it' s' h' => wpAny_pure (And.intro rfl h')) fun _ _ x => x)))))
      | (refine wpAny_bind (wpAny_rule ?_); show wpAny _ _ (standAt iter2.pos >>= _) _ _ s; exact wpAny_bind (wpAny_standAt (wpAny_bind (wpAny_mono h (fun it' s' h' => wpAny_pure (And.intro rfl h')) fun _ _ x => x))))

theorem two_sound (C : CxOk c) {elt target iter target2 iter2 : Expr} {scope : Scope} {pos : Pos} {ns : Names} {env : Env} {D : Addr} {lit le : LE} {t2 : LT} (h2 : SndE c iter2) (hc2 : compE ns iter2 = some lit) (hT : compT ns target2 = some t2) (h : SndE c elt) (hc : compE ns elt = some le)
    (hDL : D ≠ env.locals ∧ ∀ x b, env.cells.lookup x = some b → b ≠ D) :
    BodySnd c ns env D (fun vars mem => do
      let (src2, mem) ← ev c.M c.Φ vars lit mem
      let ys ← iterA mem src2
      compLoop src2 ys t2 (fun vars mem => do
        let (a, mem) ← ev c.M c.Φ vars le mem
        some ([a], vars, mem)) ys vars mem)
      (eval iter2 env >>= fun x => standAt iter2.pos >>= fun _ => foldedSetIterable iter2 env x >>= fun x => holding [x] (pyIter x) >>= fun it2 => runOwn (.compStart (.ListComp elt [⟨target, iter, [], 0⟩, ⟨target2, iter2, [], 0⟩] scope pos) 1 it2 (.ref D) env) env >>= fun _ => pure ()) := by
  intro vars mem out1 vars2 mem2 e ρ s outs E Q X hsz k
  obtain ⟨⟨src2, m1⟩, e1, e⟩ := bI e
  obtain ⟨ys, e2, e3⟩ := bI e
  refine wpAny_bind (h2 ns lit hc2 vars mem src2 m1 e1 ρ env s E _ X.wd X.fr fun xv ρ1 h1 tk1 W1 S1 V1 => ?_)
  have X1 := X.step W1 S1
  refine wpAny_bind (wpAny_standAt ?_)
  rw [folded_plain hc2]
  refine wpAny_bind (wpAny_pure (wpAny_bind (wpAny_holding (iter_sound C (target := target2) e2 W1 V1 fun I h2' St hIn hk2 T st0 hsrc hself => ?_))))
  have S12 := Step.of_keeps (ρ := ρ1) hk2
  have W2 := W1.keeps hk2
  have X2 := X1.step (mem' := m1) W2 S12
  have inρ : I ∉ ρ1 := W1.out hIn
  have in0 : c.h₀.get? I = none := W1.base_none hIn
  have hID : I ≠ D := fun q => by
    obtain ⟨_, _, g, _⟩ := X1.acc
    rw [← q, hIn] at g; cases g
  have hIL : I ≠ env.locals ∧ ∀ x b, env.cells.lookup x = some b → b ≠ I := by
    constructor
    · intro q
      obtain ⟨mm, nn, _⟩ := X1.fr.loc
      obtain ⟨o, _, _, g, _⟩ := nn
      rw [← q, hIn] at g; cases g
    · intro x b hx q
      obtain ⟨_, _, v₀, o, g, _⟩ := X1.fr.cout x b hx
      rw [q, hIn] at g; cases g
  refine wpAny_bind (wpAny_runOwn ?_)
  have loop : codeAny (model c.prog c.w) c.A (.compLoop (.ListComp elt [⟨target, iter, [], 0⟩, ⟨target2, iter2, [], 0⟩] scope pos) 1 (.ref I) (.ref D) env)
      (fun r s' => match r with | .ok f => wpAny (model c.prog c.w) c.A (pure ()) Q E s' | .error e => cameBackBy (model c.prog c.w) c.A env E e s') { s with heap := h2', toks := tk1 } := by
    refine compLoop_sound C rfl rfl rfl (turn_two1 elt target iter target2 iter2 scope pos (.ref I) (.ref D) env) T hT (emit_sound C h hc hDL) hID hIL hDL ys 0 vars m1 outs ρ1 { s with heap := h2', toks := tk1 } out1 vars2 mem2 (List.drop_zero) (Nat.zero_le _) e3 X2 hsrc st0 ⟨fun b q => q ▸ inρ, fun b q => q ▸ in0⟩ hsz fun ρ' h5 h' tk' S5 kk X' => ?_
    refine wpAny_pure (k ρ' h' tk' ?_ X')
    have S15 : StepO (fun b => OD ns env D b ∨ b = I) ρ1 ρ' h1 h5 := (StepO.of W1 S12).trans S5
    have Sl : StepO (OD ns env D) ρ1 ρ' h1 h' := S15.last (IS := (· = I)) (fun b q => by
      rcases q with q | q
      · exact .inl q
      · exact .inr (q ▸ hIn)) (fun b q => q ▸ hIn) kk
    exact (StepO.of X.wd S1).trans Sl
  exact compStart_one loop (hself 0 ρ1 _ _ _ st0 loop)

theorem comp1_ev {M : Methods} {Φ : Fun} {size : Nat} {lends : List (Nat × Nat)} {t : LT} {lit lc le : LE} {vars : Vars} {mem mem' : Mem} {a : AV} (e : ev M Φ vars (.comp1 size lends t lit lc le) mem = some (a, mem')) :
    ∃ src mem1 all out varsE mem2, ev M Φ vars lit mem = some (src, mem1) ∧ iterA mem1 src = some all ∧ compLoop src all t (fun vars mem => do
      let (c', mem) ← ev M Φ vars lc mem
      match c' with
      | .bool true => do
        let (a, mem) ← ev M Φ vars le mem
        some ([a], vars, mem)
      | .bool false => some ([], vars, mem)
      | _ => Option.none) all (lendVars vars size lends) mem1 = some (out, varsE, mem2) ∧ szOk out.length = true ∧ a = .obj mem2.length ∧ mem' = mem2 ++ [.list out] := by
  obtain ⟨⟨src, m1⟩, e1, e⟩ := bI e
  obtain ⟨all, e2, e⟩ := bI e
  obtain ⟨⟨out, vE, m2⟩, e3, e⟩ := bI e
  dsimp only at e
  split at e
  · rename_i hz
    cases e
    exact ⟨src, m1, all, out, vE, m2, e1, e2, e3, hz, rfl, rfl⟩
  · cases e
theorem comp2_ev {M : Methods} {Φ : Fun} {size : Nat} {lends : List (Nat × Nat)} {t t2 : LT} {lit lit2 le : LE} {vars : Vars} {mem mem' : Mem} {a : AV} (e : ev M Φ vars (.comp2 size lends t lit t2 lit2 le) mem = some (a, mem')) :
    ∃ src mem1 all out varsE mem2, ev M Φ vars lit mem = some (src, mem1) ∧ iterA mem1 src = some all ∧ compLoop src all t (fun vars mem => do
      let (src2, mem) ← ev M Φ vars lit2 mem
      let ys ← iterA mem src2
      compLoop src2 ys t2 (fun vars mem => do
        let (a, mem) ← ev M Φ vars le mem
        some ([a], vars, mem)) ys vars mem) all (lendVars vars size lends) mem1 = some (out, varsE, mem2) ∧ szOk out.length = true ∧ a = .obj mem2.length ∧ mem' = mem2 ++ [.list out] := by
  obtain ⟨⟨src, m1⟩, e1, e⟩ := bI e
  obtain ⟨all, e2, e⟩ := bI e
  obtain ⟨⟨out, vE, m2⟩, e3, e⟩ := bI e
  dsimp only at e
  split at e
  · rename_i hz
    cases e
    exact ⟨src, m1, all, out, vE, m2, e1, e2, e3, hz, rfl, rfl⟩
  · cases e

noncomputable def SndC (c : Cx) (e : Expr) : Prop := ∀ (elt : Expr) (gens : List Comprehension) (scope : Scope) (pos : Pos), e = .ListComp elt gens scope pos → ∀ (ns : Names) (le : LE), compE ns e = some le → ∀ (vars : Vars) (mem : Mem) (r : AV) (mem' : Mem), ev c.M c.Φ vars le mem = some (r, mem') →
  ∀ (ρ : List Addr) (env : Env) (s : Shared) (E : Value → Shared → Prop) (Q : Value → Shared → Prop) (use : Option (Value → Sem Unit)), Wd c.h₀ ρ mem s.heap → Fr c.h₀ ns env ρ vars s.heap →
  (∀ acc Cl ρ' h' tk', Done c ρ s mem' acc r Cl ρ' h' → compPost (model c.prog c.w) c.A E use Q acc Cl (.ok .next) { s with heap := h', toks := tk' }) →
  wpAny (model c.prog c.w) c.A (comprehension e scope env (firstIterPos gens pos) (newList []) (firstAsync gens) (firstIter gens env) use) Q E s

theorem sndC_one (C : CxOk c) {elt target it : Expr} {scope : Scope} {pos : Pos} (h1 : SndE c it) (h2 : SndE c elt) : SndC c (.ListComp elt [⟨target, it, [], 0⟩] scope pos) := by
  rintro _ _ _ _ e0 ns le hc vars mem r mem' e ρ env s E Q use W F k
  cases e0
  simp only [cE_comp] at hc
  split at hc
  · cases hc
  · rename_i hok
    rw [Bool.not_eq_true', Bool.not_eq_false] at hok
    refine gI fun Gz gz => ?_
    obtain ⟨lends, q1, hc⟩ := bI hc
    obtain ⟨t, q2, hc⟩ := bI hc
    obtain ⟨lit, q3, hc⟩ := bI hc
    obtain ⟨lelt, q4, hc⟩ := bI hc
    cases hc
    obtain ⟨src, m1, all, out, vE, m2, e1, e2, e3, hz, rfl, rfl⟩ := comp1_ev e
    have hf : (fun (vars : Vars) (mem : Mem) => do
      let (c', mem) ← ev c.M c.Φ vars (.bool true) mem
      match c' with
      | .bool true => do
        let (a, mem) ← ev c.M c.Φ vars lelt mem
        some ([a], vars, mem)
      | .bool false => some ([], vars, mem)
      | _ => Option.none) = (fun (vars : Vars) (mem : Mem) => do
        let (a, mem) ← ev c.M c.Φ vars lelt mem
        some ([a], vars, mem)) := by
      funext vars mem
      rfl
    rw [hf] at e3
    refine gz ?_
    exact comp_top C h1 q3 hok q1 q2 (fun cenv D hDL => ⟨_, it.pos, fun I => compTurn_list1 elt target it scope pos (.ref I) (.ref D) cenv, emit_sound C h2 q4 hDL⟩) e1 e2 e3 hz W F k
theorem sndC_if (C : CxOk c) {elt target it cond : Expr} {scope : Scope} {pos : Pos} (h1 : SndE c it) (h2 : SndE c elt) (h3 : SndT c cond) : SndC c (.ListComp elt [⟨target, it, [cond], 0⟩] scope pos) := by
  rintro _ _ _ _ e0 ns le hc vars mem r mem' e ρ env s E Q use W F k
  cases e0
  simp only [cE_compI] at hc
  split at hc
  · cases hc
  · rename_i hok
    rw [Bool.not_eq_true', Bool.not_eq_false] at hok
    refine gI fun Gz gz => ?_
    obtain ⟨lends, q1, hc⟩ := bI hc
    obtain ⟨t, q2, hc⟩ := bI hc
    obtain ⟨lit, q3, hc⟩ := bI hc
    obtain ⟨lc, q5, hc⟩ := bI hc
    obtain ⟨lelt, q4, hc⟩ := bI hc
    cases hc
    obtain ⟨src, m1, all, out, vE, m2, e1, e2, e3, hz, rfl, rfl⟩ := comp1_ev e
    refine gz ?_
    exact comp_top C h1 q3 hok q1 q2 (fun cenv D hDL => ⟨_, it.pos, fun I => turn_if elt target it cond scope pos (.ref I) (.ref D) cenv, test_sound C h3 q5 h2 q4 hDL⟩) e1 e2 e3 hz W F k
theorem sndC_two (C : CxOk c) {elt target it target2 it2 : Expr} {scope : Scope} {pos : Pos} (h1 : SndE c it) (h2 : SndE c elt) (h3 : SndE c it2) : SndC c (.ListComp elt [⟨target, it, [], 0⟩, ⟨target2, it2, [], 0⟩] scope pos) := by
  rintro _ _ _ _ e0 ns le hc vars mem r mem' e ρ env s E Q use W F k
  cases e0
  simp only [cE_comp2] at hc
  split at hc
  · cases hc
  · rename_i hok
    rw [Bool.not_eq_true', Bool.not_eq_false] at hok
    refine gI fun Gz gz => ?_
    obtain ⟨lends, q1, hc⟩ := bI hc
    obtain ⟨t, q2, hc⟩ := bI hc
    obtain ⟨lit, q3, hc⟩ := bI hc
    obtain ⟨t2, q5, hc⟩ := bI hc
    obtain ⟨lit2, q6, hc⟩ := bI hc
    obtain ⟨lelt, q4, hc⟩ := bI hc
    cases hc
    obtain ⟨src, m1, all, out, vE, m2, e1, e2, e3, hz, rfl, rfl⟩ := comp2_ev e
    refine gz ?_
    exact comp_top C h1 q3 hok q1 q2 (fun cenv D hDL => ⟨_, it.pos, fun I => turn_two0 elt target it target2 it2 scope pos (.ref I) (.ref D) cenv, two_sound C h3 q6 q5 h2 q4 hDL⟩) e1 e2 e3 hz W F k

theorem snd_of_comp (C : CxOk c) {elt : Expr} {gens : List Comprehension} {scope : Scope} {pos : Pos} (h : SndC c (.ListComp elt gens scope pos)) : Snd c (.ListComp elt gens scope pos) := snd_bool C fun ns le hc vars mem r mem' e ρ env s E Q W F k => by
  show wpAny _ _ (comprehension (.ListComp elt gens scope pos) scope env (firstIterPos gens pos) (newList []) (firstAsync gens) (firstIter gens env)) Q E s
  refine h elt gens scope pos rfl ns le hc vars mem r mem' e ρ env s E Q none W F fun acc Cl ρ' h' tk' D => ?_
  obtain ⟨m, hn⟩ := D.ns
  refine ⟨m, hn, fun h'' hs => ?_⟩
  have pl := Heap.Ns.place hn
  have kk : Kept (· = Cl) h' h'' := fun b o hb e => (hs.2 b hb).trans e
  have L : Lives (· = Cl) h' := fun b q => by subst q; exact pl
  refine k acc ρ' h'' tk' (D.wd.but hs D.out D.base pl) ?_ (D.val.keepT (kk.kt L))
  exact ⟨D.st.ext, D.st.new, fun b o hb e => kk b o (fun q => by subst q; rw [D.new] at e; cases e) (D.st.keep b o hb e)⟩


theorem snd_when {e : Expr} (h : ∀ ns le, compE ns e = some le → Snd c e ∧ SndC c e) : Snd c e ∧ SndC c e :=
  ⟨⟨fun ns le hc => (h ns le hc).1.1 ns le hc, fun ns le hc => (h ns le hc).1.2 ns le hc⟩, fun elt gens scope pos e0 ns le hc => (h ns le hc).2 elt gens scope pos e0 ns le hc⟩
noncomputable def isSl : Expr → Bool
  | .Slice _ _ none _ => true
  | _ => false
theorem isSl_inv {i : Expr} (h : isSl i = true) : ∃ lo hi q, i = .Slice lo hi none q := by
  cases i with
  | Slice lo hi st q => cases st with
    | none => exact ⟨lo, hi, q, rfl⟩
    | some x => cases h
  | _ => cases h
noncomputable def IHs (c : Cx) (e : Expr) : Prop := ∀ e', sizeOf e' < sizeOf e → Snd c e'
noncomputable def Both (c : Cx) (e : Expr) : Prop := Snd c e ∧ SndC c e
theorem IHs.list {e : Expr} (ih : IHs c e) {xs : List Expr} (h : sizeOf xs < sizeOf e) : ∀ x ∈ xs, Snd c x := fun x hx => ih x (Nat.lt_trans (List.sizeOf_lt_of_mem hx) h)
theorem Both.of {e : Expr} (x : Snd c e) (h : SndC c e) : Both c e := ⟨x, h⟩
theorem Both.comp {elt : Expr} {gs : List Comprehension} {sc : Scope} {p : Pos} (C : CxOk c) (k : SndC c (.ListComp elt gs sc p)) : Both c (.ListComp elt gs sc p) := ⟨snd_of_comp C k, k⟩
inductive Shp : List Comprehension → Prop
  | one (t it : Expr) : Shp [⟨t, it, [], 0⟩]
  | two (t it cnd : Expr) : Shp [⟨t, it, [cnd], 0⟩]
  | three (t it t2 it2 : Expr) : Shp [⟨t, it, [], 0⟩, ⟨t2, it2, [], 0⟩]
theorem gens_inv {ns : Names} {le : LE} {elt : Expr} {gs : List Comprehension} {sc : Scope} {p : Pos} (hc : compE ns (.ListComp elt gs sc p) = some le) :
    Shp gs := by
  cases gs with
  | nil => exact noS hc
  | cons g gs =>
    obtain ⟨t, it, ifs, a⟩ := g
    cases a with
    | negSucc a => cases ifs with
      | nil => cases gs <;> exact noS hc
      | cons x ifs => cases ifs <;> cases gs <;> exact noS hc
    | ofNat a => cases a with
      | succ a => cases ifs with
        | nil => cases gs <;> exact noS hc
        | cons x ifs => cases ifs <;> cases gs <;> exact noS hc
      | zero => cases ifs with
        | cons x ifs => cases ifs with
          | cons y ifs => cases gs <;> exact noS hc
          | nil => cases gs with
            | nil => exact .two _ _ _
            | cons g gs => exact noS hc
        | nil => cases gs with
          | nil => exact .one _ _
          | cons g gs =>
            obtain ⟨t2, it2, ifs2, a2⟩ := g
            cases gs with
            | cons g2 gs => cases ifs2 <;> cases a2 with
              | negSucc a => exact noS hc
              | ofNat a => cases a <;> exact noS hc
            | nil => cases a2 with
              | negSucc a => cases ifs2 <;> exact noS hc
              | ofNat a => cases a with
                | succ a => cases ifs2 <;> exact noS hc
                | zero => cases ifs2 with
                  | nil => exact .three _ _ _ _
                  | cons x l => exact noS hc
theorem both_comp (C : CxOk c) {ns : Names} {le : LE} {elt : Expr} {gs : List Comprehension} {sc : Scope} {p : Pos} (ih : IHs c (.ListComp elt gs sc p)) (hc : compE ns (.ListComp elt gs sc p) = some le) : Both c (.ListComp elt gs sc p) := by
  cases gens_inv hc with
  | one t it => exact .comp C (sndC_one C (ih _ (by simp; omega)).1 (ih _ (by simp; omega)).1)
  | two t it cnd => exact .comp C (sndC_if C (ih _ (by simp; omega)).1 (ih _ (by simp; omega)).1 (ih _ (by simp; omega)).2)
  | three t it t2 it2 => exact .comp C (sndC_two C (ih _ (by simp; omega)).1 (ih _ (by simp; omega)).1 (ih _ (by simp; omega)).1)
theorem both_call (C : CxOk c) {ns : Names} {le : LE} {f : Expr} {args : List Expr} {kws : List Keyword} {p : Pos} (ih : IHs c (.Call f args kws p)) (hc : compE ns (.Call f args kws p) = some le) : Both c (.Call f args kws p) := by
  cases kws with
  | cons => cases f <;> exact noS hc
  | nil => cases f with
    | Name x q => exact .of (snd_callF C fun x hx => (ih.list (by simp; omega) x hx).1) fun _ _ _ _ h => nomatch h
    | Attribute o n q => exact .of (snd_meth C (ih _ (by simp; omega)).1 fun x hx => (ih.list (by simp; omega) x hx).1) fun _ _ _ _ h => nomatch h
    | _ => exact noS hc
theorem both_sub (C : CxOk c) {o i : Expr} {p : Pos} (ih : IHs c (.Subscript o i p)) : Both c (.Subscript o i p) := by
  cases hsl : isSl i with
  | true =>
    obtain ⟨lo, hi, q, rfl⟩ := isSl_inv hsl
    exact .of (snd_slice C (ih _ (by simp; omega)).1 (fun x hx => (ih _ (by subst hx; simp; omega)).1) (fun x hx => (ih _ (by subst hx; simp; omega)).1)) fun _ _ _ _ h => nomatch h
  | false => exact .of (snd_item C (fun a b q h => by subst h; exact Bool.false_ne_true hsl.symm) (ih _ (by simp; omega)).1 (ih _ (by simp; omega)).1) fun _ _ _ _ h => nomatch h
theorem both_cmp (C : CxOk c) {ns : Names} {le : LE} {l : Expr} {ops : List CmpOp} {rs : List Expr} {p : Pos} (ih : IHs c (.Compare l ops rs p)) (hc : compE ns (.Compare l ops rs p) = some le) : Both c (.Compare l ops rs p) := by
  cases ops with
  | nil => exact noS hc
  | cons op ops => cases ops with
    | cons => exact noS hc
    | nil => cases rs with
      | nil => exact noS hc
      | cons r rs => cases rs with
        | cons => exact noS hc
        | nil => exact .of (snd_cmp C (ih _ (by simp; omega)).1 (ih _ (by simp; omega)).1) fun _ _ _ _ h => nomatch h
theorem both_of (C : CxOk c) {ns : Names} {le : LE} {e : Expr} (ih : IHs c e) (hc : compE ns e = some le) : Both c e := by
  cases e with
  | Constant k kk p => cases k with
    | none => exact .of (snd_none C) fun _ _ _ _ h => nomatch h
    | bool b => exact .of (snd_cbool C) fun _ _ _ _ h => nomatch h
    | int b => exact .of (snd_int C) fun _ _ _ _ h => nomatch h
    | str b => exact .of (snd_str C) fun _ _ _ _ h => nomatch h
    | _ => exact noS hc
  | Name x p => exact .of (snd_name C) fun _ _ _ _ h => nomatch h
  | BinOp l op r p => exact .of (snd_bin C (ih _ (by simp; omega)).1 (ih _ (by simp; omega)).1) fun _ _ _ _ h => nomatch h
  | UnaryOp op x p => cases op with
    | USub => exact .of (snd_neg C (ih _ (by simp; omega)).1) fun _ _ _ _ h => nomatch h
    | Not => exact .of (snd_not C (ih _ (by simp; omega))) fun _ _ _ _ h => nomatch h
    | _ => exact noS hc
  | Compare l ops rs p => exact both_cmp C ih hc
  | BoolOp op xs p => exact .of (snd_bools C (ih.list (by simp; omega))) fun _ _ _ _ h => nomatch h
  | IfExp t b o p => exact .of (snd_ite C (ih _ (by simp; omega)).2 (ih _ (by simp; omega)) (ih _ (by simp; omega))) fun _ _ _ _ h => nomatch h
  | Tuple xs k p => exact .of (snd_tuple C fun x hx => (ih.list (by simp; omega) x hx).1) fun _ _ _ _ h => nomatch h
  | List xs p => exact .of (snd_list C fun x hx => (ih.list (by simp; omega) x hx).1) fun _ _ _ _ h => nomatch h
  | Dict ks vs p => cases ks with
    | cons => exact noS hc
    | nil => cases vs with
      | nil => exact .of (snd_dict C) fun _ _ _ _ h => nomatch h
      | cons => exact noS hc
  | Subscript o i p => exact both_sub C ih
  | Attribute o n p => exact .of (snd_attr C (ih _ (by simp; omega)).1) fun _ _ _ _ h => nomatch h
  | Call f args kws p => exact both_call C ih hc
  | ListComp elt gens sc p => exact both_comp C ih hc
  | _ => exact noS hc
theorem snd_all (C : CxOk c) (n : Nat) : ∀ (e : Expr), sizeOf e < n → Both c e := by
  induction n with
  | zero => exact fun e h => absurd h (Nat.not_lt_zero _)
  | succ n ih => exact fun e hn => snd_when fun ns le hc => both_of C (fun e' h => (ih e' (Nat.lt_of_lt_of_le h (Nat.le_of_lt_succ hn))).1) hc
theorem sndE (C : CxOk c) (e : Expr) : SndE c e := (snd_all C _ e (Nat.lt_succ_self _)).1.1
theorem sndT (C : CxOk c) (e : Expr) : SndT c e := (snd_all C _ e (Nat.lt_succ_self _)).1.2
theorem sndC (C : CxOk c) (e : Expr) : SndC c e := (snd_all C _ e (Nat.lt_succ_self _)).2
end
end Mine
end

section
open PySem PySem.Spec PySem.Calls PyProof.Rows PySem.W
set_option linter.unusedVariables false
set_option autoImplicit false
namespace Mine

section
variable {prog : Program} {w : World} {A : Around} {E : Value → Shared → Prop} {s : Shared}

theorem nextOf_tuple_item {it t : Addr} {i : Nat} {items : Array Value} {x : Value} {Q : Value → Shared → Prop} (hit : s.heap.IsTupleIter it t i) (ht : s.heap.IsTuple t items) (hx : items[i]? = some x)
    (hQ : ∀ h', h'.IsTupleIter it t (i + 1) → Heap.SameBut it s.heap h' → Q x { s with heap := h' }) : wpAny (model prog w) A (Builtin.SmallTypes.nextOf (.ref it)) Q E s := by
  obtain ⟨o, ho, hc, hd⟩ := id hit
  obtain ⟨ol, hol, _, nl, hdl⟩ := ht
  unfold Builtin.SmallTypes.nextOf
  refine wpAny_bind (wpAny_callSpecial?_slot (name := Str.ofString "__next__") hit.typeIs F.slot_tuple_iterator_next
    (wpAny_call_entry F.slot_tuple_iterator_next hit.typeIs F.entry_tuple_iterator_next ?_ (F.args_tuple_iterator_next_1 _)))
  show wpAny _ _ (field (.ref it) 0 >>= _) _ _ s
  refine wpAny_bind (wpAny_field ho hd (x := .ref t) rfl ?_)
  show wpAny _ _ (if (Value.ref t == Value.none) = true then _ else _) _ _ s
  rw [if_neg (show ¬ ((Value.ref t == Value.none) = true) from Bool.false_ne_true)]
  show wpAny _ _ (field (.ref it) 1 >>= _) _ _ s
  refine wpAny_bind (wpAny_field ho hd (x := .int i 0) rfl ?_)
  show wpAny _ _ (seqItems? (.ref t) >>= _) _ _ s
  refine wpAny_bind (wpAny_seqItems hol hdl ?_)
  simp only [Int.toNat_natCast, hx]
  refine wpAny_bind (wpAny_setField ho hd (by simp) (wpAny_pure ⟨x, rfl, wpAny_pure (hQ _ ?_ (Heap.SameBut.update ..))⟩))
  exact ⟨_, Heap.get?_update_self _ ho (Obj.isFreed_of_fields (Obj.data_mapFields hd _)), (Obj.cls_mapFields ..).trans hc, by
    rw [Obj.data_mapFields hd]; simp [rawInt]⟩
theorem nextOf_tuple_end {it t : Addr} {i : Nat} {items : Array Value} {Q : Value → Shared → Prop} (hh : A.handled = none) (hit : s.heap.IsTupleIter it t i) (ht : s.heap.IsTuple t items) (hx : items[i]? = none)
    (hE : ∀ h' e, Heap.ExtBut it s.heap h' → (∃ o, h'.get? e = some o ∧ o.cls = .type "StopIteration") → E (.ref e) { s with heap := h' }) :
    wpAny (model prog w) A (Builtin.SmallTypes.nextOf (.ref it)) Q E s := by
  obtain ⟨o, ho, hc, hd⟩ := id hit
  obtain ⟨ol, hol, _, nl, hdl⟩ := ht
  unfold Builtin.SmallTypes.nextOf
  refine wpAny_bind (wpAny_callSpecial?_slot (name := Str.ofString "__next__") hit.typeIs F.slot_tuple_iterator_next
    (wpAny_call_entry F.slot_tuple_iterator_next hit.typeIs F.entry_tuple_iterator_next ?_ (F.args_tuple_iterator_next_1 _)))
  show wpAny _ _ (field (.ref it) 0 >>= _) _ _ s
  refine wpAny_bind (wpAny_field ho hd (x := .ref t) rfl ?_)
  show wpAny _ _ (if (Value.ref t == Value.none) = true then _ else _) _ _ s
  rw [if_neg (show ¬ ((Value.ref t == Value.none) = true) from Bool.false_ne_true)]
  show wpAny _ _ (field (.ref it) 1 >>= _) _ _ s
  refine wpAny_bind (wpAny_field ho hd (x := .int i 0) rfl ?_)
  show wpAny _ _ (seqItems? (.ref t) >>= _) _ _ s
  refine wpAny_bind (wpAny_seqItems hol hdl ?_)
  simp only [Int.toNat_natCast, hx]
  refine wpAny_bind (wpAny_rule (wpAny_bind (wpAny_setField ho hd (by simp) ?_)))
  show wpAny _ _ (newExc (.type "StopIteration") [] >>= _) _ _ _
  refine wpAny_bind ?_
  simp only [newExc, newTuple]
  refine wpAny_bind (wpAny_newObj_type ?_ (by size_fits))
  refine wpAny_bind (m := firstArgMember _ _) (wpAny_of_eq (a := Value.none) (by first | rfl | (simp only [firstArgMember]; rfl)) ?_)
  refine wpAny_newObj_type ?_ (by size_fits)
  simp only [raiseNew]
  refine wpAny_bind (wpAny_handled ?_)
  first | rw [show A.in1.handled = none from hh] | rw [hh]
  refine wpAny_bind (wpAny_pure (wpAny_throw ?_))
  exact hE _ _ (((Heap.SameBut.update ..).extBut.push _).push _) ⟨_, Heap.get?_push_size _ rfl, rfl⟩
theorem draws_tuple (hh : A.handled = none) (it l : Addr) (hne : l ≠ it) (items : Array Value) :
    Draws prog w A it [it, l] items.size (fun i v => items[i]? = some v) (fun i h => h.IsTupleIter it l i ∧ h.IsTuple l items) where
  live := fun _ _ st => let ⟨o, ho, _⟩ := st.1; ⟨o, ho⟩
  frame := fun _ _ _ st hk => ⟨st.1.at fun o e => hk it (by simp) o e, st.2.at fun o e => hk l (by simp) o e⟩
  item := fun i s Q E hi st hQ => by
    refine nextOf_tuple_item st.1 st.2 (x := items[i]) (by simp [hi]) fun h' hit' hs' => ?_
    exact hQ _ h' s.toks (by simp [hi]) ⟨hit', st.2.extBut hs'.extBut hne⟩ hs'
  done := fun s Q E st hE => nextOf_tuple_end hh st.1 st.2 (by simp) hE

theorem meets_enumerate_newT (l : Addr) (items : Array Value) (n : Nat) :
    Meets (Builtin.«enumerate.__new__» ⟨[.type "enumerate", .ref l], []⟩) (fun _ R s => s.heap.get? l = some { cls := .type "tuple", dict := none, data := .seq items n, slots := #[] } ∧
      R (.ok (.ret (.ref (s.heap.push { cls := .type "tuple_iterator", data := .fields #[.ref l, .int 0 0] }).objs.size)))
        { s with heap := (s.heap.push { cls := .type "tuple_iterator", data := .fields #[.ref l, .int 0 0] }).push { cls := .type "enumerate", data := .fields #[.none, .bool false, .ref s.heap.objs.size, rawInt 0, .none, .none] } }) :=
  .of_wp fun prog w A R s h => by
    obtain ⟨hp, g, d, tk, os⟩ := s; obtain ⟨hl, h⟩ := h
    have hsub := sub_enumerate
    have hL : Heap.IsTuple (Shared.heap ⟨hp, g, d, tk, os⟩) l items := ⟨_, hl, rfl, n, rfl⟩
    wp_walk using AutoSeq1.wpAny_loadPart' hl
    refine wpAny_stack_any fun st => wpAny_pure ?_
    split
    · rename_i c _ _ _ _ _
      cases (c == Value.type "enumerate")
      · wp_walk using AutoSeq1.wpAny_loadPart' hl, wpAny_pyIter_tuple hL
        exact ⟨_, rfl, h⟩
      · wp_walk using AutoSeq1.wpAny_loadPart' hl, wpAny_pyIter_tuple hL
        exact ⟨_, rfl, h⟩
    · wp_walk using AutoSeq1.wpAny_loadPart' hl, wpAny_pyIter_tuple hL
      exact ⟨_, rfl, h⟩
theorem call_enumerate_tuple {l : Addr} {items : Array Value} {n : Nat} {Q : Value → Shared → Prop} (hl : s.heap.get? l = some { cls := .type "tuple", dict := none, data := .seq items n, slots := #[] })
    (h : ∀ h', IsEnum h' (s.heap.objs.size + 1) s.heap.objs.size 0 .none → h'.IsTupleIter s.heap.objs.size l 0 → (∀ b o, s.heap.get? b = some o → h'.get? b = some o) → Q (.ref (s.heap.objs.size + 1)) { s with heap := h' }) :
    wpAny (model prog w) A (call (.type "enumerate") [.ref l]) Q E s := by
  refine callType_new F.called_enumerate (by decide) (F.typeCall_enumerate_1 _) (F.newCall_enumerate_1 _) (fun obj => F.args_object_init_2 obj _) F.entry_enumerate_new
    (meets_enumerate_newT l items n) ⟨hl, ?_⟩
  have hz : (s.heap.push { cls := .type "tuple_iterator", data := .fields #[.ref l, .int 0 0] }).objs.size = s.heap.objs.size + 1 := Heap.size_push ..
  show _ ∧ _
  rw [hz]
  have he : IsEnum ((s.heap.push { cls := .type "tuple_iterator", data := .fields #[.ref l, .int 0 0] }).push
      { cls := .type "enumerate", data := .fields #[.none, .bool false, .ref s.heap.objs.size, rawInt 0, .none, .none] }) (s.heap.objs.size + 1) s.heap.objs.size 0 .none := by
    have := Heap.get?_push_size (s.heap.push { cls := .type "tuple_iterator", data := .fields #[.ref l, .int 0 0] })
      (o := { cls := .type "enumerate", data := .fields #[.none, .bool false, .ref s.heap.objs.size, rawInt 0, .none, .none] }) rfl
    rw [hz] at this; exact this
  refine ⟨⟨_, he, rfl⟩, h _ he ⟨_, Heap.get?_push_of_some _ (Heap.get?_push_size _ rfl), rfl, rfl⟩ fun b o x => Heap.get?_push_of_some _ (Heap.get?_push_of_some _ x)⟩
end

section
variable {c : Cx}
theorem not_still_enum {e : Addr} {d : Data} {h : Heap} (g : h.get? e = some { cls := .type "enumerate", dict := none, data := d, slots := #[] }) : ∃ o, h.get? e = some o ∧ ¬ Still o := ⟨_, g, fun st => by
  have h1 : (Value.type "enumerate" = Value.type "tuple") → False := by decide
  have h2 : (Value.type "enumerate" = Value.type "range") → False := by decide
  exact st.1.elim h1 h2⟩
theorem not_still_ti {h : Heap} {a l : Addr} {k : Nat} (x : h.IsTupleIter a l k) : ∃ o, h.get? a = some o ∧ ¬ Still o := by
  obtain ⟨o, ho, hc, hd⟩ := x
  exact ⟨o, ho, fun st => by rcases st.1 with q | q <;> (rw [hc] at q; revert q; decide)⟩
theorem turns_enum (C : CxOk c) {elts : List Expr} {x1 : Nat} {p : Pos} {e it : Addr} {all : List AV} (hei : e ≠ it) :
    Turns c (.Tuple elts x1 p) (.ref e) (fun b => b = e ∨ b = it) (.tup all) all (kindItems 1 all) (fun ρ h k => ∃ l vs m old, l ≠ e ∧ l ≠ it ∧ h.get? l = some (tupOb vs m) ∧ Vals ρ h vs all ∧ IsEnum h e it (k : Int) old ∧ h.IsTupleIter it l k) where
  item := fun {ρ mem s k a E1 E2 Q} W hs st ha hQ => by
    obtain ⟨l, vs, m, old, hle, hli, g, rs, he, hit⟩ := st
    have hlen := rs.length
    have ha' : ∃ x, all[k]? = some x ∧ a = .tup [.int k, x] := by
      simp only [kindItems, List.getElem?_mapIdx, Option.map_eq_some_iff] at ha
      obtain ⟨x, h1, h2⟩ := ha
      exact ⟨x, h1, h2.symm⟩
    obtain ⟨x, hx, rfl⟩ := ha'
    obtain ⟨v, hv, xv⟩ := rs.get hx
    have hk : k < vs.toArray.size := by
      rw [List.size_toArray]; exact (List.getElem?_eq_some_iff.mp hv).1
    have L0 : Lives (fun b => b = e ∨ b = it) s.heap := fun b q => by
      rcases q with rfl | rfl
      · exact not_still_enum he
      · exact not_still_ti hit
    have D := draws_tuple (prog := c.prog) (w := c.w) (A := c.A.in1) C.hh it l hli vs.toArray
    refine wpAny_pyNext_enum_itemD D he ⟨hit, ⟨_, g, rfl, _, rfl⟩⟩ hk hei (by simp [hei, Ne.symm hle]) fun y h' tk hP ho hst hT hsz hkk => ?_
    have helt : e < s.heap.objs.size := Heap.lt_size he
    have hilt : it < s.heap.objs.size := let ⟨_, q, _⟩ := hit; Heap.lt_size q
    refine wpAny_letOwnedTupleGo_enum ho fun h'' he2 hs2 => ?_
    have hyv : y = v := by
      have hP' : vs.toArray[k]? = some y := hP
      rw [List.getElem?_toArray, hv] at hP'; exact (Option.some.inj hP').symm
    subst hyv
    obtain ⟨hit2, _⟩ := hst
    have hit3 : h''.IsTupleIter it l (k + 1) := hit2.at fun o e0 => (hs2.2 it (Ne.symm hei)).trans e0
    have K' : Kept (fun b => b = e ∨ b = it) s.heap h'' := fun b o hb e0 => (hs2.2 b (fun q => hb (.inl q))).trans (hkk b o (fun q => hb (.inl q)) (fun q => hb (.inr q)) e0)
    have L'' : Lives (fun b => b = e ∨ b = it) h'' := fun b q => by
      rcases q with rfl | rfl
      · exact not_still_enum he2
      · exact not_still_ti hit3
    have kt := K'.kt (ρ := ρ) L0
    have gT : h''.get? s.heap.objs.size = some (tupOb [.int k tk, y] 0) := (hs2.2 _ (Nat.ne_of_gt helt)).trans hT
    refine hQ _ h'' _ K' L'' (.tup gT (.cons (.int _ _) (.cons (xv.keepT kt) .nil))) ⟨l, vs, m, y, hle, hli, K' _ _ (fun q => by rcases q with q | q; exact hle q; exact hli q) g, rs.keepT kt, ?_, hit3⟩
    have e2 : ((k + 1 : Nat) : Int) = (k : Int) + 1 := by push_cast; rfl
    rw [e2]
    exact he2
  done := fun {ρ mem s E1 Q} W hs st hQ => by
    obtain ⟨l, vs, m, old, hle, hli, g, rs, he, hit⟩ := st
    have hlen := rs.length
    have hkl : (kindItems 1 all).length = vs.toArray.size := by simp [kindItems, hlen]
    rw [hkl] at he hit
    have WT := WalksT.enumerateD (draws_tuple (prog := c.prog) (w := c.w) (A := c.A.in1) C.hh it l hli vs.toArray) e hei (by simp [hei, Ne.symm hle]) (by simp)
    exact WT.done s _ _ ⟨⟨old, he⟩, hit, ⟨_, g, rfl, _, rfl⟩⟩ fun h' tk hk => ⟨rfl, hQ h' tk fun b o hb e0 => hk b o (fun q => hb (by simpa using q)) e0⟩
  lives := fun {ρ h k} st b q => by
    obtain ⟨l, vs, m, old, hle, hli, g, rs, he, hit⟩ := st
    rcases q with rfl | rfl
    · exact not_still_enum he
    · exact not_still_ti hit
  move := fun {ρ ρ' h h' k} st kt hk => by
    obtain ⟨l, vs, m, old, hle, hli, g, rs, he, hit⟩ := st
    exact ⟨l, vs, m, old, hle, hli, kt.2 _ _ (still_tup _ _) g, rs.keepT kt, hk e _ (.inl rfl) he, hit.at fun o e0 => hk it o (.inr rfl) e0⟩
end
end Mine
end

section
open PySem PySem.Spec PySem.Calls PyProof.Rows PySem.W
set_option linter.unusedVariables false
set_option autoImplicit false
namespace Mine

noncomputable def FlOk (ρ : List Addr) (h : Heap) : Fl → Flow → Prop
  | .next, .next => True
  | .brk, .brk => True
  | .ret a, .ret v => Val ρ h v a
  | _, _ => False
noncomputable def OkS (h₀ : Heap) (ns : Names) (env : Env) (ρ : List Addr) (s : Shared) (fl : Fl) (vars' : Vars) (mem' : Mem) (Q : Flow → Shared → Prop) : Prop :=
  ∀ ρ' h' tk' f, Wd h₀ ρ' mem' h' → StepO (Own ns env) ρ ρ' s.heap h' → Fr h₀ ns env ρ' vars' h' → FlOk ρ' h' fl f → Q f { s with heap := h', toks := tk' }
theorem OkS.next {h₀ : Heap} {ns : Names} {env : Env} {ρ ρ' : List Addr} {s : Shared} {h' : Heap} {tk' : Nat} {fl : Fl} {vars' : Vars} {mem' : Mem} {Q : Flow → Shared → Prop} (k : OkS h₀ ns env ρ s fl vars' mem' Q) (S : StepO (Own ns env) ρ ρ' s.heap h') :
    OkS h₀ ns env ρ' { s with heap := h', toks := tk' } fl vars' mem' Q := fun ρ₂ h₂ tk₂ f W₂ S₂ F₂ ok => k ρ₂ h₂ tk₂ f W₂ (S.trans S₂) F₂ ok
noncomputable def SndS (c : Cx) (st : Stmt) : Prop := ∀ (ns : Names) (ls : LS), compS ns st = some ls → ∀ (vars : Vars) (mem : Mem) (fl : Fl) (vars' : Vars) (mem' : Mem), ex c.M c.Φ ls vars mem = some (fl, vars', mem') →
  ∀ (ρ : List Addr) (env : Env) (s : Shared) (E : Value → Shared → Prop) (Q : Flow → Shared → Prop), Wd c.h₀ ρ mem s.heap → Fr c.h₀ ns env ρ vars s.heap → OkS c.h₀ ns env ρ s fl vars' mem' Q →
  wpAny (model c.prog c.w) c.A (exec st env) Q E s
noncomputable def SndL (c : Cx) (ss : List Stmt) : Prop := ∀ (ns : Names) (ls : List LS), compSs ns ss = some ls → ∀ (vars : Vars) (mem : Mem) (fl : Fl) (vars' : Vars) (mem' : Mem), exs c.M c.Φ ls vars mem = some (fl, vars', mem') →
  ∀ (ρ : List Addr) (env : Env) (s : Shared) (E : Value → Shared → Prop) (Q : Flow → Shared → Prop), Wd c.h₀ ρ mem s.heap → Fr c.h₀ ns env ρ vars s.heap → OkS c.h₀ ns env ρ s fl vars' mem' Q →
  wpAny (model c.prog c.w) c.A (execs ss env) Q E s

section
variable {c : Cx}

theorem assign_any (C : CxOk c) {ns : Names} {env : Env} {t : Expr} {la : LA} (hc : compA ns t = some la) {v : Value} {a : AV} {ρ : List Addr} {mem mem' : Mem} {vars vars' : Vars} {s : Shared} {E : Value → Shared → Prop} {Q : Unit → Shared → Prop}
    (e : assignA c.M c.Φ la a vars mem = some (vars', mem')) (W : Wd c.h₀ ρ mem s.heap) (F : Fr c.h₀ ns env ρ vars s.heap) (y : Val ρ s.heap v a) (k : OkA c.h₀ ns env ρ s vars' mem' Q) : wpAny (model c.prog c.w) c.A (assign t env v) Q E s := by
  cases t with
  | Name x p =>
    obtain ⟨i, hi, rfl⟩ := Option.map_eq_some_iff.mp hc
    cases e
    exact assign_name C hi W F y k
  | Tuple es q p =>
    obtain ⟨is, hi, hc⟩ := bI hc
    split at hc
    · cases hc
      cases a with
      | tup xs =>
        obtain ⟨v1, e1, e⟩ := bI e
        cases e
        exact assign_tuple C hi rfl e1 W F y k
      | _ => exact noS e
    · cases hc
  | Attribute o n p =>
    refine gI fun Gz gz => ?_
    obtain ⟨o', h1, hc⟩ := bI hc
    obtain ⟨m, h2, hc⟩ := bI hc
    cases hc
    have hm := Nm.of_is h2
    subst hm
    obtain ⟨⟨b, m1⟩, e1, e⟩ := bI e
    obtain ⟨m2, e2, e⟩ := bI e
    cases e
    refine gz ?_
    rw [assign_Attribute]
    refine wpAny_bind (wpAny_holding (sndE C o ns o' h1 _ mem b m1 e1 ρ env s E _ W F fun ov ρ1 h1 tk1 W1 S1 V1 => ?_))
    refine wpAny_bind (wpAny_standAt (wpAny_bind (wpAny_holding ?_)))
    refine setAttr_sound (s := { s with heap := h1, toks := tk1 }) C.base.sta (C.base.inH (s := { s with heap := h1, toks := tk1 }) W1) e2 W1 V1 (y.step W S1) fun ρ2 h2 tk2 W2 S2 => ?_
    exact wpAny_release (k ρ2 h2 tk2 W2 (StepO.of W (S1.trans S2)) (F.step W (S1.trans S2)))
  | Subscript o i p =>
    have hc : (do some (LA.item (← compE ns o) (← compE ns i))) = some la := by
      rw [← hc]; cases i <;> first | rfl | exact noS hc
    refine gI fun Gz gz => ?_
    obtain ⟨o', h1, hc⟩ := bI hc
    obtain ⟨i', h2, hc⟩ := bI hc
    cases hc
    obtain ⟨⟨b, m1⟩, e1, e⟩ := bI e
    obtain ⟨⟨d, m2⟩, e2, e⟩ := bI e
    obtain ⟨m3, e3, e⟩ := bI e
    cases e
    refine gz ?_
    rw [arm_assign_Subscript]
    refine wpAny_bind (wpAny_holding (sndE C o ns o' h1 _ mem b m1 e1 ρ env s E _ W F fun ov ρ1 h1 tk1 W1 S1 V1 => ?_))
    refine wpAny_bind (wpAny_holding (sndE C i ns i' h2 _ m1 d m2 e2 ρ1 env _ E _ W1 (F.step W S1) fun iv ρ2 h2 tk2 W2 S2 V2 => ?_))
    refine wpAny_bind (wpAny_standAt (wpAny_bind (wpAny_holding ?_)))
    refine setItem_sound (s := { s with heap := h2, toks := tk2 }) e3 W2 (V1.step W1 S2) V2 ((y.step W S1).step W1 S2) fun ρ3 h3 tk3 W3 S3 => ?_
    exact wpAny_release (k ρ3 h3 tk3 W3 (StepO.of W ((S1.trans S2).trans S3)) (F.step W ((S1.trans S2).trans S3)))
  | _ => exact noS hc

theorem names_sound (C : CxOk c) {ns : Names} {env : Env} : ∀ {xs : List Str} {is : List Nat} (_ : xs.map (slotW ns) = is.map some) {vs : List Value} {as : List AV} {ρ : List Addr} {mem : Mem} {vars vars' : Vars} {s : Shared} {E : Value → Shared → Prop} {Q : Unit → Shared → Prop}
    (_ : setVars vars is as = some vars') (_ : Wd c.h₀ ρ mem s.heap) (_ : Fr c.h₀ ns env ρ vars s.heap) (_ : Vals ρ s.heap vs as) (_ : OkA c.h₀ ns env ρ s vars' mem Q),
    wpAny (model c.prog c.w) c.A (assignInOrder (xs.map fun n => bindName env n) vs) Q E s := by
  intro xs
  induction xs with
  | nil =>
    intro is hs vs as ρ mem vars vars' s E Q e W F V k
    cases is with
    | cons => simp at hs
    | nil =>
      cases as with
      | nil =>
        cases e
        obtain rfl := V.nil_inv
        exact wpAny_pure (k ρ _ s.toks W (StepO.refl _ _ _) F)
      | cons => exact noS e
  | cons x xs ih =>
    intro is hs vs as ρ mem vars vars' s E Q e W F V k
    cases is with
    | nil => simp at hs
    | cons i is =>
      rw [List.map_cons, List.map_cons] at hs
      obtain ⟨h1, h2⟩ := List.cons.inj hs
      cases as with
      | nil => exact noS e
      | cons a as =>
        have e := sv_cons.symm.trans e
        obtain ⟨_, _, rfl, V1, V2⟩ := V.cons_inv
        refine wpAny_assignInOrder_more (wpAny_bindName (store_sound W F h1 V1 fun h1' tk1 W1 S1 F1 => ?_))
        exact ih h2 e W1 F1 (V2.keepT S1.kt) (k.next S1)

theorem len2 {α : Type} {l : List α} (h : l.length = 2) : ∃ a b, l = [a, b] := match l, h with | [a, b], _ => ⟨a, b, rfl⟩
theorem len3 {α : Type} {l : List α} (h : l.length = 3) : ∃ a b d, l = [a, b, d] := match l, h with | [a, b, d], _ => ⟨a, b, d, rfl⟩
theorem set_rev {is : List Nat} (hn : is.Nodup) (hl : is.length = 2 ∨ is.length = 3) {as : List AV} {vars vars' : Vars} (e : setVars vars is as = some vars') : setVars vars is.reverse as.reverse = some vars' := by
  have hla := setVars_len e
  rcases hl with hl | hl
  · obtain ⟨i, j, rfl⟩ := len2 hl
    obtain ⟨a, b, rfl⟩ := len2 (hla.symm.trans hl)
    · skip
      simp only [sv_cons, sv_nil] at e ⊢
      simp only [List.nodup_cons, List.mem_singleton] at hn
      simp only [List.reverse_cons, List.reverse_nil, List.nil_append, List.cons_append, sv_cons, sv_nil]
      rw [List.set_comm _ _ (Ne.symm hn.1)]; exact e
  · obtain ⟨i, j, l, rfl⟩ := len3 hl
    obtain ⟨a, b, d, rfl⟩ := len3 (hla.symm.trans hl)
    · skip
      simp only [sv_cons, sv_nil] at e ⊢
      simp only [List.nodup_cons, List.mem_cons, List.mem_singleton, not_or, List.not_mem_nil, or_false] at hn
      obtain ⟨⟨h1, h2⟩, h3, _⟩ := hn
      simp only [List.reverse_cons, List.reverse_nil, List.nil_append, List.cons_append, sv_cons, sv_nil]
      rw [List.set_comm (i := l) (j := j) _ _ (Ne.symm h3), List.set_comm (i := l) (j := i) _ _ (Ne.symm h2), List.set_comm (i := j) (j := i) _ _ (Ne.symm h1)]
      exact e

noncomputable def idOf : Expr → Str
  | .Name x _ => x
  | _ => ""
theorem filterMap_full {α β : Type} {f : α → Option β} {g : α → β} : ∀ {l : List α}, (∀ x ∈ l, f x = none ∨ f x = some (g x)) → (l.filterMap f).length = l.length → l.filterMap f = l.map g
  | [], _, _ => rfl
  | x :: l, h, hl => by
    rcases h x (.head _) with q | q
    · rw [List.filterMap_cons_none q] at hl
      have := List.length_filterMap_le f l
      rw [List.length_cons] at hl
      omega
    · rw [List.filterMap_cons_some q] at hl ⊢
      rw [List.map_cons, filterMap_full (fun y hy => h y (.tail _ hy)) (by simpa using hl)]
theorem slots_ids {ns : Names} : ∀ {es : List Expr} {is : List Nat}, slotsOf ns es = some is → (es.map idOf).map (slotW ns) = is.map some ∧ ∀ x ∈ es, ∃ n p, x = .Name n p := by
  intro es
  induction es with
  | nil =>
    intro is h
    cases h; exact ⟨rfl, fun x hx => (nomatch hx)⟩
  | cons x es ih =>
    intro is h
    cases x with
    | Name n p =>
      obtain ⟨i, h1, h⟩ := bI h
      obtain ⟨is', h2, h⟩ := bI h
      cases h
      obtain ⟨q1, q2⟩ := ih h2
      refine ⟨by rw [List.map_cons, List.map_cons, List.map_cons, q1]; exact congrArg (· :: _) h1, fun y hy => ?_⟩
      rcases List.mem_cons.mp hy with rfl | hy
      · exact ⟨n, p, rfl⟩
      · exact q2 y hy
    | _ => exact noS h
noncomputable def SwA (t value : Expr) (env : Env) : Prop := swappedStores [t] value env = pure none ∨ ∃ ts x1 p vs x2 p2, t = .Tuple ts x1 p ∧ value = .Tuple vs x2 p2 ∧ (ts.length = 2 ∨ ts.length = 3) ∧ swappedStores [t] value env = pure (some (ts.map idOf))
theorem SwA.l {t value : Expr} {env : Env} (h : swappedStores [t] value env = pure none) : SwA t value env := Or.inl h
theorem swapped_is {t value : Expr} {ns : Names} {la : LA} {env : Env} (hc : compA ns t = some la) (hok : assignOk t value = true) :
    SwA t value env := by
  cases t with
  | Tuple ts x1 p =>
    cases value with
    | Tuple vs x2 p2 =>
      obtain ⟨is, hi, _⟩ := bI hc
      obtain ⟨_, hnames⟩ := slots_ids hi
      have hok : (vs.all (constantsAlone 8)) = false := (Bool.not_eq_true' _).mp hok
      unfold SwA swappedStores
      dsimp only
      split
      · exact .inl rfl
      · rename_i h1
        split
        · exact .inl rfl
        · split
          · exact .inl rfl
          · rename_i h3
            split
            · exact .inl rfl
            · rw [if_neg (by rw [hok]; exact Bool.false_ne_true)]
              refine .inr ⟨ts, x1, p, vs, x2, p2, rfl, rfl, ?_, ?_⟩
              · have : (ts.length == 2 || ts.length == 3) = true := by
                  cases hq : (ts.length == 2 || ts.length == 3) with
                  | true => rfl
                  | false => exact absurd (by rw [hq]; rfl) h1
                simpa only [Bool.or_eq_true, beq_iff_eq] using this
              · simp only [Bool.or_eq_true, not_or, bne_iff_ne, ne_eq, Decidable.not_not] at h3
                refine congrArg (fun z => pure (some z)) (filterMap_full (fun x hx => ?_) h3.1)
                obtain ⟨n, q, rfl⟩ := hnames x hx
                dsimp only
                split
                · exact .inr rfl
                · exact .inl rfl
    | _ => exact .l rfl
  | List => cases hc
  | _ => exact .l rfl
end
end Mine
end

section
open PySem PySem.Spec PySem.Calls PyProof.Rows PySem.W
set_option linter.unusedVariables false
set_option autoImplicit false
namespace Mine

section
variable {c : Cx}

noncomputable def SwW (value t : Expr) (line : Nat) (env : Env) : Prop := swapsWith value (some t) line env = pure false ∨ (∃ b, swapsWith value (some t) line env = pure b) ∧ (∃ elt gens scope pos x p, value = .ListComp elt gens scope pos ∧ t = .Name x p)
theorem SwW.l {value t : Expr} {line : Nat} {env : Env} (h : swapsWith value (some t) line env = pure false) : SwW value t line env := Or.inl h
theorem swaps_is {ns : Names} {value t : Expr} {le : LE} (hv : compE ns value = some le) (line : Nat) (env : Env) :
    SwW value t line env := by
  cases value with
  | ListComp elt gens scope pos =>
    cases t with
    | Name x p => exact Or.inr ⟨⟨_, rfl⟩, elt, gens, scope, pos, x, p, rfl, rfl⟩
    | _ => exact .l rfl
  | SetComp => cases hv
  | DictComp => cases hv
  | _ => exact .l rfl
theorem noSwap_is {value : Expr} {ns : Names} {le : LE} (hv : compE ns value = some le) (h : notComp value = true) (line : Nat) (env : Env) : swapsWith value none line env = pure false := by
  cases value <;> first | rfl | (cases h; done) | exact noS hv

theorem target_plain {ns : Names} {t : Expr} {la : LA} (h : compA ns t = some la) (env : Env) : (assignEach [t] env).map (·.2) = [assign t env] := by
  cases t <;> first | rfl | exact noS h

theorem sndS_assign (C : CxOk c) {t value : Expr} {pos : Pos} : SndS c (.Assign [t] value pos) := by
  intro ns ls hc vars mem fl vars' mem' e ρ env s E Q W F k
  simp only [cS_assign] at hc
  split at hc
  · rename_i hok
    refine gI fun Gz gz => ?_
    obtain ⟨la, h1, hc⟩ := bI hc
    obtain ⟨le, h2, hc⟩ := bI hc
    cases hc
    obtain ⟨⟨a, m1⟩, e1, e⟩ := bI e
    obtain ⟨⟨v1, m2⟩, e2, e⟩ := bI e
    cases e
    refine gz ?_
    rw [arm_exec_Assign]
    refine wpAny_bind (wpAny_standAt ?_)
    have hpl := target_plain h1 env
    have hsole : swapsWithSole [t] value pos.line env = swapsWith value (some t) pos.line env := rfl
    rw [hsole]
    have plain : wpAny (model c.prog c.w) c.A (do
        let v ← eval value env
        assignStores env v (← swappedStores [t] value env) ((assignEach [t] env).map (·.2))) Q E s := by
      refine wpAny_bind (sndE C value ns le h2 vars mem a m1 e1 ρ env s E _ W F fun v ρ1 hp1 tk1 W1 S1 V1 => ?_)
      have F1 := F.step W S1
      rcases swapped_is (env := env) h1 hok with q | ⟨ts, x1, p, vs, x2, p2, ht, hval, hlen, q⟩
      · rw [q, hpl]
        refine wpAny_bind (wpAny_pure (wpAny_bind ?_))
        show wpAny _ _ (assign t env v) _ E _
        exact assign_any C h1 e2 W1 F1 V1 fun ρ2 hp2 tk2 W2 S2 F2 => wpAny_pure (k ρ2 hp2 tk2 .next W2 ((StepO.of W S1).trans S2) F2 trivial)
      · rw [q]
        subst ht
        obtain ⟨is, hi, h1⟩ := bI h1
        split at h1
        · rename_i hnd
          have hnd := of_decide_eq_true hnd
          cases h1
          cases a with
          | tup xs =>
            obtain ⟨v2, e3, e2⟩ := bI e2
            cases e2
            obtain ⟨ad, ws, n, rfl, g, r⟩ := V1.tup_inv
            have l1 := r.length
            have l2 := setVars_len e3
            obtain ⟨ids, hnames⟩ := slots_ids hi
            have l3 : ts.length = is.length := by
              have := congrArg List.length ids
              simpa using this
            refine wpAny_bind (wpAny_pure ?_)
            show wpAny _ _ (do
              rule "assign.swapped-stores"
              let items ← unpackItems (.ref ad) (ts.map idOf).length none
              assignInOrder ((ts.map idOf).reverse.map fun n => bindName env n) items.reverse
              pure Flow.next) Q E _
            refine wpAny_bind (wpAny_rule (wpAny_bind ?_))
            have hsz : (ts.map idOf).length = ws.toArray.size := by rw [List.length_map, List.size_toArray]; omega
            rw [hsz]
            refine wpAny_unpackItems_tuple C.hh ⟨_, g, rfl, n, rfl⟩ fun h' he => ?_
            have hk : ∀ b o, hp1.get? b = some o → h'.get? b = some o := fun b o e => he b o (Nat.ne_of_lt (Heap.lt_size e)) e
            have S12 := Step.of_keeps (ρ := ρ1) hk
            have W2 := W1.keeps hk
            refine wpAny_bind (names_sound C (xs := (ts.map idOf).reverse) (is := is.reverse) (by rw [List.map_reverse, List.map_reverse, ids]) (set_rev hnd (by omega) e3) W2 (F1.step W1 S12) (r.step W1 S12).reverse fun ρ2 hp2 tk2 W3 S2 F2 => ?_)
            exact wpAny_pure (k ρ2 hp2 tk2 .next W3 (((StepO.of W S1).trans (StepO.of W1 S12)).trans S2) F2 trivial)
          | _ => exact noS e2
        · cases h1
    rcases swaps_is (t := t) h2 pos.line env with q | ⟨⟨b, q⟩, elt, gens, scope, cpos, x, p, hval, ht⟩
    · rw [q]
      exact wpAny_bind (wpAny_pure plain)
    · rw [q]
      cases b with
      | false => exact wpAny_bind (wpAny_pure plain)
      | true =>
        subst hval ht
        refine wpAny_bind (wpAny_pure ?_)
        rw [if_pos rfl, hpl]
        show wpAny _ _ (do
          let _ ← comprehension (.ListComp elt gens scope cpos) scope env (firstIterPos gens cpos) (newList []) (firstAsync gens) (firstIter gens env) (some fun v => assignAll v [assign (.Name x p) env]) >>= fun _ => pure ()
          pure Flow.next) Q E s
        refine wpAny_bind (wpAny_bind (sndC C _ elt gens scope cpos rfl ns le h2 vars mem a m1 e1 ρ env s E _ _ W F fun acc Cl ρ1 hp1 tk1 D => ?_))
        obtain ⟨m, hn⟩ := D.ns
        have F1 := F.step W D.st
        have clL : Cl ≠ env.locals := fun q => by
          obtain ⟨mm, nn, _⟩ := F.loc
          obtain ⟨o, _, _, g, _⟩ := nn
          rw [← q, D.new] at g; cases g
        have clC : ∀ y b, env.cells.lookup y = some b → b ≠ Cl := fun y b hy q => by
          obtain ⟨_, _, v₀, o, g, _⟩ := F.cout y b hy
          rw [q, D.new] at g; cases g
        show wpAny _ _ (assign (.Name x p) env acc) _ E _
        refine assign_any C h1 e2 D.wd F1 D.val fun ρ2 hp2 tk2 W2 S2 F2 => ?_
        have nOwn : ¬ Own ns env Cl := by
          rintro (q | ⟨y, _, q⟩)
          · exact clL q
          · exact clC y Cl q rfl
        have hn2 : hp2.Ns Cl m := by
          obtain ⟨o, es, ep, g, r⟩ := hn
          exact ⟨o, es, ep, S2.keep Cl o D.out nOwn g, r⟩
        refine ⟨m, hn2, fun h3 hs3 => ?_⟩
        have pl := Heap.Ns.place hn2
        have kk : Kept (· = Cl) hp2 h3 := fun b o hb e => (hs3.2 b hb).trans e
        have L : Lives (· = Cl) hp2 := fun b q => by subst q; exact pl
        have out2 : Cl ∉ ρ2 := fun hm => by
          obtain ⟨o, _, _, g, _⟩ := hn
          rw [S2.new Cl hm D.out] at g; cases g
        refine wpAny_pure (wpAny_pure (k ρ2 h3 tk2 .next (W2.but hs3 out2 D.base pl) ?_ (F2.off kk L ⟨fun q => clL q.symm, clC⟩) trivial))
        exact ((StepO.of W D.st).trans S2).last (IS := (· = Cl)) (fun b q => .inl q) (fun b q => by subst q; exact D.new) kk
  · cases hc

theorem sndS_expr (C : CxOk c) {e : Expr} {pos : Pos} : SndS c (.Expr e pos) := by
  intro ns ls hc vars mem fl vars' mem' ee ρ env s E Q W F k
  simp only [cS_expr] at hc
  split at hc
  · rename_i hok
    obtain ⟨le, h2, hc⟩ := bI hc
    cases hc
    obtain ⟨⟨a, m1⟩, e1, ee⟩ := bI ee
    refine wpAny_Expr (sndE C e ns le h2 vars mem a m1 e1 ρ env s E _ W F fun v ρ1 hp1 tk1 W1 S1 V1 => ?_) (by unfold interactive; rw [F.kind]; rfl) (noSwap_is h2 hok _ _)
    cases a <;> (try exact noS ee) <;> cases ee <;> cases V1 <;> exact k ρ1 hp1 tk1 .next W1 (StepO.of W S1) (F.step W S1) trivial
  · cases hc
theorem sndS_ret (C : CxOk c) {e : Option Expr} {pos : Pos} : SndS c (.Return e pos) := by
  intro ns ls hc vars mem fl vars' mem' ee ρ env s E Q W F k
  cases e with
  | none =>
    cases hc
    cases ee
    exact wpAny_Return_none (k ρ _ s.toks _ W (StepO.refl _ _ _) F .none)
  | some e =>
    obtain ⟨le, h2, hc⟩ := bI hc
    cases hc
    obtain ⟨⟨a, m1⟩, e1, ee⟩ := bI ee
    cases ee
    exact wpAny_Return_some (sndE C e ns le h2 vars mem a _ e1 ρ env s E _ W F fun v ρ1 hp1 tk1 W1 S1 V1 => k ρ1 hp1 tk1 _ W1 (StepO.of W S1) (F.step W S1) V1)
theorem sndS_brk (C : CxOk c) {pos : Pos} : SndS c (.Break pos) := by
  intro ns ls hc vars mem fl vars' mem' ee ρ env s E Q W F k
  cases hc
  cases ee
  show wpAny _ _ (do standAt pos; pure Flow.brk) Q E s
  exact wpAny_bind (wpAny_standAt (wpAny_pure (k ρ _ s.toks _ W (StepO.refl _ _ _) F trivial)))
theorem sndS_if (C : CxOk c) {t : Expr} {a b : List Stmt} {pos : Pos} (ha : SndL c a) (hb : SndL c b) : SndS c (.If t a b pos) := by
  intro ns ls hc vars mem fl vars' mem' ee ρ env s E Q W F k
  refine gI fun Gz gz => ?_
  obtain ⟨t', h1, hc⟩ := bI hc
  obtain ⟨a', h2, hc⟩ := bI hc
  obtain ⟨b', h3, hc⟩ := bI hc
  cases hc
  obtain ⟨⟨x, m1⟩, e1, ee⟩ := bI ee
  refine gz ?_
  cases x with
  | bool x => cases x with
   | true => exact wpAny_If (sndT C t ns t' h1 vars mem _ m1 e1 ρ env s E _ W F fun ρ1 hp1 tk1 W1 S1 => ha ns a' h2 vars m1 fl vars' mem' ee ρ1 env _ E Q W1 (F.step W S1) (k.next (StepO.of W S1)))
   | false => exact wpAny_If (sndT C t ns t' h1 vars mem _ m1 e1 ρ env s E _ W F fun ρ1 hp1 tk1 W1 S1 => hb ns b' h3 vars m1 fl vars' mem' ee ρ1 env _ E Q W1 (F.step W S1) (k.next (StepO.of W S1)))
  | _ => exact noS ee
theorem sndL_nil (C : CxOk c) : SndL c [] := by
  intro ns ls hc vars mem fl vars' mem' ee ρ env s E Q W F k
  cases hc
  cases ee
  exact wpAny_execs_nil (k ρ _ s.toks .next W (StepO.refl _ _ _) F trivial)
theorem sndL_cons (C : CxOk c) {st : Stmt} {ss : List Stmt} (h1 : SndS c st) (h2 : SndL c ss) : SndL c (st :: ss) := by
  intro ns ls hc vars mem fl vars' mem' ee ρ env s E Q W F k
  obtain ⟨l, q1, hc⟩ := bI hc
  obtain ⟨ls', q2, hc⟩ := bI hc
  cases hc
  obtain ⟨⟨f1, v1, m1⟩, e1, ee⟩ := bI ee
  refine wpAny_execs_cons (h1 ns l q1 vars mem f1 v1 m1 e1 ρ env s E _ W F fun ρ1 hp1 tk1 f W1 S1 F1 ok => ?_)
  dsimp only at ee
  cases f1 with
  | next =>
    cases f with
    | next => exact h2 ns ls' q2 v1 m1 fl vars' mem' ee ρ1 env _ E Q W1 F1 (k.next S1)
    | _ => exact ok.elim
  | brk =>
    cases ee
    cases f with
    | brk => exact k ρ1 hp1 tk1 .brk W1 S1 F1 trivial
    | _ => exact ok.elim
  | ret a =>
    cases ee
    cases f with
    | ret v => exact k ρ1 hp1 tk1 (.ret v) W1 S1 F1 ok
    | _ => exact ok.elim

theorem sndS_while (C : CxOk c) {t : Expr} {body : List Stmt} {pos : Pos} (hb : SndL c body) : SndS c (.While t body [] pos) := by
  intro ns ls hc vars mem fl vars' mem' ee ρ env s E Q W F k
  obtain ⟨t', h1, hc⟩ := bI hc
  obtain ⟨b', h2, hc⟩ := bI hc
  cases hc
  refine wpAny_While (codeAny_whileLoop (fun n s' => ∃ vars1 mem1 ρ1 hp1 tk1, s' = { s with heap := hp1, toks := tk1 } ∧ whileLoop (fun vars mem => ev c.M c.Φ vars t' mem) (exs c.M c.Φ b') n vars1 mem1 = some (fl, vars', mem') ∧
    Wd c.h₀ ρ1 mem1 hp1 ∧ StepO (Own ns env) ρ ρ1 s.heap hp1 ∧ Fr c.h₀ ns env ρ1 vars1 hp1) (fun n s' hI => ?_) fuel ⟨vars, mem, ρ, s.heap, s.toks, rfl, ee, W, StepO.refl _ _ _, F⟩)
  obtain ⟨vars1, mem1, ρ1, hp1, tk1, rfl, e, W1, S1, F1⟩ := hI
  cases n with
  | zero => cases e
  | succ n =>
    obtain ⟨⟨a, m2⟩, e1, e⟩ := bI e
    cases a with
    | bool q => cases q with
     | false =>
      cases e
      refine sndT C t ns t' h1 _ mem1 false _ e1 ρ1 env _ _ _ W1 F1 fun ρ2 hp2 tk2 W2 S2 => ?_
      exact wpAny_execs_nil (k ρ2 hp2 tk2 .next W2 (S1.trans (StepO.of W1 S2)) (F1.step W1 S2) trivial)
     | true =>
      obtain ⟨⟨f3, v3, m3⟩, e3, e⟩ := bI e
      dsimp only at e
      refine sndT C t ns t' h1 vars1 mem1 true m2 e1 ρ1 env _ _ _ W1 F1 fun ρ2 hp2 tk2 W2 S2 => ?_
      rw [if_pos rfl]
      have F2 := F1.step W1 S2
      have S02 := S1.trans (StepO.of W1 S2)
      refine hb ns b' h2 vars1 m2 f3 v3 m3 e3 ρ2 env _ _ _ W2 F2 fun ρ3 hp3 tk3 f W3 S3 F3 ok => ?_
      have S03 := S02.trans S3
      cases f3 with
      | next =>
        cases f with
        | next => exact ⟨n, Nat.lt_succ_self _, v3, m3, ρ3, hp3, tk3, rfl, e, W3, S03, F3⟩
        | _ => exact ok.elim
      | brk =>
        cases e
        cases f with
        | brk => exact k ρ3 hp3 tk3 .next W3 S03 F3 trivial
        | _ => exact ok.elim
      | ret a =>
        cases e
        cases f with
        | ret v => exact k ρ3 hp3 tk3 (.ret v) W3 S03 F3 ok
        | _ => exact ok.elim
    | _ => exact noS e

noncomputable def ForI (c : Cx) (ns : Names) (env : Env) (b' : List LS) (src : AV) (all items : List AV) (t : LT) (IS : Addr → Prop) (St : List Addr → Heap → Nat → Prop) (ρ : List Addr) (s : Shared) (fl : Fl) (vars' : Vars) (mem' : Mem) (n : Nat) (s' : Shared) : Prop :=
  ∃ i vars1 mem1 ρ1 hp1 tk1, n = items.length - i ∧ i ≤ items.length ∧ s' = { s with heap := hp1, toks := tk1 } ∧ forLoop src all t (exs c.M c.Φ b') (items.drop i) vars1 mem1 = some (fl, vars', mem') ∧
    Wd c.h₀ ρ1 mem1 hp1 ∧ StepO (fun b => Own ns env b ∨ IS b) ρ ρ1 s.heap hp1 ∧ Fr c.h₀ ns env ρ1 vars1 hp1 ∧ St ρ1 hp1 i ∧ SrcIs src all mem1 ∧ Off c.h₀ ρ1 IS
theorem forLoop_sound (C : CxOk c) {target : Expr} {t : LT} {body : List Stmt} {b' : List LS} {ns : Names} {env : Env} {it : Value} {IS : Addr → Prop} {src : AV} {all items : List AV} {St : List Addr → Heap → Nat → Prop} (hb : SndL c body) (hT : compT ns target = some t) (h2 : compSs ns body = some b')
    (T : Turns c target it IS src all items St) {vars vars' : Vars} {mem mem' : Mem} {fl : Fl} (e : forLoop src all t (exs c.M c.Φ b') items vars mem = some (fl, vars', mem'))
    {ρ : List Addr} {s : Shared} {E : Value → Shared → Prop} {Q : Flow → Shared → Prop} (W : Wd c.h₀ ρ mem s.heap) (F : Fr c.h₀ ns env ρ vars s.heap) (st : St ρ s.heap 0) (hs : SrcIs src all mem) (O : Off c.h₀ ρ IS)
    (hIL : ¬ IS env.locals ∧ ∀ x b, env.cells.lookup x = some b → ¬ IS b)
    (k : ∀ ρ' h1 h' tk' f, Wd c.h₀ ρ' mem' h' → StepO (fun b => Own ns env b ∨ IS b) ρ ρ' s.heap h1 → Kept IS h1 h' → Fr c.h₀ ns env ρ' vars' h' → FlOk ρ' h' fl f → Q f { s with heap := h', toks := tk' }) :
    codeAny (model c.prog c.w) c.A (.forLoop target it body [] env) (fun r s' => match r with | .ok f => Q f s' | .error e => cameBackBy (model c.prog c.w) c.A env E e s') s := by
  refine codeAny_forLoop_any (ForI c ns env b' src all items t IS St ρ s fl vars' mem') (fun n s' hI => ?_) _ ⟨0, vars, mem, ρ, s.heap, s.toks, rfl, Nat.zero_le _, rfl, e, W, StepO.refl _ _ _, F, st, hs, O⟩
  obtain ⟨i, vars1, mem1, ρ1, hp1, tk1, hn, hi, rfl, e, W1, S1, F1, st1, hs1, O1⟩ := hI
  have L0 := T.lives st1
  by_cases hlt : i < items.length
  · have hx : items[i]? = some items[i] := List.getElem?_eq_getElem hlt
    rw [List.drop_eq_getElem_cons hlt] at e
    obtain ⟨v2, e1, e⟩ := bI e
    obtain ⟨⟨f3, v3, m3⟩, e3, e⟩ := bI e
    dsimp only at e
    refine wpAny_mono (T.item (s := { s with heap := hp1, toks := tk1 }) W1 hs1 st1 hx (E2 := notedBy (model c.prog c.w) c.A env fun e s' => cameBackBy (model c.prog c.w) c.A env E e s') (Q := fun v s₂ => wpAny (model c.prog c.w) c.A (assign target env v) (fun _ s₂ => wpAny (model c.prog c.w) c.A (execs body env) (fun f s₃ => match f with
            | .next => ∃ m, m < n ∧ ForI c ns env b' src all items t IS St ρ s fl vars' mem' m s₃
            | .cont => ∃ m, m < n ∧ ForI c ns env b' src all items t IS St ρ s fl vars' mem' m s₃
            | .brk => Q .next s₃
            | .ret v => Q (.ret v) s₃) (notedBy (model c.prog c.w) c.A env fun e s' => cameBackBy (model c.prog c.w) c.A env E e s') s₂) (notedBy (model c.prog c.w) c.A env fun e s' => cameBackBy (model c.prog c.w) c.A env E e s') s₂) fun v h2' tk2 kk L2 xv st2 => ?_) (fun r s' hr => ?_) fun _ _ e => e
    · have W2 := W1.off kk L0 O1
      have F2 := F1.off kk L0 hIL
      have S2 : StepO (fun b => Own ns env b ∨ IS b) ρ1 ρ1 hp1 h2' := (StepO.off kk L0 L2).wide fun b q => .inr q
      refine target_sound C hT e1 W2 F2 xv fun ρ3 hp3 tk3 W3 S3 F3 => ?_
      have nIS : ∀ b, IS b → ¬ Own ns env b := fun b q => by
        rintro (r | ⟨x, _, r⟩)
        · exact hIL.1 (r ▸ q)
        · exact hIL.2 x b r q
      have st3 : St ρ3 hp3 (i + 1) := T.move st2 S3.kt fun b o q e => S3.keep b o (O1.out b q) (nIS b q) e
      have O3 : Off c.h₀ ρ3 IS := O1.move S3 L2
      refine hb ns b' h2 v2 mem1 f3 v3 m3 e3 ρ3 env _ _ _ W3 F3 fun ρ4 hp4 tk4 f W4 S4 F4 ok => ?_
      have L3 := T.lives st3
      have S04 : StepO (fun b => Own ns env b ∨ IS b) ρ ρ4 s.heap hp4 := ((S1.trans S2).trans (S3.wide fun b q => .inl q)).trans (S4.wide fun b q => .inl q)
      have kr : Kept IS hp4 hp4 := fun _ _ _ e => e
      cases f3 with
      | next =>
        dsimp only at e
        split at e
        · rename_i hst
          cases f with
          | next => exact ⟨items.length - (i + 1), by omega, i + 1, v3, m3, ρ4, hp4, tk4, rfl, hlt, rfl, e, W4, S04, F4, T.move st3 S4.kt (fun b o q e => S4.keep b o (O3.out b q) (nIS b q) e), srcIs_still hst, O3.move S4 L3⟩
          | _ => exact ok.elim
        · cases e
      | brk =>
        cases e
        cases f with
        | brk => exact k ρ4 hp4 hp4 tk4 .next W4 S04 kr F4 trivial
        | _ => exact ok.elim
      | ret a =>
        cases e
        cases f with
        | ret v => exact k ρ4 hp4 hp4 tk4 (.ret v) W4 S04 kr F4 ok
        | _ => exact ok.elim
    · cases r with
      | none => exact hr.elim
      | some v => exact hr
  · have hi' : i = items.length := by omega
    subst hi'
    rw [List.drop_length] at e
    cases e
    refine wpAny_mono (T.done (s := { s with heap := hp1, toks := tk1 }) W1 hs1 st1 (Q := fun s' => Q .next s') fun h' tk' kk => ?_) (fun r s' hr => ?_) fun _ _ e => e
    · exact k ρ1 hp1 h' tk' .next (W1.off kk L0 O1) S1 kk (F1.off kk L0 hIL) trivial
    · obtain ⟨rfl, hr⟩ := hr
      exact wpAny_execs_nil hr
end
end Mine
end

section
open PySem PySem.Spec PySem.Calls PyProof.Rows PySem.W
set_option linter.unusedVariables false
set_option autoImplicit false
namespace Mine

section
variable {c : Cx}
theorem for_tail (C : CxOk c) {target : Expr} {t : LT} {body : List Stmt} {b' : List LS} {ns : Names} {env : Env} {it : Value} {IS : Addr → Prop} {src : AV} {all items : List AV} {St : List Addr → Heap → Nat → Prop} (hb : SndL c body) (hT : compT ns target = some t) (h2 : compSs ns body = some b')
    (T : Turns c target it IS src all items St) {vars vars' : Vars} {m1 mem mem' : Mem} {fl : Fl} (e : forLoop src all t (exs c.M c.Φ b') items vars m1 = some (fl, vars', mem'))
    {ρ ρ1 : List Addr} {s : Shared} {h1 h2' : Heap} {tk1 : Nat} {E : Value → Shared → Prop} {Q : Flow → Shared → Prop} (W : Wd c.h₀ ρ mem s.heap) (F : Fr c.h₀ ns env ρ vars s.heap) (W1 : Wd c.h₀ ρ1 m1 h1) (S1 : Step ρ ρ1 s.heap h1) (hk : ∀ b o, h1.get? b = some o → h2'.get? b = some o) (hIS : ∀ b, IS b → h1.get? b = none)
    (st : St ρ1 h2' 0) (hs : SrcIs src all m1) (k : OkS c.h₀ ns env ρ s fl vars' mem' Q) :
    codeAny (model c.prog c.w) c.A (.forLoop target it body [] env) (fun r s' => match r with | .ok f => Q f s' | .error e => cameBackBy (model c.prog c.w) c.A env E e s') { s with heap := h2', toks := tk1 } := by
  have F1 := F.step W S1
  have S12 := Step.of_keeps (ρ := ρ1) hk
  have W2 := W1.keeps hk
  have inρ : ∀ b, IS b → b ∉ ρ1 := fun b q => W1.out (hIS b q)
  have in0 : ∀ b, IS b → c.h₀.get? b = none := fun b q => W1.base_none (hIS b q)
  refine forLoop_sound C hb hT h2 T e (s := { s with heap := h2', toks := tk1 }) W2 (F1.step W1 S12) st hs ⟨inρ, in0⟩ ⟨fun q => ?_, fun x b hx q => ?_⟩ fun ρ' h5 h' tk' f W' S' kk F' ok => ?_
  · obtain ⟨mm, nn, _⟩ := F1.loc
    obtain ⟨o, _, _, g, _⟩ := nn
    rw [hIS _ q] at g; cases g
  · obtain ⟨_, _, v₀, o, g, _⟩ := F1.cout x b hx
    rw [hIS _ q] at g; cases g
  · refine k ρ' h' tk' f W' ?_ F' ok
    have S15 : StepO (fun b => Own ns env b ∨ IS b) ρ1 ρ' h1 h5 := (StepO.of W1 S12).trans S'
    exact (StepO.of W S1).trans (S15.last (O := Own ns env) (IS := IS) (fun b q => by
      rcases q with q | q
      · exact .inl q
      · exact .inr (hIS b q)) hIS kk)

noncomputable def ItK (ns : Names) (it : Expr) : Prop := ((iterKind ns it) = (0, it)) ∨ (∃ e p q, it = .Call (.Name "enumerate" p) [e] [] q ∧ isGlobal ns "enumerate" = true ∧ iterKind ns it = (1, e)) ∨ ∃ e p q, it = .Call (.Name "reversed" p) [e] [] q ∧ isGlobal ns "reversed" = true ∧ iterKind ns it = (2, e)
theorem ItK.l {ns : Names} {it : Expr} (h : iterKind ns it = (0, it)) : ItK ns it := Or.inl h
theorem iterKind_is (ns : Names) (it : Expr) : ItK ns it := by
  cases it with
  | Call f as ks q => cases f with
    | Name f p =>
      cases as with
      | nil => cases ks <;> exact .l rfl
      | cons e as => cases as with
       | cons => cases ks <;> exact .l rfl
       | nil => cases ks with
        | cons => exact .l rfl
        | nil =>
         by_cases h : (isGlobal ns f && f == ("enumerate" : Str)) = true
         · have e0 := (cK_call (p := p) (e := e) (q := q)).trans (if_pos h)
           obtain ⟨h1, h2⟩ := Bool.and_eq_true_iff.mp h
           cases beq_iff_eq.mp h2
           exact Or.inr (.inl ⟨e, p, q, rfl, h1, e0⟩)
         · have e1 := (cK_call (p := p) (e := e) (q := q)).trans (if_neg h)
           by_cases h : (isGlobal ns f && f == ("reversed" : Str)) = true
           · have e0 := e1.trans (if_pos h)
             obtain ⟨h1, h2⟩ := Bool.and_eq_true_iff.mp h
             cases beq_iff_eq.mp h2
             exact Or.inr (.inr ⟨e, p, q, rfl, h1, e0⟩)
           · exact .l (e1.trans (if_neg h))
    | _ => exact .l rfl
  | _ => exact .l rfl
theorem items_obj {m : Mem} {n : Nat} {xs : List AV} (e : itemsA m (.obj n) = some xs) : m[n]? = some (.list xs) := by
  change (match m[n]? with | some (.list xs) => some xs | _ => none) = some xs at e
  cases h : m[n]? with
  | none => rw [h] at e; cases e
  | some o => rw [h] at e; cases o <;> cases e; rfl

theorem sndS_for (C : CxOk c) {target it : Expr} {body : List Stmt} {pos : Pos} (hb : SndL c body) : SndS c (.For target it body [] pos) := by
  intro ns ls hc vars mem fl vars' mem' ee ρ env s E Q W F k
  simp only [cS_for] at hc
  split at hc
  · rename_i hok
    refine gI fun Gz gz => ?_
    obtain ⟨t', h1, hc⟩ := bI hc
    obtain ⟨e', h2, hc⟩ := bI hc
    obtain ⟨b', h3, hc⟩ := bI hc
    cases hc
    obtain ⟨⟨src, m1⟩, e1, ee⟩ := bI ee
    obtain ⟨all, e2, ee⟩ := bI ee
    refine gz ?_
    split at ee
    · rename_i hkind
      obtain ⟨mg, mb, G1, G2, G3, G4, G5, G6⟩ := C.base.g
      rcases iterKind_is ns it with q | ⟨e, p, q0, rfl, hg, q⟩ | ⟨e, p, q0, rfl, hg, q⟩
      · rw [q] at h2 ee
        refine wpAny_For (sndE C it ns e' h2 vars mem src m1 e1 ρ env s E _ W F fun xv ρ1 hp1 tk1 W1 S1 V1 => ?_) (folded_plain h2 env)
        refine iter_sound C (target := target) e2 W1 V1 fun I h2' St hIn hk2 T st0 hsrc hself => ?_
        exact for_tail (s := s) (h1 := hp1) C hb h1 h3 T ee W F W1 S1 hk2 (fun b q => by subst q; exact hIn) st0 hsrc k
      · rw [q] at h2 ee hkind hok
        have hsrc : ∃ xs, src = .tup xs := by
          cases src <;> first | exact ⟨_, rfl⟩ | (cases hkind; done)
        obtain ⟨xs, rfl⟩ := hsrc
        have hall : all = xs := by cases e2; rfl
        subst hall
        have htt : ∃ elts x1 tp, target = .Tuple elts x1 tp := by
          cases target <;> first | exact ⟨_, _, _, rfl⟩ | (cases hok; done)
        obtain ⟨elts, x1, tp, rfl⟩ := htt
        refine wpAny_For (Call_ (builtinName_sound (bv := .type "enumerate") W F hg (by decide) ⟨mg, mb, G1, G2, G5.1, G5.2⟩ ?_)) (fun _ => rfl)
        have hes : compEs ns [e] = some [e'] := by rw [cEs_cons, h2]; rfl
        have eev : evs c.M c.Φ vars [e'] mem = some ([.tup all], m1) := by rw [evs_cons, e1]; rfl
        refine callWith_of (P := fun _ => True) (by rw [plain_args q0 env [e] [e'] hes]; rfl) (call_looks (fun a h => nomatch h)) ?_
        refine args_sound C q0 (fun x hx => sndE C x) hes eev W F fun vs ρ1 hp1 tk1 W1 S1 V1 => ⟨trivial, ?_⟩
        obtain ⟨_, rfl, x0⟩ := V1.one_inv
        obtain ⟨ad, ws, n, rfl, g, r⟩ := x0.tup_inv
        refine call_enumerate_tuple (s := { s with heap := hp1, toks := tk1 }) g fun h2' he hit hk2 => ?_
        refine wpAny_pyIter_enum he ?_
        refine for_tail (s := s) (h1 := hp1) C hb h1 h3 (turns_enum C (e := hp1.objs.size + 1) (it := hp1.objs.size) (Nat.succ_ne_self _)) ee W F W1 S1 hk2 (fun b q => ?_) ⟨ad, ws, n, .none, ?_, ?_, hk2 _ _ g, r.step W1 (Step.of_keeps hk2), he, hit⟩ trivial k
        · rcases q with rfl | rfl
          · exact size_none
          · exact size_none (k := 0)
        · exact Nat.ne_of_lt (Nat.lt_succ_of_lt (Heap.lt_size g))
        · exact Nat.ne_of_lt (Heap.lt_size g)
      · rw [q] at h2 ee hkind
        have hsrc : ∃ n, src = .obj n := by
          cases src <;> first | exact ⟨_, rfl⟩ | (cases hkind; done)
        obtain ⟨n, rfl⟩ := hsrc
        have hall : m1[n]? = some (.list all) := items_obj e2
        refine wpAny_For (Call_ (builtinName_sound (bv := .type "reversed") W F hg (by decide) ⟨mg, mb, G1, G2, G6.1, G6.2⟩ ?_)) (fun _ => rfl)
        have hes : compEs ns [e] = some [e'] := by rw [cEs_cons, h2]; rfl
        have eev : evs c.M c.Φ vars [e'] mem = some ([.obj n], m1) := by rw [evs_cons, e1]; rfl
        refine callWith_of (P := fun _ => True) (by rw [plain_args q0 env [e] [e'] hes]; rfl) (call_looks (fun a h => nomatch h)) ?_
        refine args_sound C q0 (fun x hx => sndE C x) hes eev W F fun vs ρ1 hp1 tk1 W1 S1 V1 => ⟨trivial, ?_⟩
        obtain ⟨_, rfl, x0⟩ := V1.one_inv
        obtain ⟨ad, rfl, hi⟩ := x0.obj_inv
        obtain ⟨ws, m, g, rs⟩ := W1.rep _ _ _ hi hall
        have hlen := rs.length
        refine call_reversed_list (s := { s with heap := hp1, toks := tk1 }) ⟨_, g, rfl, _, rfl⟩ ?_
        have hk2 : ∀ b o, hp1.get? b = some o → (hp1.push (revObj ad ((ws.toArray.size : Int) - 1))).get? b = some o := fun b o e => Heap.get?_push_of_some _ e
        have hit : (hp1.push (revObj ad ((ws.toArray.size : Int) - 1))).IsRevIter hp1.objs.size ad ((all.length : Int) - 1 - ((0 : Nat) : Int)) := by
          refine ⟨_, Heap.get?_push_size _ rfl, rfl, ?_⟩
          have e3 : (all.length : Int) - 1 - ((0 : Nat) : Int) = (ws.toArray.size : Int) - 1 := by rw [List.size_toArray, hlen]; simp
          rw [e3]; rfl
        refine wpAny_pyIter_revIter hit ?_
        exact for_tail (s := s) (h1 := hp1) C hb h1 h3 (turns_rev C (I := hp1.objs.size)) ee W F W1 S1 hk2 (fun b q => by subst q; exact size_none (k := 0)) ⟨ad, hi, Nat.ne_of_lt (Heap.lt_size g), hit⟩ hall k
    · cases ee
  · cases hc

theorem snd_stmts (C : CxOk c) : ∀ (n : Nat), (∀ (st : Stmt), sizeOf st < n → SndS c st) ∧ ∀ (ss : List Stmt), sizeOf ss < n → SndL c ss := by
  intro n
  induction n with
  | zero =>
    exact ⟨fun st h => absurd h (Nat.not_lt_zero _), fun st h => absurd h (Nat.not_lt_zero _)⟩
  | succ n ih =>
    obtain ⟨i1, i2⟩ := ih
    constructor
    · intro st hn ns ls hc
      cases st with
      | Assign ts e p => match ts with
        | [t] => exact sndS_assign C ns ls hc
        | [] => exact noS hc
        | _ :: _ :: _ => exact noS hc
      | Expr e p => exact sndS_expr C ns ls hc
      | Return v p => cases v with
        | none => exact sndS_ret C ns ls hc
        | some e => exact sndS_ret C ns ls hc
      | If t a b p => exact sndS_if C (i2 _ (by simp at hn; omega)) (i2 _ (by simp at hn; omega)) ns ls hc
      | While t body o p => match o with
        | [] => exact sndS_while C (i2 _ (by simp at hn; omega)) ns ls hc
        | _ :: _ => exact noS hc
      | For t it body o p => match o with
        | [] => exact sndS_for C (i2 _ (by simp at hn; omega)) ns ls hc
        | _ :: _ => exact noS hc
      | Break p => exact sndS_brk C ns ls hc
      | _ => exact noS hc
    · intro ss hn
      cases ss with
      | nil => exact sndL_nil C
      | cons st ss => exact sndL_cons C (i1 _ (by simp at hn; omega)) (i2 _ (by simp at hn; omega))
theorem sndL (C : CxOk c) (ss : List Stmt) : SndL c ss := (snd_stmts C _).2 ss (Nat.lt_succ_self _)
end
end Mine
end

section
open PySem PySem.Spec PySem.Calls PyProof.Rows PySem.W
set_option linter.unusedVariables false
set_option autoImplicit false
namespace Mine

theorem zip_lookup_some {names : List Str} {vals : List Value} (hl : names.length = vals.length) : ∀ n ∈ names, ((names.zip vals).lookup n).isSome = true := by
  induction names generalizing vals with
  | nil => intro n h; cases h
  | cons a r ih =>
    cases vals with
    | nil => simp at hl
    | cons v vs =>
      intro n hn
      rw [List.zip_cons_cons]
      by_cases q : n = a
      · subst q; rw [lookup_cons_eq]; rfl
      · rw [lookup_cons_ne q]
        refine ih (by simpa using hl) n ?_
        rcases List.mem_cons.mp hn with h | h
        · exact absurd h q
        · exact h
theorem zip_filterMap {names : List Str} {vals : List Value} (hl : names.length = vals.length) (hd : names.Nodup) : (names.filterMap fun n => ((names.zip vals).lookup n).map fun v => (n, v)) = names.zip vals := by
  induction names generalizing vals with
  | nil => rfl
  | cons a r ih =>
    cases vals with
    | nil => simp at hl
    | cons v vs =>
      obtain ⟨h1, h2⟩ := List.nodup_cons.mp hd
      rw [List.zip_cons_cons, List.filterMap_cons_some (b := (a, v)) (by rw [lookup_cons_eq]; rfl)]
      congr 1
      refine Eq.trans ?_ (ih (vals := vs) (by simpa using hl) h2)
      have key : ∀ (l : List Str), (∀ n ∈ l, n ≠ a) → (l.filterMap fun n => (List.lookup n ((a, v) :: r.zip vs)).map fun w => (n, w)) = l.filterMap fun n => (List.lookup n (r.zip vs)).map fun w => (n, w) := by
        intro l
        induction l with
        | nil => intro _; rfl
        | cons b l ihl =>
          intro h
          rw [List.filterMap_cons, List.filterMap_cons, lookup_cons_ne (h b (.head _)), ihl fun n hn => h n (.tail _ hn)]
      exact key r fun n hn q => h1 (q ▸ hn)
theorem bind_plain {fd : FuncData} {vals : List Value} (hp : plainArgs fd.params = true) (hd : fd.defaults = .none) (hl : fd.params.args.length = vals.length) (hn : (fd.params.args.map (·.arg)).Nodup) :
    bindArgs fd ⟨vals, []⟩ = pure ((fd.params.args.map (·.arg)).zip vals) := by
  unfold plainArgs at hp
  simp only [Bool.and_eq_true, List.isEmpty_iff, Option.isNone_iff_eq_none] at hp
  obtain ⟨⟨⟨h1, h2⟩, h3⟩, h4⟩ := hp
  have hl' : (fd.params.args.map (·.arg)).length = vals.length := by rw [List.length_map]; exact hl
  have hmiss : ((fd.params.args.map (·.arg)).take vals.length).filter (fun n => (((fd.params.args.map (·.arg)).zip vals).lookup n).isNone) = [] := by
    rw [← hl', List.take_length, List.filter_eq_nil_iff]
    intro n hn
    have := zip_lookup_some hl' n hn
    cases q : ((fd.params.args.map (·.arg)).zip vals).lookup n with
    | none => rw [q] at this; cases this
    | some v => simp
  obtain ⟨nm, qual, ⟨po, as, va, ko, kd, kw, df⟩, body, sc, gl, clo, dv, kdv, doc, pm, an, cd, ct, bt⟩ := fd
  dsimp only at h1 h2 h3 h4 hd hl hl' hmiss hn ⊢
  subst h1 h2 h3 h4 hd
  have hneg : ¬ ((decide (vals.length > (as.map (·.arg)).length) && (none : Option Arg).isNone) = true) := by
    rw [hl']; simp
  refine (if_neg hneg).trans ?_
  refine (if_neg (by
    simp only [List.map_nil, List.nil_append, Array.toList_empty, Option.getD_none, List.drop_nil, List.length_nil, Nat.sub_zero]
    rw [hl', hmiss]; exact Bool.false_ne_true)).trans ?_
  have hz : (List.drop ((as.map (·.arg)).length - (List.drop (([] : List Value).length - (as.map (·.arg)).length) ([] : List Value)).length) (as.map (·.arg))).zip (List.drop (([] : List Value).length - (as.map (·.arg)).length) ([] : List Value)) = [] := by
    rw [List.drop_nil, List.zip_nil_right]
  refine (congrArg (fun l => Bind.bind (forIn l _ _) _) hz).trans ?_
  refine Eq.trans (b := pure ((([] : List Str) ++ as.map (·.arg) ++ ([] : List Str)).filterMap fun n => (((as.map (·.arg)).zip vals).lookup n).map (n, ·))) rfl ?_
  rw [List.append_nil]; exact congrArg pure (zip_filterMap hl' hn)

theorem fn_frame {h₀ : Heap} {ρ : List Addr} {mem : Mem} {h : Heap} {scope : Scope} {cls : Value} {qual : Str} {func : Option Addr} {code : Value} (W : Wd h₀ ρ mem h) (hkind : scope.kind = .function) (hdis : distinct scope.names = true) (hfree : scope.names.all (fun p => !(p.2 == .free)) = true) :
    Fr h₀ scope.names (newEnv scope h.objs.size mainGlobals (cellsFrom (h.objs.size + 1) scope.names []) qual func code none builtinsNs) ρ (List.replicate scope.names.length Option.none) (pushCells (h.push { cls := cls, data := .dict #[] }) scope.names) ∧
    (∀ b o, h.get? b = some o → (pushCells (h.push { cls := cls, data := .dict #[] }) scope.names).get? b = some o) ∧
    (∀ b, Own scope.names (newEnv scope h.objs.size mainGlobals (cellsFrom (h.objs.size + 1) scope.names []) qual func code none builtinsNs) b → h.get? b = none) := by
  have none_ge : ∀ c, h.objs.size ≤ c → h.get? c = none := fun c hc => by
    cases q : h.get? c with
    | none => rfl
    | some o => exact absurd (Heap.lt_size q) (Nat.not_lt.mpr hc)
  have keeps : ∀ b o, h.get? b = some o → (pushCells (h.push { cls := cls, data := .dict #[] }) scope.names).get? b = some o := fun b o e => pushCells_keeps _ _ b o (Heap.get?_push_of_some _ e)
  have P0 : CellsP [] (h.push { cls := cls, data := .dict #[] }) := ⟨fun _ _ e => (by cases e), fun _ _ _ e => (by cases e)⟩
  have sz : (h.push { cls := cls, data := .dict #[] }).objs.size = h.objs.size + 1 := Heap.size_push ..
  obtain ⟨P1, P2, P3⟩ := cellsFrom_spec scope.names (h.push { cls := cls, data := .dict #[] }) [] P0
  rw [sz] at P1 P2 P3
  have ge : ∀ x c, (cellsFrom (h.objs.size + 1) scope.names []).lookup x = some c → h.objs.size < c := by
    intro x c e
    by_cases m : (x, NameKind.cell) ∈ scope.names
    · obtain ⟨c', q1, q2, _⟩ := P3 x m
      rw [q1] at e; cases e
      omega
    · rw [P2 x m] at e; cases e
  have base : ∀ c, h.objs.size ≤ c → c ∉ ρ ∧ h₀.get? c = none := by
    intro c hc
    constructor
    · intro m
      exact W.out (none_ge c hc) m
    · exact W.base_none (none_ge c hc)
  have noVar : ∀ {i : Nat} {a : AV}, (List.replicate scope.names.length (Option.none : Option AV))[i]? = some (some a) → False := by
    intro i a e
    rw [List.getElem?_replicate] at e
    split at e <;> simp at e
  refine ⟨⟨hkind, rfl, rfl, fun x k e => ⟨k, e, .inl rfl⟩, base _ (Nat.le_refl _), ⟨fun _ => none, (Heap.Ns.new h cls).keeps (pushCells_keeps _ _), fun x i a e1 e2 e3 => (noVar e3).elim⟩, fun x i k e1 e2 e3 => ?_, fun x c e => ?_, P1.apart⟩, keeps, fun b hb => ?_⟩
  · obtain ⟨_, q1, q2, _⟩ := slotOf_is e3
    rw [e1] at q2; cases q2
    have m := List.mem_of_getElem? q1
    rcases e2 with rfl | rfl
    · obtain ⟨c, p1, p2, p3⟩ := P3 x m
      exact ⟨c, none, p1, p3, fun a e => (noVar e).elim⟩
    · have := List.all_eq_true.mp hfree _ m
      simp at this
  · obtain ⟨b1, b2⟩ := base c (Nat.le_of_lt (ge x c e))
    exact ⟨b1, fun _ => b2, P1.live x c e⟩
  · rcases hb with rfl | ⟨x, h1, h2⟩
    · exact none_ge _ (Nat.le_refl _)
    · exact none_ge _ (Nat.le_of_lt (ge x b h2))

section
variable {prog : Program} {w : World} {A : Around} {E : Value → Shared → Prop} {s : Shared} {h₀ : Heap} {ρ : List Addr} {mem : Mem}
theorem binds_sound {ns : Names} {env : Env} {fv : Unit → Sem Env} : ∀ {xs : List Str} {is : List Nat} (_ : xs.map (slotW ns) = is.map some) {vs : List Value} {as : List AV} {vars vars' : Vars} {s : Shared} {Q : Env → Shared → Prop}
    (_ : setVars vars is as = some vars') (_ : Wd h₀ ρ mem s.heap) (_ : Fr h₀ ns env ρ vars s.heap) (_ : Vals ρ s.heap vs as)
    (_ : ∀ h' tk', Wd h₀ ρ mem h' → StepO (Own ns env) ρ ρ s.heap h' → Fr h₀ ns env ρ vars' h' → Q env { s with heap := h', toks := tk' }),
    wpAny (model prog w) A (forIn (xs.zip vs) (PUnit.unit) (fun (p : Str × Value) (_ : PUnit) => (do storeName env p.1 p.2; pure (ForInStep.yield PUnit.unit) : Sem (ForInStep PUnit))) >>= fun _ => pure env) Q E s := by
  intro xs
  induction xs with
  | nil =>
    intro is hs vs as vars vars' s Q e W F V k
    cases is with
    | cons => simp at hs
    | nil =>
      cases as with
      | nil =>
        cases e
        rw [List.zip_nil_left, List.forIn_nil]
        exact wpAny_bind (wpAny_pure (wpAny_pure (k _ s.toks W (StepO.refl _ _ _) F)))
      | cons => exact noS e
  | cons x xs ih =>
    intro is hs vs as vars vars' s Q e W F V k
    cases is with
    | nil => simp at hs
    | cons i is =>
      rw [List.map_cons, List.map_cons] at hs
      obtain ⟨h1, h2⟩ := List.cons.inj hs
      cases as with
      | nil => exact noS e
      | cons a as =>
        have e := sv_cons.symm.trans e
        obtain ⟨_, _, rfl, V1, V2⟩ := V.cons_inv
        rw [List.zip_cons_cons, List.forIn_cons]
        rw [bind_assoc]
        refine wpAny_bind (wpAny_bind (store_sound W F h1 V1 fun h1' tk1 W1 S1 F1 => wpAny_pure ?_))
        exact ih h2 e W1 F1 (V2.keepT S1.kt) fun h2' tk2 W2 S2 F2 => k h2' tk2 W2 (S1.trans S2) F2
end

theorem Val.backs {ρ ρ' : List Addr} {h h' : Heap} (hp : ∃ e, ρ' = ρ ++ e) : (∀ {v a}, Val ρ' h' v a → ∀ v0, Val ρ h v0 a → Val ρ h' v a) ∧ ∀ {vs as}, Vals ρ' h' vs as → ∀ vs0, Vals ρ h vs0 as → Vals ρ h' vs as := by
  refine Val.both (fun _ _ => .none) (fun b _ _ => .bool b) (fun i t _ _ => .int i t) (fun s t _ _ => .str s t) (fun g r v0 y => ?_) (fun g _ _ => .rng g) (fun g v0 y => .obj ?_) (fun _ _ => .nil) fun x r v0 y => ?_
  · obtain ⟨_, _, _, _, _, r0⟩ := y.tup_inv
    exact .tup g (r _ r0)
  · obtain ⟨_, _, g0⟩ := y.obj_inv
    obtain ⟨e, rfl⟩ := hp
    rw [List.getElem?_append_left (List.getElem?_eq_some_iff.mp g0).1] at g; exact g
  · obtain ⟨_, _, _, x0, r0⟩ := y.cons_inv
    exact .cons (x _ x0) (r _ r0)
theorem Val.back {ρ ρ' : List Addr} {h h' : Heap} (hp : ∃ e, ρ' = ρ ++ e) {v v0 : Value} {a : AV} (x : Val ρ' h' v a) (y : Val ρ h v0 a) : Val ρ h' v a := (Val.backs hp).1 x _ y
theorem Vals.back {ρ ρ' : List Addr} {h h' : Heap} (hp : ∃ e, ρ' = ρ ++ e) {vs vs0 : List Value} {as : List AV} (x : Vals ρ' h' vs as) (y : Vals ρ h vs0 as) : Vals ρ h' vs as := (Val.backs hp).2 x _ y
theorem Ents.back {ρ ρ' : List Addr} {h h' : Heap} (hp : ∃ e, ρ' = ρ ++ e) {es es0 : List DictEntry} {fs : List (Nm × AV)} (x : Ents ρ' h' es fs) : Ents ρ h es0 fs → Ents ρ h' es fs := by
  induction x generalizing es0 with
  | nil => exact fun _ => .nil
  | cons x _ ih =>
    intro y
    cases y with | cons x0 r0 => exact .cons (x.back hp x0) (ih r0)
theorem Val.flatB {ρ ρ' : List Addr} {h : Heap} : (∀ {v a}, Val ρ' h v a → AV.flat a = true → Val ρ h v a) ∧ ∀ {vs as}, Vals ρ' h vs as → AV.flats as = true → Vals ρ h vs as := by
  refine Val.both (fun _ => .none) (fun b _ => .bool b) (fun i t _ => .int i t) (fun s t _ => .str s t) (fun g r e => .tup g (r e)) (fun g _ => .rng g) (fun g e => nomatch e) (fun _ => .nil) fun x r e => ?_
  obtain ⟨e1, e2⟩ := Bool.and_eq_true_iff.mp e
  exact .cons (x e1) (r e2)
theorem Val.flat {ρ ρ' : List Addr} {h : Heap} {v : Value} {a : AV} (x : Val ρ' h v a) (e : AV.flat a = true) : Val ρ h v a := Val.flatB.1 x e
theorem Vals.flat {ρ ρ' : List Addr} {h : Heap} {vs : List Value} {as : List AV} (x : Vals ρ' h vs as) (e : AV.flats as = true) : Vals ρ h vs as := Val.flatB.2 x e
theorem Wd.back {h₀ : Heap} {ρ ρ' : List Addr} {mem mem' : Mem} {h h' : Heap} (W : Wd h₀ ρ mem h) (W' : Wd h₀ ρ' mem' h') (S : Step ρ ρ' h h') (ht : mem'.take mem.length = mem) : Wd h₀ ρ mem h' := by
  have hp := S.ext
  obtain ⟨e, he⟩ := hp
  refine ⟨W.len, W.nodup, fun i a o e1 e2 => ?_, W'.base, W.fresh⟩
  have e2' : mem'[i]? = some o := by
    have hi := (List.getElem?_eq_some_iff.mp e2).1
    have := congrArg (·[i]?) ht
    simp only [List.getElem?_take] at this
    rw [if_pos hi] at this
    rw [this]; exact e2
  have r' := W'.rep i a o (S.get e1) e2'
  have r := W.rep i a o e1 e2
  cases o with
  | list xs =>
    obtain ⟨vs, n, g, x⟩ := r'
    obtain ⟨vs0, n0, g0, x0⟩ := r
    exact ⟨vs, n, g, x.back S.ext x0⟩
  | inst c d =>
    obtain ⟨dx, hd, g⟩ := r'
    obtain ⟨dx0, hd0, g0⟩ := r
    refine ⟨dx, ?_, g⟩
    rw [he, List.getElem?_append_left (List.getElem?_eq_some_iff.mp hd0).1] at hd; exact hd
  | sdict fs =>
    obtain ⟨es, n, g, x⟩ := r'
    obtain ⟨es0, n0, g0, x0⟩ := r
    exact ⟨es, n, g, x.back S.ext x0⟩
  | idict c => exact r'

theorem tell_sound {h₀ : Heap} {ρ ρ' : List Addr} {mem mem' mem2 : Mem} {s : Shared} {h' : Heap} {tk' : Nat} {mode : Nat} {v : Value} {a r : AV} {Q : Value → Shared → Prop} (e : tell mode mem (a, mem') = some (r, mem2)) (W : Wd h₀ ρ mem s.heap) (W' : Wd h₀ ρ' mem' h') (S : Step ρ ρ' s.heap h') (x : Val ρ' h' v a)
    (k : Ok h₀ ρ s mem2 r Q) : Q v { s with heap := h', toks := tk' } := by
  have SS : Step ρ ρ s.heap h' := ⟨⟨[], by simp⟩, fun a h1 h2 => absurd h1 h2, S.keep⟩
  unfold tell at e
  split at e
  · cases e
    exact k v ρ' h' tk' W' S x
  · split at e
    · rename_i hf
      cases e
      exact k v ρ h' tk' (W.back W' S hf.2) SS (x.flat hf.1)
    · cases e
  · dsimp only at e
    split at e
    · rename_i n
      split at e
      · rename_i xs hx
        split at e
        · rename_i hf
          cases e
          obtain ⟨ad, rfl, hn⟩ := x.obj_inv
          obtain ⟨vs, m, g, rs⟩ := W'.rep _ _ _ hn hx
          have Wb := W.back W' S hf.2.2
          have hout : ad ∉ ρ := fun hm => by
            obtain ⟨j, hj, e1⟩ := List.getElem_of_mem hm
            have e2 : ρ'[j]? = some ad := S.get (List.getElem?_eq_some_iff.mpr ⟨hj, e1⟩)
            obtain ⟨l1, q1⟩ := List.getElem?_eq_some_iff.mp e2
            obtain ⟨l2, q2⟩ := List.getElem?_eq_some_iff.mp hn
            have := (List.getElem_inj W'.nodup).mp (q1.trans q2.symm)
            have h3 := hf.1
            rw [← W.len] at h3
            omega
          have hmem : ad ∈ ρ' := List.mem_of_getElem? hn
          have Wf := Wb.adopt (o := .list xs) hout (W'.fresh ad hmem) fun kt => ⟨vs, m, g, rs.flat hf.2.1⟩
          refine k _ (ρ ++ [ad]) h' tk' Wf ⟨⟨_, rfl⟩, fun b h1 h2 => ?_, S.keep⟩ (.obj ?_)
          · rcases List.mem_append.mp h1 with q | q
            · exact absurd q h2
            · rw [List.mem_singleton.mp q]; exact S.new ad hmem hout
          · rw [← W.len, List.getElem?_append_right (Nat.le_refl _), Nat.sub_self]; rfl
        · cases e
      · cases e
    · cases e

structure FunAt (K : Frag) (f : Addr) (i : FnInfo) : Prop where
  ex : ∃ oc od osl fd body, K.lookup f = some ⟨oc, od, .func fd, osl⟩ ∧ fd.body = .stmts body ∧ fnInfo i.mode (some (fd.params, body, fd.scope)) = some i ∧ fd.closure = [] ∧ fd.globals = mainGlobals ∧ fd.builtins = builtinsNs ∧ fd.defaults = .none ∧ codeIn K fd.code fd.qualname = true

theorem names_of {sc : Scope} : ∀ {as : List Arg} {ps : List Nat}, as.mapM (fun a => slotW sc.names a.arg) = some ps → (as.map (·.arg)).map (slotW sc.names) = ps.map some
  | [], ps, h => by rw [List.mapM_nil] at h; cases h; rfl
  | a :: as, ps, h => by
    rw [List.mapM_cons] at h
    obtain ⟨y, h1, h⟩ := bI h
    obtain ⟨ys, h2, h⟩ := bI h
    cases h
    rw [List.map_cons, List.map_cons, List.map_cons, names_of h2]
    exact congrArg (· :: _) h1

section
variable {prog : Program} {w : World} {A : Around} {E : Value → Shared → Prop} {s : Shared} {h₀ : Heap} {ρ : List Addr} {mem mem' : Mem} {K : Frag} {M : Methods} {Φ : Fun} {r : AV}

theorem fun_call {d : Nat} {f : Addr} {i : FnInfo} (B : Base K M h₀) (Fn : FunAt K f i) (R : Room A (d + 1)) (hΦ : ∀ A', Room A' d → FunOk ⟨prog, w, A', h₀, K, M, Φ⟩) {args : List AV} {vs : List Value} {vars varsE : Vars} {fl : Fl} {mem1 : Mem} {a : AV} {Rs : Result → Shared → Prop}
    (e1 : setVars (List.replicate i.size Option.none) i.params args = some vars) (e2 : exs M Φ i.body vars mem = some (fl, varsE, mem1)) (e3 : (fl = .next ∧ a = .none) ∨ fl = .ret a) (e4 : tell i.mode mem (a, mem1) = some (r, mem'))
    (W : Wd h₀ ρ mem s.heap) (x : Vals ρ s.heap vs args) (k : Ok h₀ ρ s mem' r fun v s' => Rs (.ok (.ret v)) s') : codeAny (model prog w) A (.call (.ref f) ⟨vs, []⟩) Rs s := by
  obtain ⟨oc, od, osl, fd, body, hK, hbody, hinfo, hclo, hgl, hbt, hdf, hcode⟩ := Fn.ex
  have X : K.In s.heap := fun a o e => W.base _ _ (B.inK a o e)
  unfold fnInfo at hinfo
  obtain ⟨⟨pa, bo, sc⟩, q0, hinfo⟩ := bI hinfo
  cases q0
  dsimp only at hinfo
  split at hinfo
  · rename_i hok
    obtain ⟨ps, hps, hinfo⟩ := bI hinfo
    obtain ⟨b, hb, hinfo⟩ := bI hinfo
    have hi := Option.some.inj hinfo
    unfold defOk at hok
    simp only [Bool.and_eq_true, Bool.not_eq_true', decide_eq_true_eq] at hok
    obtain ⟨⟨⟨⟨⟨hpl, hsc⟩, hgen⟩, hco⟩, hfree⟩, hnd⟩ := hok
    unfold scopeOk at hsc
    obtain ⟨hkind, hdis⟩ := Bool.and_eq_true_iff.mp hsc
    have hkind := of_decide_eq_true hkind
    have hsize : i.size = fd.scope.names.length := by rw [← hi]
    have hpar : i.params = ps := by rw [← hi]
    have hbod : i.body = b := by rw [← hi]
    rw [hsize, hpar] at e1
    rw [hbod] at e2
    have l1 := x.length
    have l2 := setVars_len e1
    have hnames := names_of hps
    have l3 : fd.params.args.length = ps.length := by
      have := congrArg List.length hnames
      simpa using this
    refine codeAny_call_function (fd := fd) (body := body) (by have := R.depth; omega) (X _ _ hK) rfl hco hgen hbody (codeRec_of X hcode) ?_
    rw [bind_plain hpl hdf (by omega) hnd, hclo, hgl, hbt]
    refine wpAny_pure ?_
    obtain ⟨F0, keeps, ownNew⟩ := fn_frame (cls := .type "frame") (qual := fd.qualname ++ ".<locals>.") (func := some f) (code := fd.code) W hkind hdis hfree
    simp only [newFunctionEnv, Option.isSome_none, Bool.false_eq_true, if_false]
    refine wpAny_bind (wpAny_alloc ?_)
    refine wpAny_bind (wpAny_layCells _ (fun name kind cells => by cases hkc : kind == NameKind.cell <;> simp [hkc]) _ _ _ _ ?_)
    rw [show ({ s with heap := s.heap.push { cls := .type "frame", data := .dict #[] } } : Shared).heap.objs.size = s.heap.objs.size + 1 from Heap.size_push ..]
    have S1 := Step.of_keeps (ρ := ρ) keeps
    have W1 := W.keeps keeps
    refine binds_sound (fv := fun _ => pure default) (s := { s with heap := pushCells (s.heap.push { cls := .type "frame", data := .dict #[] }) fd.scope.names }) hnames e1 W1 F0 (x.step W S1) fun h2 tk2 W2 S2 F2 => ?_
    have S02 : Step ρ ρ s.heap h2 := (((StepO.of (O := Own fd.scope.names _) W S1).trans S2).drop (O := fun _ => False) fun b q => .inr (ownNew b q)).step
    refine ⟨B.nolimit.keeps W2.base, codeAny_func ?_⟩
    · have C' : CxOk ⟨prog, w, A.deeper (newEnv fd.scope s.heap.objs.size mainGlobals (cellsFrom (s.heap.objs.size + 1) fd.scope.names []) (fd.qualname ++ ".<locals>.") (some f) fd.code none builtinsNs), h₀, K, M, Φ⟩ := by
        refine ⟨B, hΦ _ ⟨?_, ?_, ?_⟩, R.handled, ?_⟩
        · have := R.depth; show A.depth + 1 + 3 * d < recursionLimit; omega
        · have := R.units; show A.units + 3 + 20 * d + 200 < cLine; omega
        · exact R.handled
        · have := R.units; show A.units + 3 + 65 < cLine; omega
      refine sndL C' body fd.scope.names b hb vars mem fl varsE mem1 e2 ρ _ _ _ _ W2 F2 fun ρ3 h3 tk3 fv W3 S3 F3 ok => ?_
      have S03 : Step ρ ρ3 s.heap h3 := (((StepO.of (O := Own fd.scope.names _) W S02).trans S3).drop (O := fun _ => False) fun b q => .inr (ownNew b q)).step
      rcases e3 with ⟨rfl, rfl⟩ | rfl
      · cases fv with
        | next => exact tell_sound (s := s) (Q := fun v s' => Rs (.ok (.ret v)) s') e4 W W3 S03 .none k
        | _ => exact ok.elim
      · cases fv with
        | ret v => exact tell_sound (s := s) (Q := fun v s' => Rs (.ok (.ret v)) s') e4 W W3 S03 ok k
        | _ => exact ok.elim
  · cases hinfo
end
end Mine
end

section
open PySem PySem.Spec PySem.Calls PyProof.Rows PySem.W
set_option linter.unusedVariables false
set_option autoImplicit false
namespace Mine

noncomputable def FunOkC (c : Cx) : Prop := ∀ f args mem r mem', c.Φ f args mem = some (r, mem') → ∀ (ρ : List Addr) (s : Shared) (vs : List Value) (Rs : Result → Shared → Prop),
  Wd c.h₀ ρ mem s.heap → Vals ρ s.heap vs args → Ok c.h₀ ρ s mem' r (fun v s' => Rs (.ok (.ret v)) s') → codeAny (model c.prog c.w) c.A (.call (.ref f) ⟨vs, []⟩) Rs s
theorem FunOkC.fn {c : Cx} (h : FunOkC c) : FunOk c := fun f args mem r mem' e ρ s vs E Q W x k => wpAny_call (h f args mem r mem' e ρ s vs _ W x k)

section
variable {prog : Program} {w : World} {A : Around} {E : Value → Shared → Prop} {s : Shared} {h₀ : Heap} {ρ : List Addr} {mem mem' : Mem} {K : Frag} {M : Methods} {Φ : Fun} {r : AV}

theorem inst_new {h : Heap} (W : Wd h₀ ρ mem h) (C : Addr) :
    Wd h₀ (ρ ++ [h.objs.size] ++ [h.objs.size + 1]) (mem ++ [.sdict [], .inst C mem.length]) ((h.push emptyDict).push (instObj C h.objs.size)) ∧ Step ρ (ρ ++ [h.objs.size] ++ [h.objs.size + 1]) h ((h.push emptyDict).push (instObj C h.objs.size)) ∧
    Val (ρ ++ [h.objs.size] ++ [h.objs.size + 1]) ((h.push emptyDict).push (instObj C h.objs.size)) (.ref (h.objs.size + 1)) (.obj (mem.length + 1)) := by
  obtain ⟨W1, S1⟩ := W.new (ob := emptyDict) (o := .sdict []) rfl ⟨[], 0, Heap.get?_push_size _ rfl, .nil⟩
  have sz : (h.push emptyDict).objs.size = h.objs.size + 1 := Heap.size_push ..
  have g : (ρ ++ [h.objs.size])[mem.length]? = some h.objs.size := by rw [← W.len, List.getElem?_append_right (Nat.le_refl _), Nat.sub_self]; rfl
  obtain ⟨W2, S2⟩ := W1.new (ob := instObj C h.objs.size) (o := .inst C mem.length) rfl ⟨h.objs.size, by rw [List.getElem?_append_left (List.getElem?_eq_some_iff.mp g).1]; exact g, by rw [Heap.get?_push_size _ rfl]⟩
  rw [sz] at W2 S2
  have em : mem ++ [MObj.sdict []] ++ [.inst C mem.length] = mem ++ [.sdict [], .inst C mem.length] := by rw [List.append_assoc]; rfl
  rw [em] at W2
  refine ⟨W2, S1.trans S2, .obj ?_⟩
  have l : (ρ ++ [h.objs.size]).length = mem.length + 1 := by rw [List.length_append, W.len]; rfl
  rw [← l, List.getElem?_append_right (Nat.le_refl _), Nat.sub_self]; rfl

theorem cls_call {C fI : Addr} (X : K.In s.heap) (hm : makesIn K C = true) (hi : findIn K (.ref C) "__init__" = some (some (.ref fI))) (hf : typeIn K (.ref fI) = some (.type "function")) {args : List AV} {vs : List Value} {Rs : Result → Shared → Prop}
    (W : Wd h₀ ρ mem s.heap) (x : Vals ρ s.heap vs args)
    (k : ∀ xo ρ' h', Wd h₀ ρ' (mem ++ [.sdict [], .inst C mem.length]) h' → Step ρ ρ' s.heap h' → Val ρ' h' (.ref xo) (.obj (mem.length + 1)) → ρ'[mem.length + 1]? = some xo →
      codeAny (model prog w) (A.under (.builtin "type.__call__" ⟨.ref C :: vs, []⟩)) (.call (.ref fI) ⟨.ref xo :: vs, []⟩) (InitBack xo Rs) { s with heap := h' }) :
    codeAny (model prog w) A (.call (.ref C) ⟨vs, []⟩) Rs s := by
  obtain ⟨W', S', V'⟩ := inst_new W C
  obtain ⟨hh, g, d, t, os⟩ := s
  refine make_core (makes_of X hm) (looks_findIn X hi) (fun self => bind_fn X self hf) (.inl rfl) ?_
  have e := V'
  obtain ⟨_, q, e⟩ := e.obj_inv
  cases q
  exact k _ _ _ W' S' V' e

theorem room_under {C : Addr} {vs : List Value} {d : Nat} (R : Room A (d + 1)) : Room (A.under (.builtin "type.__call__" ⟨.ref C :: vs, []⟩)) d := by
  refine ⟨?_, ?_, R.handled⟩
  · have := R.depth
    rw [depth_under_kw]; omega
  · have := R.units
    have e : (A.under (.builtin "type.__call__" ⟨.ref C :: vs, []⟩)).units = A.units + 1 := rfl
    rw [e]; omega

theorem own_class {C fI : Addr} {d : Nat} (B : Base K M h₀) (R : Room A (d + 1)) (hΦ : ∀ A', Room A' d → FunOkC ⟨prog, w, A', h₀, K, M, Φ⟩) (hm : makesIn K C = true) (hi : findIn K (.ref C) "__init__" = some (some (.ref fI))) (hf : typeIn K (.ref fI) = some (.type "function"))
    {args : List AV} {vs : List Value} {Rs : Result → Shared → Prop} (e : Φ fI (.obj (mem.length + 1) :: args) (mem ++ [.sdict [], .inst C mem.length]) = some (.none, mem'))
    (W : Wd h₀ ρ mem s.heap) (x : Vals ρ s.heap vs args) (k : Ok h₀ ρ s mem' (.obj (mem.length + 1)) fun v s' => Rs (.ok (.ret v)) s') : codeAny (model prog w) A (.call (.ref C) ⟨vs, []⟩) Rs s := by
  refine cls_call (fun a o e => W.base _ _ (B.inK a o e)) hm hi hf W x fun xo ρ' h' W' S' V' g => ?_
  refine hΦ _ (room_under R) fI _ _ _ _ e ρ' { s with heap := h' } (.ref xo :: vs) _ W' (.cons V' (x.step W S')) fun v ρ2 h2 tk2 W2 S2 V2 => ?_
  obtain rfl := V2.none_inv
  exact ⟨rfl, k (.ref xo) ρ2 h2 tk2 W2 (S'.trans S2) (.obj (S2.get g))⟩
end

noncomputable def IsPrec (body tail : List Stmt) : Prop := ∃ p0 p1 ap p2 kk p3 p pos, body = .Expr (.Call (.Attribute (.Call (.Name "super" p0) [] [] p1) "__init__" ap) [.Name "row" p2, .Constant (.str "values") kk p3] [] p) pos :: tail ∧ ap.endLine = p.line
noncomputable def lookF (o : Obj) : Option FuncData := match o.data with
  | .func fd => some fd
  | _ => none
structure PrecFd (K : Frag) (oc : Value) (od : Option Addr) (osl : Array (Option Value)) (fd : FuncData) (body tail : List Stmt) (ar : Arg) : Prop where
  hK : K.lookup 320 = some ⟨oc, od, .func fd, osl⟩
  hbody : fd.body = .stmts body
  hprec : IsPrec body tail
  htail : compSs precNames tail = some precTail
  hclo : fd.closure = [(("__class__" : Str), (308 : Addr))]
  hgl : fd.globals = mainGlobals
  hbt : fd.builtins = builtinsNs
  hdf : fd.defaults = .none
  hcode : fd.code = .ref 319
  hcodeIn : codeIn K fd.code fd.qualname = true
  hpl : plainArgs fd.params = true
  hargs : fd.params.args.map (·.arg) = (["self", "s", "t", "row"] : List Str)
  hhead : (fd.params.posonlyargs ++ fd.params.args).head? = some ar
  har : ar.arg = ("self" : Str)
  hkind : fd.scope.kind = .function
  hgen : fd.scope.isGenerator = false
  hco : fd.scope.isCoroutine = false
  hnc : (fd.scope.names.all fun p => !(p.2 == .cell)) = true
  hloc : ∀ x ∈ (["self", "s", "t", "row"] : List Str), fd.scope.names.lookup x = some .local
  hsuper : fd.scope.names.lookup ("super" : Str) = some .globalImplicit
  hclass : fd.scope.names.lookup ("__class__" : Str) = some .free
structure PrecAt (prog : Program) (K : Frag) : Prop where
  make : makesIn K 358 = true
  init : findIn K (.ref 358) "__init__" = some (some (.ref 320))
  fnTy : typeIn K (.ref 320) = some (.type "function")
  fd : ∃ oc od osl fd body tail ar, PrecFd K oc od osl fd body tail ar
  cell : ∃ a b c, K.lookup 308 = some ⟨a, b, .cell (some (.ref 358)), c⟩
  code : ∃ a b c vs file tf, K.lookup 319 = some ⟨a, b, .fields vs, c⟩ ∧ vs[2]? = some (.str file tf) ∧ ((prog.main.file : Str) == file) = true
  top : (prog.main.scope.names.lookup ("super" : Str)).isSome = false
  cls : ∃ cd, clsIn K 358 = some cd
  sub : mroIn K 358 (.ref 358) = some true
  any : nsIn K cStatics "thirdparty.any" = some none
  sup : ks_superIn K 358 358 "__init__" = some (some (.ref 276))
  fn276 : fnIn K 276 = true
  ty276 : typeIn K (.ref 276) = some (.type "function")

section
variable {prog : Program} {w : World} {A : Around} {E : Value → Shared → Prop} {s : Shared} {h₀ : Heap} {ρ : List Addr} {mem mem' : Mem} {K : Frag} {Φ : Fun} {r : AV}

theorem precede_call {d : Nat} (B : Base K ⟨methsOf, fldOf⟩ h₀) (hsup : ∃ mg mb, h₀.Ns mainGlobals mg ∧ h₀.Ns builtinsNs mb ∧ mg "super" = none ∧ mb "super" = some (.type "super")) (PA : PrecAt prog K) (R : Room A (d + 1)) (hΦ : ∀ A', Room A' d → FunOkC ⟨prog, w, A', h₀, K, ⟨methsOf, fldOf⟩, Φ⟩)
    {args : List AV} {vs : List Value} {Rs : Result → Shared → Prop} (e : primPrecede Φ args mem = some (r, mem'))
    (W : Wd h₀ ρ mem s.heap) (x : Vals ρ s.heap vs args) (k : Ok h₀ ρ s mem' r fun v s' => Rs (.ok (.ret v)) s') : codeAny (model prog w) A (.call (.ref 358) ⟨vs, []⟩) Rs s := by
  unfold primPrecede at e
  split at e
  · rename_i aS aT aR
    obtain ⟨⟨r1, m1⟩, e1, e⟩ := bI e
    obtain ⟨⟨fl, vE, m2⟩, e2, e⟩ := bI e
    dsimp only at e
    split at e
    · cases e
      obtain ⟨v1, _, rfl, x1, r1'⟩ := x.cons_inv
      obtain ⟨v2, _, rfl, x2, r2⟩ := r1'.cons_inv
      obtain ⟨v3, _, rfl, x3, r3⟩ := r2.cons_inv
      obtain rfl := r3.nil_inv
      refine cls_call (fun a o e => W.base _ _ (B.inK a o e)) PA.make PA.init PA.fnTy W (.cons x1 (.cons x2 (.cons x3 .nil))) fun xo ρ1 h1 W1 S1 V1 g1 => ?_
      have R' : Room (A.under (.builtin "type.__call__" ⟨.ref 358 :: [v1, v2, v3], []⟩)) d := room_under R
      have dep : (A.under (.builtin "type.__call__" ⟨.ref 358 :: [v1, v2, v3], []⟩)).depth < recursionLimit := by have := R'.depth; omega
      have Rd : (A.under (.builtin "type.__call__" ⟨.ref 358 :: [v1, v2, v3], []⟩)).depth = A.depth + 1 := depth_under_kw ..
      have Ru : (A.under (.builtin "type.__call__" ⟨.ref 358 :: [v1, v2, v3], []⟩)).units = A.units + 1 := rfl
      have Rh : (A.under (.builtin "type.__call__" ⟨.ref 358 :: [v1, v2, v3], []⟩)).handled = none := R.handled
      generalize A.under (.builtin "type.__call__" ⟨.ref 358 :: [v1, v2, v3], []⟩) = A1 at R' dep Rd Ru Rh ⊢
      obtain ⟨oc, od, osl, fd, body, tail, ar, D⟩ := PA.fd
      have X1 : K.In h1 := fun a o e => W1.base _ _ (B.inK a o e)
      have hnd : (fd.params.args.map (·.arg)).Nodup := by rw [D.hargs]; decide
      have hlen : fd.params.args.length = [Value.ref xo, v1, v2, v3].length := by
        have := congrArg List.length D.hargs
        simpa using this
      have hb := bind_plain (vals := [Value.ref xo, v1, v2, v3]) D.hpl D.hdf hlen hnd
      rw [D.hargs] at hb
      refine ks_codeAny_call_defAt (fd := fd) (body := body) dep (X1 _ _ D.hK) rfl (B.nolimit.keeps W1.base) (codeRec_of X1 D.hcodeIn) D.hbody (BindsTo.of_eq hb) (fun y hy q => ?_) (fun y hy => ?_) (fun h2 hns hk2 => ?_) D.hco D.hgen D.hkind
      · have := List.all_eq_true.mp D.hnc y hy
        rw [q] at this; cases this
      · have : y.1 ∈ (["self", "s", "t", "row"] : List Str) := by
          have := List.of_mem_zip (show (y.1, y.2) ∈ List.zip _ _ from hy)
          exact this.1
        exact D.hloc _ this
      · -- the frame
        have S12 := Step.of_keeps (ρ := ρ1) hk2
        have W2 := W1.keeps hk2
        have X2 : K.In h2 := fun a o e => W2.base _ _ (B.inK a o e)
        have S02 : Step ρ ρ1 s.heap h2 := S1.trans S12
        have V2 := V1.step W1 S12
        have hLnone : h1.get? h1.objs.size = none := by
          cases q : h1.get? h1.objs.size with
          | none => rfl
          | some o => exact absurd (Heap.lt_size q) (Nat.lt_irrefl _)
        have hLρ : h1.objs.size ∉ ρ1 := W1.out hLnone
        have hL0 : h₀.get? h1.objs.size = none := W1.base_none hLnone
        have hcell := PA.cell
        obtain ⟨ca, cb, cc, hcell⟩ := hcell
        have x1' := (x1.step W S02)
        have x2' := (x2.step W S02)
        have x3' := (x3.step W S02)
        let env := callEnv fd h1.objs.size 320
        have hkof : ∀ y ∈ (["self", "s", "t", "row"] : List Str), env.kindOf y = some .local := fun y hy => D.hloc y hy
        have h308 : h₀.get? 308 = some ⟨ca, cb, .cell (some (.ref 358)), cc⟩ := B.inK _ _ hcell
        have n308 : (308 : Addr) ∉ ρ1 := fun m => by
          have := W1.fresh _ m
          rw [h308] at this; cases this
        have cells : ∀ y c, env.cells.lookup y = some c → y = "__class__" ∧ c = 308 := fun y c q => by
          have q' : List.lookup y fd.closure = some c := q
          rw [D.hclo] at q'
          by_cases hy : y = "__class__"
          · subst hy; rw [lookup_cons_eq] at q'; exact ⟨rfl, (Option.some.inj q').symm⟩
          · rw [lookup_cons_ne hy] at q'; cases q'
        have four : ∀ y kd, precNames.lookup y = some kd → kd = .local ∧ (y = "self" ∨ y = "s" ∨ y = "t" ∨ y = "row") := fun y kd q => by
          unfold precNames at q
          by_cases h1 : y = "self"
          · subst h1; rw [lookup_cons_eq] at q; cases q; exact ⟨rfl, .inl rfl⟩
          · rw [lookup_cons_ne h1] at q
            by_cases h2 : y = "s"
            · subst h2; rw [lookup_cons_eq] at q; cases q; exact ⟨rfl, .inr (.inl rfl)⟩
            · rw [lookup_cons_ne h2] at q
              by_cases h3 : y = "t"
              · subst h3; rw [lookup_cons_eq] at q; cases q; exact ⟨rfl, .inr (.inr (.inl rfl))⟩
              · rw [lookup_cons_ne h3] at q
                by_cases h4 : y = "row"
                · subst h4; rw [lookup_cons_eq] at q; cases q; exact ⟨rfl, .inr (.inr (.inr rfl))⟩
                · rw [lookup_cons_ne h4] at q; cases q
        have Fr2 : Fr h₀ precNames env ρ1 [some (.obj (mem.length + 1)), some aS, some aT, some aR] h2 := by
          refine ⟨D.hkind, D.hgl, D.hbt, fun y kd q => ?_, ⟨hLρ, hL0⟩, ⟨_, hns, fun y i a q1 q2 q3 => ?_⟩, fun y i kd q1 q2 q3 => ?_, fun y c q => ?_, fun y z c q1 q2 => ?_⟩
          · obtain ⟨rfl, hy⟩ := four y kd q
            exact ⟨.local, hkof y (by rcases hy with rfl | rfl | rfl | rfl <;> simp), .inl rfl⟩
          · obtain ⟨_, hy⟩ := four y _ q1
            rcases hy with rfl | rfl | rfl | rfl
            · have : slotOf precNames "self" = some 0 := by decide +kernel
              rw [this] at q2; cases q2; cases q3
              exact ⟨.ref xo, by kernel_rfl, V2⟩
            · have : slotOf precNames "s" = some 1 := by decide +kernel
              rw [this] at q2; cases q2; cases q3
              exact ⟨v1, by kernel_rfl, x1'⟩
            · have : slotOf precNames "t" = some 2 := by decide +kernel
              rw [this] at q2; cases q2; cases q3
              exact ⟨v2, by kernel_rfl, x2'⟩
            · have : slotOf precNames "row" = some 3 := by decide +kernel
              rw [this] at q2; cases q2; cases q3
              exact ⟨v3, by kernel_rfl, x3'⟩
          · obtain ⟨rfl, _⟩ := four y kd q1
            rcases q2 with q2 | q2 <;> cases q2
          · obtain ⟨rfl, rfl⟩ := cells y c q
            refine ⟨n308, fun q => ?_, ⟨_, _, W2.base _ _ h308, rfl⟩⟩
            obtain ⟨h, _⟩ := four _ _ q
            cases h
          · rw [(cells y c q1).1, (cells z c q2).1]
        have hR : Room (A1.deeper env) d := by
          refine ⟨?_, ?_, Rh⟩
          · have := R.depth; show A1.depth + 1 + 3 * d < recursionLimit; omega
          · have := R.units; show A1.units + 3 + 20 * d + 200 < cLine; omega
        have C' : CxOk ⟨prog, w, A1.deeper env, h₀, K, ⟨methsOf, fldOf⟩, Φ⟩ :=
          ⟨B, (hΦ _ hR).fn, Rh, by have := hR.units; show (A1.deeper env).units + 65 < cLine; omega⟩
        obtain ⟨p0, p1, ap, p2, kk, p3, p, pos, hbd, hline⟩ := D.hprec
        subst hbd
        · have hone : True := trivial
          · have htwo : True := trivial
            refine gI fun Gz gz => ?_
            obtain ⟨mg, mb, hg, hb', hmg, hmb⟩ := hsup
            obtain ⟨ka, kb, kc, kvs, kfile, ktf, hcode', hvs, hfile⟩ := PA.code
            obtain ⟨cd, hcd⟩ := PA.cls
            obtain ⟨oD, hD1, hD2⟩ : ∃ oD, h2.get? 358 = some oD ∧ oD.data = .cls cd := by
              unfold clsIn at hcd
              split at hcd
              · rename_i q1 q2 q3 q4 ho
                cases hcd
                exact ⟨_, X2 _ _ ho, rfl⟩
              · cases hcd
            have hxi : ∃ dx, h2.get? xo = some (instObj 358 dx) := by
              obtain ⟨_, q, gx⟩ := V2.obj_inv
              cases q
              have hm : (mem ++ [MObj.sdict [], .inst 358 mem.length])[mem.length + 1]? = some (.inst 358 mem.length) := by
                rw [List.getElem?_append_right (Nat.le_succ _)]; simp
              obtain ⟨dx, _, q⟩ := W2.rep _ _ _ gx hm
              exact ⟨dx, q⟩
            obtain ⟨dx, hx2⟩ := hxi
            have hself : ar.arg = "self" := D.har
            refine gz ?_
            refine ks_wpAt_execs_cons (ks_wpAt_Expr_any ?_ (by unfold interactive; rw [show env.scope.kind = .function from D.hkind]; rfl) rfl)
            show _root_.PySem.wpAt (model prog w) (A1.deeper env) _ (do
              let ov ← attributeBase (.Call (.Name "super" p0) [] [] p1) "__init__" env (eval (.Call (.Name "super" p0) [] [] p1) env)
              standAt ap.atName
              methodCall (.Call (.Name "super" p0) [] [] p1) "__init__" ap p env ov 2 (backTo p (starEach [.Name "row" p2, .Constant (.str "values") kk p3] env)) (backToKw p (keywordEach [] env))) _ _ _
            refine _root_.PySem.wpAt_bind (ks_wpAt_super_base (env := env) (f := 320) (cc := 319) D.hsuper D.hclass (by decide) rfl (X2 _ _ D.hK) rfl D.hhead D.hcode (X2 _ _ hcode') rfl hvs hfile PA.top ?_)
            refine ks_loadName_global D.hkind D.hsuper (loadGlobal_builtin (by rw [show env.globals = mainGlobals from D.hgl]; exact hg.keeps W2.base) hmg (by rw [show env.builtins = builtinsNs from D.hbt]; exact hb'.keeps W2.base) hmb ⟨rfl, ?_⟩)
            refine wpAny_loadName_free D.hkind D.hclass (show List.lookup _ fd.closure = some 308 by rw [D.hclo]; rfl) ⟨_, X2 _ _ hcell, rfl⟩ ?_
            rw [hself]
            refine wpAny_loadName_local D.hkind (D.hloc _ (by simp)) hns (show _ = some (Value.ref xo) by kernel_rfl) ?_
            refine ks_wpAny_isType_cls hD1 hD2 ⟨rfl, ?_⟩
            refine ks_wpAny_call_super hD1 hD2 hx2 rfl (fun c q => by cases q) (looks_mroIn X2 PA.sub) fun h3 e3 k3 => ?_
            have S23 := Step.of_keeps (ρ := ρ1) k3
            have W3 := W2.keeps k3
            have X3 : K.In h3 := fun a o e => k3 _ _ (X2 a o e)
            refine _root_.PySem.wpAt_of_wpAny (wpAny_bind (wpAny_standAt ?_))
            unfold methodCall
            have few : methodCallForm 2 (backTo p (starEach [.Name "row" p2, .Constant (.str "values") kk p3] env)) (backToKw p (keywordEach [] env)) = true := rfl
            rw [few]
            have hpos : methodCallPos true (.Call (.Name "super" p0) [] [] p1) env ap p = pure p := by unfold methodCallPos; simp [hline]
            rw [hpos]
            refine wpAny_bind (wpAny_holding ?_)
            show wpAny _ _ (getMethod (.ref h2.objs.size) "__init__" _) _ _ _
            obtain ⟨of, hof, hofc⟩ : ∃ of, h3.get? 276 = some of ∧ of.cls = .type "function" := by
              have ht' : (K.lookup 276).map (·.cls) = some (.type "function") := PA.ty276
              cases z : K.lookup 276 with
              | none => rw [z] at ht'; cases ht'
              | some of => rw [z] at ht'; exact ⟨of, X3 _ _ z, Option.some.inj ht'⟩
            have halong : alongIn K "__init__" ((cd.mro.dropWhile (· != .ref 358)).drop 1) = some (some (.ref 276)) := by
              have := PA.sup
              unfold ks_superIn at this
              rw [hcd] at this; exact this
            have hxC : xo ≠ 358 := fun q => by
              rw [q, hD1] at hx2
              cases hx2; cases hD2
            refine ks_wpAny_getMethod_super e3 (looks_opaque X3 PA.any) (l₀ := cd.mro) (fun A Q E s k q => wpAny_bind ((looks_clsIn X3 hcd) A _ E s k (wpAny_pure q))) rfl X3 halong hof hofc hxC (by decide) ?_
            refine wpAny_bind (wpAny_pure ?_)
            have k34 : ∀ b o, h3.get? b = some o → (h3.push { cls := .type "method", data := .fields #[.ref 276, .ref xo] }).get? b = some o := fun b o e => Heap.get?_push_of_some _ e
            have S34 := Step.of_keeps (ρ := ρ1) k34
            have W4 := W3.keeps k34
            have hq4 : (h3.push { cls := .type "method", data := .fields #[.ref 276, .ref xo] }).get? h3.objs.size = some { cls := .type "method", dict := none, data := .fields #[.ref 276, .ref xo], slots := #[] } := Heap.get?_push_at rfl rfl
            have F4 := (Fr2.step W2 S23).step W3 S34
            have C' : CxOk ⟨prog, w, A1.deeper env, h₀, K, ⟨methsOf, fldOf⟩, Φ⟩ := C'
            have hes : compEs precNames [.Name "row" p2, .Constant (.str "values") kk p3] = some [.var 3, .str "values"] := by kernel_rfl
            have eev : evs (⟨methsOf, fldOf⟩ : Methods) Φ [some (.obj (mem.length + 1)), some aS, some aT, some aR] [.var 3, .str "values"] (mem ++ [.sdict [], .inst 358 mem.length]) = some ([aR, .str "values"], mem ++ [.sdict [], .inst 358 mem.length]) := rfl
            refine callWith_of (P := MethP K h3.objs.size 276 (.ref xo)) rfl (keeps_M PA.fn276) ?_
            refine args_sound (c := ⟨prog, w, A1.deeper env, h₀, K, ⟨methsOf, fldOf⟩, Φ⟩) C' p (fun x _ => sndE C' x) hes eev W4 F4 fun ws ρ5 h5 tk5 W5 S5 V5 => ⟨⟨?_, fun a o e => W5.base _ _ (B.inK a o e)⟩, ?_⟩
            · refine S5.keep _ _ (fun m => ?_) hq4
              obtain ⟨ob, e⟩ := W3.live m
              exact Nat.lt_irrefl _ (Heap.lt_size e)
            · have hq5 : h5.get? h3.objs.size = some { cls := .type "method", dict := none, data := .fields #[.ref 276, .ref xo], slots := #[] } := by
                refine S5.keep _ _ (fun m => ?_) hq4
                obtain ⟨ob, e⟩ := W3.live m
                exact Nat.lt_irrefl _ (Heap.lt_size e)
              have S25 : Step ρ1 ρ5 h2 h5 := (S23.trans S34).trans S5
              refine wpAny_call (ks_codeAny_call_bound hq5 ?_)
              refine hΦ _ hR 276 _ _ _ _ e1 ρ5 _ (.ref xo :: ws) _ W5 (.cons (V2.step W2 S25) V5) fun v ρ6 h6 tk6 W6 S6 V6 => ?_
              have S26 : Step ρ1 ρ6 h2 h6 := S25.trans S6
              have F6 := Fr2.step W2 S26
              refine _root_.PySem.wpAt_of_wpAny (sndL C' _ precNames precTail D.htail _ m1 _ vE _ e2 ρ6 env _ _ _ W6 F6 fun ρ7 h7 tk7 f W7 S7 F7 ok => ?_)
              have S06 : Step ρ ρ6 s.heap h6 := S02.trans S26
              have nL : s.heap.get? h1.objs.size = none := by
                cases q : s.heap.get? h1.objs.size with
                | none => rfl
                | some o =>
                  have hn : h1.objs.size ∉ ρ := fun m => hLρ (by
                    obtain ⟨ee, he⟩ := S1.ext
                    rw [he]; exact List.mem_append_left _ m)
                  rw [S1.keep _ _ hn q] at hLnone; cases hLnone
              have S07 : Step ρ ρ7 s.heap h7 := (((StepO.of (O := Own precNames env) W S06).trans S7).drop (O := fun _ => False) fun b q => by
                rcases q with q | ⟨y, q1, q2⟩
                · exact .inr (q ▸ nL)
                · obtain ⟨h, _⟩ := four _ _ q1
                  cases h).step
              cases f with
              | next =>
                refine ⟨rfl, k (.ref xo) ρ7 h7 tk7 W7 S07 (.obj ?_)⟩
                obtain ⟨ee, he⟩ := S7.ext
                have g6 := S26.get g1
                rw [he, List.getElem?_append_left (List.getElem?_eq_some_iff.mp g6).1]; exact g6
              | _ => exact ok.elim
    · cases e
  · cases e
end
end Mine
end

section
open PySem PySem.Spec PySem.Calls PyProof.Rows PySem.W
set_option linter.unusedVariables false
set_option autoImplicit false
set_option maxRecDepth 100000
namespace Mine

structure Stat (prog : Program) (K : Frag) : Prop where
  funs : ∀ f i, fnsAll f = some i → FunAt K f i
  prec : PrecAt prog K
  mks : makesIn K 258 = true
  init : findIn K (.ref 258) "__init__" = some (some (.ref 122))
  ty : typeIn K (.ref 122) = some (.type "function")

theorem callN_sound {prog : Program} {w : World} {K : Frag} {h₀ : Heap} (B : Base K prg.meths h₀) (hsup : ∃ mg mb, h₀.Ns mainGlobals mg ∧ h₀.Ns builtinsNs mb ∧ mg "super" = none ∧ mb "super" = some (.type "super")) (S : Stat prog K) :
    ∀ (d : Nat) (A : Around), Room A d → FunOkC ⟨prog, w, A, h₀, K, prg.meths, callN prg d⟩
  | 0, A, R => fun f args mem r mem' e => noS e
  | d + 1, A, R => by
    have ih : ∀ A', Room A' d → FunOkC ⟨prog, w, A', h₀, K, prg.meths, callN prg d⟩ := fun A' R' => callN_sound B hsup S d A' R'
    intro f args mem r mem' e ρ s vs Rs W x k
    have e : callN prg (d + 1) f args mem = some (r, mem') := e
    rw [cn_succ] at e
    split at e
    · rename_i i hi
      obtain ⟨vars, e1, e⟩ := bI e
      obtain ⟨⟨fl, vE, m1⟩, e2, e⟩ := bI e
      dsimp only at e
      have Fn := S.funs f i hi
      split at e
      · exact fun_call B Fn R (fun A' R' => (ih A' R').fn) e1 e2 (.inl ⟨rfl, rfl⟩) e W x k
      · exact fun_call B Fn R (fun A' R' => (ih A' R').fn) e1 e2 (.inr rfl) e W x k
      · cases e
    · split at e
      · rename_i g hg
        obtain ⟨⟨r1, m1⟩, e1, e⟩ := bI e
        dsimp only at e
        split at e
        · rename_i hr
          subst hr
          cases e
          have hg : initsAll f = some g := hg
          unfold initsAll at hg
          by_cases hf : f = 258
          · subst hf
            rw [if_pos rfl] at hg
            cases hg
            exact own_class B R ih S.mks S.init S.ty e1 W x k
          · rw [if_neg hf] at hg
            cases hg
        · cases e
      · split at e
        · rename_i g hg
          have hg : (if f = 358 then some primPrecede else Option.none) = some g := hg
          split at hg
          · rename_i hf
            subst hf
            cases hg
            exact precede_call B hsup S.prec R ih e W x k
          · cases hg
        · cases e

theorem funAt_of {K : Frag} {f : Addr} {mode : Nat} {d : Option (Arguments × List Stmt × Scope)} {i : FnInfo} (h : fnInfo mode d = some i) (hK : (K.lookup f).bind lookFn = wantFn d) (hc : codeB K f = true) : FunAt K f i := by
  unfold codeB at hc
  split at hc
  · rename_i oc od fd osl hl
    cases d with
    | none => simp [fnInfo] at h
    | some d =>
      obtain ⟨args, body, sc⟩ := d
      rw [hl] at hK
      simp only [Option.bind_some, lookFn, wantFn, Option.some.injEq, Prod.mk.injEq] at hK
      obtain ⟨h1, h2, h3, h4, h5, h6, h7⟩ := hK
      have hm : i.mode = mode := by
        unfold fnInfo at h
        obtain ⟨⟨pa, bo, sc'⟩, q0, h⟩ := bI h
        dsimp only at h
        split at h
        · obtain ⟨ps, _, h⟩ := bI h
          obtain ⟨b, _, h⟩ := bI h
          cases h; rfl
        · cases h
      exact ⟨oc, od, osl, fd, body, hl, h2, by rw [hm, h1, h3]; exact h, h4, h5, h6, h7, hc⟩
  · cases hc

theorem funs_of {K : Frag} (h1 : ∀ p ∈ fnDefs, (K.lookup p.1).bind lookFn = wantFn p.2.2) (h2 : (fnDefs.all fun p => codeB K p.1) = true) : ∀ f i, fnsAll f = some i → FunAt K f i := by
  intro f i h
  unfold fnsAll at h
  obtain ⟨p, hp, h'⟩ := bI h
  have hm := List.mem_of_find?_eq_some hp
  have he := List.find?_some hp
  obtain rfl : p.1 = f := beq_iff_eq.mp he
  exact funAt_of h' (h1 p hm) (List.all_eq_true.mp h2 p hm)

noncomputable def precCheck (d : Option (Arguments × List Stmt × Scope)) : Bool := match d with
  | some (a, b, s) => plainArgs a && decide (a.args.map (·.arg) = (["self", "s", "t", "row"] : List Str)) && decide (s.kind = .function) && !s.isGenerator && !s.isCoroutine && (s.names.all fun p => !(p.2 == .cell)) &&
    decide (s.names.lookup ("self" : Str) = some .local) && decide (s.names.lookup ("s" : Str) = some .local) && decide (s.names.lookup ("t" : Str) = some .local) && decide (s.names.lookup ("row" : Str) = some .local) &&
    decide (s.names.lookup ("super" : Str) = some .globalImplicit) && decide (s.names.lookup ("__class__" : Str) = some .free)
  | none => false
theorem prec_check : precCheck precDef = true := by kernel_rfl
theorem prec_comp : (precDef.bind fun d => compSs precNames d.2.1.tail) = some precTail := by kernel_rfl
theorem prec_first : ∃ p0 p1 ap p2 kk p3 p pos, (precDef.bind fun d => d.2.1.head?) = some (.Expr (.Call (.Attribute (.Call (.Name "super" p0) [] [] p1) "__init__" ap) [.Name "row" p2, .Constant (.str "values") kk p3] [] p) pos) ∧ ap.endLine = p.line :=
  ⟨_, _, _, _, _, _, _, _, rfl, rfl⟩
theorem prec_fd {K : Frag} (h1 : (K.lookup 320).bind lookFn = wantPrec precDef) (h2 : (K.lookup 320).bind (fun o => match o.data with | .func fd => some fd.code | _ => none) = some (.ref 319)) (h3 : codeB K 320 = true) :
    ∃ oc od osl fd body tail ar, PrecFd K oc od osl fd body tail ar := by
  unfold codeB at h3
  split at h3
  · rename_i oc od fd osl hl
    have hc := prec_check
    have hcomp := prec_comp
    cases hd : precDef with
    | none => rw [hd] at hc; cases hc
    | some d =>
      obtain ⟨args, body, sc⟩ := d
      rw [hd] at h1 hc hcomp
      rw [hl] at h1 h2
      simp only [Option.bind_some, lookFn, wantPrec, Option.some.injEq, Prod.mk.injEq] at h1 h2
      obtain ⟨q1, q2, q3, q4, q5, q6, q7⟩ := h1
      simp only [precCheck, Bool.and_eq_true, decide_eq_true_eq, Bool.not_eq_true'] at hc
      obtain ⟨⟨⟨⟨⟨⟨⟨⟨⟨⟨⟨c1, c2⟩, c3⟩, c4⟩, c5⟩, c6⟩, c7⟩, c8⟩, c9⟩, c10⟩, c11⟩, c12⟩ := hc
      obtain ⟨p0, p1, ap, p2, kk, p3, p, pos, hfirst, hline⟩ := prec_first
      rw [hd] at hfirst
      have hfirst : body.head? = some _ := hfirst
      obtain ⟨tail, hbd⟩ := List.head?_eq_some_iff.mp hfirst
      have t1 : IsPrec body tail := ⟨p0, p1, ap, p2, kk, p3, p, pos, hbd, hline⟩
      have t2 : compSs precNames tail = some precTail := by
        have : compSs precNames body.tail = some precTail := hcomp
        rw [hbd] at this; exact this
      subst q1 q3
      have hhead : ∃ ar, (fd.params.posonlyargs ++ fd.params.args).head? = some ar ∧ ar.arg = ("self" : Str) := by
        have hpos : fd.params.posonlyargs = [] := by
          unfold plainArgs at c1
          simp only [Bool.and_eq_true, List.isEmpty_iff] at c1
          exact c1.1.1.1
        rw [hpos, List.nil_append]
        cases hq : fd.params.args with
        | nil => rw [hq] at c2; cases c2
        | cons ar r =>
          rw [hq, List.map_cons] at c2
          exact ⟨ar, rfl, (List.cons.inj c2).1⟩
      obtain ⟨ar, r1, r2⟩ := hhead
      refine ⟨oc, od, osl, fd, body, tail, ar, hl, q2, t1, t2, q4, q5, q6, q7, h2, h3, c1, c2, r1, r2, c3, c4, c5, c6, fun x hx => ?_, c11, c12⟩
      simp only [List.mem_cons, List.not_mem_nil, or_false] at hx
      rcases hx with rfl | rfl | rfl | rfl
      · exact c7
      · exact c8
      · exact c9
      · exact c10
  · cases h3
section
variable {K : Frag} (h : obsK K = valK)
include h
theorem bools_of : (fnDefs.all fun p => codeB K p.1) = true ∧ codeB K 320 = true ∧ (cs.all fun C => (clsIn K C).any (·.hasDict)) = true ∧ (cs.all fun C => plainOver K C) = true ∧ makesIn K 258 = true ∧ makesIn K 358 = true ∧ cellB K = true ∧ fileB PySem.Challenge.pw_no0306_01 K = true ∧ (clsIn K 358).isSome = true ∧
    fnIn K 276 = true ∧ globals.all (nsB K) = true ∧ (globals.all fun p => keepIn K (.ref p.2)) = true ∧ builtinNames.all (nsNone K) = true ∧ (methList.all fun p => keepIn K (.ref p.2.2)) = true := by
  have b : _ = true := congrArg Seen.bools h
  simp only [obsK, Bool.and_eq_true] at b
  exact b
theorem ga_of : ∀ C ∈ cs, findIn K (.ref C) "__getattribute__" = some (some (.builtin "object.__getattribute__")) := List.map_inj_left.mp (show cs.map (fun C => findIn K (.ref C) "__getattribute__") = cs.map (fun _ => some (some (.builtin "object.__getattribute__"))) from congrArg Seen.ga h)
theorem gk_of : ∀ C ∈ cs, findIn K (.ref C) "__getattr__" = some none := List.map_inj_left.mp (show cs.map (fun C => findIn K (.ref C) "__getattr__") = cs.map (fun _ => some none) from congrArg Seen.gk h)
theorem sa_of : ∀ C ∈ cs, findIn K (.ref C) "__setattr__" = some (some (.builtin "object.__setattr__")) := List.map_inj_left.mp (show cs.map (fun C => findIn K (.ref C) "__setattr__") = cs.map (fun _ => some (some (.builtin "object.__setattr__"))) from congrArg Seen.sa h)
theorem fld_of : ∀ p ∈ fldList, findIn K (.ref p.1) p.2.str = some none := List.map_inj_left.mp (show fldList.map (fun p => findIn K (.ref p.1) p.2.str) = fldList.map (fun _ => some none) from congrArg Seen.fld h)
theorem me_of : ∀ p ∈ methList, findIn K (.ref p.1) p.2.1.str = some (some (.ref p.2.2)) := List.map_inj_left.mp (show methList.map (fun p => findIn K (.ref p.1) p.2.1.str) = methList.map (fun p => some (some (.ref p.2.2))) from congrArg Seen.me h)
theorem meT_of : ∀ p ∈ methList, typeIn K (.ref p.2.2) = some (.type "function") := List.map_inj_left.mp (show methList.map (fun p => typeIn K (.ref p.2.2)) = methList.map (fun _ => some (.type "function")) from congrArg Seen.meT h)
theorem ty_of : ∀ a ∈ tys, typeIn K (.ref a) = some (.type "function") := List.map_inj_left.mp (show tys.map (fun a => typeIn K (.ref a)) = tys.map (fun _ => some (.type "function")) from congrArg Seen.ty h)
theorem ns_of : ∀ p ∈ noNames, nsIn K p.1 p.2 = some none := List.map_inj_left.mp (show noNames.map (fun p => nsIn K p.1 p.2) = noNames.map (fun _ => some none) from congrArg Seen.ns h)
theorem fns_of : ∀ p ∈ fnDefs, (K.lookup p.1).bind lookFn = wantFn p.2.2 := List.map_inj_left.mp (show fnDefs.map (fun p => (K.lookup p.1).bind lookFn) = fnDefs.map (fun p => wantFn p.2.2) from congrArg Seen.fns h)
theorem ini_of : findIn K (.ref 258) "__init__" = some (some (.ref 122)) ∧ findIn K (.ref 358) "__init__" = some (some (.ref 320)) ∧ ks_superIn K 358 358 "__init__" = some (some (.ref 276)) := by
  have i : [findIn K (.ref 258) "__init__", findIn K (.ref 358) "__init__", ks_superIn K 358 358 "__init__"] = [some (some (.ref 122)), some (some (.ref 320)), some (some (.ref 276))] := congrArg Seen.ini h
  simpa only [List.cons.injEq, and_true] using i
theorem cls_of {C : Addr} (hC : C ∈ cs) : ClsOk K C := by
  obtain ⟨b1, b2, b3, b4, _⟩ := bools_of h
  exact ⟨ga_of h C hC, gk_of h C hC, List.all_eq_true.mp b3 C hC, sa_of h C hC, List.all_eq_true.mp b4 C hC⟩
omit h in
theorem meth_mem {C : Addr} {n : Nm} {f : Addr} (e : methsOf C n = some f) : (C, n, f) ∈ methList := by
  unfold methsOf at e
  obtain ⟨p, hp, rfl⟩ := Option.map_eq_some_iff.mp e
  have hm := List.mem_of_find?_eq_some hp
  have he := List.find?_some hp
  obtain ⟨h1, h2⟩ := Bool.and_eq_true_iff.mp he
  rw [← beq_iff_eq.mp h1, ← beq_iff_eq.mp h2]
  exact hm
omit h in
theorem meth_cls : (methList.all fun p => decide (p.1 ∈ cs)) = true ∧ (fldList.all fun p => decide (p.1 ∈ cs)) = true := by decide +kernel
theorem sta_of : StaOk K prg.meths := by
  constructor
  · intro C n e
    have e : fldOf C n = true := e
    unfold fldOf at e
    obtain ⟨p, hp, he⟩ := List.any_eq_true.mp e
    obtain ⟨h1, h2⟩ := Bool.and_eq_true_iff.mp he
    rw [← beq_iff_eq.mp h1, ← beq_iff_eq.mp h2]
    exact ⟨cls_of h (of_decide_eq_true (List.all_eq_true.mp meth_cls.2 p hp)), fld_of h p hp⟩
  · intro C n f e
    have hm := meth_mem e
    exact ⟨cls_of h (of_decide_eq_true (List.all_eq_true.mp meth_cls.1 _ hm)), me_of h _ hm, meT_of h _ hm⟩
theorem prec_of : PrecAt PySem.Challenge.pw_no0306_01 K := by
  obtain ⟨b1, b2, b3, b4, b5, b6, b7, b8, b9, b10, b11, b12, b13, b14⟩ := bools_of h
  refine ⟨b6, (ini_of h).2.1, ty_of h 320 (by decide), prec_fd (congrArg Seen.prec h) (congrArg Seen.code h) b2, ?_, ?_, by kernel_rfl, Option.isSome_iff_exists.mp b9, congrArg Seen.mro h, ns_of h (cStatics, "thirdparty.any") (by simp [noNames]),
    (ini_of h).2.2, b10, ty_of h 276 (by decide)⟩
  · unfold cellB at b7
    split at b7
    · rename_i a b x c q
      have := beq_iff_eq.mp b7
      subst this
      exact ⟨a, b, c, q⟩
    · cases b7
  · unfold fileB at b8
    split at b8
    · rename_i a b vs c q
      split at b8
      · rename_i file tf hv
        exact ⟨a, b, c, vs, file, tf, q, hv, b8⟩
      · cases b8
    · cases b8
theorem stat_of : Stat PySem.Challenge.pw_no0306_01 K :=
  ⟨funs_of (fns_of h) (bools_of h).1, prec_of h, (bools_of h).2.2.2.2.1, (ini_of h).1, ty_of h 122 (by decide)⟩
theorem none_of {a : Addr} {x : Str} (hm : (a, x) ∈ noNames) : nsIn K a x = some none := ns_of h (a, x) hm
theorem law_of : ((K.lookup 430).bind lookFn) = wantFn (defIn "law" mainBody) ∧ codeB K 430 = true := by
  have hm : (430, 0, defIn "law" mainBody) ∈ fnDefs := by unfold fnDefs; simp
  exact ⟨fns_of h _ hm, List.all_eq_true.mp (bools_of h).1 _ hm⟩
theorem base_of {p : Program} {loose : List Str} {mean : ExcName → Option Value} {mg mb : Str → Option Value} {hp : Heap} (T : Top p loose mean mg mb hp) (KX : K.In hp) :
    Base K prg.meths hp ∧ ∃ mg mb, hp.Ns mainGlobals mg ∧ hp.Ns builtinsNs mb ∧ mg "super" = none ∧ mb "super" = some (.type "super") := by
  obtain ⟨b1, b2, b3, b4, b5, b6, b7, b8, b9, b10, hns, hkeep, hnone, hkm⟩ := bools_of h
  refine ⟨⟨KX, T.nolimit, sta_of h, ⟨mg, mb, T.g, T.b, fun x a e => ?_, fun x b e => ⟨?_, ?_⟩, ⟨mg_none_of KX T.g (none_of h (by simp [noNames])), (T.builtins _ (by decide +kernel)).trans (by decide +kernel)⟩, mg_none_of KX T.g (none_of h (by simp [noNames])), (T.builtins _ (by decide +kernel)).trans (by decide +kernel)⟩, fun x a e => ?_, fun C n f e => ?_⟩,
    mg, mb, T.g, T.b, mg_none_of KX T.g (none_of h (by simp [noNames])), (T.builtins _ (by decide +kernel)).trans (by decide +kernel)⟩
  · have := List.all_eq_true.mp hns _ (mem_of_lookup e)
    unfold nsB at this
    split at this
    · rename_i b hb
      have := beq_iff_eq.mp this
      subst this
      exact mg_of KX T.g hb
    · cases this
  · have := List.all_eq_true.mp hnone _ (mem_of_lookup e)
    unfold nsNone at this
    split at this
    · rename_i hb
      exact mg_none_of KX T.g hb
    · cases this
  · have := mem_of_lookup e
    simp only [builtinNames, List.mem_cons, List.not_mem_nil, or_false, Prod.mk.injEq] at this
    rcases this with ⟨rfl, rfl⟩ | ⟨rfl, rfl⟩ | ⟨rfl, rfl⟩ | ⟨rfl, rfl⟩ | ⟨rfl, rfl⟩ | ⟨rfl, rfl⟩ | ⟨rfl, rfl⟩ | ⟨rfl, rfl⟩ | ⟨rfl, rfl⟩ <;> exact (T.builtins _ (by decide +kernel)).trans (by decide +kernel)
  · exact List.all_eq_true.mp hkeep _ (mem_of_lookup e)
  · exact List.all_eq_true.mp hkm _ (meth_mem e)
end
end Mine
end

section
open PySem PySem.Spec PySem.Calls PyProof.Rows PySem.W
set_option linter.unusedVariables false
set_option autoImplicit false
set_option maxRecDepth 100000
namespace Mine

noncomputable def lawDef : Option (Arguments × List Stmt × Scope) := defIn "law" mainBody
noncomputable def lawRest : List LS := ((lawDef.bind fun d => compSs d.2.2.names d.2.1.tail)).getD []
noncomputable def lawSize : Nat := (lawDef.map fun d => d.2.2.names.length).getD 0
noncomputable def lawVars : Vars := (List.replicate lawSize Option.none).set 1 (some (.obj 1))
noncomputable def LawOk (nums : List Int) : Prop := ∃ vE mem', exs prg.meths (callN prg 19) lawRest lawVars [.list ((nums.take 9).map .int), .list ((nums.take 9).map .int)] = some (.ret (.bool true), vE, mem')

noncomputable def lawCheck (d : Option (Arguments × List Stmt × Scope)) : Bool := match d with
  | some (a, b, s) => defOk a s && decide (a.args.map (·.arg) = (["script"] : List Str)) && decide (slotW s.names ("cells" : Str) = some 1) && decide (s.names.lookup ("script" : Str) = some .local) && isGlobal s.names ("list" : Str) &&
    (compSs s.names b.tail).isSome
  | none => false
theorem law_first : ∃ p1 p2 p3 k p4 p5 p6 p7 p8, (lawDef.bind fun d => d.2.1.head?) = some (.Assign [.Name "cells" p1] (.Call (.Name "list" p2) [.Subscript (.Name "script" p3) (.Slice none (some (.Constant (.int 9) k p4)) none p5) p6] [] p7) p8) :=
  ⟨_, _, _, _, _, _, _, _, _, rfl⟩
theorem law_check : lawCheck lawDef = true := by kernel_rfl
theorem slice_list {prog : Program} {w : World} {A : Around} {E : Value → Shared → Prop} {s : Shared} {value slice : PySem.Expr} {ad sl : Addr} {vs : List Value} {n i : Nat} {t : Tok} {Q : Value → Shared → Prop} (g : s.heap.get? ad = some (listOb vs n)) (hl : vs.length ≤ 1000000)
    (hsl : s.heap.IsSliceOf sl .none (.int (i : Int) t) .none) (k : Q (.ref s.heap.objs.size) { s with heap := s.heap.push (listOb (vs.take i) 0) }) (hs : ∀ o i, ∃ ops, subscripted slice false o i = operate ops (getItem o i)) :
    wpAny (model prog w) A (subscriptTail value slice (.ref ad) (.ref sl)) Q E s := by
  have hb := sizeLine_big
  obtain ⟨ops, hops⟩ := hs (.ref ad) (.ref sl)
  refine tail_any (T := "list") ⟨_, g, rfl⟩ slot_list_getitem.lookup ?_ hops
  refine wpAny_getItem_list_slice ⟨_, g, rfl, _, rfl⟩ hsl (Bd.part .none) (Bd.part (.int i t)) .none (by simp) ?_ (by rw [List.size_toArray]; omega)
  rw [slicePick_plain]
  have p2 : (Option.map (fun (i : Nat) => (i : Int)) (some i)).elim vs.toArray.size (clipAt vs.toArray.size) = min i vs.length := by
    simp only [Option.map_some, Option.elim, clipAt_nat, List.size_toArray]
  have e : (List.take (min i vs.length) vs).drop 0 = vs.take i := by
    rw [List.drop_zero]
    by_cases h : i ≤ vs.length
    · rw [Nat.min_eq_left h]
    · rw [Nat.min_eq_right (by omega), List.take_length, List.take_of_length_le (by omega)]
  rw [p2, ← List.drop_take]
  have : (List.take (min i vs.length) vs.toArray.toList).drop ((Option.map (fun (i : Nat) => (i : Int)) none).elim 0 (clipAt vs.toArray.size)) = vs.take i := e
  rw [this]
  exact k

theorem bind_one {M : Model} {A : Around} {E : Value → Shared → Prop} {s : Shared} {env : Env} {x : Str} {v : Value} {m : Str → Option Value} {Q : Env → Shared → Prop} (hk : env.kindOf x = some .local) (hn : s.heap.Ns env.locals m) (hp : env.scope.kind = .function)
    (k : ∀ h', h'.Ns env.locals (fun y => if y = x then some v else m y) → Heap.SameBut env.locals s.heap h' → Q env { s with heap := h', toks := s.toks + 1 }) :
    wpAny M A (forIn [(x, v)] (PUnit.unit) (fun (p : Str × Value) (_ : PUnit) => (do storeName env p.1 p.2; pure (ForInStep.yield PUnit.unit) : Sem (ForInStep PUnit))) >>= fun _ => pure env) Q E s := by
  rw [List.forIn_cons, bind_assoc]
  refine wpAny_bind (wpAny_bind (wpAny_storeName_local hk hn (fun h1 hn1 hsb => wpAny_pure ?_) (by rw [hp]; rfl)))
  exact wpAny_bind (wpAny_pure (wpAny_pure (k h1 hn1 hsb)))

theorem law_entry {prog : Program} {w : World} {K : Frag} {s : Shared} {A : Around} (B : Base K prg.meths s.heap) (hsup : ∃ mg mb, s.heap.Ns mainGlobals mg ∧ s.heap.Ns builtinsNs mb ∧ mg "super" = none ∧ mb "super" = some (.type "super")) (S : Stat prog K)
    (hK : (K.lookup 430).bind lookFn = wantFn lawDef) (hc : codeB K 430 = true) {la : Addr} {vs : List Value} {nums : List Int} (g : s.heap.get? la = some (listOb vs 0)) (hi : IntsAre vs nums) (hlen : nums.length ≤ 63) (R : Room A 20) (spec : LawOk nums)
    {Q : Value → Shared → Prop} {E : Value → Shared → Prop} (k : ∀ h' tk', (∀ b o, s.heap.get? b = some o → h'.get? b = some o) → Q (.bool true) { s with heap := h', toks := tk' }) :
    wpAny (model prog w) A (call (.ref 430) [.ref la]) Q E s := by
  unfold codeB at hc
  split at hc
  · rename_i oc od fd osl hl
    have hck := law_check
    obtain ⟨vE, memE, hspec⟩ := spec
    cases hd : lawDef with
    | none => rw [hd] at hck; cases hck
    | some d =>
      obtain ⟨args, body, sc⟩ := d
      rw [hl, hd] at hK
      rw [hd] at hck
      simp only [Option.bind_some, lookFn, wantFn, Option.some.injEq, Prod.mk.injEq] at hK
      obtain ⟨q1, q2, q3, q4, q5, q6, q7⟩ := hK
      subst q1 q3
      simp only [lawCheck, Bool.and_eq_true, decide_eq_true_eq] at hck
      obtain ⟨⟨⟨⟨⟨c1, c2⟩, c3⟩, c4⟩, c5⟩, c6⟩ := hck
      unfold defOk at c1
      simp only [Bool.and_eq_true, Bool.not_eq_true', decide_eq_true_eq] at c1
      obtain ⟨⟨⟨⟨⟨hpl, hsc⟩, hgen⟩, hco⟩, hfree⟩, hnd⟩ := c1
      unfold scopeOk at hsc
      obtain ⟨hkind, hdis⟩ := Bool.and_eq_true_iff.mp hsc
      have hkind := of_decide_eq_true hkind
      have X : K.In s.heap := B.inK
      have W0 : Wd s.heap [] [] s.heap := ⟨rfl, .nil, fun i a o e => by simp at e, fun _ _ e => e, fun a m => nomatch m⟩
      have hargs : fd.params.args.length = [Value.ref la].length := by
        have := congrArg List.length c2
        simpa using this
      refine wpAny_call (codeAny_call_function (fd := fd) (body := body) (by have := R.depth; omega) (X _ _ hl) rfl hco hgen q2 (codeRec_of X hc) ?_)
      have hb := bind_plain (vals := [Value.ref la]) hpl q7 hargs hnd
      rw [c2] at hb
      rw [hb, q4, q5, q6]
      refine wpAny_pure ?_
      obtain ⟨F0, keeps, ownNew⟩ := fn_frame (cls := .type "frame") (qual := fd.qualname ++ ".<locals>.") (func := some 430) (code := fd.code) W0 hkind hdis hfree
      simp only [newFunctionEnv, Option.isSome_none, Bool.false_eq_true, if_false]
      refine wpAny_bind (wpAny_alloc ?_)
      refine wpAny_bind (wpAny_layCells _ (fun name kind cells => by cases hkc : kind == NameKind.cell <;> simp [hkc]) _ _ _ _ ?_)
      rw [show ({ s with heap := s.heap.push { cls := .type "frame", data := .dict #[] } } : Shared).heap.objs.size = s.heap.objs.size + 1 from Heap.size_push ..]
      let env := newEnv fd.scope s.heap.objs.size mainGlobals (cellsFrom (s.heap.objs.size + 1) fd.scope.names []) (fd.qualname ++ ".<locals>.") (some 430) fd.code none builtinsNs
      have F0 : Fr s.heap fd.scope.names env [] (List.replicate fd.scope.names.length Option.none) (pushCells (s.heap.push { cls := .type "frame", data := .dict #[] }) fd.scope.names) := F0
      have hkof : ∀ x, env.kindOf x = fd.scope.names.lookup x := fun x => rfl
      obtain ⟨m0, hn0, _⟩ := F0.loc
      have noVar : ∀ {i : Nat} {a : AV}, (List.replicate fd.scope.names.length (Option.none : Option AV))[i]? = some (some a) → False := by
        intro i a e
        rw [List.getElem?_replicate] at e
        split at e <;> simp at e
      refine bind_one (s := { s with heap := pushCells (s.heap.push { cls := .type "frame", data := .dict #[] }) fd.scope.names }) (env := env) (hkof _ ▸ c4) hn0 F0.kind fun h1 hn1 hsb => ?_
      have W1 : Wd s.heap [] [] h1 := (W0.keeps keeps).but hsb F0.out.1 F0.out.2 (Heap.Ns.place hn0)
      have k1 : ∀ b o, s.heap.get? b = some o → h1.get? b = some o := W1.base
      have F1 : Fr s.heap fd.scope.names env [] (List.replicate fd.scope.names.length Option.none) h1 := by
        refine ⟨F0.kind, F0.glob, F0.blt, F0.kinds, F0.out, ⟨_, hn1, fun x i a e1 e2 e3 => (noVar e3).elim⟩, fun x i kd e1 e2 e3 => ?_, fun x c e => ?_, F0.apart⟩
        · obtain ⟨c, v₀, p1, p2, p3⟩ := F0.cel x i kd e1 e2 e3
          exact ⟨c, v₀, p1, p2.sameBut hsb (fun q => ns_cell hn0 (q ▸ p2)), fun a e => (noVar e).elim⟩
        · obtain ⟨r1, r2, v₀, r3⟩ := F0.cout x c e
          exact ⟨r1, r2, v₀, r3.sameBut hsb (fun q => ns_cell hn0 (q ▸ r3))⟩
      refine ⟨B.nolimit.keeps W1.base, codeAny_func ?_⟩
      have C' : CxOk ⟨prog, w, A.deeper env, s.heap, K, prg.meths, callN prg 19⟩ := by
        have hR : Room (A.deeper env) 19 := by
          refine ⟨?_, ?_, R.handled⟩
          · have := R.depth; show A.depth + 1 + 3 * 19 < recursionLimit; omega
          · have := R.units; show A.units + 3 + 20 * 19 + 200 < cLine; omega
        exact ⟨B, (callN_sound B hsup S 19 _ hR).fn, R.handled, by have := hR.units; show (A.deeper env).units + 65 < cLine; omega⟩
      obtain ⟨lr, hlr⟩ := Option.isSome_iff_exists.mp c6
      have e1 : lawRest = lr := by unfold lawRest; rw [hd]; simp only [Option.bind_some]; rw [hlr]; rfl
      have e2 : lawVars = (List.replicate fd.scope.names.length Option.none).set 1 (some (.obj 1)) := by unfold lawVars lawSize; rw [hd]; rfl
      obtain ⟨p1, p2, p3, kk, p4, p5, p6, p7, p8, hfirst⟩ := law_first
      rw [hd] at hfirst
      have hfirst : body.head? = some _ := hfirst
      obtain ⟨tail, hbody⟩ := List.head?_eq_some_iff.mp hfirst
      subst hbody
      have ht2 : compSs fd.scope.names tail = some lr := hlr
      have hone : True := trivial
      · have htwo : True := trivial
        · have hthree : True := trivial
          obtain ⟨mg, mb, G1, G2, G3, G4, _⟩ := B.g
          refine wpAny_execs_cons (wpAny_Assign_Name ?_ rfl)
          refine Call_ (builtinName_sound (bv := .type "list") W1 F1 c5 (by decide) ⟨mg, mb, G1, G2, (G4 "list" .list (by decide +kernel)).1, (G4 "list" .list (by decide +kernel)).2⟩ ?_)
          refine callWith_of (P := fun _ => True) rfl (call_looks (fun a h => nomatch h)) ?_
          refine evalArgs_plain (spliced_cons ?_)
          refine Subscript_ (wpAny_Name (wpAny_loadName_local F1.kind (by rw [hkof]; exact c4) hn1 (if_pos rfl) ?_))
          have arm : eval (.Slice none (some (.Constant (.int 9) kk p4)) none p5) env = (do
            let l ← valueOrNone (evalOpt none env)
            let u ← holding [l] (valueOrNone (evalOpt (some (.Constant (.int 9) kk p4)) env))
            let s ← holding [l, u] (valueOrNone (evalOpt none env))
            newFields "slice" [l, u, s]) := rfl
          rw [arm]
          refine wpAny_bind (wpAny_pure (wpAny_bind (wpAny_holding ?_)))
          show wpAny _ _ (eval (.Constant (.int 9) kk p4) env) _ _ _
          refine wpAny_Constant_int ?_
          refine wpAny_bind (wpAny_holding (wpAny_pure ?_))
          refine wpAny_newObj_type ?_
          have k12 : ∀ b o, h1.get? b = some o → (h1.push { cls := .type "slice", data := .fields #[.none, .int 9 (s.toks + 1), .none] }).get? b = some o := fun b o e => Heap.get?_push_of_some _ e
          have S12 := Step.of_keeps (ρ := []) k12
          have W2 := W1.keeps k12
          have gl := W2.base _ _ g
          have hvl := hi.length
          refine slice_list (i := 9) (t := s.toks + 1) gl (by omega) ⟨_, Heap.get?_push_size _ rfl, rfl, rfl⟩ ?_ (subscripted_ops _)
          have hv9 : Vals [] (h1.push { cls := .type "slice", data := .fields #[.none, .int 9 (s.toks + 1), .none] }) (vs.take 9) ((nums.take 9).map .int) := by
            have := (ints_vals (ρ := []) (h := h1.push { cls := .type "slice", data := .fields #[.none, .int 9 (s.toks + 1), .none] }) hi).take 9
            rw [List.map_take]; exact this
          obtain ⟨W3, S23, V3⟩ := new_list (s := { s with heap := h1.push { cls := .type "slice", data := .fields #[.none, .int 9 (s.toks + 1), .none] } }) W2 hv9
          refine spliced_nil ⟨trivial, ?_⟩
          have hcb : callB .list [.obj 0] [.list ((nums.take 9).map .int)] = some (.obj 1, [.list ((nums.take 9).map .int), .list ((nums.take 9).map .int)]) := by
            have : szOk ((nums.take 9).map AV.int).length = true := decide_eq_true (by rw [List.length_map, List.length_take]; omega)
            simp only [callB, iterA, itemsA, List.getElem?_cons_zero]
            rw [if_pos this]; rfl
          refine callB_sound (b := .list) hcb W3 (.cons V3 .nil) R.handled fun v ρ4 h4 tk4 W4 S4 V4 => ?_
          have S14 : Step [] ρ4 h1 h4 := (S12.trans S23).trans S4
          have F4 := F1.step W1 S14
          refine store_sound W4 F4 c3 V4 fun h5 tk5 W5 S5 F5 => ?_
          have ht2' : compSs fd.scope.names tail = some lawRest := by rw [e1]; exact ht2
          rw [e2] at hspec
          refine sndL C' tail fd.scope.names lawRest ht2' _ _ _ _ _ hspec ρ4 env _ _ _ W5 F5 fun ρ6 h6 tk6 f W6 S6 F6 ok => ?_
          cases f with
          | ret v =>
            cases ok
            exact k h6 tk6 W6.base
          | _ => exact ok.elim
  · cases hc

theorem well_list {P : Params} {h : Heap} {la : Addr} {l : List PyData} (x : Well P h (.ref la) (ofPy (.list l))) : ∃ vs : List Value, h.get? la = some (listOb vs 0) := by
  simp only [ofPy] at x
  cases x with
  | list g _ => exact ⟨_, g⟩
end Mine
end

section
open PySem PySem.Spec PySem.Calls PyProof.Rows PySem.W
set_option linter.unusedVariables false
set_option autoImplicit false
set_option maxRecDepth 100000
set_option maxHeartbeats 8000000
namespace Mine

theorem look_mem {β : Type} {a : Addr} {o : β} : ∀ {l : List (Addr × β)}, l.lookup a = some o → (a, o) ∈ l
  | [], e => by cases e
  | (b, x) :: l, e => by
    rw [List.lookup_cons] at e
    cases q : (a == b) with
    | true => rw [q] at e; cases e; rw [beq_iff_eq.mp q]; exact List.mem_cons_self
    | false => rw [q] at e; exact List.mem_cons_of_mem _ (look_mem e)
theorem K0_in (h : Heap) : (K0 h).In h := by
  intro a o e
  have hm : (a, o) ∈ K0 h := look_mem e
  unfold K0 at hm
  obtain ⟨b, _, hb⟩ := List.mem_filterMap.mp hm
  obtain ⟨o', ho, e2⟩ := Option.map_eq_some_iff.mp hb
  cases e2
  exact ho
noncomputable def saysL (_ : World) (h : Heap) : Prop := ∃ K : Frag, K.In h ∧ obsK K = valK
theorem left_boot {p q : Program} {loose : List Str} {Xt : Shared → Bool} {α : Type} {Yf : Shared → α} {Ya : World → α} {N : Nat} (e : opening p = plainProg p.main.scope.names) (hN : Nat.ble 600 N = true) (f : ∀ s, fenceModules? p s = some s)
    (h : ∀ w : World, (fun os => (topFrom treeTable p w N ⟨boot_heap w.params, Array.mk [], boot_drawn, boot_toks, os⟩).map fun s => (openSeen q loose (importedModules p.main.body) Xt true s, Yf s)) = fun _ => some (openGood q loose, Ya w)) : LeftO p q loose Xt Yf Ya N := by
  intro w
  obtain ⟨⟨h0, gs, d, k, os⟩, e1, e2⟩ := Option.map_eq_some_iff.mp (boot_open e hN f w)
  simp only [Prod.mk.injEq] at e2
  obtain ⟨rfl, rfl, rfl, rfl⟩ := e2
  unfold openEnds
  rw [e1]
  exact congrFun (h w) os
end Mine
end

section
open PySem PySem.Spec PySem.Calls PyProof.Rows PySem.W
set_option linter.unusedVariables false
set_option autoImplicit false
set_option maxRecDepth 100000
set_option maxHeartbeats 8000000
namespace Mine
theorem left_of (run_ok : ∀ w : World, (fun os => (topFrom treeTable PySem.Challenge.pw_no0306_01 w 5000 ⟨boot_heap w.params, Array.mk [], boot_drawn, boot_toks, os⟩).map fun s => (openSeen lawView looseL (importedModules PySem.Challenge.pw_no0306_01.main.body) XtL true s, obsK (K0 s.heap))) = fun _ => some (openGood lawView looseL, valK)) : LeftO PySem.Challenge.pw_no0306_01 lawView looseL XtL (fun s => obsK (K0 s.heap)) (fun _ => valK) 5000 :=
  left_boot (by kernel_rfl) (by kernel_rfl) (fun _ => rfl) run_ok
theorem lawD_some : (defOf lawView PySem.Challenge.rw_no0306_01.row.name).isSome = true := by kernel_rfl
noncomputable def lawD := (defOf lawView PySem.Challenge.rw_no0306_01.row.name).get lawD_some
theorem lawD_ok : defOf lawView PySem.Challenge.rw_no0306_01.row.name = some (lawD.1, lawD.2) := (Option.some_get lawD_some).symm
theorem hd_of (said_ok' : PySem.Challenge.rw_no0306_01.wellSaid = true) (left : LeftO PySem.Challenge.pw_no0306_01 lawView looseL XtL (fun s => obsK (K0 s.heap)) (fun _ => valK) 5000) (walk : WalkO lawView looseL (XL lawView []) saysL PySem.Challenge.rw_no0306_01.row.toRowW lawD.1 lawD.2 fun f vs => PySem.call f vs) : PySem.Challenge.rw_no0306_01.Holds := by
  refine holds_law said_ok' fun said => ?_
  refine holds_open (r := PySem.Challenge.rw_no0306_01.row) (q := lawView) (loose := looseL) (Xt := XtL) (XP := XL lawView []) (Yf := fun s => obsK (K0 s.heap)) (Ya := fun _ => valK) (YP := saysL) (N := 5000) left (fun w s e => ⟨K0 s.heap, K0_in _, e⟩) (fun w h h' x k => ?_) (fun s e => xl_of s (Bool.and_eq_true_iff.mp e).1) XL.keeps lawD_ok (by kernel_rfl) (by kernel_rfl)
    (fun s e => recFacts_of (Bool.and_eq_true_iff.mp e).2) (by rfl) said (by kernel_rfl) ⟨rfl, rfl, rfl, rfl, rfl, by decide +kernel⟩ ?_ walk
  · obtain ⟨K, h1, h2⟩ := x
    exact ⟨K, fun a o e => k _ _ (h1 a o e), h2⟩
  · w_witness2
end Mine
end

section
open PySem PySem.Spec PySem.Calls PyProof.Rows PySem.W
set_option linter.unusedVariables false
set_option autoImplicit false
set_option maxRecDepth 100000
set_option maxHeartbeats 8000000
namespace Mine
theorem walk_ok (spec : ∀ nums : List Int, nums.length ≤ 63 → LawOk nums) : WalkO lawView looseL (XL lawView []) saysL PySem.Challenge.rw_no0306_01.row.toRowW lawD.1 lawD.2 fun f vs => PySem.call f vs := by
  intro w s₀ s₁ mg mb G Y fa o pm cd doc dV kV ho hdd hcd hD hmg hg args vals as hpre hlay hrd hwl hlo
  obtain ⟨K, KX, hK⟩ := Y
  have X := (Ground.X G).1
  have V := (Ground.X G).2
  try w_nolog (first | (have GL := glob_more (Ground.glob G (by first | k_qdec | decide +kernel)) V) | (have GL := glob_more (Ground.glob G (by decide +kernel)) V))
  refine Ground.open G ?_
  intro T B D TE TW
  wrow_args hpre hlay hrd hwl hlo
  rename_i nums b1 b2 b3 b4 b5 b6 b7 la vs hL b12 wl rd hI b16 hlt b18
  have hfa : mg "law" = some (.ref fa) := hmg
  obtain ⟨Bs, hsup⟩ := base_of hK T KX
  have hns : globals.all (nsB K) = true := (bools_of hK).2.2.2.2.2.2.2.2.2.2.1
  have hfa2 : mg "law" = some (.ref 430) := by
    have := List.all_eq_true.mp hns ("law", 430) (by decide)
    unfold nsB at this
    split at this
    · rename_i b hb
      have := beq_iff_eq.mp this
      subst this
      exact mg_of KX T.g hb
    · cases this
  have hfe : fa = 430 := by
    rw [hfa] at hfa2
    cases hfa2
  subst hfe
  obtain ⟨vs', g⟩ := well_list wl
  obtain ⟨oL, hoL, _, nL, hdL⟩ := hL
  have hvs : vs' = vs := by
    rw [g] at hoL
    cases hoL
    cases hdL
  subst hvs
  have hlen : nums.length ≤ 63 := by omega
  have R : Room callerA 20 := ⟨by decide, by decide, rfl⟩
  refine law_entry (prog := PySem.Challenge.pw_no0306_01) Bs hsup (stat_of hK) (law_of hK).1 (law_of hK).2 g hI hlen R (spec nums hlen) fun h' tk' hk => ?_
  refine ⟨.inl ⟨.bool true, .bool true, [], rfl, fun cls => ?_, .bool true, ?_, fun _ => ⟨.nil, fun a h => nomatch h⟩⟩, .of_keep hk, rfl, .of_eq hg⟩
  · rfl
  · wrow_post
end Mine
end

section
open PySem
set_option maxRecDepth 100000
namespace Mine
noncomputable def b28 : List LS := [.ite (.and (.cmp .Gt (.callB .«len» [(.var 0)]) (.int 0)) (.cmp .LtE (.var 1) (.bin .Add (.item (.item (.var 0) (.neg (.int 1))) (.int 1)) (.int 1)))) [.ite (.cmp .Gt (.var 2) (.item (.item (.var 0) (.neg (.int 1))) (.int 1))) [.assign (.item (.var 0) (.neg (.int 1))) (.tuple [(.item (.item (.var 0) (.neg (.int 1))) (.int 0)), (.var 2)])] []] [.expr (.meth (.var 0) .«append» [(.tuple [(.var 1), (.var 2)])])]]
theorem f28 : prg.fns 28 = some ⟨4, [0, 1, 2], b28, 0⟩ := by kernel_rfl
noncomputable def b35 : List LS := [.assign (.v 1) (.list []),
  .for 0 (.v 2) (.callB .«sorted» [(.var 0)]) [.expr (.callF 28 [(.var 1), (.var 2), (.var 2)])],
  .ret (.callB .«tuple» [(.var 1)])]
theorem f35 : prg.fns 35 = some ⟨6, [0], b35, 1⟩ := by kernel_rfl
noncomputable def b56 : List LS := [.for 0 (.vs [2, 3]) (.var 0) [.ite (.cmp .LtE (.var 1) (.var 3)) [.ret (.callB .«max» [(.var 2), (.var 1)])] []],
  .ret .none]
theorem f56 : prg.fns 56 = some ⟨5, [0, 1], b56, 1⟩ := by kernel_rfl
noncomputable def b63 : List LS := [.ret (.cmp .Eq (.callF 56 [(.var 0), (.var 1)]) (.var 1))]
theorem f63 : prg.fns 63 = some ⟨3, [0, 1], b63, 1⟩ := by kernel_rfl
noncomputable def b68 : List LS := [.ret (.callB .«tuple» [(.comp1 5 [(4, 1)] (.vs [1, 2]) (.var 0) (.cmp .LtE (.var 1) (.var 4)) (.tuple [(.var 1), (.callB .«min» [(.var 2), (.var 4)])]))])]
theorem f68 : prg.fns 68 = some ⟨3, [0, 1], b68, 1⟩ := by kernel_rfl
noncomputable def b73 : List LS := [.ret (.callB .«tuple» [(.comp1 5 [(4, 1)] (.vs [1, 2]) (.var 0) (.cmp .GtE (.var 2) (.var 4)) (.tuple [(.callB .«max» [(.var 1), (.var 4)]), (.var 2)]))])]
theorem f73 : prg.fns 73 = some ⟨3, [0, 1], b73, 1⟩ := by kernel_rfl
noncomputable def b80 : List LS := [.ret (.bin .Add (.callF 68 [(.var 0), (.bin .Sub (.var 1) (.int 1))]) (.callF 73 [(.var 0), (.bin .Add (.var 1) (.int 1))]))]
theorem f80 : prg.fns 80 = some ⟨4, [0, 1], b80, 1⟩ := by kernel_rfl
noncomputable def b87 : List LS := [.assign (.vs [2, 3, 4]) (.tuple [(.list []), (.int 0), (.int 0)]),
  .while (.and (.cmp .Lt (.var 3) (.callB .«len» [(.var 0)])) (.cmp .Lt (.var 4) (.callB .«len» [(.var 1)]))) [.assign (.vs [5, 6]) (.tuple [(.callB .«max» [(.item (.item (.var 0) (.var 3)) (.int 0)), (.item (.item (.var 1) (.var 4)) (.int 0))]), (.callB .«min» [(.item (.item (.var 0) (.var 3)) (.int 1)), (.item (.item (.var 1) (.var 4)) (.int 1))])]),
  .ite (.cmp .LtE (.var 5) (.var 6)) [.expr (.meth (.var 2) .«append» [(.tuple [(.var 5), (.var 6)])])] [],
  .ite (.cmp .Lt (.item (.item (.var 0) (.var 3)) (.int 1)) (.item (.item (.var 1) (.var 4)) (.int 1))) [.assign (.v 3) (.bin .Add (.var 3) (.int 1))] [.assign (.v 4) (.bin .Add (.var 4) (.int 1))]],
  .ret (.callB .«tuple» [(.var 2)])]
theorem f87 : prg.fns 87 = some ⟨11, [0, 1], b87, 1⟩ := by kernel_rfl
noncomputable def b94 : List LS := [.assign (.vs [1, 2, 3]) (.var 0),
  .ite (.cmp .Eq (.var 2) (.str ("<=" : Str))) [.ret (.tuple [(.var 1), (.str (">=" : Str)), (.bin .Add (.var 3) (.int 1))])] [],
  .ite (.cmp .Eq (.var 2) (.str (">=" : Str))) [.ret (.tuple [(.var 1), (.str ("<=" : Str)), (.bin .Sub (.var 3) (.int 1))])] [],
  .ret (.ite (.cmp .Eq (.var 2) (.str ("=" : Str))) (.tuple [(.var 1), (.str ("!=" : Str)), (.var 3)]) (.tuple [(.var 1), (.str ("=" : Str)), (.var 3)]))]
theorem f94 : prg.fns 94 = some ⟨4, [0], b94, 1⟩ := by kernel_rfl
noncomputable def b101 : List LS := [.assign (.vs [2, 3]) (.tuple [(.item (.var 0) (.int 1)), (.item (.var 0) (.int 2))]),
  .ite (.cmp .Eq (.var 2) (.str ("<=" : Str))) [.ret (.callF 68 [(.var 1), (.var 3)])] [],
  .ite (.cmp .Eq (.var 2) (.str (">=" : Str))) [.ret (.callF 73 [(.var 1), (.var 3)])] [],
  .ret (.ite (.cmp .Eq (.var 2) (.str ("=" : Str))) (.callF 87 [(.var 1), (.tuple [(.tuple [(.var 3), (.var 3)])])]) (.callF 80 [(.var 1), (.var 3)]))]
theorem f101 : prg.fns 101 = some ⟨8, [0, 1], b101, 1⟩ := by kernel_rfl
noncomputable def b122 : List LS := [.assign (.attr (.var 0) .«domains») (.list []),
  .assign (.attr (.var 0) .«firsts») (.list []),
  .assign (.attr (.var 0) .«trail») (.list []),
  .assign (.attr (.var 0) .«marks») (.list []),
  .assign (.attr (.var 0) .«news») .dict,
  .assign (.attr (.var 0) .«speaker») (.neg (.int 1)),
  .assign (.attr (.var 0) .«isFailed») (.bool false),
  .assign (.attr (.var 0) .«clash») (.tuple [])]
theorem f122 : prg.fns 122 = some ⟨1, [0], b122, 0⟩ := by kernel_rfl
noncomputable def b129 : List LS := [.expr (.meth (.attr (.var 0) .«domains») .«append» [(.var 1)]),
  .expr (.meth (.attr (.var 0) .«firsts») .«append» [(.var 1)]),
  .ite (.cmp .Eq (.var 1) (.tuple [])) [.expr (.meth (.var 0) .«fail» [(.tuple [])])] [],
  .ret (.bin .Sub (.callB .«len» [(.attr (.var 0) .«domains»)]) (.int 1))]
theorem f129 : prg.fns 129 = some ⟨3, [0, 1], b129, 0⟩ := by kernel_rfl
noncomputable def b136 : List LS := [.ret (.callB .«len» [(.attr (.var 0) .«domains»)])]
theorem f136 : prg.fns 136 = some ⟨2, [0], b136, 1⟩ := by kernel_rfl
noncomputable def b143 : List LS := [.ret (.item (.attr (.var 0) .«domains») (.var 1))]
theorem f143 : prg.fns 143 = some ⟨2, [0, 1], b143, 1⟩ := by kernel_rfl
noncomputable def b171 : List LS := [.ret (.callF 63 [(.item (.attr (.var 0) .«domains») (.var 1)), (.var 2)])]
theorem f171 : prg.fns 171 = some ⟨4, [0, 1, 2], b171, 1⟩ := by kernel_rfl
noncomputable def b178 : List LS := [.assign (.v 2) (.item (.attr (.var 0) .«domains») (.var 1)),
  .ret (.and (.cmp .Eq (.callB .«len» [(.var 2)]) (.int 1)) (.cmp .Eq (.item (.item (.var 2) (.int 0)) (.int 0)) (.item (.item (.var 2) (.int 0)) (.int 1))))]
theorem f178 : prg.fns 178 = some ⟨4, [0, 1], b178, 1⟩ := by kernel_rfl
noncomputable def b185 : List LS := [.ret (.item (.item (.item (.attr (.var 0) .«domains») (.var 1)) (.int 0)) (.int 0))]
theorem f185 : prg.fns 185 = some ⟨2, [0, 1], b185, 1⟩ := by kernel_rfl
noncomputable def b206 : List LS := [.assign (.v 4) (.item (.var 1) (.int 0)),
  .assign (.v 5) (.item (.attr (.var 0) .«domains») (.var 4)),
  .assign (.v 6) (.callF 101 [(.var 1), (.var 5)]),
  .ite (.cmp .Eq (.var 6) (.tuple [])) [.ret (.meth (.var 0) .«fail» [(.bin .Add (.ite (.cmp .Is (.var 2) .none) (.tuple []) (.var 2)) (.tuple [(.callF 94 [(.var 1)])]))])] [],
  .ite (.cmp .Eq (.var 6) (.var 5)) [.ret (.bool true)] [],
  .expr (.meth (.attr (.var 0) .«trail») .«append» [(.tuple [(.var 4), (.var 5), (.var 1), (.var 2), (.var 3)])]),
  .assign (.item (.attr (.var 0) .«domains») (.var 4)) (.var 6),
  .assign (.item (.attr (.var 0) .«news») (.var 4)) (.bool true),
  .ret (.bool true)]
theorem f206 : prg.fns 206 = some ⟨9, [0, 1, 2, 3], b206, 0⟩ := by kernel_rfl
noncomputable def b213 : List LS := [.ret (.meth (.var 0) .«enter» [(.var 1), (.callB .«tuple» [(.var 2)]), (.attr (.var 0) .«speaker»)])]
theorem f213 : prg.fns 213 = some ⟨4, [0, 1, 2], b213, 0⟩ := by kernel_rfl
noncomputable def b220 : List LS := [.ret (.meth (.var 0) .«enter» [(.var 1), .none, (.neg (.int 1))])]
theorem f220 : prg.fns 220 = some ⟨2, [0, 1], b220, 0⟩ := by kernel_rfl
noncomputable def b227 : List LS := [.assign (.attr (.var 0) .«isFailed») (.bool true),
  .assign (.attr (.var 0) .«clash») (.callB .«tuple» [(.var 1)]),
  .ret (.bool false)]
theorem f227 : prg.fns 227 = some ⟨3, [0, 1], b227, 0⟩ := by kernel_rfl
noncomputable def b234 : List LS := [.expr (.meth (.attr (.var 0) .«marks») .«append» [(.callB .«len» [(.attr (.var 0) .«trail»)])])]
theorem f234 : prg.fns 234 = some ⟨2, [0], b234, 0⟩ := by kernel_rfl
noncomputable def b241 : List LS := [.ite (.cmp .Lt (.var 1) (.int 1)) [.ret .none] [],
  .assign (.v 2) (.item (.attr (.var 0) .«marks») (.bin .Sub (.callB .«len» [(.attr (.var 0) .«marks»)]) (.var 1))),
  .assign (.attr (.var 0) .«marks») (.slice (.attr (.var 0) .«marks») .none (.bin .Sub (.callB .«len» [(.attr (.var 0) .«marks»)]) (.var 1))),
  .while (.cmp .Gt (.callB .«len» [(.attr (.var 0) .«trail»)]) (.var 2)) [.assign (.v 3) (.meth (.attr (.var 0) .«trail») .«pop» []),
  .assign (.item (.attr (.var 0) .«domains») (.item (.var 3) (.int 0))) (.item (.var 3) (.int 1))],
  .assign (.attr (.var 0) .«news») .dict,
  .assign (.attr (.var 0) .«isFailed») (.cmp .In (.tuple []) (.attr (.var 0) .«firsts»)),
  .assign (.attr (.var 0) .«clash») (.tuple [])]
theorem f241 : prg.fns 241 = some ⟨5, [0, 1], b241, 0⟩ := by kernel_rfl
noncomputable def b248 : List LS := [.ret (.callB .«len» [(.attr (.var 0) .«marks»)])]
theorem f248 : prg.fns 248 = some ⟨2, [0], b248, 1⟩ := by kernel_rfl
noncomputable def b276 : List LS := [.assign (.attr (.var 0) .«number») (.neg (.int 1)),
  .assign (.attr (.var 0) .«scope») (.callB .«tuple» [(.var 1)]),
  .assign (.attr (.var 0) .«strength») (.var 2)]
theorem f276 : prg.fns 276 = some ⟨4, [0, 1, 2], b276, 0⟩ := by kernel_rfl
noncomputable def b327 : List LS := [.assign (.v 2) (.neg (.int 1)),
  .while (.cmp .Lt (.var 2) (.callB .«len» [(.attr (.var 1) .«trail»)])) [.assign (.v 2) (.callB .«len» [(.attr (.var 1) .«trail»)]),
  .assign (.vs [3, 4]) (.meth (.var 0) .«firstSpot» [(.var 1)]),
  .ite (.or (.cmp .Is (.var 3) .none) (.and (.cmp .Lt (.var 3) (.callB .«len» [(.attr (.var 0) .«scope»)])) (.not (.meth (.var 0) .«needFirst» [(.var 1), (.var 3), (.var 4)])))) [.ret (.bool false)] []],
  .ret (.bool true)]
theorem f327 : prg.fns 327 = some ⟨6, [0, 1], b327, 0⟩ := by kernel_rfl
noncomputable def b334 : List LS := [.assign (.v 2) (.list []),
  .for 1 (.vs [3, 4]) (.attr (.var 0) .«scope») [.ite (.not (.meth (.var 1) .«strike» [(.tuple [(.var 4), (.str ("!=" : Str)), (.attr (.var 0) .«t»)]), (.var 2)])) [.ret (.tuple [.none, (.var 2)])] [],
  .ite (.meth (.var 1) .«has» [(.var 4), (.attr (.var 0) .«s»)]) [.ret (.tuple [(.var 3), (.var 2)])] [],
  .assign (.v 2) (.bin .Add (.var 2) (.list [(.tuple [(.var 4), (.str ("!=" : Str)), (.attr (.var 0) .«s»)])]))],
  .ret (.tuple [(.callB .«len» [(.attr (.var 0) .«scope»)]), (.var 2)])]
theorem f334 : prg.fns 334 = some ⟨7, [0, 1], b334, 0⟩ := by kernel_rfl
noncomputable def b341 : List LS := [.assign (.v 4) (.var 3),
  .for 0 (.v 5) (.slice (.attr (.var 0) .«scope») (.bin .Add (.var 2) (.int 1)) .none) [.ite (.and (.meth (.var 1) .«isFixed» [(.var 5)]) (.cmp .Eq (.meth (.var 1) .«value» [(.var 5)]) (.attr (.var 0) .«t»))) [.ret (.meth (.var 1) .«strike» [(.tuple [(.item (.attr (.var 0) .«scope») (.var 2)), (.str ("=" : Str)), (.attr (.var 0) .«s»)]), (.bin .Add (.var 4) (.list [(.tuple [(.var 5), (.str ("=" : Str)), (.attr (.var 0) .«t»)])]))])] [],
  .ite (.meth (.var 1) .«has» [(.var 5), (.attr (.var 0) .«s»)]) [.ret (.bool true)] [],
  .assign (.v 4) (.bin .Add (.var 4) (.list [(.tuple [(.var 5), (.str ("!=" : Str)), (.attr (.var 0) .«s»)])]))],
  .ret (.bool true)]
theorem f341 : prg.fns 341 = some ⟨6, [0, 1, 2, 3], b341, 0⟩ := by kernel_rfl
noncomputable def b348 : List LS := [.ret (.or (.cmp .NotIn (.attr (.var 0) .«t») (.var 1)) (.cmp .In (.attr (.var 0) .«s») (.slice (.var 1) .none (.meth (.callB .«list» [(.var 1)]) .«index» [(.attr (.var 0) .«t»)]))))]
theorem f348 : prg.fns 348 = some ⟨3, [0, 1], b348, 1⟩ := by kernel_rfl
noncomputable def b355 : List LS := [.ret (.tuple [(.str ("precede" : Str)), (.attr (.var 0) .«s»), (.attr (.var 0) .«t»), (.attr (.var 0) .«scope»)])]
theorem f355 : prg.fns 355 = some ⟨1, [0], b355, 1⟩ := by kernel_rfl
noncomputable def b367 : List LS := [.assign (.v 2) (.bin .Mod (.item (.var 0) (.int 0)) (.var 1)),
  .assign (.item (.var 0) (.int 0)) (.bin .FloorDiv (.item (.var 0) (.int 0)) (.var 1)),
  .ret (.var 2)]
theorem f367 : prg.fns 367 = some ⟨3, [0, 1], b367, 0⟩ := by kernel_rfl
noncomputable def b374 : List LS := [.assign (.v 1) (.list []),
  .for 0 (.vs [2, 3]) (.var 0) [.expr (.meth (.var 1) .«extend» [(.callB .«list» [(.callB .«range» [(.var 2), (.bin .Add (.var 3) (.int 1))])])])],
  .ret (.var 1)]
theorem f374 : prg.fns 374 = some ⟨6, [0], b374, 2⟩ := by kernel_rfl
noncomputable def b381 : List LS := [.assign (.vs [2, 3]) (.tuple [(.item (.var 0) (.int 1)), (.item (.var 0) (.int 2))]),
  .ite (.cmp .Eq (.var 2) (.str ("<=" : Str))) [.ret (.cmp .LtE (.var 1) (.var 3))] [],
  .ite (.cmp .Eq (.var 2) (.str (">=" : Str))) [.ret (.cmp .GtE (.var 1) (.var 3))] [],
  .ret (.cmp .Eq (.cmp .Eq (.var 1) (.var 3)) (.cmp .Eq (.var 2) (.str ("=" : Str))))]
theorem f381 : prg.fns 381 = some ⟨4, [0, 1], b381, 1⟩ := by kernel_rfl
noncomputable def b388 : List LS := [.for 0 (.v 3) (.callB .«range» [(.callB .«len» [(.var 2)])]) [.ite (.and (.cmp .Eq (.item (.var 2) (.var 3)) (.var 1)) (.cmp .NotIn (.var 0) (.slice (.var 2) .none (.var 3)))) [.ret (.bool false)] []],
  .ret (.bool true)]
theorem f388 : prg.fns 388 = some ⟨6, [0, 1, 2], b388, 1⟩ := by kernel_rfl
noncomputable def b393 : List LS := [.assign (.v 1) (.list [(.tuple [])]),
  .for 0 (.v 2) (.var 0) [.assign (.v 1) (.comp2 4 [(3, 2)] (.v 1) (.var 1) (.v 2) (.var 3) (.bin .Add (.var 1) (.tuple [(.var 2)])))],
  .ret (.var 1)]
theorem f393 : prg.fns 393 = some ⟨3, [0], b393, 2⟩ := by kernel_rfl
noncomputable def b398 : List LS := [.ret (.callB .«all» [(.comp1 4 [(3, 1)] (.v 1) (.var 0) (.bool true) (.callB .«all» [(.comp1 4 [(3, 1)] (.v 1) (.item (.var 3) (.item (.var 1) (.int 0))) (.bool true) (.callF 381 [(.var 3), (.var 1)]))]))])]
theorem f398 : prg.fns 398 = some ⟨3, [0, 1], b398, 1⟩ := by kernel_rfl
noncomputable def b403 : List LS := [.ret (.not (.callB .«any» [(.comp1 4 [(3, 0)] (.v 1) (.var 1) (.bool true) (.callB .«all» [(.comp1 4 [(3, 1)] (.v 1) (.var 3) (.bool true) (.callF 381 [(.var 1), (.item (.var 3) (.item (.var 1) (.int 0)))]))]))]))]
theorem f403 : prg.fns 403 = some ⟨3, [0, 1], b403, 1⟩ := by kernel_rfl
noncomputable def b410 : List LS := [.assign (.vs [1, 2, 3]) (.var 0),
  .ite (.cmp .Eq (.var 2) (.str ("<=" : Str))) [.ret (.tuple [(.var 1), (.str (">=" : Str)), (.bin .Add (.var 3) (.int 1))])] [],
  .ite (.cmp .Eq (.var 2) (.str (">=" : Str))) [.ret (.tuple [(.var 1), (.str ("<=" : Str)), (.bin .Sub (.var 3) (.int 1))])] [],
  .ret (.tuple [(.var 1), (.ite (.cmp .Eq (.var 2) (.str ("=" : Str))) (.str ("!=" : Str)) (.str ("=" : Str))), (.var 3)])]
theorem f410 : prg.fns 410 = some ⟨4, [0], b410, 1⟩ := by kernel_rfl
noncomputable def b415 : List LS := [.assign (.v 4) (.comp1 4 [(3, 0)] (.v 1) (.callB .«range» [(.meth (.var 0) .«size» [])]) (.bool true) (.callF 374 [(.meth (.var 3) .«dom» [(.var 1)])])),
  .for 2 (.v 5) (.slice (.attr (.var 0) .«trail») (.var 1) .none) [.assign (.vs [3, 6, 7, 8, 9]) (.var 5),
  .ite (.cmp .NotEq (.item (.var 4) (.var 3)) (.comp1 4 [(3, 7)] (.v 1) (.callF 374 [(.var 6)]) (.callF 381 [(.var 3), (.var 1)]) (.var 1))) [.ret (.bool false)] [],
  .assign (.item (.var 4) (.var 3)) (.callF 374 [(.var 6)]),
  .ite (.or (.cmp .NotEq (.var 9) (.int 6)) (.not (.callF 398 [(.var 8), (.var 4)]))) [.ret (.bool false)] [],
  .ite (.not (.callF 403 [(.bin .Add (.callB .«list» [(.var 8)]) (.list [(.callF 410 [(.var 7)])])), (.var 2)])) [.ret (.bool false)] []],
  .ret (.bool true)]
theorem f415 : prg.fns 415 = some ⟨17, [0, 1, 2], b415, 1⟩ := by kernel_rfl
noncomputable def b420 : List LS := [.assign (.v 4) (.callB .«len» [(.attr (.var 0) .«trail»)]),
  .assign (.v 6) (.comp1 4 [(3, 0)] (.v 1) (.callB .«range» [(.meth (.var 0) .«size» [])]) (.bool true) (.callF 374 [(.meth (.var 3) .«dom» [(.var 1)])])),
  .assign (.v 7) (.comp1 6 [(5, 6)] (.v 1) (.var 2) (.callB .«all» [(.comp1 4 [(2, 5), (3, 1)] (.v 1) (.callB .«range» [(.callB .«len» [(.var 5)])]) (.bool true) (.cmp .In (.item (.var 3) (.var 1)) (.item (.var 2) (.var 1))))]) (.var 1)),
  .assign (.v 8) (.meth (.var 1) .«propagate» [(.var 0)]),
  .assign (.v 9) (.comp1 4 [(3, 0)] (.v 1) (.callB .«range» [(.meth (.var 0) .«size» [])]) (.bool true) (.callF 374 [(.meth (.var 3) .«dom» [(.var 1)])])),
  .ite (.not (.callF 415 [(.var 0), (.var 4), (.var 2)])) [.ret (.bool false)] [],
  .assign (.v 10) (.callB .«all» [(.comp1 3 [] (.v 1) (.var 9) (.bool true) (.cmp .Eq (.callB .«len» [(.var 1)]) (.int 1)))]),
  .ite (.not (.var 8)) [.ret (.and (.cmp .Eq (.var 7) (.list [])) (.and (.attr (.var 0) .«isFailed») (.and (.callF 398 [(.attr (.var 0) .«clash»), (.var 9)]) (.callF 403 [(.attr (.var 0) .«clash»), (.var 2)]))))] [],
  .ite (.or (.attr (.var 0) .«isFailed») (.and (.cmp .Eq (.var 7) (.list [])) (.or (.var 3) (.var 10)))) [.ret (.bool false)] [],
  .for 0 (.v 5) (.callB .«range» [(.callB .«len» [(.var 9)])]) [.assign (.v 11) (.comp1 4 [(2, 7), (3, 5)] (.v 1) (.item (.var 6) (.var 5)) (.cmp .In (.var 1) (.comp1 3 [(2, 3)] (.v 1) (.var 2) (.bool true) (.item (.var 1) (.var 2)))) (.var 1)),
  .ite (.or (.cmp .NotEq (.comp1 4 [(2, 9), (3, 5)] (.v 1) (.var 11) (.cmp .NotIn (.var 1) (.item (.var 2) (.var 3))) (.var 1)) (.list [])) (.and (.var 3) (.cmp .NotEq (.item (.var 9) (.var 5)) (.var 11)))) [.ret (.bool false)] []],
  .assign (.v 12) (.callB .«len» [(.attr (.var 0) .«trail»)]),
  .ret (.and (.meth (.var 1) .«propagate» [(.var 0)]) (.cmp .Eq (.callB .«len» [(.attr (.var 0) .«trail»)]) (.var 12)))]
theorem f420 : prg.fns 420 = some ⟨19, [0, 1, 2, 3], b420, 0⟩ := by kernel_rfl
noncomputable def b425 : List LS := [.for 0 (.v 5) (.callF 393 [(.comp1 3 [(2, 3)] (.v 1) (.var 4) (.bool true) (.item (.var 2) (.var 1)))]) [.ite (.cmp .NotEq (.meth (.var 0) .«check» [(.var 5)]) (.callF 388 [(.var 1), (.var 2), (.var 5)])) [.ret (.bool false)] []],
  .ret (.and (.cmp .Eq (.meth (.var 0) .«told» []) (.tuple [(.str ("precede" : Str)), (.var 1), (.var 2), (.callB .«tuple» [(.var 4)])])) (.cmp .Eq (.attr (.var 0) .«scope») (.callB .«tuple» [(.var 4)])))]
theorem f425 : prg.fns 425 = some ⟨9, [0, 1, 2, 3, 4], b425, 1⟩ := by kernel_rfl
noncomputable def b430 : List LS := [.assign (.v 1) (.callB .«list» [(.slice (.var 0) .none (.int 9))]),
  .ite (.cmp .Lt (.callB .«len» [(.var 1)]) (.int 5)) [.assign (.v 1) (.bin .Add (.var 1) (.slice (.list [(.int 1), (.int 7), (.int 7), (.int 2), (.int 0), (.int 0), (.int 1), (.int 2)]) (.callB .«len» [(.var 1)]) .none))] [],
  .assign (.v 2) (.bin .Add (.int 2) (.bin .Mod (.item (.var 1) (.int 0)) (.int 3))),
  .assign (.v 3) (.list []),
  .for 0 (.v 4) (.callB .«range» [(.var 2)]) [.assign (.v 5) (.bin .Add (.int 1) (.bin .Mod (.bin .Sub (.item (.var 1) (.bin .Mod (.bin .Add (.int 1) (.var 4)) (.callB .«len» [(.var 1)]))) (.int 1)) (.int 7))),
  .expr (.meth (.var 3) .«append» [(.comp1 3 [(2, 5)] (.v 1) (.tuple [(.int 1), (.int 2), (.int 3)]) (.cmp .Eq (.bin .Mod (.bin .FloorDiv (.var 2) (.bin .Pow (.int 2) (.bin .Sub (.var 1) (.int 1)))) (.int 2)) (.int 1)) (.var 1))])],
  .assign (.v 6) (.list [(.item (.var 1) (.int 4))]),
  .assign (.vs [7, 8, 9]) (.tuple [(.bin .Add (.int 1) (.callF 367 [(.var 6), (.int 4)])), (.bin .Add (.int 1) (.bin .Mod (.bin .Add (.callF 367 [(.var 6), (.int 4)]) (.int 1)) (.int 4))), (.callB .«list» [(.callB .«range» [(.var 2)])])]),
  .assign (.v 10) (.cmp .NotEq (.callF 367 [(.var 6), (.int 4)]) (.int 1)),
  .ite (.not (.var 10)) [.assign (.item (.var 9) (.callF 367 [(.var 6), (.var 2)])) (.item (.var 9) (.int 0))] [],
  .assign (.v 11) (.callF 258 []),
  .for 0 (.v 12) (.var 3) [.expr (.meth (.var 11) .«newVar» [(.callF 35 [(.var 12)])])],
  .assign (.attr (.var 11) .«speaker») (.int 6),
  .assign (.v 13) (.callF 358 [(.var 7), (.var 8), (.callB .«tuple» [(.var 9)])]),
  .assign (.v 15) (.comp1 6 [(3, 7), (4, 9), (5, 8)] (.v 1) (.callF 393 [(.var 3)]) (.callF 388 [(.var 3), (.var 5), (.comp1 3 [(2, 1)] (.v 1) (.var 4) (.bool true) (.item (.var 2) (.var 1)))]) (.var 1)),
  .ite (.or (.not (.callF 425 [(.var 13), (.var 7), (.var 8), (.var 3), (.var 9)])) (.not (.callF 420 [(.var 11), (.var 13), (.var 15), (.var 10)]))) [.ret (.bool false)] [],
  .assign (.vs [16, 17]) (.tuple [(.list []), (.slice (.var 1) (.int 5) (.int 8))]),
  .for 0 (.v 18) (.var 17) [.ite (.attr (.var 11) .«isFailed») [.brk] [],
  .assign (.v 6) (.list [(.var 18)]),
  .assign (.vs [14, 19]) (.tuple [(.callF 367 [(.var 6), (.var 2)]), (.item (.tuple [(.str ("=" : Str)), (.str ("!=" : Str)), (.str ("<=" : Str)), (.str (">=" : Str))]) (.callF 367 [(.var 6), (.int 4)]))]),
  .expr (.meth (.var 16) .«append» [(.comp1 3 [(2, 11)] (.v 1) (.callB .«range» [(.var 2)]) (.bool true) (.meth (.var 2) .«dom» [(.var 1)]))]),
  .expr (.meth (.var 11) .«push» []),
  .ite (.meth (.var 11) .«decide» [(.tuple [(.var 14), (.var 19), (.bin .Add (.int 1) (.callF 367 [(.var 6), (.int 3)]))])]) [.ite (.not (.callF 420 [(.var 11), (.var 13), (.var 15), (.var 10)])) [.ret (.bool false)] []] [.ite (.not (.attr (.var 11) .«isFailed»)) [.ret (.bool false)] []]],
  .while (.cmp .Gt (.callB .«len» [(.var 16)]) (.int 0)) [.expr (.meth (.var 11) .«pop» [(.int 1)]),
  .ite (.or (.attr (.var 11) .«isFailed») (.cmp .NotEq (.comp1 3 [(2, 11)] (.v 1) (.callB .«range» [(.var 2)]) (.bool true) (.meth (.var 2) .«dom» [(.var 1)])) (.meth (.var 16) .«pop» []))) [.ret (.bool false)] []],
  .ret (.cmp .Eq (.meth (.var 11) .«depth» []) (.int 0))]
theorem f430 : prg.fns 430 = some ⟨31, [0], b430, 0⟩ := by kernel_rfl
end Mine
end

section
open PySem
set_option maxRecDepth 100000
namespace Mine

noncomputable def cl : Nat → AV → Bool
  | _, .int _ => true
  | _, .str s => PyData.strOk s
  | n + 1, .tup xs => xs.all (cl n)
  | _, _ => false

theorem toPys_cl {mem : Mem} {n : Nat} (ih : ∀ a, cl n a = true → ∃ d, toPy mem a = some d ∧ d.canLay0 = true ∧ d.depth ≤ n) :
    ∀ xs : List AV, xs.all (cl n) = true → ∃ ds, toPys mem xs = some ds ∧ PyData.canLayAll0 ds = true ∧ PyData.depthAll ds ≤ n := by
  intro xs
  induction xs with
  | nil =>
    intro z0
    exact ⟨[], rfl, rfl, by simp [PyData.depthAll]⟩
  | cons x xs jh =>
    intro h
    rw [List.all_cons, Bool.and_eq_true] at h
    obtain ⟨d, h1, h2, h3⟩ := ih x h.1
    obtain ⟨ds, g1, g2, g3⟩ := jh h.2
    refine ⟨d :: ds, ?_, ?_, ?_⟩
    · rw [tps_cons, h1, g1]
    · rw [PyData.canLayAll0, h2, g2]; rfl
    · simp only [PyData.depthAll]
      omega

theorem toPy_cl {mem : Mem} : ∀ (n : Nat) (a : AV), cl n a = true → ∃ d, toPy mem a = some d ∧ d.canLay0 = true ∧ d.depth ≤ n
  | 0, .int i, _ => ⟨.int i, rfl, rfl, Nat.zero_le _⟩
  | 0, .str s, h => ⟨.str s, rfl, h, Nat.zero_le _⟩
  | n + 1, .int i, _ => ⟨.int i, rfl, rfl, Nat.zero_le _⟩
  | n + 1, .str s, h => ⟨.str s, rfl, h, Nat.zero_le _⟩
  | n + 1, .tup xs, h => by
    obtain ⟨ds, g1, g2, g3⟩ := toPys_cl (mem := mem) (toPy_cl n) xs h
    exact ⟨.tuple ds, by rw [tp_tup, g1]; rfl, g2, Nat.succ_le_succ g3⟩

theorem toPys_eqv {mem : Mem} {n : Nat} (ih : ∀ a b d e, cl n a = true → cl n b = true → toPy mem a = some d → toPy mem b = some e → PyData.eqv d e = decide (a = b))
    (c : ∀ a, cl n a = true → ∃ d, toPy mem a = some d ∧ d.canLay0 = true ∧ d.depth ≤ n) :
    ∀ xs ys ds es, xs.all (cl n) = true → ys.all (cl n) = true → toPys mem xs = some ds → toPys mem ys = some es → PyData.eqvAll ds es = decide (xs = ys)
  | [], [], _, _, _, _, e1, e2 => by cases e1; cases e2; rfl
  | [], y :: ys, _, _, _, h2, e1, e2 => by
    obtain ⟨es, g1, _, _⟩ := toPys_cl c (y :: ys) h2
    rw [g1] at e2
    cases e1; cases e2
    rw [toPys] at g1
    split at g1 <;> cases g1
    rfl
  | x :: xs, [], _, _, h1, _, e1, e2 => by
    obtain ⟨es, g1, _, _⟩ := toPys_cl c (x :: xs) h1
    rw [g1] at e1
    cases e1; cases e2
    rw [toPys] at g1
    split at g1 <;> cases g1
    rfl
  | x :: xs, y :: ys, ds, es, h1, h2, e1, e2 => by
    rw [List.all_cons, Bool.and_eq_true] at h1 h2
    rw [toPys] at e1 e2
    split at e1
    · next d ds' p1 p2 =>
      cases e1
      split at e2
      · next e es' q1 q2 =>
        cases e2
        rw [PyData.eqvAll, ih x y d e h1.1 h2.1 p1 q1, toPys_eqv ih c xs ys _ _ h1.2 h2.2 p2 q2]
        simp
      · cases e2
    · cases e1

theorem toPy_eqv {mem : Mem} : ∀ (n : Nat) (a b : AV) (d e : PyData), cl n a = true → cl n b = true → toPy mem a = some d → toPy mem b = some e → PyData.eqv d e = decide (a = b) := by
  intro n
  induction n with
  | zero =>
    intro a b d e h1 h2 e1 e2
    cases a <;> simp only [cl] at h1 <;> try (cases h1; done)
    all_goals (cases b <;> simp only [cl] at h2 <;> try (cases h2; done))
    all_goals (cases e1; cases e2; simp [PyData.eqv]; try rfl)
  | succ n ih =>
    intro a b d e h1 h2 e1 e2
    cases a <;> simp only [cl] at h1 <;> try (cases h1; done)
    all_goals (cases b <;> simp only [cl] at h2 <;> try (cases h2; done))
    case tup.tup xs ys =>
      obtain ⟨ds, g1, _, _⟩ := toPys_cl (mem := mem) (toPy_cl n) xs h1
      obtain ⟨es, g2, _, _⟩ := toPys_cl (mem := mem) (toPy_cl n) ys h2
      rw [tp_tup, g1] at e1
      rw [tp_tup, g2] at e2
      cases e1; cases e2
      rw [PyData.eqv, toPys_eqv ih (toPy_cl n) xs ys ds es h1 h2 g1 g2]
      simp
    case tup.int xs i =>
      obtain ⟨ds, g1, _, _⟩ := toPys_cl (mem := mem) (toPy_cl n) xs h1
      rw [tp_tup, g1] at e1
      cases e1; cases e2; simp [PyData.eqv]
    case tup.str xs i =>
      obtain ⟨ds, g1, _, _⟩ := toPys_cl (mem := mem) (toPy_cl n) xs h1
      rw [tp_tup, g1] at e1
      cases e1; cases e2; simp [PyData.eqv]
    case int.tup i xs =>
      obtain ⟨ds, g1, _, _⟩ := toPys_cl (mem := mem) (toPy_cl n) xs h2
      rw [tp_tup, g1] at e2
      cases e1; cases e2; simp [PyData.eqv]
    case str.tup i xs =>
      obtain ⟨ds, g1, _, _⟩ := toPys_cl (mem := mem) (toPy_cl n) xs h2
      rw [tp_tup, g1] at e2
      cases e1; cases e2; simp [PyData.eqv]
    all_goals (cases e1; cases e2; simp [PyData.eqv]; try rfl)

theorem dataOf_cl {mem : Mem} {n : Nat} {a : AV} (h : cl n a = true) : dataOf mem a = toPy mem a := by
  cases n <;> cases a <;> first | rfl | cases h

theorem okPy_of {d : PyData} {n : Nat} (h : d.canLay0 = true) (k : d.depth ≤ n) (hn : n ≤ 64) : okPy d = true := by
  unfold okPy SeqAt.shaped
  rw [h]
  simp only [Bool.true_and, decide_eq_true_eq]
  omega

theorem eqA_cl {mem : Mem} (n : Nat) (hn : n ≤ 63) {a b : AV} (h1 : cl n a = true) (h2 : cl n b = true) : eqA mem a b = some (decide (a = b)) := by
  obtain ⟨d, p1, p2, p3⟩ := toPy_cl (mem := mem) n a h1
  obtain ⟨e, q1, q2, q3⟩ := toPy_cl (mem := mem) n b h2
  unfold eqA
  rw [dataOf_cl h1, dataOf_cl h2, p1, q1]
  dsimp only
  rw [okPy_of p2 p3 (by omega), okPy_of q2 q3 (by omega), toPy_eqv n a b d e h1 h2 p1 q1]
  rfl
theorem eqA_list {mem : Mem} (n : Nat) (hn : n ≤ 63) {i j : Nat} {xs ys : List AV} (hi : mem[i]? = some (.list xs)) (hj : mem[j]? = some (.list ys)) (h1 : xs.all (cl n) = true) (h2 : ys.all (cl n) = true) :
    eqA mem (.obj i) (.obj j) = some (decide (xs = ys)) := by
  obtain ⟨d, p1, p2, p3⟩ := toPys_cl (mem := mem) (toPy_cl n) xs h1
  obtain ⟨e, q1, q2, q3⟩ := toPys_cl (mem := mem) (toPy_cl n) ys h2
  have d1 : dataOf mem (.obj i) = some (.list d) := by simp only [dataOf, hi, p1, Option.map_some]
  have d2 : dataOf mem (.obj j) = some (.list e) := by simp only [dataOf, hj, q1, Option.map_some]
  unfold eqA
  rw [d1, d2]
  dsimp only
  rw [okPy_of (d := .list d) (n := n + 1) p2 (Nat.succ_le_succ p3) (by omega), okPy_of (d := .list e) (n := n + 1) q2 (Nat.succ_le_succ q3) (by omega)]
  simp only [Bool.and_self, if_true]
  rw [PyData.eqv, toPys_eqv (mem := mem) (toPy_eqv n) (toPy_cl n) xs ys d e h1 h2 p1 q1]
theorem eqA_none_int {mem : Mem} {k : Int} : eqA mem .none (.int k) = some false := rfl
theorem eqA_int {mem : Mem} {i k : Int} : eqA mem (.int i) (.int k) = some (decide (i = k)) := by
  rw [eqA_cl 0 (by decide) rfl rfl]
  simp
theorem eqA_bool {mem : Mem} {i k : Bool} : eqA mem (.bool i) (.bool k) = some (i == k) := rfl
theorem eqA_str {mem : Mem} {i k : Str} (hi : PyData.strOk i = true) (hk : PyData.strOk k = true) : eqA mem (.str i) (.str k) = some (decide (i = k)) := by
  rw [eqA_cl (a := .str i) (b := .str k) 0 (by decide) hi hk]
  simp
theorem anyEq_cl {mem : Mem} (n : Nat) (hn : n ≤ 63) {x : AV} (h1 : cl n x = true) : ∀ {ys : List AV}, ys.all (cl n) = true → anyEq mem x ys = some (ys.any fun y => decide (y = x))
  | [], _ => rfl
  | y :: ys, h => by
    rw [List.all_cons, Bool.and_eq_true] at h
    rw [anyEq, eqA_cl n hn h.1 h1, anyEq_cl n hn h1 h.2]
    rfl

theorem get_pre {mem mem' : Mem} (h : mem <+: mem') {i : Nat} {o : MObj} (g : mem[i]? = some o) : mem'[i]? = some o := by
  obtain ⟨t, rfl⟩ := h
  rw [List.getElem?_append_left (by rw [List.getElem?_eq_some_iff] at g; exact g.1)]
  exact g
theorem get_new {mem : Mem} {o : MObj} : (mem ++ [o])[mem.length]? = some o := List.getElem?_concat_length
theorem set_new {mem : Mem} {o p : MObj} : (mem ++ [o]).set mem.length p = mem ++ [p] := by
  rw [List.set_append_right _ _ (Nat.le_refl _), Nat.sub_self]; rfl
theorem pre_app {mem mem' : Mem} (h : mem <+: mem') (t : Mem) : mem <+: mem' ++ t := h.trans (List.prefix_append _ _)
theorem pre_new (mem : Mem) (t : Mem) : mem <+: mem ++ t := List.prefix_append _ _
theorem lt_of_get {mem : Mem} {i : Nat} {o : MObj} (g : mem[i]? = some o) : i < mem.length := by
  rw [List.getElem?_eq_some_iff] at g; exact g.1

theorem tell_pure {mem mem' : Mem} {r : AV} (h : mem <+: mem') (hf : r.flat = true) : tell 1 mem (r, mem') = some (r, mem) := by
  obtain ⟨t, rfl⟩ := h
  simp [tell, hf]
theorem tell_list {mem mem' : Mem} {n : Nat} {xs : List AV} (h : mem <+: mem') (hn : mem.length ≤ n) (g : mem'[n]? = some (.list xs)) (hf : AV.flats xs = true) : tell 2 mem (.obj n, mem') = some (.obj mem.length, mem ++ [.list xs]) := by
  obtain ⟨t, rfl⟩ := h
  simp only [tell, g]
  simp [hf, hn]

theorem call_fn {f : Addr} {i : FnInfo} (h : prg.fns f = some i) {d : Nat} {args : List AV} {mem : Mem} : callN prg (d + 1) f args mem = (do
      let vars ← setVars (List.replicate i.size Option.none) i.params args
      let (fl, _, mem') ← exs prg.meths (callN prg d) i.body vars mem
      match fl with
      | .next => tell i.mode mem (.none, mem')
      | .ret a => tell i.mode mem (a, mem')
      | .brk => Option.none) := by
  rw [cn_succ, h]; try rfl
theorem call_ret {f : Addr} {i : FnInfo} (h : prg.fns f = some i) {d : Nat} {args : List AV} {mem mem' : Mem} {vars v' : Vars} {a : AV} {r : AV × Mem} (hv : setVars (List.replicate i.size Option.none) i.params args = some vars)
    (hx : exs prg.meths (callN prg d) i.body vars mem = some (.ret a, v', mem')) (ht : tell i.mode mem (a, mem') = some r) : callN prg (d + 1) f args mem = some r := by
  rw [call_fn h, hv]
  simp only [Option.bind_eq_bind, Option.bind_some]
  rw [hx]
  exact ht
theorem call_next {f : Addr} {i : FnInfo} (h : prg.fns f = some i) {d : Nat} {args : List AV} {mem mem' : Mem} {vars v' : Vars} {r : AV × Mem} (hv : setVars (List.replicate i.size Option.none) i.params args = some vars)
    (hx : exs prg.meths (callN prg d) i.body vars mem = some (.next, v', mem')) (ht : tell i.mode mem (.none, mem') = some r) : callN prg (d + 1) f args mem = some r := by
  rw [call_fn h, hv]
  simp only [Option.bind_eq_bind, Option.bind_some]
  rw [hx]
  exact ht
theorem exs_next {M : Methods} {Φ : Fun} {s : LS} {ss : List LS} {v v' : Vars} {m m' : Mem} (h : ex M Φ s v m = some (.next, v', m')) : exs M Φ (s :: ss) v m = exs M Φ ss v' m' := by
  rw [exs_cons, h]; rfl
theorem exs_ret {M : Methods} {Φ : Fun} {s : LS} {ss : List LS} {v v' : Vars} {m m' : Mem} {a : AV} (h : ex M Φ s v m = some (.ret a, v', m')) : exs M Φ (s :: ss) v m = some (.ret a, v', m') := by
  rw [exs_cons, h]; rfl

theorem compLoop_ok {α : Type} {src : AV} {xs0 : List AV} {t : LT} {f : Vars → Mem → Option (List AV × Vars × Mem)} {g : α → List AV} {enc : α → AV} (P : Vars → Prop) {mem : Mem}
    (hs : ∀ mem', mem <+: mem' → stillA src xs0 mem' = true) : ∀ {l : List α}
    (_ : ∀ a ∈ l, ∀ vars mem', P vars → mem <+: mem' → ∃ v1 v2 mem2, bindT t (enc a) vars mem' = some v1 ∧ f v1 mem' = some (g a, v2, mem2) ∧ P v2 ∧ mem' <+: mem2)
    {vars : Vars} {mem' : Mem}, P vars → mem <+: mem' → ∃ v2 mem2, compLoop src xs0 t f (l.map enc) vars mem' = some (l.flatMap g, v2, mem2) ∧ P v2 ∧ mem' <+: mem2
  | [], _, vars, mem', hp, hm => ⟨vars, mem', rfl, hp, List.prefix_refl _⟩
  | a :: l, hf, vars, mem', hp, hm => by
    obtain ⟨v1, v2, mem2, h1, h2, h3, h4⟩ := hf a List.mem_cons_self vars mem' hp hm
    obtain ⟨v3, mem3, k1, k2, k3⟩ := compLoop_ok P hs (fun b hb => hf b (List.mem_cons_of_mem _ hb)) h3 (hm.trans h4)
    refine ⟨v3, mem3, ?_, k2, h4.trans k3⟩
    rw [List.map_cons, cl_cons]
    simp only [Option.bind_some, h1, h2]
    rw [if_pos (hs mem2 (hm.trans h4)), k1]
    simp only [Option.bind_some, List.flatMap_cons]

theorem flatMap_filt {α β : Type} (c : α → Bool) (h : α → β) : ∀ l : List α, (l.flatMap fun a => if c a = true then [h a] else []) = (l.filter c).map h := by
  intro l
  induction l with
  | nil =>
    exact rfl
  | cons a l ih =>
    rw [List.flatMap_cons, ih]
    by_cases q : c a = true
    · rw [if_pos q, List.filter_cons_of_pos q]; rfl
    · rw [if_neg q, List.filter_cons_of_neg q]; rfl

theorem comp1_ok {α : Type} {M : Methods} {Φ : Fun} {vars : Vars} {size : Nat} {lends : List (Nat × Nat)} {t : LT} {it cond elt : LE} {mem mem1 : Mem} {src : AV} {enc : α → AV} {l : List α} (c : α → Bool) (h : α → AV) (P : Vars → Prop)
    (e1 : ev M Φ vars it mem = some (src, mem1)) (e2 : iterA mem1 src = some (l.map enc)) (hs : ∀ mem', mem1 <+: mem' → stillA src (l.map enc) mem' = true)
    (hp : P (lendVars vars size lends))
    (hf : ∀ a ∈ l, ∀ vars mem', P vars → mem1 <+: mem' → ∃ v1, bindT t (enc a) vars mem' = some v1 ∧ P v1 ∧ ∃ m2, ev M Φ v1 cond mem' = some (.bool (c a), m2) ∧ mem' <+: m2 ∧ (c a = true → ∃ m3, ev M Φ v1 elt m2 = some (h a, m3) ∧ m2 <+: m3))
    (hl : l.length ≤ 1000000) :
    ∃ mem2, ev M Φ vars (.comp1 size lends t it cond elt) mem = some (.obj mem2.length, mem2 ++ [.list ((l.filter c).map h)]) ∧ mem1 <+: mem2 := by
  obtain ⟨v2, mem2, k1, k2, k3⟩ := compLoop_ok (src := src) (xs0 := l.map enc) (t := t) (enc := enc) (g := fun a => if c a = true then [h a] else [])
    (f := fun vars mem => do
      let (c, mem) ← ev M Φ vars cond mem
      match c with
      | .bool true => do
        let (a, mem) ← ev M Φ vars elt mem
        some ([a], vars, mem)
      | .bool false => some ([], vars, mem)
      | _ => Option.none) P hs (l := l) (by
    intro a ha vars mem' hv hm
    obtain ⟨v1, b1, b2, m2, b3, b4, b5⟩ := hf a ha vars mem' hv hm
    by_cases q : c a = true
    · obtain ⟨m3, b6, b7⟩ := b5 q
      refine ⟨v1, v1, m3, b1, ?_, b2, b4.trans b7⟩
      simp only [Option.bind_eq_bind, Option.bind_some, b3, q, b6, if_true]
    · refine ⟨v1, v1, m2, b1, ?_, b2, b4⟩
      have q' : c a = false := by simpa using q
      rw [if_neg q]
      simp only [Option.bind_eq_bind, Option.bind_some, b3, q']) hp (List.prefix_refl _)
  refine ⟨mem2, ?_, k3⟩
  rw [ev_comp1]
  simp only [Option.bind_eq_bind, Option.bind_some, e1, e2]
  simp only [Option.bind_eq_bind] at k1
  refine Eq.trans (congrArg (fun o => Option.bind o _) k1) ?_
  simp only [Option.bind_some]
  rw [flatMap_filt]
  rw [if_pos]
  unfold szOk
  rw [decide_eq_true_eq, List.length_map]
  have := List.length_filter_le c l
  omega
end Mine
end

section
open PySem
set_option maxRecDepth 100000
set_option linter.unusedVariables false
set_option linter.unusedSimpArgs false
namespace Mine
section
variable {M : Methods} {Φ : Fun} {vars : Vars} {mem : Mem}
theorem ev_mlist {o n as i xs m1} (h : ev M Φ vars o mem = some (.obj i, m1)) (h1 : m1[i]? = some (.list xs)) :
    ev M Φ vars (.meth o n as) mem = (evs M Φ vars as m1).bind fun a => match a.2[i]? with | some (.list xs) => listMeth i xs n a.1 a.2 | _ => none := by
  rw [ev_meth, h]; dsimp only [Option.bind_some]; rw [h1] <;> rfl
theorem ev_minst {o n as i c d fs f m1} (h : ev M Φ vars o mem = some (.obj i, m1)) (h1 : m1[i]? = some (.inst c d)) (h2 : m1[d]? = some (.sdict fs)) (h3 : fieldA fs n = none) (h4 : M.find c n = some f) :
    ev M Φ vars (.meth o n as) mem = (evs M Φ vars as m1).bind fun a => Φ f (.obj i :: a.1) a.2 := by
  have e : methA M (.obj i) n m1 = some f := by
    unfold methA
    dsimp only
    rw [h1]; dsimp only; rw [h2]; dsimp only; rw [h3]; exact h4
  rw [ev_meth, h]; dsimp only [Option.bind_some]; rw [h1]; dsimp only; rw [e]; rfl
theorem ex_for {k t it body src m1 xs} (h : ev M Φ vars it mem = some (src, m1)) (h1 : iterA m1 src = some xs) (h2 : kindOk k src = true) : ex M Φ (.for k t it body) vars mem = forLoop src xs t (exs M Φ body) (kindItems k xs) vars m1 := by
  have e : ex M Φ (.for k t it body) vars mem = (ev M Φ vars it mem).bind fun a => (iterA a.2 a.1).bind fun xs => if kindOk k a.1 = true then forLoop a.1 xs t (exs M Φ body) (kindItems k xs) vars a.2 else none := rfl
  rw [e, h]; dsimp only [Option.bind_some]; rw [h1]; dsimp only [Option.bind_some]; rw [if_pos h2]
end
theorem for_cons {src all t f x xs vars mem v1 v2 m2} (hb : bindT t x vars mem = some v1) (hf : f v1 mem = some (.next, v2, m2)) (hs : stillA src all m2 = true) :
    forLoop src all t f (x :: xs) vars mem = forLoop src all t f xs v2 m2 := by
  rw [fo_cons, hb]; dsimp only [Option.bind_some]; rw [hf]; exact if_pos hs
theorem for_ret {src all t f x xs vars mem v1 v2 m2 a} (hb : bindT t x vars mem = some v1) (hf : f v1 mem = some (.ret a, v2, m2)) :
    forLoop src all t f (x :: xs) vars mem = some (.ret a, v2, m2) := by
  rw [fo_cons, hb]; dsimp only [Option.bind_some]; rw [hf]; rfl
theorem for_brk {src all t f x xs vars mem v1 v2 m2} (hb : bindT t x vars mem = some v1) (hf : f v1 mem = some (.brk, v2, m2)) :
    forLoop src all t f (x :: xs) vars mem = some (.next, v2, m2) := by
  rw [fo_cons, hb]; dsimp only [Option.bind_some]; rw [hf]; rfl
theorem while_stop {test f n vars mem m1} (ht : test vars mem = some (.bool false, m1)) : whileLoop test f (n + 1) vars mem = some (.next, vars, m1) := by
  rw [wh_succ, ht]; rfl
theorem while_go {test f n vars mem m1 v2 m2} (ht : test vars mem = some (.bool true, m1)) (hf : f vars m1 = some (.next, v2, m2)) : whileLoop test f (n + 1) vars mem = whileLoop test f n v2 m2 := by
  rw [wh_succ, ht]; dsimp only [Option.bind_some]; rw [hf]; rfl
theorem while_ret {test f n vars mem m1 v2 m2 a} (ht : test vars mem = some (.bool true, m1)) (hf : f vars m1 = some (.ret a, v2, m2)) : whileLoop test f (n + 1) vars mem = some (.ret a, v2, m2) := by
  rw [wh_succ, ht]; dsimp only [Option.bind_some]; rw [hf]; rfl

noncomputable abbrev D := List (Int × Int)
noncomputable def eP (p : Int × Int) : AV := .tup [.int p.1, .int p.2]
noncomputable def eD (d : D) : AV := .tup (d.map eP)
noncomputable def upToD (d : D) (k : Int) : D := (d.filter fun p => decide (p.1 ≤ k)).map fun p => (p.1, min p.2 k)
noncomputable def fromD (d : D) (k : Int) : D := (d.filter fun p => decide (p.2 ≥ k)).map fun p => (max p.1 k, p.2)
noncomputable def withoutD (d : D) (v : Int) : D := upToD d (v - 1) ++ fromD d (v + 1)
noncomputable def meetD : D → Int → D
  | [], _ => []
  | p :: r, k => (if max p.1 k ≤ min p.2 k then [(max p.1 k, min p.2 k)] else []) ++ (if p.2 < k then meetD r k else [])
noncomputable def nextD : D → Int → Option Int
  | [], _ => none
  | p :: r, v => if v ≤ p.2 then some (max p.1 v) else nextD r v

theorem flats_map {α : Type} (f : α → AV) (h : ∀ a, (f a).flat = true) : ∀ l : List α, AV.flats (l.map f) = true := by
  intro l
  induction l with
  | nil =>
    exact rfl
  | cons a l ih =>
    rw [List.map_cons, AV.flats, h a, ih]; rfl
theorem eD_flat (d : D) : (eD d).flat = true := by rw [eD, AV.flat]; exact flats_map _ (fun p => rfl) d

theorem sz_of {n : Nat} (h : n ≤ 1000000) : szOk n = true := decide_eq_true h


noncomputable def W {α : Type} (o : Option α) (P : α → Prop) : Prop := ∃ r, o = some r ∧ P r
theorem W_some {α : Type} {r : α} {P : α → Prop} (h : P r) : W (some r) P := ⟨r, rfl, h⟩
theorem W_mono {α : Type} {o : Option α} {P Q : α → Prop} (h : W o P) (k : ∀ r, P r → Q r) : W o Q := by
  obtain ⟨r, e, p⟩ := h; exact ⟨r, e, k r p⟩
theorem W_bind {α β : Type} {o : Option α} {f : α → Option β} {P : β → Prop} (h : W o fun r => W (f r) P) : W (o.bind f) P := by
  obtain ⟨r, e, p⟩ := h; rw [e]; exact p
theorem call_pure {f : Addr} {size : Nat} {params : List Nat} {body : List LS} (h : prg.fns f = some ⟨size, params, body, 1⟩) {n : Nat} {args : List AV} {mem : Mem} {vars : Vars} (a : AV) (hv : setVars (List.replicate size Option.none) params args = some vars)
    (hf : a.flat = true) (hx : W (exs prg.meths (callN prg n) body vars mem) fun r => r.1 = .ret a ∧ mem <+: r.2.2) : callN prg (n + 1) f args mem = some (a, mem) := by
  obtain ⟨⟨fl, v, m⟩, e, h1, h2⟩ := hx
  cases h1
  exact call_ret h hv e (tell_pure h2 hf)
theorem call_list {f : Addr} {size : Nat} {params : List Nat} {body : List LS} (h : prg.fns f = some ⟨size, params, body, 2⟩) {n : Nat} {args : List AV} {mem : Mem} {vars : Vars} (xs : List AV) (hv : setVars (List.replicate size Option.none) params args = some vars)
    (hf : AV.flats xs = true) (hx : W (exs prg.meths (callN prg n) body vars mem) fun r => ∃ i, r.1 = .ret (.obj i) ∧ mem.length ≤ i ∧ r.2.2[i]? = some (.list xs) ∧ mem <+: r.2.2) : callN prg (n + 1) f args mem = some (.obj mem.length, mem ++ [.list xs]) := by
  obtain ⟨⟨fl, v, m⟩, e, i, h1, h2, h3, h4⟩ := hx
  cases h1
  exact call_ret h hv e (tell_list h4 h2 h3 hf)
theorem call_raw {f : Addr} {size : Nat} {params : List Nat} {body : List LS} (h : prg.fns f = some ⟨size, params, body, 0⟩) {n : Nat} {args : List AV} {mem : Mem} {vars : Vars} {P : AV × Mem → Prop} (hv : setVars (List.replicate size Option.none) params args = some vars)
    (hx : W (exs prg.meths (callN prg n) body vars mem) fun r => (r.1 = .next ∧ P (.none, r.2.2)) ∨ ∃ a, r.1 = .ret a ∧ P (a, r.2.2)) : W (callN prg (n + 1) f args mem) P := by
  obtain ⟨⟨fl, v, m⟩, e, ⟨h1, h2⟩ | ⟨a, h1, h2⟩⟩ := hx
  · cases h1
    exact ⟨_, call_next h hv e rfl, h2⟩
  · cases h1
    exact ⟨_, call_ret h hv e rfl, h2⟩

theorem upTo_ok {n : Nat} {d : D} (hd : d.length ≤ 1000) {k : Int} {mem : Mem} : callN prg (n + 1) 68 [eD d, .int k] mem = some (eD (upToD d k), mem) := by
  obtain ⟨m2, h1, h2⟩ := comp1_ok (M := prg.meths) (Φ := callN prg n) (vars := [some (eD d), some (.int k), none]) (size := 5) (lends := [(4, 1)]) (t := .vs [1, 2]) (it := .var 0)
    (cond := .cmp .LtE (.var 1) (.var 4)) (elt := .tuple [(.var 1), (.callB .«min» [(.var 2), (.var 4)])]) (mem := mem) (mem1 := mem) (src := eD d) (enc := eP) (l := d)
    (fun p => decide (p.1 ≤ k)) (fun p => eP (p.1, min p.2 k)) (fun v => ∃ a b c e, v = [a, b, c, e, some (.int k)]) rfl rfl (fun _ _ => rfl) ⟨_, _, _, _, rfl⟩ (by
      rintro ⟨lo, hi⟩ _ v m ⟨a, b, c, e, rfl⟩ hm
      refine ⟨_, rfl, ⟨_, _, _, _, rfl⟩, m, rfl, List.prefix_refl _, fun _ => ⟨m, rfl, List.prefix_refl _⟩⟩) (by omega)
  refine call_pure f68 (eD (upToD d k)) rfl (eD_flat _) ?_
  simp only [zE, b68, h1, callB, itemsA, get_new]
  rw [if_pos (sz_of (by rw [List.length_map]; have := List.length_filter_le (fun p : Int × Int => decide (p.1 ≤ k)) d; omega))]
  simp only [Option.bind_some, eD, upToD, List.map_map]
  exact ⟨_, rfl, rfl, pre_app h2 _⟩
theorem from_ok {n : Nat} {d : D} (hd : d.length ≤ 1000) {k : Int} {mem : Mem} : callN prg (n + 1) 73 [eD d, .int k] mem = some (eD (fromD d k), mem) := by
  obtain ⟨m2, h1, h2⟩ := comp1_ok (M := prg.meths) (Φ := callN prg n) (vars := [some (eD d), some (.int k), none]) (size := 5) (lends := [(4, 1)]) (t := .vs [1, 2]) (it := .var 0)
    (cond := .cmp .GtE (.var 2) (.var 4)) (elt := .tuple [(.callB .«max» [(.var 1), (.var 4)]), (.var 2)]) (mem := mem) (mem1 := mem) (src := eD d) (enc := eP) (l := d)
    (fun p => decide (p.2 ≥ k)) (fun p => eP (max p.1 k, p.2)) (fun v => ∃ a b c e, v = [a, b, c, e, some (.int k)]) rfl rfl (fun _ _ => rfl) ⟨_, _, _, _, rfl⟩ (by
      rintro ⟨lo, hi⟩ _ v m ⟨a, b, c, e, rfl⟩ hm
      refine ⟨_, rfl, ⟨_, _, _, _, rfl⟩, m, rfl, List.prefix_refl _, fun _ => ⟨m, rfl, List.prefix_refl _⟩⟩) (by omega)
  refine call_pure f73 (eD (fromD d k)) rfl (eD_flat _) ?_
  simp only [zE, b73, h1, callB, itemsA, get_new]
  rw [if_pos (sz_of (by rw [List.length_map]; have := List.length_filter_le (fun p : Int × Int => decide (p.2 ≥ k)) d; omega))]
  simp only [Option.bind_some, eD, fromD, List.map_map]
  exact ⟨_, rfl, rfl, pre_app h2 _⟩
theorem upToD_len (d : D) (k : Int) : (upToD d k).length ≤ d.length := by rw [upToD, List.length_map]; exact List.length_filter_le _ _
theorem fromD_len (d : D) (k : Int) : (fromD d k).length ≤ d.length := by rw [fromD, List.length_map]; exact List.length_filter_le _ _
theorem without_ok {n : Nat} {d : D} (hd : d.length ≤ 1000) {k : Int} {mem : Mem} : callN prg (n + 2) 80 [eD d, .int k] mem = some (eD (withoutD d k), mem) := by
  refine call_pure f80 (eD (withoutD d k)) rfl (eD_flat _) ?_
  simp only [zE, b80, bA_add, bA_sub, bA_tup, upTo_ok hd, from_ok hd]
  have h1 := upToD_len d (k - 1)
  have h2 := fromD_len d (k + 1)
  simp only [eD, bA_tup]
  rw [if_pos (sz_of (by rw [List.length_map, List.length_map]; omega))]
  simp only [withoutD, List.map_append, Option.bind_some]
  exact ⟨_, rfl, rfl, List.prefix_refl _⟩
theorem nextLoop {n : Nat} {v : Int} {all : List AV} : ∀ {d : D} {vars : Vars} {mem : Mem}, (∃ a b c e, vars = [a, some (.int v), b, c, e]) →
    W (forLoop (.tup all) all (.vs [2, 3]) (exs prg.meths (callN prg n) [.ite (.cmp .LtE (.var 1) (.var 3)) [.ret (.callB .«max» [(.var 2), (.var 1)])] []]) (d.map eP) vars mem) fun r =>
      r.2.2 = mem ∧ r.1 = match nextD d v with | some x => .ret (.int x) | none => .next := by
  intro d
  induction d with
  | nil =>
    intro vars mem h
    exact ⟨_, rfl, rfl, rfl⟩
  | cons z0 d ih =>
    obtain ⟨lo, hi⟩ := z0
    intro vars mem z0
    obtain ⟨a, b, c, e, h⟩ := z0
    subst h
    by_cases q : v ≤ hi
    · rw [List.map_cons, for_ret (v1 := [a, some (.int v), some (.int lo), some (.int hi), e]) (a := .int (max lo v)) (v2 := [a, some (.int v), some (.int lo), some (.int hi), e]) (m2 := mem) rfl (by
        simp only [zE, cm_eq, cm_ne, cm_lt, cm_le, cm_gt, cm_ge, cm_is, decide_eq_true q, if_true, callB])]
      refine ⟨_, rfl, rfl, ?_⟩
      rw [nextD, if_pos q]
    · rw [List.map_cons, for_cons (v1 := [a, some (.int v), some (.int lo), some (.int hi), e]) (v2 := [a, some (.int v), some (.int lo), some (.int hi), e]) (m2 := mem) rfl (by
        simp only [zE, cm_eq, cm_ne, cm_lt, cm_le, cm_gt, cm_ge, cm_is, decide_eq_false q, Bool.false_eq_true, if_false, callB]) rfl]
      rw [nextD, if_neg q]
      exact ih ⟨_, _, _, _, rfl⟩
theorem has_ok {n : Nat} {d : D} {v : Int} {mem : Mem} : callN prg (n + 2) 63 [eD d, .int v] mem = some (.bool (nextD d v == some v), mem) := by
  have h : callN prg (n + 1) 56 [eD d, .int v] mem = some (match nextD d v with | some x => .int x | none => .none, mem) := by
    refine call_pure f56 _ rfl (by cases nextD d v <;> rfl) ?_
    obtain ⟨⟨fl, v', m'⟩, h1, h2, h3⟩ := nextLoop (n := n) (v := v) (all := d.map eP) (d := d) (vars := [some (eD d), some (.int v), none, none, none]) (mem := mem) ⟨_, _, _, _, rfl⟩
    dsimp only at h2 h3
    subst h2
    rw [b56, exs_cons, ex_for (src := eD d) (m1 := m') rfl rfl rfl]
    rw [show kindItems 0 (d.map eP) = d.map eP from rfl]
    simp only [eD, List.replicate, List.set_cons_zero, List.set_cons_succ] at h1 ⊢
    rw [h1]
    rw [h3]
    cases nextD d v with
    | none => exact ⟨_, rfl, rfl, List.prefix_refl _⟩
    | some x => exact ⟨_, rfl, rfl, List.prefix_refl _⟩
  refine call_pure f63 _ rfl rfl ?_
  simp only [zE, b63, h, cm_eq, cm_ne, cm_lt, cm_le, cm_gt, cm_ge, cm_is]
  cases nextD d v with
  | none => simp only [eqA_none_int, Option.bind_some]; exact ⟨_, rfl, rfl, List.prefix_refl _⟩
  | some x =>
    simp only [eqA_int, Option.bind_some]
    refine ⟨_, rfl, ?_, List.prefix_refl _⟩
    simp; rfl
end Mine
end

section
open PySem
set_option maxRecDepth 100000
set_option linter.unusedVariables false
set_option linter.unusedSimpArgs false
namespace Mine

inductive Sn where
  | eq | ne | le | ge
deriving DecidableEq
noncomputable def Sn.str : Sn → Str
  | .eq => "=" | .ne => "!=" | .le => "<=" | .ge => ">="
structure Lit where
  x : Nat
  g : Sn
  k : Int

noncomputable def Lit.tr (l : Lit) (v : Int) : Bool := match l.g with
  | .eq => decide (v = l.k) | .ne => !decide (v = l.k) | .le => decide (v ≤ l.k) | .ge => decide (v ≥ l.k)
noncomputable def Lit.neg (l : Lit) : Lit := match l.g with
  | .eq => ⟨l.x, .ne, l.k⟩ | .ne => ⟨l.x, .eq, l.k⟩ | .le => ⟨l.x, .ge, l.k + 1⟩ | .ge => ⟨l.x, .le, l.k - 1⟩
noncomputable def eL (l : Lit) : AV := .tup [.int l.x, .str l.g.str, .int l.k]
noncomputable def eR (rs : List Lit) : AV := .tup (rs.map eL)
theorem eR_flat (rs : List Lit) : (eR rs).flat = true := by rw [eR, AV.flat]; exact flats_map _ (fun p => rfl) rs

theorem str_inj : ∀ a b : Sn, decide (a.str = b.str) = decide (a = b) := by
  intro a b; cases a <;> cases b <;> decide +kernel
theorem str_ok (a : Sn) : PyData.strOk a.str = true := by cases a <;> decide +kernel
theorem eq_str {mem : Mem} (a b : Sn) : eqA mem (.str a.str) (.str b.str) = some (decide (a = b)) := by
  rw [eqA_str (str_ok a) (str_ok b), str_inj]
theorem eq_le {mem : Mem} (a : Sn) : eqA mem (.str a.str) (.str ("<=" : Str)) = some (decide (a = .le)) := eq_str a .le
theorem eq_ge {mem : Mem} (a : Sn) : eqA mem (.str a.str) (.str (">=" : Str)) = some (decide (a = .ge)) := eq_str a .ge
theorem eq_eq {mem : Mem} (a : Sn) : eqA mem (.str a.str) (.str ("=" : Str)) = some (decide (a = .eq)) := eq_str a .eq

theorem it30 {a b c : AV} {m : Mem} : itemA (.tup [a, b, c]) (.int 0) m = some a := rfl
theorem it31 {a b c : AV} {m : Mem} : itemA (.tup [a, b, c]) (.int 1) m = some b := rfl
theorem it32 {a b c : AV} {m : Mem} : itemA (.tup [a, b, c]) (.int 2) m = some c := rfl
theorem neg_ok {n : Nat} {l : Lit} {mem : Mem} : callN prg (n + 1) 94 [eL l] mem = some (eL l.neg, mem) := by
  refine call_pure f94 _ rfl rfl ?_
  obtain ⟨x, g, k⟩ := l
  cases g <;> simp only [zE, b94, eL, it30, it31, it32, cm_eq, cm_ne, cm_lt, cm_le, cm_gt, cm_ge, cm_is, cm_in, cm_ni, eq_le, eq_ge, eq_eq, eqA_int, eqA_bool, bA_add, bA_sub, bA_tup, reduceCtorEq, decide_false, decide_true, if_true, if_false, Bool.false_eq_true] <;> exact ⟨_, rfl, rfl, List.prefix_refl _⟩
theorem other_ok {n : Nat} {l : Lit} {mem : Mem} : callN prg (n + 1) 410 [eL l] mem = some (eL l.neg, mem) := by
  refine call_pure f410 _ rfl rfl ?_
  obtain ⟨x, g, k⟩ := l
  cases g <;> simp only [zE, b410, eL, it30, it31, it32, cm_eq, cm_ne, cm_lt, cm_le, cm_gt, cm_ge, cm_is, cm_in, cm_ni, eq_le, eq_ge, eq_eq, eqA_int, eqA_bool, bA_add, bA_sub, bA_tup, reduceCtorEq, decide_false, decide_true, if_true, if_false, Bool.false_eq_true] <;> exact ⟨_, rfl, rfl, List.prefix_refl _⟩
theorem true_ok {n : Nat} {l : Lit} {v : Int} {mem : Mem} : callN prg (n + 1) 381 [eL l, .int v] mem = some (.bool (l.tr v), mem) := by
  refine call_pure f381 _ rfl rfl ?_
  obtain ⟨x, g, k⟩ := l
  cases g <;> simp only [zE, b381, eL, it30, it31, it32, cm_eq, cm_ne, cm_lt, cm_le, cm_gt, cm_ge, cm_is, cm_in, cm_ni, eq_le, eq_ge, eq_eq, eqA_int, eqA_bool, bA_add, bA_sub, bA_tup, reduceCtorEq, decide_false, decide_true, if_true, if_false, Bool.false_eq_true] <;> refine ⟨_, rfl, ?_, List.prefix_refl _⟩ <;> try rfl
  · by_cases h : v = k <;> simp [h, Lit.tr]
  · by_cases h : v = k <;> simp [h, Lit.tr]

theorem idx_nat {n : Nat} {i : Nat} (h : i < n) (hn : n ≤ 1000000) : idx n (i : Int) = some i := by
  unfold idx
  rw [if_neg (by omega), if_pos (by omega), if_pos (by omega)]; rfl
theorem get_mid {α : Type} {a b : List α} {x : α} {n : Nat} (h : a.length = n) : (a ++ x :: b)[n]? = some x := by subst h; simp
theorem item_mid {mem : Mem} {xs : List AV} {i : Nat} {x : AV} (hn : xs.length ≤ 1000000) (h : xs[i]? = some x) : itemA (.tup xs) (.int (i : Int)) mem = some x := by
  have hi : i < xs.length := by rw [List.getElem?_eq_some_iff] at h; exact h.1
  simp only [itemA, itemsA, idx_nat hi hn, Option.bind_some, h]
theorem item_list {mem : Mem} {xs : List AV} {n i : Nat} {x : AV} (hm : mem[n]? = some (.list xs)) (hn : xs.length ≤ 1000000) (h : xs[i]? = some x) : itemA (.obj n) (.int (i : Int)) mem = some x := by
  have hi : i < xs.length := by rw [List.getElem?_eq_some_iff] at h; exact h.1
  simp only [itemA, itemsA, hm, idx_nat hi hn, Option.bind_some, h]
theorem set_app {m : Mem} {t : Mem} {i : Nat} {o : MObj} (h : m.length ≤ i) : m <+: (m ++ t).set i o := by
  rw [List.set_append_right _ _ h]; exact List.prefix_append _ _
theorem pre_set {m m' : Mem} {i : Nat} {o : MObj} (h : m <+: m') (hi : m.length ≤ i) : m <+: m'.set i o := by
  obtain ⟨t, rfl⟩ := h; exact set_app hi
theorem get_set {m : Mem} {i : Nat} {o p : MObj} (h : m[i]? = some p) : (m.set i o)[i]? = some o := by
  rw [List.getElem?_set_self (by rw [List.getElem?_eq_some_iff] at h; exact h.1)]

noncomputable def mBody : List LS := [.assign (.vs [5, 6]) (.tuple [(.callB .«max» [(.item (.item (.var 0) (.var 3)) (.int 0)), (.item (.item (.var 1) (.var 4)) (.int 0))]), (.callB .«min» [(.item (.item (.var 0) (.var 3)) (.int 1)), (.item (.item (.var 1) (.var 4)) (.int 1))])]),
  .ite (.cmp .LtE (.var 5) (.var 6)) [.expr (.meth (.var 2) .«append» [(.tuple [(.var 5), (.var 6)])])] [],
  .ite (.cmp .Lt (.item (.item (.var 0) (.var 3)) (.int 1)) (.item (.item (.var 1) (.var 4)) (.int 1))) [.assign (.v 3) (.bin .Add (.var 3) (.int 1))] [.assign (.v 4) (.bin .Add (.var 4) (.int 1))]]
noncomputable def mTest : LE := .and (.cmp .Lt (.var 3) (.callB .«len» [(.var 0)])) (.cmp .Lt (.var 4) (.callB .«len» [(.var 1)]))
theorem mIter {Φ : Fun} {mem m : Mem} {k : Int} {b : Nat} {f : D} {pre r : D} {p : Int × Int} {v5 v6 v7 v8 v9 v10 : Option AV} {i : Nat} (hi : pre.length = i) (hl : (pre ++ p :: r).length ≤ 1000)
    (h1 : m[b]? = some (.list (f.map eP))) (h2 : mem <+: m) (h3 : mem.length ≤ b) (hf : f.length ≤ 1000) :
    W (exs prg.meths Φ mBody [some (eD (pre ++ p :: r)), some (eD [(k, k)]), some (.obj b), some (.int (i : Int)), some (.int 0), v5, v6, v7, v8, v9, v10] m) fun x => x.1 = .next ∧ mem <+: x.2.2 ∧
      x.2.2[b]? = some (.list ((f ++ (if max p.1 k ≤ min p.2 k then [(max p.1 k, min p.2 k)] else [])).map eP)) ∧
      ∃ v5 v6 v7 v8 v9 v10, x.2.1 = [some (eD (pre ++ p :: r)), some (eD [(k, k)]), some (.obj b), some (.int (if p.2 < k then (((i + 1 : Nat) : Int)) else (i : Int))), some (.int (if p.2 < k then 0 else 1)), v5, v6, v7, v8, v9, v10] := by
  have e1 : itemA (eD (pre ++ p :: r)) (.int (i : Int)) m = some (eP p) := item_mid (by rw [List.length_map]; omega) (by rw [List.getElem?_map, get_mid hi]; rfl)
  have e2 : ∀ m, itemA (eD [(k, k)]) (.int 0) m = some (eP (k, k)) := fun m => rfl
  have e3 : ∀ p m, itemA (eP p) (.int 0) m = some (.int p.1) := fun p m => rfl
  have e4 : ∀ p m, itemA (eP p) (.int 1) m = some (.int p.2) := fun p m => rfl
  have e5 : ∀ m, itemA (eD (pre ++ p :: r)) (.int (i : Int)) m = some (eP p) := fun m => item_mid (by rw [List.length_map]; omega) (by rw [List.getElem?_map, get_mid hi]; rfl)
  simp only [zE, mBody, e5, e2, e3, e4, callB, cm_eq, cm_ne, cm_lt, cm_le, cm_gt, cm_ge, cm_is, cm_in, cm_ni, bA_add, bA_sub, bA_tup]
  by_cases q : max p.1 k ≤ min p.2 k
  · rw [ev_mlist rfl h1]
    simp only [zE, decide_eq_true q, if_true, h1, lm_append, lm_pop, lm_extend, lm_index]
    rw [if_pos (sz_of (by rw [List.length_map]; omega)), if_pos q]
    simp only [zE, e5, e2, e3, e4, cm_eq, cm_ne, cm_lt, cm_le, cm_gt, cm_ge, cm_is, cm_in, cm_ni, bA_add, bA_sub, bA_tup]
    by_cases q2 : p.2 < k
    · simp only [zE, decide_eq_true q2, if_true, if_pos q2]
      refine W_some ?_
      refine ⟨rfl, pre_set h2 h3, ?_, _, _, _, _, _, _, rfl⟩
      rw [get_set h1, List.map_append]; rfl
    · simp only [zE, decide_eq_false q2, if_false, if_neg q2, Bool.false_eq_true]
      refine W_some ?_
      refine ⟨rfl, pre_set h2 h3, ?_, _, _, _, _, _, _, rfl⟩
      rw [get_set h1, List.map_append]; rfl
  · simp only [zE, decide_eq_false q, if_false, Bool.false_eq_true, e5, e2, e3, e4, cm_eq, cm_ne, cm_lt, cm_le, cm_gt, cm_ge, cm_is, cm_in, cm_ni, bA_add, bA_sub, bA_tup, if_neg q]
    by_cases q2 : p.2 < k
    · simp only [zE, decide_eq_true q2, if_true, if_pos q2]
      refine W_some ?_
      refine ⟨rfl, h2, ?_, _, _, _, _, _, _, rfl⟩
      rw [h1, List.append_nil]
    · simp only [zE, decide_eq_false q2, if_false, if_neg q2, Bool.false_eq_true]
      refine W_some ?_
      refine ⟨rfl, h2, ?_, _, _, _, _, _, _, rfl⟩
      rw [h1, List.append_nil]
end Mine
end

section
open PySem
set_option maxRecDepth 100000
set_option linter.unusedVariables false
set_option linter.unusedSimpArgs false
namespace Mine

theorem itemsA_eD {d : D} {m : Mem} : itemsA m (eD d) = some (d.map eP) := rfl
theorem len_eD {d : D} (h : d.length ≤ 1000) {m : Mem} : callB .len [eD d] m = some (.int d.length, m) := by
  simp only [callB, itemsA_eD]
  rw [if_pos (sz_of (by rw [List.length_map]; omega)), List.length_map]
theorem mTest_ok {Φ : Fun} {m : Mem} {d e : D} {a : Option AV} {i j : Int} {v5 v6 v7 v8 v9 v10 : Option AV} (hd : d.length ≤ 1000) (he : e.length ≤ 1000) :
    ev prg.meths Φ [some (eD d), some (eD e), a, some (.int i), some (.int j), v5, v6, v7, v8, v9, v10] mTest m = some (.bool (decide (i < d.length ∧ j < e.length)), m) := by
  simp only [zE, mTest, len_eD hd, len_eD he, cm_eq, cm_ne, cm_lt, cm_le, cm_gt, cm_ge, cm_is, cm_in, cm_ni]
  by_cases h : i < d.length
  · simp only [h, if_true, true_and, decide_true]
  · simp only [h, if_false, false_and, Bool.false_eq_true, decide_false]
theorem mLoop {Φ : Fun} {mem : Mem} {k : Int} {b : Nat} (h3 : mem.length ≤ b) : ∀ (r : D) {m : Mem} {f pre : D} {v5 v6 v7 v8 v9 v10 : Option AV} {i n : Nat} (hi : pre.length = i) (hl : (pre ++ r).length ≤ 900)
    (h1 : m[b]? = some (.list (f.map eP))) (h2 : mem <+: m) (hf : f.length ≤ pre.length) (hn : r.length < n),
    W (whileLoop (fun vars mem => ev prg.meths Φ vars mTest mem) (exs prg.meths Φ mBody) n [some (eD (pre ++ r)), some (eD [(k, k)]), some (.obj b), some (.int (i : Int)), some (.int 0), v5, v6, v7, v8, v9, v10] m) fun x => x.1 = .next ∧ mem <+: x.2.2 ∧
      x.2.2[b]? = some (.list ((f ++ meetD r k).map eP)) ∧ (f ++ meetD r k).length ≤ 900 ∧ x.2.1[2]? = some (some (.obj b)) := by
  intro r
  induction r with
  | nil =>
    intro m f pre v5 v6 v7 v8 v9 v10 i n hi hl h1 h2 hf hn
    obtain ⟨n, rfl⟩ := Nat.exists_eq_succ_of_ne_zero (Nat.ne_of_gt (Nat.lt_of_le_of_lt (Nat.zero_le _) hn))
    rw [while_stop (m1 := m) (by
      rw [mTest_ok (by omega) (by simp)]
      rw [decide_eq_false]
      rw [List.append_nil]; omega)]
    refine W_some ?_
    refine ⟨rfl, h2, by simp only [meetD, List.append_nil]; exact h1, ?_, rfl⟩
    rw [meetD, List.append_nil]; rw [List.append_nil] at hl; omega
  | cons p r ih =>
    intro m f pre v5 v6 v7 v8 v9 v10 i n hi hl h1 h2 hf hn
    obtain ⟨n, rfl⟩ := Nat.exists_eq_succ_of_ne_zero (Nat.ne_of_gt (Nat.lt_of_le_of_lt (Nat.zero_le _) hn))
    obtain ⟨⟨fl, v, m'⟩, e, k1, k2, k3, w5, w6, w7, w8, w9, w10, k4⟩ := mIter (Φ := Φ) (v5 := v5) (v6 := v6) (v7 := v7) (v8 := v8) (v9 := v9) (v10 := v10) hi (by omega) h1 h2 h3 (by rw [List.length_append] at hl; omega) (p := p) (r := r) (k := k)
    dsimp only at k1 k2 k3 k4
    subst k1; subst k4
    rw [List.length_append, List.length_cons] at hl
    rw [while_go (m1 := m) (by
      rw [mTest_ok (by rw [List.length_append, List.length_cons]; omega) (by simp)]
      rw [decide_eq_true]
      rw [List.length_append, List.length_cons]
      constructor
      · omega
      · exact Int.one_pos) e]
    have hlen : ∀ (c : Prop) [Decidable c] (q : Int × Int), (if c then [q] else []).length ≤ 1 := by
      intro c _ q; split <;> simp
    by_cases q : p.2 < k
    · rw [if_pos q, if_pos q]
      have h := ih (f := f ++ (if max p.1 k ≤ min p.2 k then [(max p.1 k, min p.2 k)] else [])) (pre := pre ++ [p]) (i := i + 1) (n := n) (v5 := w5) (v6 := w6) (v7 := w7) (v8 := w8) (v9 := w9) (v10 := w10)
        (by rw [List.length_append, hi]; rfl) (by rw [List.length_append, List.length_append]; simp only [List.length_cons, List.length_nil]; omega) k3 k2
        (by rw [List.length_append, List.length_append]; have := hlen (max p.1 k ≤ min p.2 k) (max p.1 k, min p.2 k); simp only [List.length_cons, List.length_nil]; omega) (by rw [List.length_cons] at hn; omega)
      rw [List.append_assoc, List.append_assoc] at h
      simp only [meetD, if_pos q]
      exact h
    · rw [if_neg q, if_neg q]
      obtain ⟨n, rfl⟩ : ∃ n', n = n' + 1 := ⟨n - 1, by rw [List.length_cons] at hn; omega⟩
      rw [while_stop (m1 := m') (by
        rw [mTest_ok (by rw [List.length_append, List.length_cons]; omega) (by simp)]
        rw [decide_eq_false]
        intro h
        have := h.2
        simp at this)]
      simp only [meetD, if_neg q, List.append_nil]
      refine W_some ?_
      refine ⟨rfl, k2, k3, ?_, rfl⟩
      rw [List.length_append]; have := hlen (max p.1 k ≤ min p.2 k) (max p.1 k, min p.2 k); omega
theorem meet_ok {n : Nat} {d : D} (hd : d.length ≤ 900) {k : Int} {mem : Mem} : callN prg (n + 1) 87 [eD d, eD [(k, k)]] mem = some (eD (meetD d k), mem) := by
  refine call_pure f87 _ rfl (eD_flat _) ?_
  rw [b87, exs_cons]
  simp only [zE]
  rw [ex_while]
  obtain ⟨⟨fl, v, m'⟩, e, k1, k2, k3, k5, k4⟩ := mLoop (Φ := callN prg n) (mem := mem) (k := k) (b := mem.length) (Nat.le_refl _) d (m := mem ++ [.list []]) (f := []) (pre := []) (v5 := none) (v6 := none) (v7 := none) (v8 := none) (v9 := none) (v10 := none) (i := 0) (n := 1000)
    rfl hd get_new (List.prefix_append _ _) (Nat.le_refl _) (by omega)
  dsimp only at k1 k2 k3 k4
  subst k1
  rw [List.nil_append] at e k3 k5
  refine W_bind ⟨_, e, ?_⟩
  dsimp only
  simp only [zE, k4, callB, itemsA, k3]
  rw [if_pos (sz_of (by rw [List.length_map]; omega))]
  refine W_some ?_
  exact ⟨rfl, k2⟩

noncomputable def struckD (l : Lit) (d : D) : D := match l.g with
  | .le => upToD d l.k | .ge => fromD d l.k | .eq => meetD d l.k | .ne => withoutD d l.k
theorem struck_ok {n : Nat} {d : D} (hd : d.length ≤ 900) {l : Lit} {mem : Mem} : callN prg (n + 3) 101 [eL l, eD d] mem = some (eD (struckD l d), mem) := by
  refine call_pure f101 _ rfl (eD_flat _) ?_
  have e1 : ∀ k : Int, AV.tup [.tup [.int k, .int k]] = eD [(k, k)] := fun k => rfl
  have hd' : d.length ≤ 1000 := by omega
  obtain ⟨x, g, k⟩ := l
  cases g <;> simp only [zE, b101, eL, it30, it31, it32, cm_eq, cm_ne, cm_lt, cm_le, cm_gt, cm_ge, cm_is, cm_in, cm_ni, eq_le, eq_ge, eq_eq, reduceCtorEq, decide_false, decide_true, if_true, if_false, Bool.false_eq_true, e1, meet_ok hd, upTo_ok hd', from_ok hd', without_ok hd'] <;>
    exact W_some ⟨rfl, List.prefix_refl _⟩

noncomputable abbrev Mk := Fin 8
noncomputable def hasM (m : Mk) (v : Int) : Bool := (decide (v = 1) && decide (m.val % 2 = 1)) || (decide (v = 2) && decide (m.val / 2 % 2 = 1)) || (decide (v = 3) && decide (m.val / 4 = 1))
noncomputable def vals (m : Mk) : List Int := [1, 2, 3].filter (hasM m)
noncomputable def mkM : Bool → Bool → Bool → Mk
  | false, false, false => 0 | true, false, false => 1 | false, true, false => 2 | true, true, false => 3 | false, false, true => 4 | true, false, true => 5 | false, true, true => 6 | true, true, true => 7
noncomputable def ofP (p : Int → Bool) : Mk := mkM (p 1) (p 2) (p 3)
noncomputable def dM : Mk → D
  | 0 => [] | 1 => [(1, 1)] | 2 => [(2, 2)] | 3 => [(1, 2)] | 4 => [(3, 3)] | 5 => [(1, 1), (3, 3)] | 6 => [(2, 3)] | 7 => [(1, 3)]
noncomputable def eM (m : Mk) : AV := eD (dM m)
noncomputable def strikeM (l : Lit) (m : Mk) : Mk := ofP fun v => hasM m v && l.tr v
theorem dM_len : ∀ m : Mk, (dM m).length ≤ 2 := by decide +kernel
noncomputable def allS : List Sn := [.eq, .ne, .le, .ge]
theorem struck_tab : ∀ k : Fin 4, ∀ m : Mk, ∀ g ∈ allS, struckD ⟨0, g, (k.val : Int) + 1⟩ (dM m) = dM (strikeM ⟨0, g, (k.val : Int) + 1⟩ m) := by decide +kernel
noncomputable def okK (k : Int) : Prop := 1 ≤ k ∧ k ≤ 4
theorem struck_M {l : Lit} (hk : okK l.k) (m : Mk) : struckD l (dM m) = dM (strikeM l m) := by
  obtain ⟨x, g, k⟩ := l
  have h := struck_tab ⟨(k - 1).toNat, by have := hk.2; have := hk.1; dsimp at *; omega⟩ m g (by cases g <;> decide)
  have e : (((k - 1).toNat : Nat) : Int) + 1 = k := by have := hk.2; have := hk.1; dsimp at *; omega
  dsimp only at h
  rw [e] at h
  exact h
theorem strike_ok {n : Nat} {m : Mk} {l : Lit} (hk : okK l.k) {mem : Mem} : callN prg (n + 3) 101 [eL l, eM m] mem = some (eM (strikeM l m), mem) := by
  have := dM_len m
  rw [eM, struck_ok (by omega), struck_M hk]; rfl
theorem has_tab : ∀ k : Fin 4, ∀ m : Mk, (nextD (dM m) ((k.val : Int) + 1) == some ((k.val : Int) + 1)) = hasM m ((k.val : Int) + 1) := by decide +kernel
theorem hasM_ok {n : Nat} {m : Mk} {k : Int} (hk : okK k) {mem : Mem} : callN prg (n + 2) 63 [eM m, .int k] mem = some (.bool (hasM m k), mem) := by
  have h := has_tab ⟨(k - 1).toNat, by have := hk.2; have := hk.1; omega⟩ m
  have e : (((k - 1).toNat : Nat) : Int) + 1 = k := by have := hk.2; have := hk.1; omega
  dsimp only at h
  rw [e] at h
  rw [eM, has_ok, h]
theorem hasM_ofP (p : Int → Bool) (v : Int) : hasM (ofP p) v = ((decide (v = 1) || decide (v = 2) || decide (v = 3)) && p v) := by
  by_cases h1 : v = 1
  · subst h1; unfold ofP; cases p 1 <;> cases p 2 <;> cases p 3 <;> decide
  by_cases h2 : v = 2
  · subst h2; unfold ofP; cases p 1 <;> cases p 2 <;> cases p 3 <;> decide
  by_cases h3 : v = 3
  · subst h3; unfold ofP; cases p 1 <;> cases p 2 <;> cases p 3 <;> decide
  simp [hasM, h1, h2, h3]
theorem hasM_range {m : Mk} {v : Int} (h : hasM m v = true) : v = 1 ∨ v = 2 ∨ v = 3 := by
  unfold hasM at h
  simp only [Bool.or_eq_true, Bool.and_eq_true, decide_eq_true_eq] at h
  omega
theorem has_strike (l : Lit) (m : Mk) (v : Int) : hasM (strikeM l m) v = (hasM m v && l.tr v) := by
  rw [strikeM, hasM_ofP]
  by_cases h : hasM m v = true
  · rcases hasM_range h with rfl | rfl | rfl <;> simp
  · simp [h]
theorem mask_ext0 : ∀ a b : Mk, hasM a 1 = hasM b 1 → hasM a 2 = hasM b 2 → hasM a 3 = hasM b 3 → a = b := by decide +kernel
theorem mask_ext {a b : Mk} (h : ∀ v, hasM a v = hasM b v) : a = b := mask_ext0 a b (h 1) (h 2) (h 3)
theorem mem_vals {m : Mk} {v : Int} : v ∈ vals m ↔ hasM m v = true := by
  unfold vals
  rw [List.mem_filter]
  constructor
  · exact fun h => h.2
  · intro h
    refine ⟨?_, h⟩
    rcases hasM_range h with rfl | rfl | rfl <;> decide
theorem vals_filter (m : Mk) (p : Int → Bool) : (vals m).filter p = vals (ofP fun v => hasM m v && p v) := by
  unfold vals
  rw [List.filter_filter]
  refine List.filter_congr fun v hv => ?_
  rw [hasM_ofP]
  have : v = 1 ∨ v = 2 ∨ v = 3 := by simpa using hv
  rcases this with rfl | rfl | rfl <;> simp [Bool.and_comm]
theorem vals_inj0 : ∀ a b : Mk, vals a = vals b → a = b := by decide +kernel
theorem dM_inj : ∀ a b : Mk, dM a = dM b → a = b := by decide +kernel
theorem eP_inj {p q : Int × Int} (h : eP p = eP q) : p = q := by
  obtain ⟨a, b⟩ := p; obtain ⟨c, d⟩ := q
  simpa [eP] using h
theorem eD_inj : ∀ {d e : D}, eD d = eD e → d = e := by
  intro d e h
  have h : d.map eP = e.map eP := by simpa [eD] using h
  exact List.map_inj_right (fun x y => eP_inj) |>.mp h
theorem eM_inj {a b : Mk} (h : eM a = eM b) : a = b := dM_inj a b (eD_inj h)
theorem mask_zero {m : Mk} : m = 0 ↔ ∀ v, hasM m v = false := by
  constructor
  · rintro rfl v; simp [hasM]
  · intro h; exact mask_ext fun v => by rw [h v]; simp [hasM]
theorem eM_cl (m : Mk) : cl 3 (eM m) = true := by
  have : ∀ p : Int × Int, cl 2 (eP p) = true := fun p => rfl
  show (List.map eP (dM m)).all (cl 2) = true
  rw [List.all_map, List.all_eq_true]
  exact fun p _ => rfl
end Mine
end

section
open PySem
set_option maxRecDepth 100000
set_option linter.unusedVariables false
set_option linter.unusedSimpArgs false
namespace Mine

noncomputable def Only (own : Nat → Prop) (m m' : Mem) : Prop := m.length ≤ m'.length ∧ ∀ i < m.length, ¬ own i → m'[i]? = m[i]?
theorem Only.refl {own : Nat → Prop} (m : Mem) : Only own m m := ⟨Nat.le_refl _, fun _ _ _ => rfl⟩
theorem Only.trans {own : Nat → Prop} {a b c : Mem} (h : Only own a b) (k : Only own b c) : Only own a c :=
  ⟨Nat.le_trans h.1 k.1, fun i hi hn => (k.2 i (Nat.lt_of_lt_of_le hi h.1) hn).trans (h.2 i hi hn)⟩
theorem Only.mono {own own' : Nat → Prop} {a b : Mem} (h : Only own a b) (k : ∀ i, own i → own' i) : Only own' a b := ⟨h.1, fun i hi hn => h.2 i hi fun q => hn (k i q)⟩
theorem Only.of_pre {own : Nat → Prop} {a b : Mem} (h : a <+: b) : Only own a b := by
  obtain ⟨t, rfl⟩ := h
  exact ⟨by rw [List.length_append]; omega, fun i hi _ => List.getElem?_append_left hi⟩
theorem Only.of_set {own : Nat → Prop} {a : Mem} {i : Nat} {o : MObj} (h : own i) : Only own a (a.set i o) :=
  ⟨by rw [List.length_set]; omega, fun j hj hn => List.getElem?_set_ne (fun q => hn (by subst q; exact h))⟩
theorem Only.get {own : Nat → Prop} {a b : Mem} (h : Only own a b) {i : Nat} {o : MObj} (g : a[i]? = some o) (hn : ¬ own i) : b[i]? = some o := by
  rw [h.2 i (lt_of_get g) hn, g]
theorem Only.pre {own : Nat → Prop} {a b c : Mem} (h : a <+: b) (k : Only own b c) (hn : ∀ i, own i → a.length ≤ i) : a <+: c := by
  rw [List.prefix_iff_getElem?]
  intro i hi
  have e : b[i]? = some a[i] := by rw [List.prefix_iff_getElem?] at h; exact h i hi
  exact k.get e fun q => by have := hn i q; omega

noncomputable def pbD (f : D) (lo hi : Int) : D := match f.getLast? with
  | some p => if lo ≤ p.2 + 1 then (if hi > p.2 then f.dropLast ++ [(p.1, hi)] else f) else f ++ [(lo, hi)]
  | none => [(lo, hi)]
theorem item_last {mem : Mem} {b : Nat} {f : D} {p : Int × Int} (h1 : mem[b]? = some (.list ((f ++ [p]).map eP))) (hf : f.length ≤ 1000) : itemA (.obj b) (.int (-1)) mem = some (eP p) := by
  have e : idx ((f ++ [p]).map eP).length (-1) = some f.length := by
    unfold idx
    rw [List.length_map, List.length_append]
    simp only [List.length_cons, List.length_nil]
    rw [if_neg (by omega), if_neg (by omega), if_pos (by omega)]
    congr 1
    omega
  simp only [itemA, itemsA, h1, e, Option.bind_some]
  rw [List.getElem?_map, get_mid rfl]; rfl
theorem it20 {a b : AV} {m : Mem} : itemA (.tup [a, b]) (.int 0) m = some a := rfl
theorem it21 {a b : AV} {m : Mem} : itemA (.tup [a, b]) (.int 1) m = some b := rfl
theorem putBehind_ok {n : Nat} {mem : Mem} {b : Nat} {f : D} {lo hi : Int} (h1 : mem[b]? = some (.list (f.map eP))) (hf : f.length ≤ 900) :
    W (callN prg (n + 1) 28 [.obj b, .int lo, .int hi] mem) fun r => r.1 = .none ∧ Only (· = b) mem r.2 ∧ r.2[b]? = some (.list ((pbD f lo hi).map eP)) := by
  refine call_raw f28 rfl ?_
  have e1 : callB .len [.obj b] mem = some (.int f.length, mem) := by
    simp only [callB, itemsA, h1]
    rw [if_pos (sz_of (by rw [List.length_map]; omega)), List.length_map]
  rcases List.eq_nil_or_concat f with rfl | ⟨g, p, rfl⟩
  · have e4 : decide (((([] : D).length : Nat) : Int) > 0) = false := rfl
    simp only [zE, b28, e1, cm_eq, cm_ne, cm_lt, cm_le, cm_gt, cm_ge, cm_is, cm_in, cm_ni, e4, Bool.false_eq_true, if_false]
    rw [ev_mlist rfl h1]
    simp only [zE, h1, lm_append, lm_pop, lm_extend, lm_index]
    refine W_some (.inl ?_)
    refine ⟨rfl, by trivial, Only.of_set rfl, ?_⟩
    rw [get_set h1]; rfl
  · rw [List.concat_eq_append] at h1 hf e1
    rw [List.concat_eq_append]
    have hp : (g ++ [p]).length = g.length + 1 := by rw [List.length_append]; rfl
    rw [hp] at hf
    have e2 := item_last h1 (by omega)
    have e4 : ((((g ++ [p]).length : Nat) : Int) > 0) := by rw [hp]; omega
    have epb : pbD (g ++ [p]) lo hi = if lo ≤ p.2 + 1 then (if hi > p.2 then g ++ [(p.1, hi)] else g ++ [p]) else g ++ [p] ++ [(lo, hi)] := by
      unfold pbD
      rw [List.getLast?_append]; simp
    simp only [zE, b28, e1, cm_eq, cm_ne, cm_lt, cm_le, cm_gt, cm_ge, cm_is, cm_in, cm_ni, e4, decide_true, if_true, e2, eP, it21, it20, bA_add, bA_sub, bA_tup]
    rw [epb]
    by_cases q : lo ≤ p.2 + 1
    · simp only [q, decide_true, if_true]
      by_cases q2 : hi > p.2
      · have e5 : ∀ a, setItemA (.obj b) (.int (-1)) a mem = some (mem.set b (.list (((g ++ [p]).map eP).set g.length a))) := by
          intro a
          have e : idx ((g ++ [p]).map eP).length (-1) = some g.length := by
            unfold idx
            rw [List.length_map, hp]
            rw [if_neg (by omega), if_neg (by omega), if_pos (by omega)]
            congr 1
            omega
          simp only [setItemA, h1, e, Option.map_some]
        simp only [zE, q2, decide_true, if_true, e5]
        refine W_some (.inl ?_)
        refine ⟨rfl, by trivial, Only.of_set rfl, ?_⟩
        rw [get_set h1]
        simp [eP]
      · simp only [zE, q2, decide_false, if_false, Bool.false_eq_true]
        refine W_some (.inl ?_)
        exact ⟨rfl, by trivial, Only.refl _, h1⟩
    · simp only [q, decide_false, if_false, Bool.false_eq_true]
      rw [ev_mlist rfl h1]
      simp only [zE, h1, lm_append, lm_pop, lm_extend, lm_index]
      rw [if_pos (sz_of (by rw [List.length_map, hp]; omega))]
      refine W_some (.inl ?_)
      refine ⟨rfl, by trivial, Only.of_set rfl, ?_⟩
      rw [get_set h1]
      simp [eP]

theorem intsA_map : ∀ l : List Int, intsA (l.map .int) = some l := by
  intro l
  induction l with
  | nil =>
    exact rfl
  | cons i l ih =>
    rw [List.map_cons, intsA, ih]; rfl
theorem fvLoop {n : Nat} {mem : Mem} {b s : Nat} {all : List AV} (hb : b ≠ s) (hb2 : mem.length ≤ b) : ∀ {l : List Int} {m : Mem} {f : D} {v1 v0 v2 v3 v4 : Option AV},
    m[b]? = some (.list (f.map eP)) → m[s]? = some (.list all) → mem <+: m → f.length + l.length ≤ 900 →
    W (forLoop (.obj s) all (.v 2) (exs prg.meths (callN prg (n + 1)) [.expr (.callF 28 [(.var 1), (.var 2), (.var 2)])]) (l.map .int) [v0, some (.obj b), v1, v2, v3, v4] m) fun r =>
      r.1 = .next ∧ mem <+: r.2.2 ∧ r.2.2[b]? = some (.list ((l.foldl (fun f v => pbD f v v) f).map eP)) ∧ r.2.1[1]? = some (some (.obj b)) := by
  intro l
  induction l with
  | nil =>
    intro m f v1 v0 v2 v3 v4 h1 h2 h3 h4
    refine W_some ?_
    exact ⟨rfl, h3, h1, rfl⟩
  | cons v l ih =>
    intro m f v1 v0 v2 v3 v4 h1 h2 h3 h4
    rw [List.length_cons] at h4
    obtain ⟨⟨a, m'⟩, e, k1, k2, k3⟩ := putBehind_ok (n := n) (lo := v) (hi := v) h1 (by omega)
    dsimp only at k1 k2 k3
    subst k1
    have hs : m'[s]? = some (.list all) := k2.get h2 (fun q => hb q.symm)
    rw [List.map_cons, for_cons (v1 := [v0, some (.obj b), some (.int v), v2, v3, v4]) (v2 := [v0, some (.obj b), some (.int v), v2, v3, v4]) (m2 := m') rfl (by simp only [zE, e]) (by simp only [stillA, hs, decide_true])]
    refine ih (f := pbD f v v) k3 hs (k2.pre h3 (fun i q => q ▸ hb2)) ?_
    have : (pbD f v v).length ≤ f.length + 1 := by
      unfold pbD
      rcases List.eq_nil_or_concat f with rfl | ⟨g, p, rfl⟩
      · simp
      · rw [List.concat_eq_append]; simp only [List.getLast?_append, List.getLast?_singleton, Option.some_or]
        split
        · split <;> simp
        · simp
    omega
theorem fv_tab : ∀ m : Mk, (sortI (vals m)).foldl (fun f v => pbD f v v) [] = dM m := by decide +kernel
theorem sort_tab : ∀ m : Mk, (sortI (vals m)).length ≤ 3 := by decide +kernel
theorem fromValues_ok {n : Nat} {mem : Mem} {i : Nat} {m : Mk} (h : mem[i]? = some (.list ((vals m).map .int))) : callN prg (n + 2) 35 [.obj i] mem = some (eM m, mem) := by
  refine call_pure f35 _ rfl (eD_flat _) ?_
  have e1 : callB .sorted [.obj i] (mem ++ [.list []]) = some (.obj (mem.length + 1), mem ++ [.list []] ++ [.list ((sortI (vals m)).map .int)]) := by
    have : ((vals m).map AV.int).length ≤ 3 := by rw [List.length_map]; unfold vals; exact List.length_filter_le _ _
    simp only [callB, get_pre (List.prefix_append _ _) h, intsA_map]
    rw [if_pos (by omega), List.length_append]; rfl
  simp only [zE, b35]
  rw [ex_for (src := .obj (mem.length + 1)) (m1 := mem ++ [.list []] ++ [.list ((sortI (vals m)).map .int)]) (xs := (sortI (vals m)).map .int) (by simp only [zE, e1]) (by
    simp only [iterA, itemsA]
    rw [show mem.length + 1 = (mem ++ [MObj.list []]).length by rw [List.length_append]; rfl, get_new]) rfl]
  obtain ⟨⟨fl, v, m'⟩, e, k1, k2, k3, k4⟩ := fvLoop (n := n) (mem := mem) (b := mem.length) (s := mem.length + 1) (all := (sortI (vals m)).map .int) (by omega) (Nat.le_refl _) (l := sortI (vals m)) (m := mem ++ [.list []] ++ [.list ((sortI (vals m)).map .int)])
    (f := []) (v0 := some (.obj i)) (v1 := none) (v2 := none) (v3 := none) (v4 := none) (get_pre (List.prefix_append _ _) get_new) (by
    rw [show mem.length + 1 = (mem ++ [MObj.list []]).length by rw [List.length_append]; rfl, get_new]) (by rw [List.append_assoc]; exact List.prefix_append _ _) (by have := sort_tab m; simp; omega)
  dsimp only at k1 k2 k3 k4
  subst k1
  refine W_bind ⟨_, e, ?_⟩
  rw [fv_tab] at k3
  have := dM_len m
  dsimp only
  simp only [zE, k4, callB, itemsA, k3]
  rw [if_pos (sz_of (by rw [List.length_map]; omega))]
  refine W_some ?_
  exact ⟨rfl, k2⟩
end Mine
end

section
open PySem
set_option maxRecDepth 100000
set_option linter.unusedVariables false
set_option linter.unusedSimpArgs false
namespace Mine

noncomputable def eO : Option (List Lit) → AV
  | none => .none
  | some rs => eR rs
set_option genInjectivity false in
structure Ent where
  x : Nat
  old : Mk
  lit : Lit
  rs : Option (List Lit)
  sp : Int
noncomputable def eE (e : Ent) : AV := .tup [.int e.x, eM e.old, eL e.lit, eO e.rs, .int e.sp]
set_option genInjectivity false in
structure Sg where
  doms : List Mk
  firsts : List Mk
  trail : List Ent
  marks : List Nat
  news : Nat
  speaker : Int
  failed : Bool
  clash : List Lit
set_option genInjectivity false in
structure Ad where
  st : Nat
  d : Nat
  dm : Nat
  fi : Nat
  tr : Nat
  mr : Nat
  nw : Nat
noncomputable def Ad.all (A : Ad) : List Nat := [A.st, A.d, A.dm, A.fi, A.tr, A.mr, A.nw]
noncomputable def Ad.own (A : Ad) (i : Nat) : Prop := i ∈ A.all
noncomputable def eN (n : Nat) : AV := .int n
noncomputable def dictOf (A : Ad) (σ : Sg) : List (Nm × AV) := [(.domains, .obj A.dm), (.firsts, .obj A.fi), (.trail, .obj A.tr), (.marks, .obj A.mr), (.news, .obj A.nw), (.speaker, .int σ.speaker), (.isFailed, .bool σ.failed), (.clash, eR σ.clash)]
structure St (A : Ad) (m : Mem) (σ : Sg) : Prop where
  inst : m[A.st]? = some (.inst 258 A.d)
  dict : m[A.d]? = some (.sdict (dictOf A σ))
  dm : m[A.dm]? = some (.list (σ.doms.map eM))
  fi : m[A.fi]? = some (.list (σ.firsts.map eM))
  tr : m[A.tr]? = some (.list (σ.trail.map eE))
  mr : m[A.mr]? = some (.list (σ.marks.map eN))
  nw : m[A.nw]? = some (.idict σ.news)
  nd : A.all.Nodup
  ld : σ.doms.length ≤ 100
  lf : σ.firsts.length ≤ 100
  lt : σ.trail.length ≤ 500
  lm : σ.marks.length ≤ 500
  ln : σ.news ≤ 500
theorem St.of {A : Ad} {m m' : Mem} {σ : Sg} (S : St A m σ) (h : ∀ i, A.own i → m'[i]? = m[i]?) : St A m' σ := by
  refine ⟨?_, ?_, ?_, ?_, ?_, ?_, ?_, S.nd, S.ld, S.lf, S.lt, S.lm, S.ln⟩
  · rw [h _ (by simp [Ad.own, Ad.all])]; exact S.inst
  · rw [h _ (by simp [Ad.own, Ad.all])]; exact S.dict
  · rw [h _ (by simp [Ad.own, Ad.all])]; exact S.dm
  · rw [h _ (by simp [Ad.own, Ad.all])]; exact S.fi
  · rw [h _ (by simp [Ad.own, Ad.all])]; exact S.tr
  · rw [h _ (by simp [Ad.own, Ad.all])]; exact S.mr
  · rw [h _ (by simp [Ad.own, Ad.all])]; exact S.nw
theorem St.lt_len {A : Ad} {m : Mem} {σ : Sg} (S : St A m σ) {i : Nat} (h : A.own i) : i < m.length := by
  simp only [Ad.own, Ad.all, List.mem_cons, List.not_mem_nil, or_false] at h
  rcases h with rfl | rfl | rfl | rfl | rfl | rfl | rfl
  · exact lt_of_get S.inst
  · exact lt_of_get S.dict
  · exact lt_of_get S.dm
  · exact lt_of_get S.fi
  · exact lt_of_get S.tr
  · exact lt_of_get S.mr
  · exact lt_of_get S.nw
theorem St.only {A : Ad} {m m' : Mem} {σ : Sg} {own : Nat → Prop} (S : St A m σ) (h : Only own m m') (k : ∀ i, A.own i → ¬ own i) : St A m' σ :=
  S.of fun i hi => h.2 i (S.lt_len hi) (k i hi)
theorem St.pre {A : Ad} {m m' : Mem} {σ : Sg} (S : St A m σ) (h : m <+: m') : St A m' σ := S.only (Only.of_pre (own := fun _ => False) h) (fun _ _ q => q)
theorem St.new {A : Ad} {m : Mem} {σ : Sg} (S : St A m σ) {i : Nat} (h : m.length ≤ i) : ¬ A.own i := fun q => by have := S.lt_len q; omega

section
variable {A : Ad} {m : Mem} {σ : Sg} (S : St A m σ)
include S
theorem St.ne : A.st ≠ A.d ∧ A.st ≠ A.dm ∧ A.st ≠ A.fi ∧ A.st ≠ A.tr ∧ A.st ≠ A.mr ∧ A.st ≠ A.nw ∧ A.d ≠ A.dm ∧ A.d ≠ A.fi ∧ A.d ≠ A.tr ∧ A.d ≠ A.mr ∧ A.d ≠ A.nw ∧ A.dm ≠ A.fi ∧ A.dm ≠ A.tr ∧ A.dm ≠ A.mr ∧ A.dm ≠ A.nw ∧
    A.fi ≠ A.tr ∧ A.fi ≠ A.mr ∧ A.fi ≠ A.nw ∧ A.tr ≠ A.mr ∧ A.tr ≠ A.nw ∧ A.mr ≠ A.nw := by
  have h := S.nd
  simp only [Ad.all, List.nodup_cons, List.mem_cons, not_or, List.not_mem_nil, not_false_eq_true, and_true, List.nodup_nil] at h
  obtain ⟨⟨a1, a2, a3, a4, a5, a6⟩, ⟨b1, b2, b3, b4, b5⟩, ⟨c1, c2, c3, c4⟩, ⟨d1, d2, d3⟩, ⟨e1, e2⟩, g⟩ := h
  exact ⟨a1, a2, a3, a4, a5, a6, b1, b2, b3, b4, b5, c1, c2, c3, c4, d1, d2, d3, e1, e2, g⟩
theorem St.a_dm : attrA prg.meths (.obj A.st) .domains m = some (.obj A.dm) := by simp only [attrA, S.inst, S.dict]; rfl
theorem St.a_fi : attrA prg.meths (.obj A.st) .firsts m = some (.obj A.fi) := by simp only [attrA, S.inst, S.dict]; rfl
theorem St.a_tr : attrA prg.meths (.obj A.st) .trail m = some (.obj A.tr) := by simp only [attrA, S.inst, S.dict]; rfl
theorem St.a_mk : attrA prg.meths (.obj A.st) .marks m = some (.obj A.mr) := by simp only [attrA, S.inst, S.dict]; rfl
theorem St.a_nw : attrA prg.meths (.obj A.st) .news m = some (.obj A.nw) := by simp only [attrA, S.inst, S.dict]; rfl
theorem St.a_sp : attrA prg.meths (.obj A.st) .speaker m = some (.int σ.speaker) := by simp only [attrA, S.inst, S.dict]; rfl
theorem St.a_if : attrA prg.meths (.obj A.st) .isFailed m = some (.bool σ.failed) := by simp only [attrA, S.inst, S.dict]; rfl
theorem St.a_cl : attrA prg.meths (.obj A.st) .clash m = some (eR σ.clash) := by simp only [attrA, S.inst, S.dict]; rfl
theorem St.dom_item {x : Nat} {v : Mk} (h : σ.doms[x]? = some v) : itemA (.obj A.dm) (.int x) m = some (eM v) :=
  item_list S.dm (by rw [List.length_map]; have := S.ld; omega) (by rw [List.getElem?_map, h]; rfl)

theorem St.call {Φ : Fun} {vars : Vars} {o : LE} {n : Nm} {as : List LE} {f : Addr} {m0 : Mem} (ho : ev prg.meths Φ vars o m0 = some (.obj A.st, m)) (h1 : fieldA (dictOf A σ) n = none) (h2 : methsOf 258 n = some f) :
    ev prg.meths Φ vars (.meth o n as) m0 = (evs prg.meths Φ vars as m).bind fun a => Φ f (.obj A.st :: a.1) a.2 := ev_minst ho S.inst S.dict h1 h2

theorem St.set_dm {x : Nat} {v : Mk} (h : x < σ.doms.length) : setItemA (.obj A.dm) (.int x) (eM v) m = some (m.set A.dm (.list ((σ.doms.set x v).map eM))) ∧ St A (m.set A.dm (.list ((σ.doms.set x v).map eM))) { σ with doms := σ.doms.set x v } := by
  obtain ⟨a1, a2, a3, a4, a5, a6, b1, b2, b3, b4, b5, c1, c2, c3, c4, d1, d2, d3, e1, e2, g⟩ := S.ne
  refine ⟨?_, ?_, ?_, ?_, ?_, ?_, ?_, ?_, S.nd, ?_, S.lf, S.lt, S.lm, S.ln⟩
  · simp only [setItemA, S.dm]
    rw [idx_nat (by rw [List.length_map]; exact h) (by rw [List.length_map]; have := S.ld; omega)]
    simp only [Option.map_some, List.map_set]
  · rw [List.getElem?_set_ne (Ne.symm a2)]; exact S.inst
  · rw [List.getElem?_set_ne (Ne.symm b1)]; exact S.dict
  · exact get_set S.dm
  · rw [List.getElem?_set_ne c1]; exact S.fi
  · rw [List.getElem?_set_ne c2]; exact S.tr
  · rw [List.getElem?_set_ne c3]; exact S.mr
  · rw [List.getElem?_set_ne c4]; exact S.nw
  · show (σ.doms.set x v).length ≤ 100
    rw [List.length_set]; exact S.ld
theorem St.add_dm {v : Mk} (h : σ.doms.length < 100) : St A (m.set A.dm (.list ((σ.doms ++ [v]).map eM))) { σ with doms := σ.doms ++ [v] } := by
  obtain ⟨a1, a2, a3, a4, a5, a6, b1, b2, b3, b4, b5, c1, c2, c3, c4, d1, d2, d3, e1, e2, g⟩ := S.ne
  refine ⟨?_, ?_, ?_, ?_, ?_, ?_, ?_, S.nd, ?_, S.lf, S.lt, S.lm, S.ln⟩
  · rw [List.getElem?_set_ne (Ne.symm a2)]; exact S.inst
  · rw [List.getElem?_set_ne (Ne.symm b1)]; exact S.dict
  · exact get_set S.dm
  · rw [List.getElem?_set_ne c1]; exact S.fi
  · rw [List.getElem?_set_ne c2]; exact S.tr
  · rw [List.getElem?_set_ne c3]; exact S.mr
  · rw [List.getElem?_set_ne c4]; exact S.nw
  · show (σ.doms ++ [v]).length ≤ 100
    rw [List.length_append]; exact h
theorem St.add_fi {v : Mk} (h : σ.firsts.length < 100) : St A (m.set A.fi (.list ((σ.firsts ++ [v]).map eM))) { σ with firsts := σ.firsts ++ [v] } := by
  obtain ⟨a1, a2, a3, a4, a5, a6, b1, b2, b3, b4, b5, c1, c2, c3, c4, d1, d2, d3, e1, e2, g⟩ := S.ne
  refine ⟨?_, ?_, ?_, ?_, ?_, ?_, ?_, S.nd, S.ld, ?_, S.lt, S.lm, S.ln⟩
  · rw [List.getElem?_set_ne (Ne.symm a3)]; exact S.inst
  · rw [List.getElem?_set_ne (Ne.symm b2)]; exact S.dict
  · rw [List.getElem?_set_ne (Ne.symm c1)]; exact S.dm
  · exact get_set S.fi
  · rw [List.getElem?_set_ne d1]; exact S.tr
  · rw [List.getElem?_set_ne d2]; exact S.mr
  · rw [List.getElem?_set_ne d3]; exact S.nw
  · show (σ.firsts ++ [v]).length ≤ 100
    rw [List.length_append]; exact h
theorem St.set_tr {t : List Ent} (h : t.length ≤ 500) : St A (m.set A.tr (.list (t.map eE))) { σ with trail := t } := by
  obtain ⟨a1, a2, a3, a4, a5, a6, b1, b2, b3, b4, b5, c1, c2, c3, c4, d1, d2, d3, e1, e2, g⟩ := S.ne
  refine ⟨?_, ?_, ?_, ?_, ?_, ?_, ?_, S.nd, S.ld, S.lf, h, S.lm, S.ln⟩
  · rw [List.getElem?_set_ne (Ne.symm a4)]; exact S.inst
  · rw [List.getElem?_set_ne (Ne.symm b3)]; exact S.dict
  · rw [List.getElem?_set_ne (Ne.symm c2)]; exact S.dm
  · rw [List.getElem?_set_ne (Ne.symm d1)]; exact S.fi
  · exact get_set S.tr
  · rw [List.getElem?_set_ne e1]; exact S.mr
  · rw [List.getElem?_set_ne e2]; exact S.nw
theorem St.add_mk {v : Nat} (h : σ.marks.length < 500) : St A (m.set A.mr (.list ((σ.marks ++ [v]).map eN))) { σ with marks := σ.marks ++ [v] } := by
  obtain ⟨a1, a2, a3, a4, a5, a6, b1, b2, b3, b4, b5, c1, c2, c3, c4, d1, d2, d3, e1, e2, g⟩ := S.ne
  refine ⟨?_, ?_, ?_, ?_, ?_, ?_, ?_, S.nd, S.ld, S.lf, S.lt, ?_, S.ln⟩
  · rw [List.getElem?_set_ne (Ne.symm a5)]; exact S.inst
  · rw [List.getElem?_set_ne (Ne.symm b4)]; exact S.dict
  · rw [List.getElem?_set_ne (Ne.symm c3)]; exact S.dm
  · rw [List.getElem?_set_ne (Ne.symm d2)]; exact S.fi
  · rw [List.getElem?_set_ne (Ne.symm e1)]; exact S.tr
  · exact get_set S.mr
  · rw [List.getElem?_set_ne g]; exact S.nw
  · show (σ.marks ++ [v]).length ≤ 500
    rw [List.length_append]; exact h
theorem St.set_nw {x : Int} {a : AV} (h : σ.news < 500) : setItemA (.obj A.nw) (.int x) a m = some (m.set A.nw (.idict (σ.news + 1))) ∧ St A (m.set A.nw (.idict (σ.news + 1))) { σ with news := σ.news + 1 } := by
  obtain ⟨a1, a2, a3, a4, a5, a6, b1, b2, b3, b4, b5, c1, c2, c3, c4, d1, d2, d3, e1, e2, g⟩ := S.ne
  refine ⟨?_, ?_, ?_, ?_, ?_, ?_, ?_, ?_, S.nd, S.ld, S.lf, S.lt, S.lm, ?_⟩
  · simp only [setItemA, S.nw]
    rw [if_pos (sz_of (by omega))]
  · rw [List.getElem?_set_ne (Ne.symm a6)]; exact S.inst
  · rw [List.getElem?_set_ne (Ne.symm b5)]; exact S.dict
  · rw [List.getElem?_set_ne (Ne.symm c4)]; exact S.dm
  · rw [List.getElem?_set_ne (Ne.symm d3)]; exact S.fi
  · rw [List.getElem?_set_ne (Ne.symm e2)]; exact S.tr
  · rw [List.getElem?_set_ne (Ne.symm g)]; exact S.mr
  · exact get_set S.nw
  · exact h
theorem St.put {B : Ad} {τ : Sg} (hB : B.st = A.st ∧ B.d = A.d ∧ B.dm = A.dm ∧ B.fi = A.fi ∧ B.tr = A.tr) (hτ : τ.doms = σ.doms ∧ τ.firsts = σ.firsts ∧ τ.trail = σ.trail)
    (nd : B.all.Nodup) (hmk : m[B.mr]? = some (.list (τ.marks.map eN))) (hnw : m[B.nw]? = some (.idict τ.news)) (lm : τ.marks.length ≤ 500) (ln : τ.news ≤ 500) :
    St B (m.set A.d (.sdict (dictOf B τ))) τ := by
  obtain ⟨b1, b2, b3, b4, b5⟩ := hB
  obtain ⟨t1, t2, t3⟩ := hτ
  have h := nd
  simp only [Ad.all, List.nodup_cons, List.mem_cons, not_or, List.not_mem_nil, not_false_eq_true, and_true, List.nodup_nil] at h
  obtain ⟨⟨p1, p2, p3, p4, p5, p6⟩, ⟨q1, q2, q3, q4, q5⟩, _⟩ := h
  rw [← b2]
  refine ⟨?_, ?_, ?_, ?_, ?_, ?_, ?_, nd, ?_, ?_, ?_, lm, ln⟩
  · rw [List.getElem?_set_ne (Ne.symm p1), b1, b2]; exact S.inst
  · rw [get_set (by rw [b2]; exact S.dict)]
  · rw [List.getElem?_set_ne q1, b3, t1]; exact S.dm
  · rw [List.getElem?_set_ne q2, b4, t2]; exact S.fi
  · rw [List.getElem?_set_ne q3, b5, t3]; exact S.tr
  · rw [List.getElem?_set_ne q4]; exact hmk
  · rw [List.getElem?_set_ne q5]; exact hnw
  · rw [t1]; exact S.ld
  · rw [t2]; exact S.lf
  · rw [t3]; exact S.lt
theorem St.set_if {b : Bool} : setAttrA prg.meths (.obj A.st) .isFailed (.bool b) m = some (m.set A.d (.sdict (dictOf A { σ with failed := b }))) ∧ St A (m.set A.d (.sdict (dictOf A { σ with failed := b }))) { σ with failed := b } := by
  refine ⟨?_, S.put ⟨rfl, rfl, rfl, rfl, rfl⟩ ⟨rfl, rfl, rfl⟩ S.nd S.mr S.nw S.lm S.ln⟩
  simp only [setAttrA, S.inst, S.dict]
  rfl
theorem St.set_cl {b : List Lit} : setAttrA prg.meths (.obj A.st) .clash (eR b) m = some (m.set A.d (.sdict (dictOf A { σ with clash := b }))) ∧ St A (m.set A.d (.sdict (dictOf A { σ with clash := b }))) { σ with clash := b } := by
  refine ⟨?_, S.put ⟨rfl, rfl, rfl, rfl, rfl⟩ ⟨rfl, rfl, rfl⟩ S.nd S.mr S.nw S.lm S.ln⟩
  simp only [setAttrA, S.inst, S.dict]
  rfl
theorem St.set_sp {b : Int} : setAttrA prg.meths (.obj A.st) .speaker (.int b) m = some (m.set A.d (.sdict (dictOf A { σ with speaker := b }))) ∧ St A (m.set A.d (.sdict (dictOf A { σ with speaker := b }))) { σ with speaker := b } := by
  refine ⟨?_, S.put ⟨rfl, rfl, rfl, rfl, rfl⟩ ⟨rfl, rfl, rfl⟩ S.nd S.mr S.nw S.lm S.ln⟩
  simp only [setAttrA, S.inst, S.dict]
  rfl
end
end Mine
end

section
open PySem
set_option maxRecDepth 100000
set_option linter.unusedVariables false
set_option linter.unusedSimpArgs false
namespace Mine

noncomputable def fixedM (m : Mk) : Bool := match dM m with | [p] => decide (p.1 = p.2) | _ => false
noncomputable def leastM (m : Mk) : Int := match dM m with | p :: _ => p.1 | [] => 0
noncomputable def enterM (σ : Sg) (l : Lit) (rs : Option (List Lit)) (sp : Int) : Bool × Sg :=
  let old := (σ.doms[l.x]?).getD 0
  if strikeM l old = 0 then (false, { σ with failed := true, clash := rs.getD [] ++ [l.neg] })
  else if strikeM l old = old then (true, σ)
  else (true, { σ with trail := σ.trail ++ [⟨l.x, old, l, rs, sp⟩], doms := σ.doms.set l.x (strikeM l old), news := σ.news + 1 })

section
variable {A : Ad} {m : Mem} {σ : Sg} (S : St A m σ) {n : Nat}
include S
theorem St.dom {x : Nat} {v : Mk} (h : σ.doms[x]? = some v) : callN prg (n + 1) 143 [.obj A.st, .int x] m = some (eM v, m) := by
  refine call_pure f143 _ rfl (eD_flat _) ?_
  simp only [zE, b143, S.a_dm, S.dom_item h]
  refine W_some ?_
  exact ⟨rfl, List.prefix_refl _⟩
theorem St.len_dm : callB .len [.obj A.dm] m = some (.int σ.doms.length, m) := by
  simp only [callB, itemsA, S.dm]
  rw [if_pos (sz_of (by rw [List.length_map]; have := S.ld; omega)), List.length_map]
theorem St.len_tr : callB .len [.obj A.tr] m = some (.int σ.trail.length, m) := by
  simp only [callB, itemsA, S.tr]
  rw [if_pos (sz_of (by rw [List.length_map]; have := S.lt; omega)), List.length_map]
theorem St.len_mk : callB .len [.obj A.mr] m = some (.int σ.marks.length, m) := by
  simp only [callB, itemsA, S.mr]
  rw [if_pos (sz_of (by rw [List.length_map]; have := S.lm; omega)), List.length_map]
theorem St.size : callN prg (n + 1) 136 [.obj A.st] m = some (.int σ.doms.length, m) := by
  refine call_pure f136 _ rfl rfl ?_
  simp only [zE, b136, S.a_dm, S.len_dm]
  refine W_some ?_
  exact ⟨rfl, List.prefix_refl _⟩
theorem St.depth : callN prg (n + 1) 248 [.obj A.st] m = some (.int σ.marks.length, m) := by
  refine call_pure f248 _ rfl rfl ?_
  simp only [zE, b248, S.a_mk, S.len_mk]
  refine W_some ?_
  exact ⟨rfl, List.prefix_refl _⟩
theorem St.has {x : Nat} {v : Mk} (h : σ.doms[x]? = some v) {k : Int} (hk : okK k) : callN prg (n + 3) 171 [.obj A.st, .int x, .int k] m = some (.bool (hasM v k), m) := by
  refine call_pure f171 _ rfl rfl ?_
  simp only [zE, b171, S.a_dm, S.dom_item h, hasM_ok hk]
  refine W_some ?_
  exact ⟨rfl, List.prefix_refl _⟩
theorem St.isFixed {x : Nat} {v : Mk} (h : σ.doms[x]? = some v) : callN prg (n + 1) 178 [.obj A.st, .int x] m = some (.bool (fixedM v), m) := by
  refine call_pure f178 _ rfl rfl ?_
  have hl := dM_len v
  simp only [zE, b178, S.a_dm, S.dom_item h]
  unfold eM fixedM
  rcases hd : dM v with _ | ⟨p, _ | ⟨q, r⟩⟩
  · rw [len_eD (by simp)]
    simp only [zE, cm_eq, cm_ne, cm_lt, cm_le, cm_gt, cm_ge, cm_is, cm_in, cm_ni, eqA_int]
    refine W_some ?_
    exact ⟨rfl, List.prefix_refl _⟩
  · rw [len_eD (by simp)]
    have e1 : itemA (eD [p]) (.int 0) m = some (eP p) := rfl
    simp only [zE, cm_eq, cm_ne, cm_lt, cm_le, cm_gt, cm_ge, cm_is, cm_in, cm_ni, eqA_int, e1, eP, it20, it21]
    refine W_some ?_
    exact ⟨rfl, List.prefix_refl _⟩
  · rw [hd] at hl
    rw [len_eD (by omega)]
    simp only [zE, cm_eq, cm_ne, cm_lt, cm_le, cm_gt, cm_ge, cm_is, cm_in, cm_ni, eqA_int]
    rw [decide_eq_false (by simp only [List.length_cons]; omega)]
    refine W_some ?_
    exact ⟨rfl, List.prefix_refl _⟩
theorem St.value {x : Nat} {v : Mk} (h : σ.doms[x]? = some v) (hv : v ≠ 0) : callN prg (n + 1) 185 [.obj A.st, .int x] m = some (.int (leastM v), m) := by
  refine call_pure f185 _ rfl rfl ?_
  simp only [zE, b185, S.a_dm, S.dom_item h]
  unfold eM leastM
  rcases hd : dM v with _ | ⟨p, r⟩
  · exact absurd (dM_inj v 0 hd) hv
  · have e1 : itemA (eD (p :: r)) (.int 0) m = some (eP p) := by
      have := dM_len v
      rw [hd] at this
      exact item_mid (i := 0) (by rw [List.length_map]; omega) rfl
    simp only [zE, e1, eP, it20]
    refine W_some ?_
    exact ⟨rfl, List.prefix_refl _⟩
theorem St.fail {rs : List Lit} (h : rs.length ≤ 1000) : W (callN prg (n + 1) 227 [.obj A.st, eR rs] m) fun r => r.1 = .bool false ∧ St A r.2 { σ with failed := true, clash := rs } ∧ Only A.own m r.2 := by
  refine call_raw f227 rfl ?_
  obtain ⟨e1, S1⟩ := S.set_if (b := true)
  obtain ⟨e2, S2⟩ := S1.set_cl (b := rs)
  have e3 : ∀ m, callB .tuple [eR rs] m = some (eR rs, m) := by
    intro m
    simp only [callB, itemsA, eR]
    rw [if_pos (sz_of (by rw [List.length_map]; omega))]
  simp only [zE, b227, e1, e2, e3]
  refine W_some (.inr ?_)
  refine ⟨_, rfl, rfl, S2, ?_⟩
  have hd : A.own A.d := by simp [Ad.own, Ad.all]
  exact (Only.of_set hd).trans (Only.of_set hd)
end
theorem eO_cases (o : Option (List Lit)) {mem : Mem} : cmpA .Is (eO o) .none mem = some (decide (o = none)) := by cases o <;> rfl
section
variable {A : Ad} {m : Mem} {σ : Sg} (S : St A m σ) {n : Nat}
include S
theorem St.enter {l : Lit} {rs : Option (List Lit)} {sp : Int} (hx : l.x < σ.doms.length) (hk : okK l.k) (hr : (rs.getD []).length ≤ 900) (ht : σ.trail.length < 500) (hn : σ.news < 500) :
    W (callN prg (n + 4) 206 [.obj A.st, eL l, eO rs, .int sp] m) fun r => r.1 = .bool (enterM σ l rs sp).1 ∧ St A r.2 (enterM σ l rs sp).2 ∧ Only A.own m r.2 := by
  refine call_raw f206 rfl ?_
  obtain ⟨old, hold⟩ : ∃ v, σ.doms[l.x]? = some v := ⟨σ.doms[l.x], List.getElem?_eq_getElem hx⟩
  have e0 : ∀ m, itemA (eL l) (.int 0) m = some (.int l.x) := fun m => rfl
  have e2 : ∀ m (a b : Mk), eqA m (eM a) (eM b) = some (decide (a = b)) := by
    intro m a b
    rw [eqA_cl 3 (by decide) (eM_cl a) (eM_cl b)]
    congr 1
    by_cases h : a = b
    · subst h; simp
    · rw [decide_eq_false h, decide_eq_false fun q => h (eM_inj q)]
  have e1 : ∀ m (a : Mk), eqA m (eM a) (.tup []) = some (decide (a = 0)) := fun m a => e2 m a 0
  simp only [zE, b206, e0, S.a_dm, S.dom_item hold, strike_ok hk, cm_eq, cm_ne, cm_lt, cm_le, cm_gt, cm_ge, cm_is, cm_in, cm_ni, e1]
  unfold enterM
  rw [hold, Option.getD_some]
  by_cases q : strikeM l old = 0
  · simp only [q, decide_true, if_true]
    rw [S.call (f := 227) rfl rfl rfl]
    have e3 : binA .Add (eR (rs.getD [])) (.tup [eL l.neg]) m = some (eR (rs.getD [] ++ [l.neg]), m) := by
      simp only [eR, bA_tup]
      rw [if_pos (sz_of (by rw [List.length_map]; simp only [List.length_cons, List.length_nil]; omega)), List.map_append]; rfl
    obtain ⟨⟨a, m'⟩, f1, f2, f3, f4⟩ := S.fail (n := n + 2) (rs := rs.getD [] ++ [l.neg]) (by rw [List.length_append]; simp only [List.length_cons, List.length_nil]; omega)
    dsimp only at f2 f3 f4
    subst f2
    have e5 : ev prg.meths (callN prg (n + 3)) [some (.obj A.st), some (eL l), some (eO rs), some (.int sp), some (.int l.x), some (eM old), some (eM 0), none, none]
        ((LE.cmp CmpOp.Is (LE.var 2) LE.none).ite (LE.tuple []) (LE.var 2)) m = some (eR (rs.getD []), m) := by
      cases rs <;> rfl
    simp only [zE, cm_eq, cm_ne, cm_lt, cm_le, cm_gt, cm_ge, cm_is, cm_in, cm_ni] at e5
    simp only [zE, cm_eq, cm_ne, cm_lt, cm_le, cm_gt, cm_ge, cm_is, cm_in, cm_ni]
    rw [e5]
    simp only [zE, neg_ok, e3, f1]
    refine W_some (.inr ?_)
    exact ⟨_, rfl, rfl, f3, f4⟩
  · simp only [zE, q, decide_false, if_false, Bool.false_eq_true, cm_eq, cm_ne, cm_lt, cm_le, cm_gt, cm_ge, cm_is, cm_in, cm_ni, e2]
    by_cases q2 : strikeM l old = old
    · simp only [zE, q2, decide_true, if_true]
      refine W_some (.inr ?_)
      exact ⟨_, rfl, rfl, S, Only.refl _⟩
    · simp only [zE, q2, decide_false, if_false, Bool.false_eq_true]
      have a1 : ev prg.meths (callN prg (n + 3)) [some (.obj A.st), some (eL l), some (eO rs), some (.int sp), some (.int l.x), some (eM old), some (eM (strikeM l old)), none, none] (.attr (.var 0) .trail) m = some (.obj A.tr, m) := by
        simp only [zE, S.a_tr]
      rw [ev_mlist a1 S.tr]
      simp only [zE, S.tr, lm_append, lm_pop, lm_extend, lm_index]
      rw [if_pos (sz_of (by rw [List.length_map]; omega))]
      have S1 := S.set_tr (t := σ.trail ++ [⟨l.x, old, l, rs, sp⟩]) (by rw [List.length_append]; exact ht)
      rw [List.map_append] at S1
      simp only [zE]
      have b1 := S1.a_dm
      simp only [List.map_cons, List.map_nil, eE] at S1 b1
      obtain ⟨g1, S2⟩ := S1.set_dm (x := l.x) (v := strikeM l old) hx
      obtain ⟨g2, S3⟩ := S2.set_nw (x := l.x) (a := .bool true) hn
      simp only [zE, b1, g1, S2.a_nw, g2]
      have h1 : A.own A.tr := by simp [Ad.own, Ad.all]
      have h2 : A.own A.dm := by simp [Ad.own, Ad.all]
      have h3 : A.own A.nw := by simp [Ad.own, Ad.all]
      refine W_some (.inr ?_)
      exact ⟨_, rfl, rfl, S3, (Only.of_set h1).trans ((Only.of_set h2).trans (Only.of_set h3))⟩
theorem St.strike {l : Lit} {rs : List Lit} {b : Nat} (hb : m[b]? = some (.list (rs.map eL))) (hx : l.x < σ.doms.length) (hk : okK l.k) (hr : rs.length ≤ 900) (ht : σ.trail.length < 500) (hn : σ.news < 500) :
    W (callN prg (n + 5) 213 [.obj A.st, eL l, .obj b] m) fun r => r.1 = .bool (enterM σ l (some rs) σ.speaker).1 ∧ St A r.2 (enterM σ l (some rs) σ.speaker).2 ∧ Only A.own m r.2 := by
  refine call_raw f213 rfl ?_
  have e3 : callB .tuple [.obj b] m = some (eO (some rs), m) := by
    simp only [callB, itemsA, eO, eR, hb]
    rw [if_pos (sz_of (by rw [List.length_map]; omega))]
  obtain ⟨⟨a, m'⟩, f1, f2, f3, f4⟩ := S.enter (n := n) (l := l) (rs := some rs) (sp := σ.speaker) hx hk hr ht hn
  dsimp only at f2 f3 f4
  subst f2
  simp only [b213]
  rw [exs_cons, ex_ret, S.call (f := 206) rfl rfl rfl]
  simp only [zE, e3, S.a_sp, f1]
  refine W_some (.inr ?_)
  exact ⟨_, rfl, rfl, f3, f4⟩
theorem St.decide {l : Lit} (hx : l.x < σ.doms.length) (hk : okK l.k) (ht : σ.trail.length < 500) (hn : σ.news < 500) :
    W (callN prg (n + 5) 220 [.obj A.st, eL l] m) fun r => r.1 = .bool (enterM σ l none (-1)).1 ∧ St A r.2 (enterM σ l none (-1)).2 ∧ Only A.own m r.2 := by
  refine call_raw f220 rfl ?_
  obtain ⟨⟨a, m'⟩, f1, f2, f3, f4⟩ := S.enter (n := n) (l := l) (rs := none) (sp := -1) hx hk (Nat.zero_le _) ht hn
  dsimp only at f2 f3 f4
  subst f2
  simp only [b220]
  rw [exs_cons, ex_ret, S.call (f := 206) rfl rfl rfl]
  simp only [eO] at f1
  simp only [zE, f1]
  refine W_some (.inr ?_)
  exact ⟨_, rfl, rfl, f3, f4⟩
theorem St.push (hl : σ.marks.length < 500) : W (callN prg (n + 1) 234 [.obj A.st] m) fun r => r.1 = .none ∧ St A r.2 { σ with marks := σ.marks ++ [σ.trail.length] } ∧ Only A.own m r.2 := by
  refine call_raw f234 rfl ?_
  simp only [b234]
  rw [exs_cons, ex_expr, ev_mlist (i := A.mr) (m1 := m) (by simp only [zE, S.a_mk]) S.mr]
  simp only [zE, S.a_tr, S.len_tr, S.mr, lm_append, lm_pop, lm_extend, lm_index]
  rw [if_pos (sz_of (by rw [List.length_map]; omega))]
  have S1 := S.add_mk (v := σ.trail.length) hl
  rw [List.map_append] at S1
  have h1 : A.own A.mr := by simp [Ad.own, Ad.all]
  refine W_some (.inl ?_)
  exact ⟨rfl, by trivial, S1, Only.of_set h1⟩
end
end Mine
end

section
open PySem
set_option maxRecDepth 100000
set_option linter.unusedVariables false
set_option linter.unusedSimpArgs false
namespace Mine

noncomputable def dictR (s t : Int) (sc : List Nat) : List (Nm × AV) := [(.number, .int (-1)), (.scope, .tup (sc.map eN)), (.strength, .str "values"), (.s, .int s), (.t, .int t)]
structure Ru (R Rd : Nat) (m : Mem) (s t : Int) (sc : List Nat) : Prop where
  inst : m[R]? = some (.inst 358 Rd)
  dict : m[Rd]? = some (.sdict (dictR s t sc))
  okS : okK s
  okT : okK t
  len : sc.length ≤ 100
theorem Ru.only {R Rd : Nat} {m m' : Mem} {s t : Int} {sc : List Nat} {own : Nat → Prop} (h : Ru R Rd m s t sc) (k : Only own m m') (h1 : ¬ own R) (h2 : ¬ own Rd) : Ru R Rd m' s t sc :=
  ⟨k.get h.inst h1, k.get h.dict h2, h.okS, h.okT, h.len⟩
theorem Ru.pre {R Rd : Nat} {m m' : Mem} {s t : Int} {sc : List Nat} (h : Ru R Rd m s t sc) (k : m <+: m') : Ru R Rd m' s t sc := ⟨get_pre k h.inst, get_pre k h.dict, h.okS, h.okT, h.len⟩
section
variable {R Rd : Nat} {m : Mem} {s t : Int} {sc : List Nat} (U : Ru R Rd m s t sc)
include U
theorem Ru.a_scope : attrA prg.meths (.obj R) .scope m = some (.tup (sc.map eN)) := by simp only [attrA, U.inst, U.dict]; rfl
theorem Ru.a_s : attrA prg.meths (.obj R) .s m = some (.int s) := by simp only [attrA, U.inst, U.dict]; rfl
theorem Ru.a_t : attrA prg.meths (.obj R) .t m = some (.int t) := by simp only [attrA, U.inst, U.dict]; rfl
theorem Ru.call {Φ : Fun} {vars : Vars} {o : LE} {n : Nm} {as : List LE} {f : Addr} {m0 : Mem} (ho : ev prg.meths Φ vars o m0 = some (.obj R, m)) (h1 : fieldA (dictR s t sc) n = none) (h2 : methsOf 358 n = some f) :
    ev prg.meths Φ vars (.meth o n as) m0 = (evs prg.meths Φ vars as m).bind fun a => Φ f (.obj R :: a.1) a.2 := ev_minst ho U.inst U.dict h1 h2
theorem Ru.len_sc : callB .len [.tup (sc.map eN)] m = some (.int sc.length, m) := by
  simp only [callB, itemsA]
  rw [if_pos (sz_of (by rw [List.length_map]; have := U.len; omega)), List.length_map]
end

noncomputable def dom (σ : Sg) (x : Nat) : Mk := (σ.doms[x]?).getD 0
noncomputable def fsM (s t : Int) : List Nat → Nat → Sg → List Lit → Option Nat × List Lit × Sg
  | [], i, σ, b => (some i, b, σ)
  | x :: r, i, σ, b => if (enterM σ ⟨x, .ne, t⟩ (some b) σ.speaker).1 = false then (none, b, (enterM σ ⟨x, .ne, t⟩ (some b) σ.speaker).2)
    else if hasM (dom (enterM σ ⟨x, .ne, t⟩ (some b) σ.speaker).2 x) s = true then (some i, b, (enterM σ ⟨x, .ne, t⟩ (some b) σ.speaker).2)
    else fsM s t r (i + 1) (enterM σ ⟨x, .ne, t⟩ (some b) σ.speaker).2 (b ++ [(⟨x, .ne, s⟩ : Lit)])
noncomputable def eI : Option Nat → AV
  | none => .none
  | some i => .int i
theorem fsM_nil {s t : Int} {i : Nat} {σ : Sg} {b : List Lit} : fsM s t [] i σ b = (some i, b, σ) := rfl
theorem fsM_cons {s t : Int} {x : Nat} {r : List Nat} {i : Nat} {σ : Sg} {b : List Lit} : fsM s t (x :: r) i σ b = if (enterM σ ⟨x, .ne, t⟩ (some b) σ.speaker).1 = false then (none, b, (enterM σ ⟨x, .ne, t⟩ (some b) σ.speaker).2)
    else if hasM (dom (enterM σ ⟨x, .ne, t⟩ (some b) σ.speaker).2 x) s = true then (some i, b, (enterM σ ⟨x, .ne, t⟩ (some b) σ.speaker).2)
    else fsM s t r (i + 1) (enterM σ ⟨x, .ne, t⟩ (some b) σ.speaker).2 (b ++ [(⟨x, .ne, s⟩ : Lit)]) := rfl
noncomputable def enumF : Nat → List AV → List AV
  | _, [] => []
  | i, x :: r => .tup [.int i, x] :: enumF (i + 1) r
theorem enumF_eq : ∀ (xs : List AV) (i : Nat), (xs.mapIdx fun k x => AV.tup [.int ((i + k : Nat) : Int), x]) = enumF i xs := by
  intro r
  induction r with
  | nil =>
    intro i
    exact rfl
  | cons x r ih =>
    intro i
    rw [List.mapIdx_cons, enumF, ← ih (i + 1)]
    congr 1
    congr 1
    funext k y
    rw [show i + (k + 1) = i + 1 + k by omega]
theorem kind1 (xs : List AV) : kindItems 1 xs = enumF 0 xs := by
  rw [← enumF_eq xs 0]
  simp only [kindItems, Nat.zero_add]

theorem enter_len (σ : Sg) (l : Lit) (rs : Option (List Lit)) (sp : Int) : (enterM σ l rs sp).2.doms.length = σ.doms.length ∧ (enterM σ l rs sp).2.trail.length ≤ σ.trail.length + 1 ∧ (enterM σ l rs sp).2.news ≤ σ.news + 1 ∧
    (enterM σ l rs sp).2.speaker = σ.speaker ∧ (enterM σ l rs sp).2.firsts = σ.firsts ∧ (enterM σ l rs sp).2.marks = σ.marks := by
  unfold enterM
  dsimp only
  split
  · exact ⟨rfl, Nat.le_succ _, Nat.le_succ _, rfl, rfl, rfl⟩
  · split
    · exact ⟨rfl, Nat.le_succ _, Nat.le_succ _, rfl, rfl, rfl⟩
    · refine ⟨by simp, by simp, by simp, rfl, rfl, rfl⟩
noncomputable def fsBody : List LS := [.ite (.not (.meth (.var 1) .«strike» [(.tuple [(.var 4), (.str ("!=" : Str)), (.attr (.var 0) .«t»)]), (.var 2)])) [.ret (.tuple [.none, (.var 2)])] [],
  .ite (.meth (.var 1) .«has» [(.var 4), (.attr (.var 0) .«s»)]) [.ret (.tuple [(.var 3), (.var 2)])] [],
  .assign (.v 2) (.bin .Add (.var 2) (.list [(.tuple [(.var 4), (.str ("!=" : Str)), (.attr (.var 0) .«s»)])]))]
theorem lits_app {m : Mem} {b : Nat} {bs cs : List Lit} {m0 : Mem} (h : m[b]? = some (.list (bs.map eL))) (hl : bs.length + cs.length ≤ 1000) :
    binA .Add (.obj b) (.obj m.length) (m ++ [.list (cs.map eL)]) = some (.obj (m.length + 1), (m ++ [.list (cs.map eL)]) ++ [.list ((bs ++ cs).map eL)]) := by
  simp only [bA_obj, get_pre (List.prefix_append m _) h, get_new]
  rw [if_pos (sz_of (by rw [List.length_map, List.length_map]; omega)), List.length_append, List.map_append]; rfl
theorem get_new2 {m : Mem} {a b : MObj} : (m ++ [a] ++ [b])[m.length + 1]? = some b := by
  rw [show m.length + 1 = (m ++ [a]).length by rw [List.length_append]; rfl, get_new]
theorem fsLoop {R Rd : Nat} {A : Ad} {s t : Int} {sc : List Nat} {all : List AV} {n : Nat} (hR : ¬ A.own R) (hRd : ¬ A.own Rd) : ∀ (r : List Nat) {i : Nat} {σ : Sg} {bs : List Lit} {m : Mem} {b : Nat} {v3 v4 v5 v6 : Option AV},
    St A m σ → Ru R Rd m s t sc → m[b]? = some (.list (bs.map eL)) → ¬ A.own b → (∀ x ∈ r, x < σ.doms.length) → bs.length + r.length ≤ 400 → σ.trail.length + r.length ≤ 490 → σ.news + r.length ≤ 490 →
    W (forLoop (.tup all) all (.vs [3, 4]) (exs prg.meths (callN prg (n + 5)) fsBody) (enumF i (r.map eN)) [some (.obj R), some (.obj A.st), some (.obj b), v3, v4, v5, v6] m) fun z =>
      ∃ b', z.2.2[b']? = some (.list ((fsM s t r i σ bs).2.1.map eL)) ∧ ¬ A.own b' ∧ St A z.2.2 (fsM s t r i σ bs).2.2 ∧ Only A.own m z.2.2 ∧ Ru R Rd z.2.2 s t sc ∧
        ((z.1 = .ret (.tup [eI (fsM s t r i σ bs).1, .obj b'])) ∨ (z.1 = .next ∧ (fsM s t r i σ bs).1 = some (i + r.length) ∧ z.2.1[2]? = some (some (.obj b')) ∧ z.2.1[0]? = some (some (.obj R)))) := by
  intro r
  induction r with
  | nil =>
    intro i σ bs m b v3 v4 v5 v6 S U hb hn hx h1 h2 h3
    refine W_some ?_
    exact ⟨b, hb, hn, S, Only.refl _, U, .inr ⟨rfl, rfl, rfl, rfl⟩⟩
  | cons x r ih =>
    intro i σ bs m b v3 v4 v5 v6 S U hb hn hx h1 h2 h3
    rw [List.length_cons] at h1 h2 h3
    obtain ⟨l1, l2, l3, l4, l5, l6⟩ := enter_len σ ⟨x, .ne, t⟩ (some bs) σ.speaker
    obtain ⟨⟨a, m1⟩, e1, k1, S1, O1⟩ := S.strike (n := n) (l := ⟨x, .ne, t⟩) hb (hx x List.mem_cons_self) U.okT (by omega) (by omega) (by omega)
    dsimp only at k1 S1 O1
    subst k1
    have U1 := U.only O1 hR hRd
    have hb1 := O1.get hb hn
    have hx1 : x < (enterM σ ⟨x, .ne, t⟩ (some bs) σ.speaker).2.doms.length := by rw [l1]; exact hx x List.mem_cons_self
    have hdom : (enterM σ ⟨x, .ne, t⟩ (some bs) σ.speaker).2.doms[x]? = some (dom (enterM σ ⟨x, .ne, t⟩ (some bs) σ.speaker).2 x) := by
      unfold dom; rw [List.getElem?_eq_getElem hx1]; rfl
    have e2 := S1.has (n := n + 2) hdom U.okS
    have hb2 : bindT (.vs [3, 4]) (.tup [.int i, eN x]) [some (.obj R), some (.obj A.st), some (.obj b), v3, v4, v5, v6] m = some [some (.obj R), some (.obj A.st), some (.obj b), some (.int i), some (eN x), v5, v6] := rfl
    have f1 : ev prg.meths (callN prg (n + 5)) [some (.obj R), some (.obj A.st), some (.obj b), some (.int i), some (eN x), v5, v6] (.meth (.var 1) .«strike» [(.tuple [(.var 4), (.str ("!=" : Str)), (.attr (.var 0) .«t»)]), (.var 2)]) m =
        some (.bool (enterM σ ⟨x, .ne, t⟩ (some bs) σ.speaker).1, m1) := by
      rw [S.call (f := 213) rfl rfl rfl]
      simp only [zE, U.a_t]
      exact e1
    have f2 : ev prg.meths (callN prg (n + 5)) [some (.obj R), some (.obj A.st), some (.obj b), some (.int i), some (eN x), v5, v6] (.meth (.var 1) .«has» [(.var 4), (.attr (.var 0) .«s»)]) m1 =
        some (.bool (hasM (dom (enterM σ ⟨x, .ne, t⟩ (some bs) σ.speaker).2 x) s), m1) := by
      rw [S1.call (f := 171) rfl rfl rfl]
      simp only [zE, U1.a_s]
      exact e2
    rw [List.map_cons, enumF]
    simp only [fsM_cons]
    by_cases q1 : (enterM σ ⟨x, .ne, t⟩ (some bs) σ.speaker).1 = false
    · simp only [if_pos q1]
      rw [for_ret hb2 (a := .tup [.none, .obj b]) (v2 := [some (.obj R), some (.obj A.st), some (.obj b), some (.int i), some (eN x), v5, v6]) (m2 := m1) (by
        rw [q1] at f1
        simp only [zE, fsBody, exs_cons, ex_ite, ev_not, f1, Option.bind_some, Bool.not_false, if_true])]
      refine W_some ?_
      exact ⟨b, hb1, hn, S1, O1, U1, .inl rfl⟩
    · rw [Bool.not_eq_false] at q1
      rw [q1] at f1
      simp only [q1, Bool.true_eq_false, if_false]
      by_cases q2 : hasM (dom (enterM σ ⟨x, .ne, t⟩ (some bs) σ.speaker).2 x) s = true
      · simp only [if_pos q2]
        rw [for_ret hb2 (a := .tup [.int i, .obj b]) (v2 := [some (.obj R), some (.obj A.st), some (.obj b), some (.int i), some (eN x), v5, v6]) (m2 := m1) (by
          rw [q2] at f2
          simp only [zE, fsBody, exs_cons, ex_ite, ev_not, f1, f2, Option.bind_some, Bool.not_true, if_true, if_false, Bool.false_eq_true])]
        refine W_some ?_
        exact ⟨b, hb1, hn, S1, O1, U1, .inl rfl⟩
      · simp only [if_neg q2]
        rw [Bool.not_eq_true] at q2
        rw [q2] at f2
        have e5 := lits_app (m0 := m1) (cs := [(⟨x, .ne, s⟩ : Lit)]) hb1 (by simp only [List.length_cons, List.length_nil]; omega)
        have P1 : m1 <+: m1 ++ [.list ([(⟨x, .ne, s⟩ : Lit)].map eL)] ++ [.list ((bs ++ [(⟨x, .ne, s⟩ : Lit)]).map eL)] := by rw [List.append_assoc]; exact List.prefix_append _ _
        rw [for_cons hb2 (v2 := [some (.obj R), some (.obj A.st), some (.obj (m1.length + 1)), some (.int i), some (eN x), v5, v6]) (m2 := m1 ++ [.list ([(⟨x, .ne, s⟩ : Lit)].map eL)] ++ [.list ((bs ++ [(⟨x, .ne, s⟩ : Lit)]).map eL)]) (by
          simp only [zE, fsBody, exs_cons, ex_ite, ev_not, f1, f2, Option.bind_some, Bool.not_true, if_true, if_false, Bool.false_eq_true, U1.a_s]
          have e6 : binA .Add (.obj b) (.obj m1.length) (m1 ++ [.list [AV.tup [eN x, .str ("!=" : Str), .int s]]]) = some (.obj (m1.length + 1), m1 ++ [.list ([(⟨x, .ne, s⟩ : Lit)].map eL)] ++ [.list ((bs ++ [(⟨x, .ne, s⟩ : Lit)]).map eL)]) := e5
          rw [e6]
          rfl) rfl]
        have S2 := S1.pre P1
        refine W_mono (ih (i := i + 1) (bs := bs ++ [(⟨x, .ne, s⟩ : Lit)]) S2 (U1.pre P1) get_new2 (S1.new (Nat.le_succ _)) (fun y hy => by rw [l1]; exact hx y (List.mem_cons_of_mem _ hy)) (by rw [List.length_append]; simp only [List.length_cons, List.length_nil]; omega) (by omega) (by omega)) ?_
        rintro z ⟨b', g1, g2, g3, g4, g5, g6⟩
        refine ⟨b', g1, g2, g3, O1.trans ((Only.of_pre P1).trans g4), g5, ?_⟩
        rcases g6 with g6 | ⟨g6, g7, g8, g9⟩
        · exact .inl g6
        · exact .inr ⟨g6, by rw [g7, List.length_cons]; congr 1; omega, g8, g9⟩
theorem firstSpot_ok {R Rd : Nat} {A : Ad} {s t : Int} {sc : List Nat} {n : Nat} {σ : Sg} {m : Mem} (hR : ¬ A.own R) (hRd : ¬ A.own Rd) (S : St A m σ) (U : Ru R Rd m s t sc) (hx : ∀ x ∈ sc, x < σ.doms.length) (h2 : σ.trail.length + sc.length ≤ 490) (h3 : σ.news + sc.length ≤ 490) :
    W (callN prg (n + 6) 334 [.obj R, .obj A.st] m) fun z => ∃ b', z.1 = .tup [eI (fsM s t sc 0 σ []).1, .obj b'] ∧ z.2[b']? = some (.list ((fsM s t sc 0 σ []).2.1.map eL)) ∧ ¬ A.own b' ∧ St A z.2 (fsM s t sc 0 σ []).2.2 ∧ Only A.own m z.2 ∧ Ru R Rd z.2 s t sc := by
  refine call_raw f334 rfl ?_
  have P := List.prefix_append m [.list []]
  have U1 := U.pre P
  rw [b334, exs_cons]
  simp only [zE]
  rw [ex_for (src := .tup (sc.map eN)) (m1 := m ++ [.list []]) (xs := sc.map eN) (by simp only [zE, U1.a_scope]) rfl rfl, kind1]
  have := U.len
  obtain ⟨⟨fl, v, m'⟩, e, b', g1, g2, g3, g4, g5, g6⟩ := fsLoop (n := n) (all := sc.map eN) hR hRd sc (i := 0) (bs := []) (b := m.length) (v3 := none) (v4 := none) (v5 := none) (v6 := none) (S.pre P) U1 get_new (S.new (Nat.le_refl _)) hx (by simp only [List.length_nil]; omega) h2 h3
  refine W_bind ⟨_, e, ?_⟩
  dsimp only at g1 g3 g4 g5 g6
  have O := (Only.of_pre (own := A.own) P).trans g4
  rcases g6 with g6 | ⟨g6, g7, g8, g9⟩
  · subst g6
    refine W_some (.inr ?_)
    exact ⟨_, rfl, b', rfl, g1, g2, g3, O, g5⟩
  · subst g6
    simp only [zE, g8, g9, g5.a_scope, g5.len_sc]
    refine W_some (.inr ?_)
    refine ⟨_, rfl, b', ?_, g1, g2, g3, O, g5⟩
    rw [g7, Nat.zero_add]; rfl
end Mine
end

section
open PySem
set_option maxRecDepth 100000
set_option linter.unusedVariables false
set_option linter.unusedSimpArgs false
namespace Mine

noncomputable def nfM (f : Nat) (s t : Int) : List Nat → Sg → List Lit → Bool × Sg
  | [], σ, rs => (true, σ)
  | x :: r, σ, rs => if (fixedM (dom σ x) && decide (leastM (dom σ x) = t)) = true then enterM σ ⟨f, .eq, s⟩ (some (rs ++ [⟨x, .eq, t⟩])) σ.speaker
    else if hasM (dom σ x) s = true then (true, σ) else nfM f s t r σ (rs ++ [⟨x, .ne, s⟩])
theorem nfM_cons {f : Nat} {s t : Int} {x : Nat} {r : List Nat} {σ : Sg} {rs : List Lit} : nfM f s t (x :: r) σ rs = if (fixedM (dom σ x) && decide (leastM (dom σ x) = t)) = true then enterM σ ⟨f, .eq, s⟩ (some (rs ++ [⟨x, .eq, t⟩])) σ.speaker
    else if hasM (dom σ x) s = true then (true, σ) else nfM f s t r σ (rs ++ [⟨x, .ne, s⟩]) := rfl
noncomputable def nfBody : List LS := [.ite (.and (.meth (.var 1) .«isFixed» [(.var 5)]) (.cmp .Eq (.meth (.var 1) .«value» [(.var 5)]) (.attr (.var 0) .«t»))) [.ret (.meth (.var 1) .«strike» [(.tuple [(.item (.attr (.var 0) .«scope») (.var 2)), (.str ("=" : Str)), (.attr (.var 0) .«s»)]), (.bin .Add (.var 4) (.list [(.tuple [(.var 5), (.str ("=" : Str)), (.attr (.var 0) .«t»)])]))])] [],
  .ite (.meth (.var 1) .«has» [(.var 5), (.attr (.var 0) .«s»)]) [.ret (.bool true)] [],
  .assign (.v 4) (.bin .Add (.var 4) (.list [(.tuple [(.var 5), (.str ("!=" : Str)), (.attr (.var 0) .«s»)])]))]
theorem fixed0 : fixedM 0 = false := rfl
theorem nfLoop {R Rd : Nat} {A : Ad} {s t : Int} {sc : List Nat} {all : List AV} {n i f : Nat} {σ : Sg} (hR : ¬ A.own R) (hRd : ¬ A.own Rd) (hf : sc[i]? = some f) (hfx : f < σ.doms.length) (ht : σ.trail.length < 490) (hw : σ.news < 490) : ∀ (r : List Nat) {bs : List Lit} {m : Mem} {b : Nat} {v3 v5 : Option AV},
    St A m σ → Ru R Rd m s t sc → m[b]? = some (.list (bs.map eL)) → ¬ A.own b → (∀ x ∈ r, x < σ.doms.length) → bs.length + r.length ≤ 400 →
    W (forLoop (.tup all) all (.v 5) (exs prg.meths (callN prg (n + 5)) nfBody) (r.map eN) [some (.obj R), some (.obj A.st), some (.int i), v3, some (.obj b), v5] m) fun z =>
      St A z.2.2 (nfM f s t r σ bs).2 ∧ Only A.own m z.2.2 ∧ Ru R Rd z.2.2 s t sc ∧ ((z.1 = .ret (.bool (nfM f s t r σ bs).1)) ∨ (z.1 = .next ∧ (nfM f s t r σ bs).1 = true)) := by
  intro r
  induction r with
  | nil =>
    intro bs m b v3 v5 S U hb hn hx h1
    refine W_some ?_
    exact ⟨S, Only.refl _, U, .inr ⟨rfl, rfl⟩⟩
  | cons x r ih =>
    intro bs m b v3 v5 S U hb hn hx h1
    rw [List.length_cons] at h1
    have hdom : σ.doms[x]? = some (dom σ x) := by
      unfold dom; rw [List.getElem?_eq_getElem (hx x List.mem_cons_self)]; rfl
    have hb2 : bindT (.v 5) (eN x) [some (.obj R), some (.obj A.st), some (.int i), v3, some (.obj b), v5] m = some [some (.obj R), some (.obj A.st), some (.int i), v3, some (.obj b), some (eN x)] := rfl
    have f1 : ∀ {m0 : Mem}, St A m0 σ → ev prg.meths (callN prg (n + 5)) [some (.obj R), some (.obj A.st), some (.int i), v3, some (.obj b), some (eN x)] (.meth (.var 1) .«isFixed» [(.var 5)]) m0 = some (.bool (fixedM (dom σ x)), m0) := by
      intro m0 S
      rw [S.call (f := 178) rfl rfl rfl]
      simp only [zE]
      exact S.isFixed (n := n + 4) hdom
    have f2 : dom σ x ≠ 0 → ev prg.meths (callN prg (n + 5)) [some (.obj R), some (.obj A.st), some (.int i), v3, some (.obj b), some (eN x)] (.meth (.var 1) .«value» [(.var 5)]) m = some (.int (leastM (dom σ x)), m) := by
      intro h
      rw [S.call (f := 185) rfl rfl rfl]
      simp only [zE]
      exact S.value (n := n + 4) hdom h
    have f3 : ev prg.meths (callN prg (n + 5)) [some (.obj R), some (.obj A.st), some (.int i), v3, some (.obj b), some (eN x)] (.meth (.var 1) .«has» [(.var 5), (.attr (.var 0) .«s»)]) m = some (.bool (hasM (dom σ x) s), m) := by
      rw [S.call (f := 171) rfl rfl rfl]
      simp only [zE, U.a_s]
      exact S.has (n := n + 2) hdom U.okS
    have f4 : ev prg.meths (callN prg (n + 5)) [some (.obj R), some (.obj A.st), some (.int i), v3, some (.obj b), some (eN x)] (.and (.meth (.var 1) .«isFixed» [(.var 5)]) (.cmp .Eq (.meth (.var 1) .«value» [(.var 5)]) (.attr (.var 0) .«t»))) m =
        some (.bool (fixedM (dom σ x) && decide (leastM (dom σ x) = t)), m) := by
      rw [ev_and, f1 S, Option.bind_some]
      cases q : fixedM (dom σ x) with
      | false => simp only [Bool.false_eq_true, if_false, Bool.false_and]
      | true =>
        have h0 : dom σ x ≠ 0 := by intro h; rw [h, fixed0] at q; cases q
        simp only [if_true, ev_cmp, f2 h0, ev_attr, ev_var, List.getElem?_cons_zero, Option.bind_some, U.a_t, cm_eq, cm_ne, cm_lt, cm_le, cm_gt, cm_ge, cm_is, cm_in, cm_ni, eqA_int, Bool.true_and]
    rw [List.map_cons]
    simp only [nfM_cons]
    by_cases q1 : (fixedM (dom σ x) && decide (leastM (dom σ x) = t)) = true
    · simp only [if_pos q1]
      rw [q1] at f4
      have e5 : binA .Add (.obj b) (.obj m.length) (m ++ [.list [AV.tup [eN x, .str ("=" : Str), .int t]]]) = some (.obj (m.length + 1), m ++ [.list ([(⟨x, .eq, t⟩ : Lit)].map eL)] ++ [.list ((bs ++ [(⟨x, .eq, t⟩ : Lit)]).map eL)]) :=
        lits_app (m0 := m) (cs := [(⟨x, .eq, t⟩ : Lit)]) hb (by simp only [List.length_cons, List.length_nil]; omega)
      have P1 : m <+: m ++ [.list ([(⟨x, .eq, t⟩ : Lit)].map eL)] ++ [.list ((bs ++ [(⟨x, .eq, t⟩ : Lit)]).map eL)] := by rw [List.append_assoc]; exact List.prefix_append _ _
      obtain ⟨⟨a, m1⟩, e1, k1, S1, O1⟩ := (S.pre P1).strike (n := n) (l := ⟨f, .eq, s⟩) (b := m.length + 1) get_new2 hfx U.okS (by rw [List.length_append]; simp only [List.length_cons, List.length_nil]; omega) (by omega) (by omega)
      dsimp only at k1 S1 O1
      subst k1
      have e6 : itemA (.tup (sc.map eN)) (.int i) m = some (eN f) := item_mid (by rw [List.length_map]; have := U.len; omega) (by rw [List.getElem?_map, hf]; rfl)
      have f5 : ev prg.meths (callN prg (n + 5)) [some (.obj R), some (.obj A.st), some (.int i), v3, some (.obj b), some (eN x)] (.meth (.var 1) .«strike» [(.tuple [(.item (.attr (.var 0) .«scope») (.var 2)), (.str ("=" : Str)), (.attr (.var 0) .«s»)]), (.bin .Add (.var 4) (.list [(.tuple [(.var 5), (.str ("=" : Str)), (.attr (.var 0) .«t»)])]))]) m =
          some (.bool (enterM σ ⟨f, .eq, s⟩ (some (bs ++ [(⟨x, .eq, t⟩ : Lit)])) σ.speaker).1, m1) := by
        rw [S.call (f := 213) rfl rfl rfl]
        simp only [zE, U.a_t, U.a_s, U.a_scope, e6, e5]
        exact e1
      have U1 := (U.pre P1).only O1 hR hRd
      rw [for_ret hb2 (a := .bool (enterM σ ⟨f, .eq, s⟩ (some (bs ++ [(⟨x, .eq, t⟩ : Lit)])) σ.speaker).1) (v2 := [some (.obj R), some (.obj A.st), some (.int i), v3, some (.obj b), some (eN x)]) (m2 := m1) (by
        simp only [nfBody, exs_cons, ex_ite, f4, f5, Option.bind_some, if_true, ex_ret])]
      refine W_some ?_
      exact ⟨S1, (Only.of_pre P1).trans O1, U1, .inl rfl⟩
    · simp only [if_neg q1]
      rw [Bool.not_eq_true] at q1
      rw [q1] at f4
      by_cases q2 : hasM (dom σ x) s = true
      · simp only [if_pos q2]
        rw [q2] at f3
        rw [for_ret hb2 (a := .bool true) (v2 := [some (.obj R), some (.obj A.st), some (.int i), v3, some (.obj b), some (eN x)]) (m2 := m) (by
          simp only [zE, nfBody, exs_cons, ex_ite, f4, f3, Option.bind_some, if_true, if_false, Bool.false_eq_true])]
        refine W_some ?_
        exact ⟨S, Only.refl _, U, .inl rfl⟩
      · simp only [if_neg q2]
        rw [Bool.not_eq_true] at q2
        rw [q2] at f3
        have e5 : binA .Add (.obj b) (.obj m.length) (m ++ [.list [AV.tup [eN x, .str ("!=" : Str), .int s]]]) = some (.obj (m.length + 1), m ++ [.list ([(⟨x, .ne, s⟩ : Lit)].map eL)] ++ [.list ((bs ++ [(⟨x, .ne, s⟩ : Lit)]).map eL)]) :=
          lits_app (m0 := m) (cs := [(⟨x, .ne, s⟩ : Lit)]) hb (by simp only [List.length_cons, List.length_nil]; omega)
        have P1 : m <+: m ++ [.list ([(⟨x, .ne, s⟩ : Lit)].map eL)] ++ [.list ((bs ++ [(⟨x, .ne, s⟩ : Lit)]).map eL)] := by rw [List.append_assoc]; exact List.prefix_append _ _
        rw [for_cons hb2 (v2 := [some (.obj R), some (.obj A.st), some (.int i), v3, some (.obj (m.length + 1)), some (eN x)]) (m2 := m ++ [.list ([(⟨x, .ne, s⟩ : Lit)].map eL)] ++ [.list ((bs ++ [(⟨x, .ne, s⟩ : Lit)]).map eL)]) (by
          simp only [zE, nfBody, exs_cons, ex_ite, f4, f3, Option.bind_some, if_true, if_false, Bool.false_eq_true, U.a_s]
          rw [e5]
          rfl) rfl]
        refine W_mono (ih (bs := bs ++ [(⟨x, .ne, s⟩ : Lit)]) (S.pre P1) (U.pre P1) get_new2 (S.new (Nat.le_succ _)) (fun y hy => hx y (List.mem_cons_of_mem _ hy)) (by rw [List.length_append]; simp only [List.length_cons, List.length_nil]; omega)) ?_
        rintro z ⟨g3, g4, g5, g6⟩
        exact ⟨g3, (Only.of_pre P1).trans g4, g5, g6⟩
theorem needFirst_ok {R Rd : Nat} {A : Ad} {s t : Int} {sc : List Nat} {n i f b : Nat} {bs : List Lit} {σ : Sg} {m : Mem} (hR : ¬ A.own R) (hRd : ¬ A.own Rd) (S : St A m σ) (U : Ru R Rd m s t sc) (hx : ∀ x ∈ sc, x < σ.doms.length) (ht : σ.trail.length < 490) (hw : σ.news < 490)
    (hf : sc[i]? = some f) (hb : m[b]? = some (.list (bs.map eL))) (hn : ¬ A.own b) (hl : bs.length ≤ 200) :
    W (callN prg (n + 6) 341 [.obj R, .obj A.st, .int i, .obj b] m) fun z => z.1 = .bool (nfM f s t (sc.drop (i + 1)) σ bs).1 ∧ St A z.2 (nfM f s t (sc.drop (i + 1)) σ bs).2 ∧ Only A.own m z.2 ∧ Ru R Rd z.2 s t sc := by
  refine call_raw f341 rfl ?_
  have hlen := U.len
  have hi : i < sc.length := by rw [List.getElem?_eq_some_iff] at hf; exact hf.1
  have e1 : sliceA (.tup (sc.map eN)) (.int ((i : Int) + 1)) .none m = some (.tup ((sc.drop (i + 1)).map eN), m) := by
    have a1 : clampA (sc.map eN).length 0 (.int ((i : Int) + 1)) = some (i + 1) := by
      simp only [clampA]
      rw [if_pos (by omega), List.length_map]
      congr 1
      omega
    simp only [sliceA, itemsA, a1]
    simp only [clampA]
    rw [if_neg (by rw [List.length_map]; omega), List.take_length, List.map_drop]
  rw [b341, exs_cons]
  simp only [zE]
  rw [ex_for (src := .tup ((sc.drop (i + 1)).map eN)) (m1 := m) (xs := (sc.drop (i + 1)).map eN) (by simp only [zE, U.a_scope, bA_add, bA_sub, bA_tup, e1]) rfl rfl]
  obtain ⟨⟨fl, v, m'⟩, e, g3, g4, g5, g6⟩ := nfLoop (n := n) (all := (sc.drop (i + 1)).map eN) hR hRd hf (hx f (List.mem_of_getElem? hf)) ht hw (sc.drop (i + 1)) (v3 := some (.obj b)) (v5 := none) S U hb hn (fun x h => hx x (List.mem_of_mem_drop h)) (by rw [List.length_drop]; omega)
  refine W_bind ⟨_, e, ?_⟩
  dsimp only at g3 g4 g5 g6
  rcases g6 with g6 | ⟨g6, g7⟩
  · subst g6
    refine W_some (.inr ?_)
    exact ⟨_, rfl, rfl, g3, g4, g5⟩
  · subst g6
    simp only [zE]
    refine W_some (.inr ?_)
    exact ⟨_, rfl, by rw [g7], g3, g4, g5⟩

noncomputable def passM (s t : Int) (sc : List Nat) (σ : Sg) : Bool × Sg := match fsM s t sc 0 σ [] with
  | (none, _, σ1) => (false, σ1)
  | (some i, b, σ1) => match sc[i]? with
    | some f => nfM f s t (sc.drop (i + 1)) σ1 b
    | none => (true, σ1)
noncomputable def prBody : List LS := [.assign (.v 2) (.callB .«len» [(.attr (.var 1) .«trail»)]),
  .assign (.vs [3, 4]) (.meth (.var 0) .«firstSpot» [(.var 1)]),
  .ite (.or (.cmp .Is (.var 3) .none) (.and (.cmp .Lt (.var 3) (.callB .«len» [(.attr (.var 0) .«scope»)])) (.not (.meth (.var 0) .«needFirst» [(.var 1), (.var 3), (.var 4)])))) [.ret (.bool false)] []]
theorem fsM_len (s t : Int) : ∀ (r : List Nat) (i : Nat) (σ : Sg) (b : List Lit), (fsM s t r i σ b).2.2.doms.length = σ.doms.length ∧ (fsM s t r i σ b).2.2.trail.length ≤ σ.trail.length + r.length ∧ (fsM s t r i σ b).2.2.news ≤ σ.news + r.length ∧
    (fsM s t r i σ b).2.2.speaker = σ.speaker ∧ (fsM s t r i σ b).2.2.firsts = σ.firsts ∧ (fsM s t r i σ b).2.2.marks = σ.marks ∧ (fsM s t r i σ b).2.1.length ≤ b.length + r.length := by
  intro r
  induction r with
  | nil =>
    intro i σ b
    exact ⟨rfl, Nat.le_refl _, Nat.le_refl _, rfl, rfl, rfl, Nat.le_refl _⟩
  | cons x r ih =>
    intro i σ b
    obtain ⟨l1, l2, l3, l4, l5, l6⟩ := enter_len σ ⟨x, .ne, t⟩ (some b) σ.speaker
    rw [List.length_cons]
    rw [fsM_cons]
    split
    · exact ⟨l1, by dsimp only; omega, by dsimp only; omega, l4, l5, l6, Nat.le_add_right _ _⟩
    · split
      · exact ⟨l1, by dsimp only; omega, by dsimp only; omega, l4, l5, l6, Nat.le_add_right _ _⟩
      · obtain ⟨k1, k2, k3, k4, k5, k6, k7⟩ := ih (i + 1) (enterM σ ⟨x, .ne, t⟩ (some b) σ.speaker).2 (b ++ [⟨x, .ne, s⟩])
        rw [List.length_append, List.length_cons, List.length_nil] at k7
        exact ⟨k1.trans l1, by omega, by omega, k4.trans l4, k5.trans l5, k6.trans l6, by omega⟩
theorem nfM_len (f : Nat) (s t : Int) : ∀ (r : List Nat) (σ : Sg) (b : List Lit), (nfM f s t r σ b).2.doms.length = σ.doms.length ∧ (nfM f s t r σ b).2.trail.length ≤ σ.trail.length + 1 ∧ (nfM f s t r σ b).2.news ≤ σ.news + 1 ∧
    (nfM f s t r σ b).2.speaker = σ.speaker ∧ (nfM f s t r σ b).2.firsts = σ.firsts ∧ (nfM f s t r σ b).2.marks = σ.marks := by
  intro r
  induction r with
  | nil =>
    intro σ b
    exact ⟨rfl, Nat.le_succ _, Nat.le_succ _, rfl, rfl, rfl⟩
  | cons x r ih =>
    intro σ b
    rw [nfM_cons]
    split
    · exact enter_len σ _ _ _
    · split
      · exact ⟨rfl, Nat.le_succ _, Nat.le_succ _, rfl, rfl, rfl⟩
      · exact ih σ _
theorem pass_len (s t : Int) (sc : List Nat) (σ : Sg) : (passM s t sc σ).2.doms.length = σ.doms.length ∧ (passM s t sc σ).2.trail.length ≤ σ.trail.length + sc.length + 1 ∧ (passM s t sc σ).2.news ≤ σ.news + sc.length + 1 ∧
    (passM s t sc σ).2.speaker = σ.speaker ∧ (passM s t sc σ).2.firsts = σ.firsts ∧ (passM s t sc σ).2.marks = σ.marks := by
  obtain ⟨l1, l2, l3, l4, l5, l6, l7⟩ := fsM_len s t sc 0 σ []
  unfold passM
  rcases h : fsM s t sc 0 σ [] with ⟨_ | i, b, σ1⟩
  · rw [h] at l1 l2 l3 l4 l5 l6
    exact ⟨l1, by simp only at l2 ⊢; omega, by simp only at l3 ⊢; omega, l4, l5, l6⟩
  · rw [h] at l1 l2 l3 l4 l5 l6
    simp only at l1 l2 l3 l4 l5 l6 ⊢
    split
    · next f hf =>
      obtain ⟨k1, k2, k3, k4, k5, k6⟩ := nfM_len f s t (sc.drop (i + 1)) σ1 b
      exact ⟨k1.trans l1, by omega, by omega, k4.trans l4, k5.trans l5, k6.trans l6⟩
    · exact ⟨l1, by dsimp only; omega, by dsimp only; omega, l4, l5, l6⟩
theorem pass_none {s t : Int} {sc : List Nat} {σ σ1 : Sg} {b : List Lit} (h : fsM s t sc 0 σ [] = (none, b, σ1)) : passM s t sc σ = (false, σ1) := by
  unfold passM; rw [h]
theorem pass_end {s t : Int} {sc : List Nat} {σ σ1 : Sg} {b : List Lit} {i : Nat} (h : fsM s t sc 0 σ [] = (some i, b, σ1)) (hf : sc[i]? = none) : passM s t sc σ = (true, σ1) := by
  unfold passM; rw [h]; simp only [hf]
theorem pass_some {s t : Int} {sc : List Nat} {σ σ1 : Sg} {b : List Lit} {i f : Nat} (h : fsM s t sc 0 σ [] = (some i, b, σ1)) (hf : sc[i]? = some f) : passM s t sc σ = nfM f s t (sc.drop (i + 1)) σ1 b := by
  unfold passM; rw [h]; simp only [hf]
theorem pass_ok {R Rd : Nat} {A : Ad} {s t : Int} {sc : List Nat} {n : Nat} {σ : Sg} {m : Mem} {v2 v3 v4 v5 : Option AV} (hR : ¬ A.own R) (hRd : ¬ A.own Rd) (S : St A m σ) (U : Ru R Rd m s t sc) (hx : ∀ x ∈ sc, x < σ.doms.length) (h2 : σ.trail.length + sc.length < 490) (h3 : σ.news + sc.length < 490) :
    W (exs prg.meths (callN prg (n + 6)) prBody [some (.obj R), some (.obj A.st), v2, v3, v4, v5] m) fun z => St A z.2.2 (passM s t sc σ).2 ∧ Only A.own m z.2.2 ∧ Ru R Rd z.2.2 s t sc ∧
      (if (passM s t sc σ).1 = true then z.1 = .next ∧ ∃ w3 w4, z.2.1 = [some (.obj R), some (.obj A.st), some (.int σ.trail.length), w3, w4, v5] else z.1 = .ret (.bool false)) := by
  have hlen := U.len
  obtain ⟨⟨a, m1⟩, e1, b', k1, k2, k3, S1, O1, U1⟩ := firstSpot_ok (n := n) hR hRd S U hx (by omega) (by omega)
  dsimp only at k1 k2 S1 O1 U1
  subst k1
  obtain ⟨l1, l2, l3, l4, l5, l6, l7⟩ := fsM_len s t sc 0 σ []
  have f1 : ev prg.meths (callN prg (n + 6)) [some (.obj R), some (.obj A.st), some (.int σ.trail.length), v3, v4, v5] (.meth (.var 0) .«firstSpot» [(.var 1)]) m = some (.tup [eI (fsM s t sc 0 σ []).1, .obj b'], m1) := by
    rw [U.call (f := 334) rfl rfl rfl]
    simp only [zE]
    exact e1
  simp only [zE, prBody, S.a_tr, S.len_tr, f1, cm_eq, cm_ne, cm_lt, cm_le, cm_gt, cm_ge, cm_is, cm_in, cm_ni]
  rcases h : fsM s t sc 0 σ [] with ⟨_ | i, b, σ1⟩
  · rw [h] at S1
    rw [pass_none h]
    simp only [zE, eI, decide_true, if_true, Bool.false_eq_true, if_false]
    refine W_some ?_
    exact ⟨S1, O1, U1, by trivial⟩
  · rw [h] at S1 k2 l1 l2 l3 l7
    simp only at S1 k2 l1 l2 l3 l7
    simp only [zE, eI, reduceCtorEq, decide_false, if_false, Bool.false_eq_true, U1.a_scope, U1.len_sc]
    rcases hf : sc[i]? with _ | f
    · have hi : sc.length ≤ i := List.getElem?_eq_none_iff.mp hf
      rw [decide_eq_false (by omega), pass_end h hf]
      simp only [zE, if_false, Bool.false_eq_true, if_true]
      refine W_some ?_
      exact ⟨S1, O1, U1, rfl, _, _, rfl⟩
    · have hi : i < sc.length := by rw [List.getElem?_eq_some_iff] at hf; exact hf.1
      obtain ⟨⟨a, m2⟩, e2, k4, S2, O2, U2⟩ := needFirst_ok (n := n) hR hRd S1 U1 (fun x hx' => by rw [l1]; exact hx x hx') (by omega) (by omega) hf k2 k3 (by simp only [List.length_nil] at l7; omega)
      dsimp only at k4 S2 O2 U2
      subst k4
      have f2 : ev prg.meths (callN prg (n + 6)) [some (.obj R), some (.obj A.st), some (.int σ.trail.length), some (.int i), some (.obj b'), v5] (.meth (.var 0) .«needFirst» [(.var 1), (.var 3), (.var 4)]) m1 = some (.bool (nfM f s t (sc.drop (i + 1)) σ1 b).1, m2) := by
        rw [U1.call (f := 341) rfl rfl rfl]
        simp only [zE]
        exact e2
      rw [decide_eq_true (by omega), pass_some h hf]
      simp only [zE, if_true, f2]
      have O := O1.trans O2
      cases q : (nfM f s t (sc.drop (i + 1)) σ1 b).1 with
      | true =>
        simp only [zE, Bool.not_true, if_false, if_true, Bool.false_eq_true]
        refine W_some ?_
        exact ⟨S2, O, U2, rfl, _, _, rfl⟩
      | false =>
        simp only [zE, Bool.not_false, if_false, if_true, Bool.false_eq_true]
        refine W_some ?_
        exact ⟨S2, O, U2, by trivial⟩
theorem propagate_ok {R Rd : Nat} {A : Ad} {s t : Int} {sc : List Nat} {n : Nat} {σ : Sg} {m : Mem} (hR : ¬ A.own R) (hRd : ¬ A.own Rd) (S : St A m σ) (U : Ru R Rd m s t sc) (hx : ∀ x ∈ sc, x < σ.doms.length) (h2 : σ.trail.length + 2 * sc.length < 480) (h3 : σ.news + 2 * sc.length < 480)
    (again : (passM s t sc σ).1 = true → passM s t sc (passM s t sc σ).2 = (true, (passM s t sc σ).2)) (grow : σ.trail.length ≤ (passM s t sc σ).2.trail.length) :
    W (callN prg (n + 7) 327 [.obj R, .obj A.st] m) fun z => z.1 = .bool (passM s t sc σ).1 ∧ St A z.2 (passM s t sc σ).2 ∧ Only A.own m z.2 ∧ Ru R Rd z.2 s t sc := by
  refine call_raw f327 rfl ?_
  obtain ⟨l1, l2, l3, l4, l5, l6⟩ := pass_len s t sc σ
  simp only [zE, b327, ex_while]
  have ht : ∀ {σ : Sg} {m : Mem} {k : Int} {v3 v4 v5 : Option AV}, St A m σ → ev prg.meths (callN prg (n + 6)) [some (.obj R), some (.obj A.st), some (.int k), v3, v4, v5] (.cmp .Lt (.var 2) (.callB .«len» [(.attr (.var 1) .«trail»)])) m = some (.bool (decide (k < σ.trail.length)), m) := by
    intro σ m k v3 v4 v5 S
    simp only [zE, S.a_tr, S.len_tr, cm_eq, cm_ne, cm_lt, cm_le, cm_gt, cm_ge, cm_is, cm_in, cm_ni]
  obtain ⟨⟨fl, v, m1⟩, e1, S1, O1, U1, k1⟩ := pass_ok (n := n) (v2 := some (.int (-1))) (v3 := none) (v4 := none) (v5 := none) hR hRd S U hx (by omega) (by omega)
  dsimp only at S1 O1 U1 k1
  by_cases q : (passM s t sc σ).1 = true
  · rw [if_pos q] at k1
    obtain ⟨rfl, w3, w4, rfl⟩ := k1
    have t1 := ht (k := -1) (v3 := none) (v4 := none) (v5 := none) S
    rw [decide_eq_true (by omega)] at t1
    refine W_bind ?_
    show W (whileLoop _ (exs prg.meths (callN prg (n + 6)) prBody) (999 + 1) _ _) _
    rw [while_go t1 e1]
    by_cases q2 : σ.trail.length < (passM s t sc σ).2.trail.length
    · have ag := again q
      obtain ⟨⟨fl, v, m2⟩, e2, S2, O2, U2, k2⟩ := pass_ok (n := n) (v2 := some (.int σ.trail.length)) (v3 := w3) (v4 := w4) (v5 := none) hR hRd S1 U1 (fun x h => by rw [l1]; exact hx x h) (by omega) (by omega)
      dsimp only at S2 O2 U2 k2
      rw [ag] at S2 k2
      rw [if_pos rfl] at k2
      obtain ⟨rfl, y3, y4, rfl⟩ := k2
      have t2 := ht (k := σ.trail.length) (v3 := w3) (v4 := w4) (v5 := none) S1
      rw [decide_eq_true (by omega)] at t2
      rw [show (999 : Nat) = 998 + 1 from rfl, while_go t2 e2]
      have t3 := ht (k := (passM s t sc σ).2.trail.length) (v3 := y3) (v4 := y4) (v5 := none) S2
      rw [decide_eq_false (by dsimp only; omega)] at t3
      rw [show (998 : Nat) = 997 + 1 from rfl, while_stop t3]
      refine W_some ?_
      simp only [zE]
      refine W_some (.inr ?_)
      exact ⟨_, rfl, by rw [q], S2, O1.trans O2, U2⟩
    · have t2 := ht (k := σ.trail.length) (v3 := w3) (v4 := w4) (v5 := none) S1
      rw [decide_eq_false (by omega)] at t2
      rw [show (999 : Nat) = 998 + 1 from rfl, while_stop t2]
      refine W_some ?_
      simp only [zE]
      refine W_some (.inr ?_)
      exact ⟨_, rfl, by rw [q], S1, O1, U1⟩
  · rw [if_neg q] at k1
    subst k1
    have t1 := ht (k := -1) (v3 := none) (v4 := none) (v5 := none) S
    rw [decide_eq_true (by omega)] at t1
    refine W_bind ?_
    show W (whileLoop _ (exs prg.meths (callN prg (n + 6)) prBody) (999 + 1) _ _) _
    rw [while_ret t1 e1]
    refine W_some ?_
    rw [Bool.not_eq_true] at q
    refine W_some (.inr ?_)
    exact ⟨_, rfl, by rw [q], S1, O1, U1⟩
end Mine
end

section
open PySem
set_option maxRecDepth 100000
set_option linter.unusedVariables false
set_option linter.unusedSimpArgs false
namespace Mine

theorem app_get0 {m T : Mem} : (m ++ T)[m.length]? = T[0]? := by
  rw [List.getElem?_append_right (Nat.le_refl _), Nat.sub_self]
theorem app_get {m T : Mem} {k : Nat} : (m ++ T)[m.length + k]? = T[k]? := by
  rw [List.getElem?_append_right (Nat.le_add_right _ _), Nat.add_sub_cancel_left]
theorem app_set0 {m T : Mem} {o : MObj} : (m ++ T).set m.length o = m ++ T.set 0 o := by
  rw [List.set_append_right _ _ (Nat.le_refl _), Nat.sub_self]
theorem step_attr {Φ : Fun} {n : Nm} {e : LE} {ss : List LS} {m T T' : Mem} {c : Addr} {fs : List (Nm × AV)} {a : AV} {r : Vars}
    (h0 : ev prg.meths Φ (some (.obj (m.length + 1)) :: r) e (m ++ .sdict fs :: .inst c m.length :: T) = some (a, m ++ .sdict fs :: .inst c m.length :: T')) (h3 : fldOf c n = true) (h4 : Nat.ble fs.length 900 = true) :
    exs prg.meths Φ (.assign (.attr (.var 0) n) e :: ss) (some (.obj (m.length + 1)) :: r) (m ++ .sdict fs :: .inst c m.length :: T) = exs prg.meths Φ ss (some (.obj (m.length + 1)) :: r) (m ++ .sdict (putField n a fs) :: .inst c m.length :: T') := by
  have e1 : setAttrA prg.meths (.obj (m.length + 1)) n a (m ++ .sdict fs :: .inst c m.length :: T') = some (m ++ .sdict (putField n a fs) :: .inst c m.length :: T') := by
    simp only [setAttrA, app_get, app_get0, List.getElem?_cons_succ, List.getElem?_cons_zero]
    rw [if_pos ⟨h3, Nat.le_of_ble_eq_true h4⟩, app_set0]; rfl
  simp only [exs_cons, ex_assign, h0, Option.bind_some, as_attr, ev_var, List.getElem?_cons_zero, e1]
theorem ev_newl {Φ : Fun} {m : Mem} {T : Mem} {a b : MObj} {v : Vars} : ev prg.meths Φ v (.list []) (m ++ a :: b :: T) = some (.obj (m.length + (T.length + 2)), m ++ a :: b :: (T ++ [.list []])) := by
  simp only [ev_list, evs_nil, Option.bind_some, List.append_assoc, List.cons_append, List.length_append, List.length_cons]
theorem ev_newd {Φ : Fun} {m : Mem} {T : Mem} {a b : MObj} {v : Vars} : ev prg.meths Φ v .dict (m ++ a :: b :: T) = some (.obj (m.length + (T.length + 2)), m ++ a :: b :: (T ++ [.idict 0])) := by
  simp only [ev_dict, Option.bind_some, List.append_assoc, List.cons_append, List.length_append, List.length_cons]
noncomputable def adOf (m : Mem) : Ad := ⟨m.length + 1, m.length, m.length + 2, m.length + 3, m.length + 4, m.length + 5, m.length + 6⟩
noncomputable def sg0 : Sg := ⟨[], [], [], [], 0, -1, false, []⟩
theorem newStore_ok {n : Nat} {m : Mem} : W (callN prg (n + 2) 258 [] m) fun z => z.1 = .obj (adOf m).st ∧ St (adOf m) z.2 sg0 ∧ m <+: z.2 := by
  have h : W (callN prg (n + 1) 122 [.obj (m.length + 1)] (m ++ [.sdict [], .inst 258 m.length])) fun z => z.1 = .none ∧ z.2 = m ++ [.sdict (dictOf (adOf m) sg0), .inst 258 m.length, .list [], .list [], .list [], .list [], .idict 0] := by
    refine call_raw f122 rfl ?_
    rw [b122]
    simp only [List.replicate, List.set_cons_zero]
    rw [step_attr ev_newl rfl rfl, step_attr ev_newl rfl rfl, step_attr ev_newl rfl rfl, step_attr ev_newl rfl rfl, step_attr ev_newd rfl rfl,
      step_attr (a := .int (-1)) rfl rfl rfl, step_attr (a := .bool false) rfl rfl rfl, step_attr (a := eR []) rfl rfl rfl]
    refine W_some (.inl ?_)
    exact ⟨rfl, by trivial, rfl⟩
  obtain ⟨⟨a, m'⟩, e, k1, k2⟩ := h
  dsimp only at k1 k2
  subst k1 k2
  refine ⟨(.obj (m.length + 1), m ++ [.sdict (dictOf (adOf m) sg0), .inst 258 m.length, .list [], .list [], .list [], .list [], .idict 0]), ?_, rfl, ?_, List.prefix_append _ _⟩
  · rw [cn_succ]
    have g1 : prg.fns 258 = none := rfl
    have g2 : prg.inits 258 = some 122 := rfl
    simp only [g1, g2, e, Option.bind_eq_bind, Option.bind_some, if_true]
  · refine ⟨app_get, app_get0, app_get, app_get, app_get, app_get, app_get, ?_, by decide, by decide, by decide, by decide, by decide⟩
    simp [Ad.all, adOf]
theorem newRule_ok {n : Nat} {m : Mem} {s t : Int} {sc : List Nat} (hs : okK s) (ht : okK t) (hl : sc.length ≤ 100) :
    W (callN prg (n + 2) 358 [.int s, .int t, .tup (sc.map eN)] m) fun z => z.1 = .obj (m.length + 1) ∧ Ru (m.length + 1) m.length z.2 s t sc ∧ m <+: z.2 := by
  have h : W (callN prg (n + 1) 276 [.obj (m.length + 1), .tup (sc.map eN), .str "values"] (m ++ [.sdict [], .inst 358 m.length])) fun z => z.1 = .none ∧ z.2 = m ++ [.sdict [(.number, .int (-1)), (.scope, .tup (sc.map eN)), (.strength, .str "values")], .inst 358 m.length] := by
    refine call_raw f276 rfl ?_
    rw [b276]
    simp only [List.replicate, List.set_cons_zero, List.set_cons_succ]
    have e1 : ∀ {Φ : Fun} {v : Vars} {a b : Option AV} {m}, ev prg.meths Φ (a :: some (.tup (sc.map eN)) :: v) (.callB .«tuple» [(.var 1)]) m = some (.tup (sc.map eN), m) := by
      intro Φ v a b m
      simp only [zE, callB, itemsA]
      rw [if_pos (sz_of (by rw [List.length_map]; omega))]
    rw [step_attr (a := .int (-1)) rfl rfl rfl, step_attr (e1 (b := none)) rfl rfl, step_attr (a := .str "values") rfl rfl rfl]
    refine W_some (.inl ?_)
    exact ⟨rfl, by trivial, rfl⟩
  obtain ⟨⟨a, m'⟩, e, k1, k2⟩ := h
  dsimp only at k1 k2
  subst k1 k2
  refine ⟨(.obj (m.length + 1), m ++ [.sdict (dictR s t sc), .inst 358 m.length]), ?_, rfl, ⟨app_get, app_get0, hs, ht, hl⟩, List.prefix_append _ _⟩
  rw [cn_succ]
  have g1 : prg.fns 358 = none := rfl
  have g2 : prg.inits 358 = none := rfl
  have g3 : prg.prim 358 = some primPrecede := rfl
  simp only [g1, g2, g3, primPrecede, e, Option.bind_eq_bind, Option.bind_some, precTail]
  have h1 := step_attr (Φ := callN prg (n + 1)) (m := m) (n := .s) (e := .var 1) (ss := [.assign (.attr (.var 0) .t) (.var 2)]) (c := 358) (T := []) (T' := []) (fs := [(.number, .int (-1)), (.scope, .tup (sc.map eN)), (.strength, .str "values")]) (a := .int s) (r := [some (.int s), some (.int t), some (.tup (sc.map eN))]) rfl rfl rfl
  have h2 := step_attr (Φ := callN prg (n + 1)) (m := m) (n := .t) (e := .var 2) (ss := []) (c := 358) (T := []) (T' := []) (fs := [(.number, .int (-1)), (.scope, .tup (sc.map eN)), (.strength, .str "values"), (.s, .int s)]) (a := .int t) (r := [some (.int s), some (.int t), some (.tup (sc.map eN))]) rfl rfl rfl
  have h3 := h1.trans h2
  have e5 : prg.meths = ⟨methsOf, fldOf⟩ := rfl
  rw [← e5]
  rw [h3]
  rfl
theorem newVar_ok {A : Ad} {σ : Sg} {n : Nat} {m : Mem} {v : Mk} (S : St A m σ) (hv : v ≠ 0) (h1 : σ.doms.length < 100) (h2 : σ.firsts.length < 100) :
    W (callN prg (n + 1) 129 [.obj A.st, eM v] m) fun z => z.1 = .int σ.doms.length ∧ St A z.2 { σ with doms := σ.doms ++ [v], firsts := σ.firsts ++ [v] } ∧ Only A.own m z.2 := by
  refine call_raw f129 rfl ?_
  have S1 := S.add_dm (v := v) h1
  have S2 := S1.add_fi (v := v) h2
  have e1 : ∀ m, eqA m (eM v) (.tup []) = some false := by
    intro m
    rw [show AV.tup [] = eM 0 from rfl, eqA_cl 3 (by decide) (eM_cl v) (eM_cl 0), decide_eq_false fun q => hv (eM_inj q)]
  rw [b129, exs_cons, ex_expr, ev_mlist (i := A.dm) (m1 := m) (by simp only [zE, S.a_dm]) S.dm]
  simp only [zE, S.dm, lm_append, lm_pop, lm_extend, lm_index]
  rw [if_pos (sz_of (by rw [List.length_map]; omega))]
  simp only [zE]
  rw [List.map_append] at S1
  have D1 := S1.fi
  have D2 := S1.a_fi
  simp only [List.map_cons, List.map_nil] at S1 D1 D2
  rw [ev_mlist (i := A.fi) (by simp only [zE, D2]) D1]
  simp only [zE, D1, lm_append, lm_pop, lm_extend, lm_index]
  rw [if_pos (sz_of (by rw [List.length_map]; omega))]
  have D3 := S2.a_dm
  have D4 := S2.len_dm
  simp only [List.map_append, List.map_cons, List.map_nil] at S2 D3 D4
  simp only [zE, cm_eq, cm_ne, cm_lt, cm_le, cm_gt, cm_ge, cm_is, cm_in, cm_ni, e1, Bool.false_eq_true, if_false, D3, D4, bA_add, bA_sub, bA_tup]
  have o1 : A.own A.dm := by simp [Ad.own, Ad.all]
  have o2 : A.own A.fi := by simp [Ad.own, Ad.all]
  refine W_some (Or.inr ⟨_, rfl, ?_, S2, (Only.of_set o1).trans (Only.of_set o2)⟩)
  rw [List.length_append, List.length_cons, List.length_nil]
  congr 1
  omega
end Mine
end

section
open PySem
set_option maxRecDepth 100000
set_option linter.unusedVariables false
set_option linter.unusedSimpArgs false
namespace Mine

noncomputable def undo (r : List Ent) (d : List Mk) : List Mk := r.foldl (fun d e => d.set e.x e.old) d
theorem undo_len : ∀ (r : List Ent) (d : List Mk), (undo r d).length = d.length := by
  intro r
  induction r with
  | nil =>
    intro d
    exact rfl
  | cons e r ih =>
    intro d
    rw [undo, List.foldl_cons]; exact (ih _).trans (List.length_set ..)
theorem St.nd_mr {A : Ad} {m : Mem} {σ : Sg} (S : St A m σ) {i : Nat} (h : ¬ A.own i) : ({ A with mr := i } : Ad).all.Nodup := by
  obtain ⟨a1, a2, a3, a4, a5, a6, b1, b2, b3, b4, b5, c1, c2, c3, c4, d1, d2, d3, e1, e2, g⟩ := S.ne
  simp only [Ad.own, Ad.all, List.mem_cons, List.not_mem_nil, or_false, not_or] at h
  obtain ⟨h1, h2, h3, h4, h5, h6, h7⟩ := h
  simp only [Ad.all, List.nodup_cons, List.mem_cons, not_or, List.not_mem_nil, not_false_eq_true, and_true, List.nodup_nil]
  exact ⟨⟨a1, a2, a3, a4, Ne.symm h1, a6⟩, ⟨b1, b2, b3, Ne.symm h2, b5⟩, ⟨c1, c2, Ne.symm h3, c4⟩, ⟨d1, Ne.symm h4, d3⟩, ⟨Ne.symm h5, e2⟩, h7⟩
theorem St.nd_nw {A : Ad} {m : Mem} {σ : Sg} (S : St A m σ) {i : Nat} (h : ¬ A.own i) : ({ A with nw := i } : Ad).all.Nodup := by
  obtain ⟨a1, a2, a3, a4, a5, a6, b1, b2, b3, b4, b5, c1, c2, c3, c4, d1, d2, d3, e1, e2, g⟩ := S.ne
  simp only [Ad.own, Ad.all, List.mem_cons, List.not_mem_nil, or_false, not_or] at h
  obtain ⟨h1, h2, h3, h4, h5, h6, h7⟩ := h
  simp only [Ad.all, List.nodup_cons, List.mem_cons, not_or, List.not_mem_nil, not_false_eq_true, and_true, List.nodup_nil]
  exact ⟨⟨a1, a2, a3, a4, a5, Ne.symm h1⟩, ⟨b1, b2, b3, b4, Ne.symm h2⟩, ⟨c1, c2, c3, Ne.symm h3⟩, ⟨d1, d2, Ne.symm h4⟩, ⟨e1, Ne.symm h5⟩, Ne.symm h6⟩
noncomputable def popBody : List LS := [.assign (.v 3) (.meth (.attr (.var 0) .«trail») .«pop» []),
  .assign (.item (.attr (.var 0) .«domains») (.item (.var 3) (.int 0))) (.item (.var 3) (.int 1))]
noncomputable def popTest : LE := .cmp .Gt (.callB .«len» [(.attr (.var 0) .«trail»)]) (.var 2)
theorem popLoop {A : Ad} {Φ : Fun} {t0 : List Ent} {v1 v4 : Option AV} : ∀ (r : List Ent) {n : Nat} {σ : Sg} {m : Mem} {v3 : Option AV}, St A m σ → σ.trail = t0 ++ r.reverse → r.length < n → (∀ e ∈ r, e.x < σ.doms.length) →
    W (whileLoop (fun vars mem => ev prg.meths Φ vars popTest mem) (exs prg.meths Φ popBody) n [some (.obj A.st), v1, some (.int t0.length), v3, v4] m) fun z =>
      z.1 = .next ∧ St A z.2.2 { σ with trail := t0, doms := undo r σ.doms } ∧ Only A.own m z.2.2 ∧ ∃ w3, z.2.1 = [some (.obj A.st), v1, some (.int t0.length), w3, v4] := by
  intro r
  induction r with
  | nil =>
    intro n σ m v3 S ht hn hx
    obtain ⟨n, rfl⟩ := Nat.exists_eq_succ_of_ne_zero (Nat.ne_of_gt (Nat.lt_of_le_of_lt (Nat.zero_le _) hn))
    rw [while_stop (m1 := m) (by
      simp only [zE, popTest, S.a_tr, S.len_tr, cm_eq, cm_ne, cm_lt, cm_le, cm_gt, cm_ge, cm_is, cm_in, cm_ni]
      rw [decide_eq_false (by rw [ht]; simp)])]
    refine W_some ?_
    refine ⟨rfl, ?_, Only.refl _, _, rfl⟩
    have e : t0 = σ.trail := by rw [ht]; simp
    subst e
    exact S
  | cons e r ih =>
    intro n σ m v3 S ht hn hx
    obtain ⟨n, rfl⟩ := Nat.exists_eq_succ_of_ne_zero (Nat.ne_of_gt (Nat.lt_of_le_of_lt (Nat.zero_le _) hn))
    have ht' : σ.trail = (t0 ++ r.reverse) ++ [e] := by rw [ht]; simp
    have S1 := S.set_tr (t := t0 ++ r.reverse) (by have := S.lt; rw [ht'] at this; rw [List.length_append] at this; omega)
    obtain ⟨e2, S2⟩ := S1.set_dm (x := e.x) (v := e.old) (hx e List.mem_cons_self)
    have e1 : ev prg.meths Φ [some (.obj A.st), v1, some (.int t0.length), v3, v4] (.meth (.attr (.var 0) .«trail») .«pop» []) m = some (eE e, m.set A.tr (.list ((t0 ++ r.reverse).map eE))) := by
      rw [ev_mlist (i := A.tr) (m1 := m) (by simp only [zE, S.a_tr]) S.tr]
      simp only [zE, S.tr, lm_append, lm_pop, lm_extend, lm_index]
      rw [ht', List.map_append, List.map_cons, List.map_nil, List.getLast?_concat, List.dropLast_concat]
      simp only
      rw [if_pos (sz_of (by have := S.lt; rw [ht', List.length_append] at this; simp only [List.length_append, List.length_map, List.length_cons, List.length_nil] at this ⊢; omega))]
    have e3 : ∀ m, itemA (eE e) (.int 0) m = some (.int e.x) := fun m => rfl
    have e4 : ∀ m, itemA (eE e) (.int 1) m = some (eM e.old) := fun m => rfl
    rw [while_go (m1 := m) (by
      simp only [zE, popTest, S.a_tr, S.len_tr, cm_eq, cm_ne, cm_lt, cm_le, cm_gt, cm_ge, cm_is, cm_in, cm_ni]
      rw [decide_eq_true (by rw [ht']; simp only [List.length_append, List.length_cons, List.length_nil]; omega)]) (v2 := [some (.obj A.st), v1, some (.int t0.length), some (eE e), v4]) (m2 := (m.set A.tr (.list ((t0 ++ r.reverse).map eE))).set A.dm (.list ((σ.doms.set e.x e.old).map eM))) (by
      simp only [zE, popBody, exs_cons, ex_assign, e1, e3, e4, S1.a_dm, e2])]
    obtain ⟨z, h1, h2, h3, h4, h5⟩ := ih (n := n) (v3 := some (eE e)) S2 rfl (by rw [List.length_cons] at hn; omega) (by
      intro y hy; show y.x < (σ.doms.set e.x e.old).length; rw [List.length_set]; exact hx y (List.mem_cons_of_mem _ hy))
    have o1 : A.own A.tr := by simp [Ad.own, Ad.all]
    have o2 : A.own A.dm := by simp [Ad.own, Ad.all]
    exact ⟨z, h1, h2, h3, ((Only.of_set o1).trans (Only.of_set o2)).trans h4, h5⟩
theorem pop_ok {A : Ad} {σ : Sg} {n : Nat} {m : Mem} {ms : List Nat} {t0 t1 : List Ent} (S : St A m σ) (hm : σ.marks = ms ++ [t0.length]) (ht : σ.trail = t0 ++ t1) (hx : ∀ e ∈ t1, e.x < σ.doms.length) (hf : 0 ∉ σ.firsts) :
    W (callN prg (n + 1) 241 [.obj A.st, .int 1] m) fun z => z.1 = .none ∧ ∃ A', A'.st = A.st ∧ St A' z.2 { σ with marks := ms, trail := t0, doms := undo t1.reverse σ.doms, news := 0, failed := false, clash := [] } ∧ Only A.own m z.2 ∧ (∀ i, A'.own i → A.own i ∨ m.length ≤ i) := by
  refine call_raw f241 rfl ?_
  have hml : σ.marks.length = ms.length + 1 := by rw [hm, List.length_append]; rfl
  have e1 : itemA (.obj A.mr) (.int (((σ.marks.length : Nat) : Int) - 1)) m = some (.int t0.length) := by
    rw [hml, show (((ms.length + 1 : Nat) : Int) - 1) = (ms.length : Int) by omega]
    exact item_list S.mr (by rw [List.length_map]; have := S.lm; omega) (by rw [List.getElem?_map, hm, get_mid rfl]; rfl)
  have e2 : sliceA (.obj A.mr) .none (.int (((σ.marks.length : Nat) : Int) - 1)) m = some (.obj m.length, m ++ [.list (ms.map eN)]) := by
    have := S.lm
    rw [hml, show (((ms.length + 1 : Nat) : Int) - 1) = (ms.length : Int) by omega]
    simp only [sliceA, itemsA, S.mr, clampA]
    rw [if_pos (by omega), hm]
    rw [hm, List.length_append] at this
    simp only [List.length_map, List.length_append, List.length_cons, List.length_nil] at this ⊢
    rw [if_neg (by omega), List.drop_zero, Int.toNat_natCast, Nat.min_eq_left (by omega), List.map_append, List.take_left' (by rw [List.length_map])]
  have P1 := List.prefix_append m [.list (ms.map eN)]
  have S1 := S.pre P1
  have N1 : ¬ A.own m.length := S.new (Nat.le_refl _)
  have S2 := S1.put (B := { A with mr := m.length }) (τ := { σ with marks := ms }) ⟨rfl, rfl, rfl, rfl, rfl⟩ ⟨rfl, rfl, rfl⟩ (S1.nd_mr N1) get_new S1.nw (by have := S.lm; dsimp only; omega) S.ln
  have e3 : setAttrA prg.meths (.obj A.st) .marks (.obj m.length) (m ++ [.list (ms.map eN)]) = some ((m ++ [MObj.list (ms.map eN)]).set A.d (.sdict (dictOf { A with mr := m.length } { σ with marks := ms }))) := by
    simp only [setAttrA, S1.inst, S1.dict]; rfl
  have L0 : callB .len [.obj A.mr] m = some (.int σ.marks.length, m) := S.len_mk
  rw [b241]
  simp only [zE, cm_eq, cm_ne, cm_lt, cm_le, cm_gt, cm_ge, cm_is, cm_in, cm_ni, S.a_mk, L0, bA_add, bA_sub, bA_tup]
  rw [decide_eq_false (by decide)]
  simp only [zE, Bool.false_eq_true, if_false, S.a_mk, L0, bA_add, bA_sub, bA_tup, e1, e2, e3]
  rw [ex_while]
  obtain ⟨⟨fl, v, m3⟩, h1, h2, S3, O3, w3, h5⟩ := popLoop (A := { A with mr := m.length }) (Φ := callN prg n) (t0 := t0) (v1 := some (.int 1)) (v4 := none) t1.reverse (n := 1000) (v3 := none) S2 (by rw [List.reverse_reverse]; exact ht) (by have := S.lt; rw [ht, List.length_append] at this; rw [List.length_reverse]; omega) (by
    intro e he; exact hx e (List.mem_reverse.mp he))
  refine W_bind ⟨_, h1, ?_⟩
  dsimp only at h2 h5 S3 O3
  subst h2 h5
  have N3 : ¬ ({ A with mr := m.length } : Ad).own m3.length := S3.new (Nat.le_refl _)
  have P3 := List.prefix_append m3 [.idict 0]
  have S4 := S3.pre P3
  have S5 := S4.put (B := { A with mr := m.length, nw := m3.length }) (τ := { σ with marks := ms, trail := t0, doms := undo t1.reverse σ.doms, news := 0 }) ⟨rfl, rfl, rfl, rfl, rfl⟩ ⟨rfl, rfl, rfl⟩ (S4.nd_nw N3) S4.mr get_new S4.lm (Nat.zero_le _)
  have e4 : setAttrA prg.meths (.obj A.st) .news (.obj m3.length) (m3 ++ [.idict 0]) = some ((m3 ++ [MObj.idict 0]).set A.d (.sdict (dictOf { A with mr := m.length, nw := m3.length } { σ with marks := ms, trail := t0, doms := undo t1.reverse σ.doms, news := 0 }))) := by
    simp only [setAttrA, S4.inst, S4.dict]; rfl
  obtain ⟨e5, S6⟩ := S5.set_if (b := false)
  obtain ⟨e6, S7⟩ := S6.set_cl (b := [])
  have e7 : itemsA ((m3 ++ [MObj.idict 0]).set A.d (.sdict (dictOf { A with mr := m.length, nw := m3.length } { σ with marks := ms, trail := t0, doms := undo t1.reverse σ.doms, news := 0 }))) (.obj A.fi) = some (σ.firsts.map eM) := by
    have := S5.fi
    dsimp only at this
    simp only [itemsA, this]
  have e8 : ∀ m, anyEq m (.tup []) (σ.firsts.map eM) = some false := by
    intro m
    rw [show AV.tup [] = eM 0 from rfl, anyEq_cl 3 (by decide) (eM_cl 0) (by rw [List.all_map, List.all_eq_true]; exact fun x _ => eM_cl x)]
    rw [List.any_map]
    congr 1
    rw [List.any_eq_false]
    intro x hxx q
    have : eM x = eM 0 := by simpa using q
    exact hf (eM_inj this ▸ hxx)
  have S5a := S5.a_fi
  dsimp only at S5a
  have e6' := e6
  simp only [eR, List.map_nil] at e6'
  simp only [zE, e4, S5a, cm_eq, cm_ne, cm_lt, cm_le, cm_gt, cm_ge, cm_is, cm_in, cm_ni, e7, e8, e5, e6']
  refine W_some (.inl ?_)
  refine ⟨by trivial, by trivial, { A with mr := m.length, nw := m3.length }, rfl, ?_, ?_, ?_⟩
  · exact S7
  · have hd : A.own A.d := by simp [Ad.own, Ad.all]
    have o1 : Only A.own m ((m ++ [MObj.list (ms.map eN)]).set A.d (.sdict (dictOf { A with mr := m.length } { σ with marks := ms }))) := (Only.of_pre P1).trans (Only.of_set hd)
    have o3 : Only A.own m m3 := by
      refine ⟨Nat.le_trans o1.1 O3.1, fun i hi hn => ?_⟩
      rw [O3.2 i (Nat.lt_of_lt_of_le hi o1.1) ?_, o1.2 i hi hn]
      intro q
      simp only [Ad.own, Ad.all, List.mem_cons, List.not_mem_nil, or_false] at q hn
      rcases q with q | q | q | q | q | q | q <;> first | omega | (exact hn (by simp [q]))
    exact o3.trans ((Only.of_pre P3).trans ((Only.of_set hd).trans ((Only.of_set hd).trans (Only.of_set hd))))
  · intro i hi
    have hle : m.length ≤ m3.length := by
      have := O3.1
      rw [List.length_set, List.length_append] at this
      omega
    simp only [Ad.own, Ad.all, List.mem_cons, List.not_mem_nil, or_false] at hi ⊢
    rcases hi with q | q | q | q | q | q | q <;> first | (right; omega) | (left; simp [q])
end Mine
end

section
open PySem
set_option maxRecDepth 100000
set_option linter.unusedVariables false
set_option linter.unusedSimpArgs false
namespace Mine

theorem comp1_map {α : Type} {M : Methods} {Φ : Fun} {vars : Vars} {size : Nat} {lends : List (Nat × Nat)} {t : LT} {it elt : LE} {mem mem1 : Mem} {src : AV} {enc : α → AV} {l : List α} (h : α → AV) (P : Vars → Prop)
    (e1 : ev M Φ vars it mem = some (src, mem1)) (e2 : iterA mem1 src = some (l.map enc)) (hs : ∀ mem', mem1 <+: mem' → stillA src (l.map enc) mem' = true)
    (hp : P (lendVars vars size lends))
    (hf : ∀ a ∈ l, ∀ vars mem', P vars → mem1 <+: mem' → ∃ v1, bindT t (enc a) vars mem' = some v1 ∧ P v1 ∧ ∃ m3, ev M Φ v1 elt mem' = some (h a, m3) ∧ mem' <+: m3)
    (hl : l.length ≤ 1000000) :
    ∃ mem2, ev M Φ vars (.comp1 size lends t it (.bool true) elt) mem = some (.obj mem2.length, mem2 ++ [.list (l.map h)]) ∧ mem1 <+: mem2 := by
  have := comp1_ok (fun _ => true) h P e1 e2 hs hp (cond := .bool true) (elt := elt) (t := t) (fun a ha v m hv hm => by
    obtain ⟨v1, b1, b2, m3, b3, b4⟩ := hf a ha v m hv hm
    exact ⟨v1, b1, b2, m, rfl, List.prefix_refl _, fun _ => ⟨m3, b3, b4⟩⟩) hl
  have e : l.filter (fun _ => true) = l := List.filter_eq_self.mpr fun _ _ => rfl
  rw [e] at this
  exact this
theorem comp2_ok {α β : Type} {M : Methods} {Φ : Fun} {vars : Vars} {size : Nat} {lends : List (Nat × Nat)} {t1 t2 : LT} {it1 it2 elt : LE} {mem mem1 : Mem} {src : AV} {enc : α → AV} {enc2 : β → AV} {l : List α} (l2 : α → List β) (src2 : α → AV) (h : α → β → AV) (P : Vars → Prop) (Q : α → Vars → Prop)
    (e1 : ev M Φ vars it1 mem = some (src, mem1)) (e2 : iterA mem1 src = some (l.map enc)) (hs : ∀ mem', mem1 <+: mem' → stillA src (l.map enc) mem' = true)
    (hp : P (lendVars vars size lends)) (hQ : ∀ a v, Q a v → P v)
    (hf : ∀ a ∈ l, ∀ vars mem', P vars → mem1 <+: mem' → ∃ v1 m2, bindT t1 (enc a) vars mem' = some v1 ∧ Q a v1 ∧ ev M Φ v1 it2 mem' = some (src2 a, m2) ∧ mem' <+: m2 ∧ iterA m2 (src2 a) = some ((l2 a).map enc2) ∧ (∀ m', m2 <+: m' → stillA (src2 a) ((l2 a).map enc2) m' = true) ∧
      (∀ b ∈ l2 a, ∀ v m', Q a v → m2 <+: m' → ∃ v1, bindT t2 (enc2 b) v m' = some v1 ∧ Q a v1 ∧ ∃ m3, ev M Φ v1 elt m' = some (h a b, m3) ∧ m' <+: m3))
    (hl : (l.flatMap fun a => (l2 a).map (h a)).length ≤ 1000000) :
    ∃ mem2, ev M Φ vars (.comp2 size lends t1 it1 t2 it2 elt) mem = some (.obj mem2.length, mem2 ++ [.list (l.flatMap fun a => (l2 a).map (h a))]) ∧ mem1 <+: mem2 := by
  obtain ⟨v2, mem2, k1, k2, k3⟩ := compLoop_ok (src := src) (xs0 := l.map enc) (t := t1) (enc := enc) (g := fun a => (l2 a).map (h a))
    (f := fun vars mem => do
      let (src2, mem) ← ev M Φ vars it2 mem
      let ys ← iterA mem src2
      compLoop src2 ys t2 (fun vars mem => do
        let (a, mem) ← ev M Φ vars elt mem
        some ([a], vars, mem)) ys vars mem) P hs (l := l) (by
    intro a ha vars mem' hv hm
    obtain ⟨v1, m2, b1, b2, b3, b4, b5, b6, b7⟩ := hf a ha vars mem' hv hm
    obtain ⟨v3, m3, c1, c2, c3⟩ := compLoop_ok (src := src2 a) (xs0 := (l2 a).map enc2) (t := t2) (enc := enc2) (g := fun b => [h a b]) (f := fun vars mem => do
        let (a, mem) ← ev M Φ vars elt mem
        some ([a], vars, mem)) (Q a) b6 (l := l2 a) (by
      intro b hb v m' hv hm'
      obtain ⟨w1, d1, d2, m4, d3, d4⟩ := b7 b hb v m' hv hm'
      refine ⟨w1, w1, m4, d1, ?_, d2, d4⟩
      simp only [Option.bind_eq_bind, Option.bind_some, d3]) b2 (List.prefix_refl _)
    refine ⟨v1, v3, m3, b1, ?_, hQ a _ c2, b4.trans c3⟩
    simp only [Option.bind_eq_bind, Option.bind_some, b3, b5]
    simp only [Option.bind_eq_bind] at c1
    rw [c1]
    congr 1
    congr 1
    induction l2 a with
    | nil => rfl
    | cons x xs ih => rw [List.flatMap_cons, ih]; rfl) hp (List.prefix_refl _)
  refine ⟨mem2, ?_, k3⟩
  rw [ev_comp2]
  simp only [Option.bind_eq_bind, Option.bind_some, e1, e2]
  simp only [Option.bind_eq_bind] at k1
  refine Eq.trans (congrArg (fun o => Option.bind o _) k1) ?_
  simp only [Option.bind_some]
  rw [if_pos (sz_of hl)]

theorem still_obj {i : Nat} {m : Mem} {xs : List AV} (h : m[i]? = some (.list xs)) : ∀ m', m <+: m' → stillA (.obj i) xs m' = true := by
  intro m' hm
  simp only [stillA, get_pre hm h, decide_true]
theorem boolsA_map {α : Type} (f : α → Bool) : ∀ l : List α, boolsA (l.map fun a => .bool (f a)) = some (l.map f) := by
  intro l
  induction l with
  | nil =>
    exact rfl
  | cons i l ih =>
    rw [List.map_cons, boolsA, ih]; rfl
theorem all_ok {α : Type} {f : α → Bool} {l : List α} {m : Mem} : callB .all [.obj m.length] (m ++ [.list (l.map fun a => .bool (f a))]) = some (.bool (l.all f), m ++ [.list (l.map fun a => .bool (f a))]) := by
  simp only [callB, get_new, boolsA_map, Option.map_some]
  rw [List.all_map]; rfl
theorem any_ok {α : Type} {f : α → Bool} {l : List α} {m : Mem} : callB .any [.obj m.length] (m ++ [.list (l.map fun a => .bool (f a))]) = some (.bool (l.any f), m ++ [.list (l.map fun a => .bool (f a))]) := by
  simp only [callB, get_new, boolsA_map, Option.map_some]
  rw [List.any_map]; rfl

noncomputable def rngs (d : D) : List AV := d.flatMap fun p => rngItems p.1 (p.2 + 1)
noncomputable def okD (d : D) : Prop := ∀ p ∈ d, 0 ≤ p.1 ∧ p.1 ≤ 10 ∧ 0 ≤ p.2 ∧ p.2 ≤ 10
theorem numLoop {n : Nat} {mem : Mem} {b : Nat} {all : List AV} (hb2 : mem.length ≤ b) : ∀ {d : D} {m : Mem} {f : List AV} {v0 v2 v3 v4 v5 : Option AV},
    m[b]? = some (.list f) → mem <+: m → okD d → f.length + 20 * d.length ≤ 1000 →
    W (forLoop (.tup all) all (.vs [2, 3]) (exs prg.meths (callN prg n) [.expr (.meth (.var 1) .«extend» [(.callB .«list» [(.callB .«range» [(.var 2), (.bin .Add (.var 3) (.int 1))])])])]) (d.map eP) [v0, some (.obj b), v2, v3, v4, v5] m) fun r =>
      r.1 = .next ∧ mem <+: r.2.2 ∧ r.2.2[b]? = some (.list (f ++ rngs d)) ∧ r.2.1[1]? = some (some (.obj b)) := by
  intro d
  induction d with
  | nil =>
    intro m f v0 v2 v3 v4 v5 h1 h2 h3 h4
    refine W_some ?_
    exact ⟨rfl, h2, by rw [rngs, List.flatMap_nil, List.append_nil]; exact h1, rfl⟩
  | cons z0 d ih =>
    obtain ⟨lo, hi⟩ := z0
    intro m f v0 v2 v3 v4 v5 h1 h2 h3 h4
    rw [List.length_cons] at h4
    obtain ⟨g1, g2, g3, g4⟩ := h3 (lo, hi) List.mem_cons_self
    dsimp only at g1 g2 g3 g4
    have hlen : (rngItems lo (hi + 1)).length ≤ 20 := by rw [rngItems, List.length_map, List.length_range]; omega
    have e1 : callB .range [.int lo, .int (hi + 1)] m = some (.rng lo (hi + 1), m) := by
      simp only [callB]
      rw [if_pos (by omega)]
    have e2 : callB .list [.rng lo (hi + 1)] m = some (.obj m.length, m ++ [.list (rngItems lo (hi + 1))]) := by
      simp only [callB, iterA]
      rw [if_pos (by omega)]
      simp only
      rw [if_pos (sz_of (by omega))]
    have hb3 : b < m.length := lt_of_get h1
    rw [List.map_cons, for_cons (v1 := [v0, some (.obj b), some (.int lo), some (.int hi), v4, v5]) (v2 := [v0, some (.obj b), some (.int lo), some (.int hi), v4, v5]) (m2 := (m ++ [MObj.list (rngItems lo (hi + 1))]).set b (MObj.list (f ++ rngItems lo (hi + 1)))) rfl (by
      rw [exs_cons, ex_expr, ev_mlist (i := b) (m1 := m) (by simp only [zE]) h1]
      simp only [zE, bA_add, bA_sub, bA_tup, e1, e2, get_pre (List.prefix_append m _) h1, lm_append, lm_pop, lm_extend, lm_index, get_new]
      rw [if_pos ⟨by omega, sz_of (by omega)⟩]
      rfl) rfl]
    have P1 : mem <+: (m ++ [MObj.list (rngItems lo (hi + 1))]).set b (MObj.list (f ++ rngItems lo (hi + 1))) := pre_set (pre_app h2 _) hb2
    obtain ⟨z, k1, k2, k3, k4, k5⟩ := ih (f := f ++ rngItems lo (hi + 1)) (v0 := v0) (v2 := some (.int lo)) (v3 := some (.int hi)) (v4 := v4) (v5 := v5) (get_set (get_pre (List.prefix_append m _) h1)) P1 (fun p hp => h3 p (List.mem_cons_of_mem _ hp)) (by rw [List.length_append]; omega)
    refine ⟨z, k1, k2, k3, ?_, k5⟩
    rw [k4, rngs, rngs, List.flatMap_cons, List.append_assoc]
theorem num_tab : ∀ m : Mk, rngs (dM m) = (vals m).map .int := by decide +kernel
theorem okD_tab : ∀ m : Mk, ∀ p ∈ dM m, 0 ≤ p.1 ∧ p.1 ≤ 10 ∧ 0 ≤ p.2 ∧ p.2 ≤ 10 := by decide +kernel
theorem flats_int (l : List Int) : AV.flats (l.map .int) = true := flats_map _ (fun _ => rfl) l
theorem numbers_ok {n : Nat} {m : Mk} {mem : Mem} : callN prg (n + 1) 374 [eM m] mem = some (.obj mem.length, mem ++ [.list ((vals m).map .int)]) := by
  refine call_list f374 _ rfl (flats_int _) ?_
  have hd := dM_len m
  obtain ⟨⟨fl, v, m'⟩, e, k1, k2, k3, k4⟩ := numLoop (n := n) (mem := mem) (b := mem.length) (all := (dM m).map eP) (Nat.le_refl _) (d := dM m) (m := mem ++ [.list []]) (f := []) (v0 := some (eM m)) (v2 := none) (v3 := none) (v4 := none) (v5 := none)
    get_new (List.prefix_append _ _) (okD_tab m) (by simp only [List.length_nil]; omega)
  dsimp only at k1 k2 k3 k4
  subst k1
  simp only [zE, b374]
  rw [ex_for (src := eM m) (m1 := mem ++ [.list []]) (xs := (dM m).map eP) rfl rfl rfl]
  refine W_bind ⟨_, e, ?_⟩
  rw [num_tab] at k3
  simp only [zE, k4]
  refine W_some ?_
  exact ⟨_, rfl, Nat.le_refl _, k3, k2⟩
end Mine
end

section
open PySem
set_option maxRecDepth 100000
set_option linter.unusedVariables false
set_option linter.unusedSimpArgs false
set_option autoImplicit false
namespace Mine

noncomputable def eT (l : List Int) : AV := .tup (l.map .int)
noncomputable def eJ (a : Nat) : AV := .obj a
structure LL (m : Mem) (L : Nat) (as : List Nat) (lots : List (List Int)) : Prop where
  l : m[L]? = some (.list (as.map eJ))
  len : as.length = lots.length
  get : ∀ (i a : Nat) (vs : List Int), as[i]? = some a → lots[i]? = some vs → m[a]? = some (.list (vs.map .int))
  sz : lots.length ≤ 1000
  sz2 : ∀ vs ∈ lots, vs.length ≤ 1000
theorem LL.pre {m m' : Mem} {L : Nat} {as : List Nat} {lots : List (List Int)} (h : LL m L as lots) (k : m <+: m') : LL m' L as lots :=
  ⟨get_pre k h.l, h.len, fun i a vs e f => get_pre k (h.get i a vs e f), h.sz, h.sz2⟩
theorem LL.at {m : Mem} {L : Nat} {as : List Nat} {lots : List (List Int)} (h : LL m L as lots) {i : Nat} {vs : List Int} (e : lots[i]? = some vs) : ∃ a, itemA (.obj L) (.int i) m = some (.obj a) ∧ as[i]? = some a ∧ m[a]? = some (.list (vs.map .int)) := by
  have hi : i < lots.length := by rw [List.getElem?_eq_some_iff] at e; exact e.1
  have ha : as[i]? = some (as[i]'(by rw [h.len]; exact hi)) := List.getElem?_eq_getElem _
  refine ⟨_, ?_, ha, h.get i _ vs ha e⟩
  exact item_list h.l (by rw [List.length_map, h.len]; have := h.sz; omega) (by rw [List.getElem?_map, ha]; rfl)
theorem iter_obj {m : Mem} {i : Nat} {xs : List AV} (h : m[i]? = some (.list xs)) : iterA m (.obj i) = some xs := by simp only [iterA, itemsA, h]

theorem ev_all {α : Type} {f : α → Bool} {l : List α} {M : Methods} {Φ : Fun} {v : Vars} {e : LE} {m m3 : Mem} (k1 : ev M Φ v e m = some (.obj m3.length, m3 ++ [.list (l.map fun a => .bool (f a))])) (k2 : m <+: m3) :
    ∃ m', ev M Φ v (.callB .all [e]) m = some (.bool (l.all f), m') ∧ m <+: m' := by
  refine ⟨m3 ++ [.list (l.map fun a => .bool (f a))], ?_, pre_app k2 _⟩
  simp only [ev_callB, evs_cons, k1, Option.bind_some, evs_nil, all_ok]

noncomputable def lotAt (lots : List (List Int)) (x : Nat) : List Int := (lots[x]?).getD []
noncomputable def holdsM (rs : List Lit) (lots : List (List Int)) : Bool := rs.all fun l => (lotAt lots l.x).all l.tr
theorem holds_ok {n : Nat} {rs : List Lit} {L : Nat} {as : List Nat} {lots : List (List Int)} {mem : Mem} (h : LL mem L as lots) (hr : rs.length ≤ 1000) (hx : ∀ l ∈ rs, l.x < lots.length) :
    callN prg (n + 2) 398 [eR rs, .obj L] mem = some (.bool (holdsM rs lots), mem) := by
  refine call_pure f398 _ rfl rfl ?_
  obtain ⟨m2, h1, h2⟩ := comp1_map (M := prg.meths) (Φ := callN prg (n + 1)) (vars := [some (eR rs), some (.obj L), none]) (size := 4) (lends := [(3, 1)]) (t := .v 1) (it := .var 0)
    (elt := .callB .«all» [(.comp1 4 [(3, 1)] (.v 1) (.item (.var 3) (.item (.var 1) (.int 0))) (.bool true) (.callF 381 [(.var 3), (.var 1)]))]) (mem := mem) (mem1 := mem) (src := eR rs) (enc := eL) (l := rs)
    (fun l => .bool ((lotAt lots l.x).all l.tr)) (fun v => ∃ a b c, v = [a, b, c, some (.obj L)]) rfl rfl (fun _ _ => rfl) ⟨_, _, _, rfl⟩ (by
      rintro l hl v m ⟨a, b, c, rfl⟩ hm
      refine ⟨[a, some (eL l), c, some (.obj L)], rfl, ⟨_, _, _, rfl⟩, ?_⟩
      have hL := h.pre hm
      have hv : lots[l.x]? = some (lotAt lots l.x) := by
        unfold lotAt; rw [List.getElem?_eq_getElem (hx l hl)]; rfl
      obtain ⟨ad, g1, _, g2⟩ := hL.at hv
      have hsz : (lotAt lots l.x).length ≤ 1000 := h.sz2 _ (List.mem_of_getElem? hv)
      have e0 : itemA (eL l) (.int 0) m = some (.int l.x) := rfl
      obtain ⟨m3, k1, k2⟩ := comp1_map (M := prg.meths) (Φ := callN prg (n + 1)) (vars := [a, some (eL l), c, some (.obj L)]) (size := 4) (lends := [(3, 1)]) (t := .v 1) (it := .item (.var 3) (.item (.var 1) (.int 0)))
        (elt := .callF 381 [(.var 3), (.var 1)]) (mem := m) (mem1 := m) (src := .obj ad) (enc := .int) (l := lotAt lots l.x) (fun v => .bool (l.tr v)) (fun v => ∃ a b c, v = [a, b, c, some (eL l)])
        (by simp only [zE, e0, g1]) (iter_obj g2) (still_obj g2) ⟨_, _, _, rfl⟩ (by
          rintro k hk v m' ⟨a', b', c', rfl⟩ hm'
          refine ⟨[a', some (.int k), c', some (eL l)], rfl, ⟨_, _, _, rfl⟩, m', ?_, List.prefix_refl _⟩
          simp only [zE, true_ok]) (by omega)
      exact ev_all k1 k2) (by omega)
  simp only [b398, exs_cons, ex_ret, ev_callB, evs_cons, List.replicate, List.set_cons_zero, List.set_cons_succ, h1, Option.bind_some, evs_nil, all_ok]
  refine W_some ?_
  exact ⟨rfl, pre_app h2 _⟩

noncomputable def valAt (a : List Int) (x : Nat) : Int := (a[x]?).getD 0
noncomputable def meetsM (rs : List Lit) (a : List Int) : Bool := rs.all fun l => l.tr (valAt a l.x)
noncomputable def barredM (rs : List Lit) (answers : List (List Int)) : Bool := !(answers.any (meetsM rs))
structure Ls (m : Mem) (src : AV) (rs : List Lit) : Prop where
  it : ∀ m', m <+: m' → iterA m' src = some (rs.map eL)
  st : ∀ m', m <+: m' → stillA src (rs.map eL) m' = true
theorem Ls.tup {m : Mem} {rs : List Lit} : Ls m (eR rs) rs := ⟨fun _ _ => rfl, fun _ _ => rfl⟩
theorem Ls.obj {m : Mem} {i : Nat} {rs : List Lit} (h : m[i]? = some (.list (rs.map eL))) : Ls m (.obj i) rs := ⟨fun m' k => iter_obj (get_pre k h), still_obj h⟩
theorem Ls.pre {m m' : Mem} {src : AV} {rs : List Lit} (h : Ls m src rs) (k : m <+: m') : Ls m' src rs := ⟨fun m2 e => h.it m2 (k.trans e), fun m2 e => h.st m2 (k.trans e)⟩
theorem barred_ok {n : Nat} {rs : List Lit} {src : AV} {K : Nat} {answers : List (List Int)} {mem : Mem} (h : Ls mem src rs) (hk : mem[K]? = some (.list (answers.map eT))) (hr : rs.length ≤ 1000) (hl : answers.length ≤ 1000)
    (hx : ∀ a ∈ answers, a.length ≤ 1000 ∧ ∀ l ∈ rs, l.x < a.length) :
    callN prg (n + 2) 403 [src, .obj K] mem = some (.bool (barredM rs answers), mem) := by
  refine call_pure f403 _ rfl rfl ?_
  obtain ⟨m2, h1, h2⟩ := comp1_map (M := prg.meths) (Φ := callN prg (n + 1)) (vars := [some src, some (.obj K), none]) (size := 4) (lends := [(3, 0)]) (t := .v 1) (it := .var 1)
    (elt := .callB .«all» [(.comp1 4 [(3, 1)] (.v 1) (.var 3) (.bool true) (.callF 381 [(.var 1), (.item (.var 3) (.item (.var 1) (.int 0)))]))]) (mem := mem) (mem1 := mem) (src := .obj K) (enc := eT) (l := answers)
    (fun a => .bool (meetsM rs a)) (fun v => ∃ a b c, v = [a, b, c, some src]) rfl (iter_obj hk) (still_obj hk) ⟨_, _, _, rfl⟩ (by
      rintro w hw v m ⟨a, b, c, rfl⟩ hm
      refine ⟨[a, some (eT w), c, some src], rfl, ⟨_, _, _, rfl⟩, ?_⟩
      obtain ⟨w1, w2⟩ := hx w hw
      obtain ⟨m3, k1, k2⟩ := comp1_map (M := prg.meths) (Φ := callN prg (n + 1)) (vars := [a, some (eT w), c, some src]) (size := 4) (lends := [(3, 1)]) (t := .v 1) (it := .var 3)
        (elt := .callF 381 [(.var 1), (.item (.var 3) (.item (.var 1) (.int 0)))]) (mem := m) (mem1 := m) (src := src) (enc := eL) (l := rs) (fun l => .bool (l.tr (valAt w l.x))) (fun v => ∃ a b c, v = [a, b, c, some (eT w)])
        rfl (h.it _ hm) (fun m' hm' => h.st _ (hm.trans hm')) ⟨_, _, _, rfl⟩ (by
          rintro l hl v m' ⟨a', b', c', rfl⟩ hm'
          refine ⟨[a', some (eL l), c', some (eT w)], rfl, ⟨_, _, _, rfl⟩, m', ?_, List.prefix_refl _⟩
          have e0 : itemA (eL l) (.int 0) m' = some (.int l.x) := rfl
          have e1 : itemA (eT w) (.int l.x) m' = some (.int (valAt w l.x)) := item_mid (by rw [List.length_map]; omega) (by
            unfold valAt; rw [List.getElem?_map, List.getElem?_eq_getElem (w2 l hl)]; rfl)
          simp only [zE, e0, e1, true_ok]) (by omega)
      exact ev_all k1 k2) (by omega)
  simp only [b403, exs_cons, ex_ret, ev_not, ev_callB, evs_cons, List.replicate, List.set_cons_zero, List.set_cons_succ, h1, Option.bind_some, evs_nil, any_ok]
  refine W_some ?_
  exact ⟨rfl, pre_app h2 _⟩

noncomputable def keepsM (s t : Int) (l : List Int) : Bool := (List.range l.length).all fun i => !(decide (valAt l i = t) && !decide (s ∈ l.take i))
theorem anyEq_int {m : Mem} {s : Int} (l : List Int) : anyEq m (.int s) (l.map .int) = some (decide (s ∈ l)) := by
  rw [anyEq_cl 0 (by decide) rfl (by rw [List.all_map, List.all_eq_true]; exact fun x _ => rfl), List.any_map]
  congr 1
  rw [Bool.eq_iff_iff]
  simp [List.any_eq_true]
inductive Is (m : Mem) : AV → List Int → Prop where
  | tup {l : List Int} : Is m (eT l) l
  | obj {i : Nat} {l : List Int} (h : m[i]? = some (.list (l.map .int))) : Is m (.obj i) l
theorem Is.pre {m m' : Mem} {src : AV} {l : List Int} (h : Is m src l) (k : m <+: m') : Is m' src l := by
  cases h with
  | tup => exact .tup
  | obj h => exact .obj (get_pre k h)
theorem Is.items {m : Mem} {src : AV} {l : List Int} (h : Is m src l) : itemsA m src = some (l.map .int) := by
  cases h with
  | tup => rfl
  | obj h => simp only [itemsA, h]
theorem Is.item {m : Mem} {src : AV} {l : List Int} (h : Is m src l) {i : Nat} (hi : i < l.length) (hl : l.length ≤ 1000) : itemA src (.int i) m = some (.int (valAt l i)) := by
  simp only [itemA, h.items]
  rw [idx_nat (by rw [List.length_map]; exact hi) (by rw [List.length_map]; omega), Option.bind_some, List.getElem?_map]
  unfold valAt
  rw [List.getElem?_eq_getElem hi]; rfl
theorem Is.take {m : Mem} {src : AV} {l : List Int} (h : Is m src l) {i : Nat} (hi : i ≤ l.length) (hl : l.length ≤ 1000) : ∃ src' m', sliceA src .none (.int i) m = some (src', m') ∧ m <+: m' ∧ Is m' src' (l.take i) := by
  have e1 : clampA (l.map AV.int).length (l.map AV.int).length (.int i) = some i := by
    simp only [clampA]
    rw [if_pos (by omega), List.length_map]
    congr 1
    omega
  have e2 : clampA (l.map AV.int).length 0 .none = some 0 := rfl
  have e3 : ¬ (l.map AV.int).length > 1000000 := by rw [List.length_map]; omega
  cases h with
  | tup =>
    refine ⟨eT (l.take i), m, ?_, List.prefix_refl _, .tup⟩
    simp only [sliceA, eT, itemsA, e1, e2]
    rw [if_neg e3, List.drop_zero, List.map_take]
  | obj h =>
    refine ⟨.obj m.length, m ++ [.list ((l.take i).map .int)], ?_, List.prefix_append _ _, .obj get_new⟩
    simp only [sliceA, itemsA, h, e1, e2]
    rw [if_neg e3, List.drop_zero, List.map_take]
theorem Is.slice_in {m : Mem} {src : AV} {l : List Int} (h : Is m src l) (s : Int) : cmpA .In (.int s) src m = some (decide (s ∈ l)) := by
  simp only [cmpA, h.items, anyEq_int]
theorem Is.slice_notin {m : Mem} {src : AV} {l : List Int} (h : Is m src l) (s : Int) : cmpA .NotIn (.int s) src m = some (!decide (s ∈ l)) := by
  simp only [cmpA, h.items, anyEq_int, Option.map_some]
theorem rng_eq (n : Nat) : rngItems 0 (n : Int) = (List.range' 0 n).map eN := by
  rw [rngItems, List.range_eq_range']
  simp only [Int.sub_zero, Int.toNat_natCast]
  refine List.map_congr_left fun k hk => ?_
  simp only [eN]
  congr 1
  omega
theorem kpLoop {n : Nat} {mem : Mem} {s t : Int} {l : List Int} {src : AV} {N : Int} {all : List AV} (hl : l.length ≤ 1000) : ∀ (r k : Nat) {m : Mem} {v3 v4 v5 : Option AV}, Is m src l → mem <+: m → k + r = l.length →
    W (forLoop (.rng 0 N) all (.v 3) (exs prg.meths (callN prg n) [.ite (.and (.cmp .Eq (.item (.var 2) (.var 3)) (.var 1)) (.cmp .NotIn (.var 0) (.slice (.var 2) .none (.var 3)))) [.ret (.bool false)] []]) ((List.range' k r).map eN) [some (.int s), some (.int t), some src, v3, v4, v5] m) fun z =>
      mem <+: z.2.2 ∧ if ((List.range' k r).all fun i => !(decide (valAt l i = t) && !decide (s ∈ l.take i))) = true then z.1 = .next else z.1 = .ret (.bool false) := by
  intro r
  induction r with
  | zero =>
    intro k m v3 v4 v5 h hm hk
    refine W_some ?_
    exact ⟨hm, rfl⟩
  | succ r ih =>
    intro k m v3 v4 v5 h hm hk
    have e1 := h.item (i := k) (by omega) hl
    obtain ⟨src', m', e2, e3, e4⟩ := h.take (i := k) (by omega) hl
    have e5 := e4.slice_notin s
    rw [List.range'_succ, List.map_cons, List.all_cons]
    by_cases q1 : valAt l k = t
    · by_cases q2 : s ∈ l.take k
      · rw [for_cons (v1 := [some (.int s), some (.int t), some src, some (.int k), v4, v5]) (v2 := [some (.int s), some (.int t), some src, some (.int k), v4, v5]) (m2 := m') rfl (by
          simp only [zE, e1, eqA_int, q1, decide_true, e2, e5, q2, Bool.not_true]) rfl]
        simp only [q1, q2, decide_true, Bool.not_true, Bool.and_false, Bool.not_false, Bool.true_and]
        exact ih (k + 1) (h.pre e3) (hm.trans e3) (by omega)
      · rw [for_ret (v1 := [some (.int s), some (.int t), some src, some (.int k), v4, v5]) (v2 := [some (.int s), some (.int t), some src, some (.int k), v4, v5]) (a := .bool false) (m2 := m') rfl (by
          simp only [zE, e1, eqA_int, q1, decide_true, e2, e5, q2, decide_false, Bool.not_false])]
        simp only [q1, q2, decide_true, decide_false, Bool.not_true, Bool.and_self, Bool.not_false, Bool.false_and, Bool.false_eq_true, if_false]
        refine W_some ?_
        exact ⟨hm.trans e3, rfl⟩
    · rw [for_cons (v1 := [some (.int s), some (.int t), some src, some (.int k), v4, v5]) (v2 := [some (.int s), some (.int t), some src, some (.int k), v4, v5]) (m2 := m) rfl (by
        simp only [zE, e1, cm_eq, cm_ne, cm_lt, cm_le, cm_gt, cm_ge, cm_is, cm_in, cm_ni, eqA_int, q1, decide_false, if_false, Bool.false_eq_true]) rfl]
      simp only [q1, decide_false, Bool.false_and, Bool.not_false, Bool.true_and]
      exact ih (k + 1) h hm (by omega)
theorem keeps_ok {n : Nat} {mem : Mem} {s t : Int} {l : List Int} {src : AV} (h : Is mem src l) (hl : l.length ≤ 1000) : callN prg (n + 1) 388 [.int s, .int t, src] mem = some (.bool (keepsM s t l), mem) := by
  refine call_pure f388 _ rfl rfl ?_
  have e1 : callB .len [src] mem = some (.int l.length, mem) := by
    simp only [callB, h.items]
    rw [if_pos (sz_of (by rw [List.length_map]; omega)), List.length_map]
  have e2 : callB .range [.int l.length] mem = some (.rng 0 l.length, mem) := by
    simp only [callB]
    rw [if_pos (by omega)]
  have e3 : iterA mem (.rng 0 l.length) = some ((List.range' 0 l.length).map eN) := by
    simp only [iterA]
    rw [if_pos (by omega), rng_eq]
  obtain ⟨⟨fl, v, m'⟩, e, k1, k2⟩ := kpLoop (n := n) (mem := mem) (s := s) (t := t) (N := l.length) (all := (List.range' 0 l.length).map eN) hl l.length 0 (v3 := none) (v4 := none) (v5 := none) h (List.prefix_refl _) (by omega)
  rw [b388, exs_cons, ex_for (src := .rng 0 l.length) (m1 := mem) (xs := (List.range' 0 l.length).map eN) (by simp only [zE, e1, e2]) e3 rfl]
  simp only [List.replicate, List.set_cons_zero, List.set_cons_succ]
  refine W_bind ⟨_, e, ?_⟩
  unfold keepsM
  rw [List.range_eq_range']
  dsimp only at k1 k2
  split at k2
  · next q =>
    subst k2
    simp only [zE, q]
    refine W_some ?_
    exact ⟨rfl, k1⟩
  · next q =>
    subst k2
    rw [Bool.not_eq_true] at q
    rw [q]
    refine W_some ?_
    exact ⟨rfl, k1⟩
theorem keepsM_iff {s t : Int} {l : List Int} : keepsM s t l = true ↔ ∀ i < l.length, valAt l i = t → s ∈ l.take i := by
  unfold keepsM
  rw [List.all_eq_true]
  constructor
  · intro h i hi e
    have := h i (List.mem_range.mpr hi)
    simp only [e, decide_true, Bool.true_and, Bool.not_not, decide_eq_true_eq] at this
    exact this
  · intro h i hi
    by_cases e : valAt l i = t
    · simp only [e, decide_true, Bool.true_and, Bool.not_not, decide_eq_true_eq]
      exact h i (List.mem_range.mp hi) e
    · simp [e]
end Mine
end

section
open PySem
set_option maxRecDepth 100000
set_option linter.unusedVariables false
set_option linter.unusedSimpArgs false
set_option autoImplicit false
namespace Mine

theorem digit_ok {n : Nat} {mem : Mem} {r : Nat} {x k : Int} (h : mem[r]? = some (.list [.int x])) (hk : k ≠ 0) (hk2 : k.natAbs < 1000) :
    callN prg (n + 1) 367 [.obj r, .int k] mem = some (.int (x.fmod k), mem.set r (.list [.int (x.fdiv k)])) := by
  have e1 : itemA (.obj r) (.int 0) mem = some (.int x) := by simp only [itemA, itemsA, h]; rfl
  have e2 : ∀ a, setItemA (.obj r) (.int 0) a mem = some (mem.set r (.list [a])) := by intro a; simp only [setItemA, h]; rfl
  refine call_ret f367 (vars := [some (.obj r), some (.int k), none]) (a := .int (x.fmod k)) (v' := [some (.obj r), some (.int k), some (.int (x.fmod k))]) (mem' := mem.set r (.list [.int (x.fdiv k)])) rfl ?_ rfl
  have e3 : binA .Mod (.int x) (.int k) mem = some (.int (x.fmod k), mem) := by
    show (ite (k = 0) none (some (AV.int (x.fmod k), mem)) : Option (AV × Mem)) = _
    exact if_neg hk
  have e4 : binA .FloorDiv (.int x) (.int k) mem = some (.int (x.fdiv k), mem) := by
    show (ite (k ≠ 0 ∧ k.natAbs < 1000) (some (AV.int (x.fdiv k), mem)) none : Option (AV × Mem)) = _
    exact if_pos ⟨hk, hk2⟩
  simp only [zE, b367, e1, e3, e4, e2]

noncomputable def tupStep (found : List (List Int)) (lot : List Int) : List (List Int) := found.flatMap fun w => lot.map fun v => w ++ [v]
noncomputable def tuplesM (lots : List (List Int)) : List (List Int) := lots.foldl tupStep [[]]
theorem tupStep_len (found : List (List Int)) (lot : List Int) : (tupStep found lot).length = found.length * lot.length := by
  unfold tupStep
  induction found with
  | nil => simp
  | cons a l ih => rw [List.flatMap_cons, List.length_append, ih, List.length_map, List.length_cons, Nat.add_mul, Nat.one_mul, Nat.add_comm]
theorem tupLoop {n : Nat} {mem : Mem} {src : AV} {all : List AV} (hs : ∀ m, mem <+: m → stillA src all m = true) : ∀ (ads : List Nat) (lots : List (List Int)) {m : Mem} {b : Nat} {found : List (List Int)} {v0 v2 : Option AV},
    ads.length = lots.length → (∀ (i a : Nat) (vs : List Int), ads[i]? = some a → lots[i]? = some vs → mem[a]? = some (.list (vs.map .int))) → m[b]? = some (.list (found.map eT)) → mem.length ≤ b → mem <+: m → (∀ vs ∈ lots, vs.length ≤ 3) → found.length * 3 ^ lots.length ≤ 1000 → (∀ w ∈ found, w.length + lots.length ≤ 1000) →
    W (forLoop src all (.v 2) (exs prg.meths (callN prg n) [.assign (.v 1) (.comp2 4 [(3, 2)] (.v 1) (.var 1) (.v 2) (.var 3) (.bin .Add (.var 1) (.tuple [(.var 2)])))]) (ads.map eJ) [v0, some (.obj b), v2] m) fun z =>
      z.1 = .next ∧ mem <+: z.2.2 ∧ ∃ b', z.2.1[1]? = some (some (.obj b')) ∧ mem.length ≤ b' ∧ z.2.2[b']? = some (.list ((lots.foldl tupStep found).map eT)) := by
  intro ads
  induction ads with
  | nil =>
    intro lots m b found v0 v2 h0 h1 h2 h3 h4 h5 h6 h7
    obtain rfl := List.eq_nil_of_length_eq_zero h0.symm
    exact W_some ⟨rfl, h4, b, rfl, h3, h2⟩
  | cons ad ads ih =>
    intro lots m b found v0 v2 h0 h1 h2 h3 h4 h5 h6 h7
    obtain ⟨lot, lots, rfl⟩ := List.exists_cons_of_length_eq_add_one h0.symm
    have ha := get_pre h4 (h1 0 ad lot rfl rfl)
    have hl3 := h5 lot List.mem_cons_self
    rw [List.length_cons, Nat.pow_succ] at h6
    have hpos : 1 ≤ 3 ^ lots.length := Nat.one_le_pow _ _ (by decide)
    have hlen : (tupStep found lot).length * 3 ^ lots.length ≤ 1000 := by
      rw [tupStep_len]
      refine Nat.le_trans ?_ h6
      rw [Nat.mul_assoc]
      refine Nat.mul_le_mul_left _ ?_
      rw [Nat.mul_comm (3 ^ lots.length)]
      exact Nat.mul_le_mul_right _ hl3
    have hlen2 : (tupStep found lot).length ≤ 1000 := Nat.le_trans (Nat.le_mul_of_pos_right _ hpos) hlen
    obtain ⟨m2, k1, k2⟩ := comp2_ok (M := prg.meths) (Φ := callN prg n) (vars := [v0, some (.obj b), some (.obj ad)]) (size := 4) (lends := [(3, 2)]) (t1 := .v 1) (t2 := .v 2) (it1 := .var 1) (it2 := .var 3) (elt := .bin .Add (.var 1) (.tuple [(.var 2)]))
      (mem := m) (mem1 := m) (src := .obj b) (enc := eT) (enc2 := .int) (l := found) (fun _ => lot) (fun _ => .obj ad) (fun w v => eT (w ++ [v])) (fun v => ∃ a b c, v = [a, b, c, some (.obj ad)]) (fun w v => ∃ a c, v = [a, some (eT w), c, some (.obj ad)])
      rfl (iter_obj h2) (still_obj h2) ⟨_, _, _, rfl⟩ (by rintro w v ⟨a, c, rfl⟩; exact ⟨_, _, _, rfl⟩) (by
        rintro w hw v m' ⟨a, b', c, rfl⟩ hm
        have ha' := get_pre hm ha
        refine ⟨[a, some (eT w), c, some (.obj ad)], m', rfl, ⟨_, _, rfl⟩, rfl, List.prefix_refl _, iter_obj ha', still_obj ha', ?_⟩
        rintro k hk v m'' ⟨a', c', rfl⟩ hm'
        refine ⟨[a', some (eT w), some (.int k), some (.obj ad)], rfl, ⟨_, _, rfl⟩, m'', ?_, List.prefix_refl _⟩
        have hw2 := h7 w hw
        simp only [zE, eT, bA_add, bA_sub, bA_tup]
        rw [if_pos (sz_of (by rw [List.length_map, List.length_cons, List.length_nil]; rw [List.length_cons] at hw2; omega)), List.map_append]; rfl) (by
        have e : (found.flatMap fun w => lot.map fun v => eT (w ++ [v])).length = (tupStep found lot).length := by
          unfold tupStep
          rw [List.length_flatMap, List.length_flatMap]
          simp only [List.length_map]
        rw [e]; omega)
    have e : (found.flatMap fun w => lot.map fun v => eT (w ++ [v])) = (tupStep found lot).map eT := by
      unfold tupStep
      rw [List.map_flatMap]
      simp only [List.map_map]
      rfl
    rw [e] at k1
    have hm2 : mem <+: m2 ++ [.list ((tupStep found lot).map eT)] := (h4.trans k2).trans (List.prefix_append _ _)
    rw [List.map_cons, for_cons (v1 := [v0, some (.obj b), some (.obj ad)]) (v2 := [v0, some (.obj m2.length), some (.obj ad)]) (m2 := m2 ++ [.list ((tupStep found lot).map eT)]) rfl (by
      simp only [zE, exs_cons, ex_assign, k1]) (hs _ hm2)]
    exact ih lots (found := tupStep found lot) (by simpa using h0) (fun i a vs e1 e2 => h1 (i + 1) a vs (by simpa using e1) (by simpa using e2)) get_new (h4.trans k2).length_le hm2 (fun vs hv => h5 vs (List.mem_cons_of_mem _ hv)) hlen (by
      intro w hw
      unfold tupStep at hw
      rw [List.mem_flatMap] at hw
      obtain ⟨w0, hw0, hw1⟩ := hw
      rw [List.mem_map] at hw1
      obtain ⟨v, _, rfl⟩ := hw1
      have := h7 w0 hw0
      rw [List.length_cons] at this
      rw [List.length_append, List.length_cons, List.length_nil]
      omega)
theorem flats_eT (l : List (List Int)) : AV.flats (l.map eT) = true := flats_map _ (fun w => by rw [eT, AV.flat]; exact flats_int w) l
theorem tuples_ok {n : Nat} {mem : Mem} {L : Nat} {as : List Nat} {lots : List (List Int)} (h : LL mem L as lots) (h4 : lots.length ≤ 4) (h3 : ∀ vs ∈ lots, vs.length ≤ 3) :
    callN prg (n + 1) 393 [.obj L] mem = some (.obj mem.length, mem ++ [.list ((tuplesM lots).map eT)]) := by
  refine call_list f393 _ rfl (flats_eT _) ?_
  have P := List.prefix_append mem [MObj.list [.tup []]]
  obtain ⟨⟨fl, v, m'⟩, e, k1, k2, b', k3, k4, k5⟩ := tupLoop (n := n) (mem := mem) (src := .obj L) (all := as.map eJ) (still_obj h.l) as lots (m := mem ++ [.list [.tup []]]) (b := mem.length) (found := [[]]) (v0 := some (.obj L)) (v2 := none)
    h.len h.get get_new (Nat.le_refl _) P h3 (by
      have : 3 ^ lots.length ≤ 3 ^ 4 := Nat.pow_le_pow_right (by decide) h4
      simp only [List.length_cons, List.length_nil]; omega) (by intro w hw; simp only [List.mem_cons, List.not_mem_nil, or_false] at hw; subst hw; simp only [List.length_nil]; omega)
  dsimp only at k1 k2 k3 k5
  subst k1
  simp only [zE, b393]
  rw [ex_for (src := .obj L) (m1 := mem ++ [.list [.tup []]]) (xs := as.map eJ) (by simp only [zE]) (iter_obj (get_pre P h.l)) rfl]
  refine W_bind ⟨_, e, ?_⟩
  simp only [zE, k3]
  refine W_some ?_
  exact ⟨b', rfl, k4, k5, k2⟩

theorem intsA_eT (l : List Int) : intsA (l.map .int) = some l := intsA_map l
noncomputable def checkM (s t : Int) (l : List Int) : Bool := !decide (t ∈ l) || decide (s ∈ l.take ((l.findIdx? (· == t)).getD 0))
theorem check_ok {n : Nat} {R Rd : Nat} {s t : Int} {sc : List Nat} {mem : Mem} {l : List Int} (U : Ru R Rd mem s t sc) (hl : l.length ≤ 1000) : callN prg (n + 1) 348 [.obj R, eT l] mem = some (.bool (checkM s t l), mem) := by
  refine call_pure f348 _ rfl rfl ?_
  unfold checkM
  have e1 : cmpA .NotIn (.int t) (eT l) mem = some (!decide (t ∈ l)) := Is.tup.slice_notin t
  rw [b348, exs_cons, ex_ret, ev_or, ev_cmp]
  simp only [ev_attr, ev_var, List.replicate, List.set_cons_zero, List.set_cons_succ, List.getElem?_cons_zero, List.getElem?_cons_succ, Option.bind_some, U.a_t, e1]
  by_cases q : t ∈ l
  · obtain ⟨j, hj⟩ : ∃ j, l.findIdx? (· == t) = some j := by
      cases hq : l.findIdx? (· == t) with
      | some j => exact ⟨j, rfl⟩
      | none =>
        rw [List.findIdx?_eq_none_iff] at hq
        have := hq t q
        simp at this
    have hjl : j < l.length := by
      rw [List.findIdx?_eq_some_iff_getElem] at hj
      exact hj.1
    have P := List.prefix_append mem [MObj.list (l.map .int)]
    have U1 := U.pre P
    have e2 : callB .list [eT l] mem = some (.obj mem.length, mem ++ [.list (l.map .int)]) := by
      simp only [callB, iterA, eT, itemsA]
      rw [if_pos (sz_of (by rw [List.length_map]; omega))]
    have e3 : ∀ v, v = [some (.obj R), some (eT l), none] → ev prg.meths (callN prg n) v (.meth (.callB .«list» [(.var 1)]) .«index» [(.attr (.var 0) .«t»)]) mem = some (.int j, mem ++ [.list (l.map .int)]) := by
      rintro v rfl
      rw [ev_mlist (i := mem.length) (m1 := mem ++ [.list (l.map .int)]) (by simp only [zE, e2]) get_new]
      simp only [zE, U1.a_t, get_new, lm_append, lm_pop, lm_extend, lm_index, intsA_eT]
      rw [if_pos (sz_of (by rw [List.length_map]; omega)), hj]; rfl
    obtain ⟨src', m', f1, f2, f3⟩ := (Is.tup (m := mem ++ [.list (l.map .int)]) (l := l)).take (i := j) (by omega) hl
    simp only [q, decide_true, Bool.not_true, Bool.false_eq_true, if_false, ev_cmp, ev_attr, ev_var, ev_none, List.getElem?_cons_zero, List.getElem?_cons_succ, Option.bind_some, U.a_s, ev_slice, e3 _ rfl, f1, f3.slice_in, hj, Option.getD_some, Bool.false_or]
    refine W_some ?_
    exact ⟨rfl, P.trans f2⟩
  · simp only [q, decide_false, Bool.not_false, if_true, Option.bind_some, Bool.true_or]
    refine W_some ?_
    exact ⟨rfl, List.prefix_refl _⟩
theorem mem_take_iff {l : List Int} {s : Int} {i : Nat} : s ∈ l.take i ↔ ∃ j, j < i ∧ l[j]? = some s := by
  rw [List.mem_iff_getElem?]
  constructor
  · rintro ⟨j, h⟩
    rw [List.getElem?_take] at h
    split at h
    · exact ⟨j, by assumption, h⟩
    · cases h
  · rintro ⟨j, hj, h⟩
    exact ⟨j, by rw [List.getElem?_take, if_pos hj, h]⟩
theorem checkM_eq (s t : Int) (l : List Int) : checkM s t l = keepsM s t l := by
  rw [Bool.eq_iff_iff, keepsM_iff]
  unfold checkM
  by_cases q : t ∈ l
  · obtain ⟨j, hj⟩ : ∃ j, l.findIdx? (· == t) = some j := by
      cases hq : l.findIdx? (· == t) with
      | some j => exact ⟨j, rfl⟩
      | none =>
        rw [List.findIdx?_eq_none_iff] at hq
        have := hq t q
        simp at this
    have hj' := hj
    rw [List.findIdx?_eq_some_iff_getElem] at hj'
    obtain ⟨hjl, hjt, hjm⟩ := hj'
    simp only [q, decide_true, Bool.not_true, Bool.false_or, hj, Option.getD_some, decide_eq_true_eq]
    constructor
    · intro h i hi e
      rw [mem_take_iff] at h ⊢
      obtain ⟨p, hp, e2⟩ := h
      refine ⟨p, ?_, e2⟩
      rcases Nat.lt_or_ge i j with c | c
      · have := hjm i c
        unfold valAt at e
        rw [List.getElem?_eq_getElem hi] at e
        simp only [Option.getD_some] at e
        simp [e] at this
      · omega
    · intro h
      refine h j hjl ?_
      unfold valAt
      rw [List.getElem?_eq_getElem hjl]
      simpa using hjt
  · simp only [q, decide_false, Bool.not_false, Bool.true_or, true_iff]
    intro i hi e
    exfalso
    unfold valAt at e
    rw [List.getElem?_eq_getElem hi] at e
    simp only [Option.getD_some] at e
    exact q (e ▸ List.getElem_mem hi)
noncomputable def tellA (s t : Int) (sc : List Nat) : AV := .tup [.str "precede", .int s, .int t, .tup (sc.map eN)]
theorem flats_eN (l : List Nat) : AV.flats (l.map eN) = true := flats_map _ (fun _ => rfl) l
theorem told_ok {n : Nat} {R Rd : Nat} {s t : Int} {sc : List Nat} {mem : Mem} (U : Ru R Rd mem s t sc) : callN prg (n + 1) 355 [.obj R] mem = some (tellA s t sc, mem) := by
  refine call_pure f355 _ rfl (by simp only [tellA, AV.flat, AV.flats, flats_eN]; rfl) ?_
  simp only [zE, b355, U.a_s, U.a_t, U.a_scope]
  refine W_some ?_
  exact ⟨rfl, List.prefix_refl _⟩
end Mine
end

section
open PySem
set_option maxRecDepth 100000
set_option linter.unusedVariables false
set_option linter.unusedSimpArgs false
set_option autoImplicit false
namespace Mine

noncomputable def dAt (d : List Mk) (x : Nat) : Mk := (d[x]?).getD 0
theorem dom_eq (σ : Sg) (x : Nat) : dom σ x = dAt σ.doms x := rfl
noncomputable def inBox (d : List Mk) (w : List Int) : Prop := w.length = d.length ∧ ∀ x < d.length, hasM (dAt d x) (valAt w x) = true
noncomputable def NZ (d : List Mk) : Prop := ∀ x < d.length, dAt d x ≠ 0
noncomputable def HoldsD (rs : List Lit) (d : List Mk) : Prop := ∀ l ∈ rs, l.x < d.length ∧ ∀ v, hasM (dAt d l.x) v = true → l.tr v = true
noncomputable def Sub (a b : List Mk) : Prop := a.length = b.length ∧ ∀ x v, hasM (dAt a x) v = true → hasM (dAt b x) v = true
theorem Sub.refl (a : List Mk) : Sub a a := ⟨rfl, fun _ _ h => h⟩
theorem Sub.trans {a b c : List Mk} (h : Sub a b) (k : Sub b c) : Sub a c := ⟨h.1.trans k.1, fun x v e => k.2 x v (h.2 x v e)⟩
theorem HoldsD.sub {rs : List Lit} {a b : List Mk} (h : HoldsD rs b) (k : Sub a b) : HoldsD rs a := fun l hl => ⟨k.1 ▸ (h l hl).1, fun v e => (h l hl).2 v (k.2 _ v e)⟩
theorem dAt_set {d : List Mk} {x y : Nat} {m : Mk} (hx : x < d.length) : dAt (d.set x m) y = if y = x then m else dAt d y := by
  unfold dAt
  by_cases h : y = x
  · subst h
    rw [if_pos rfl, List.getElem?_set_self hx]; rfl
  · rw [if_neg h, List.getElem?_set_ne (Ne.symm h)]
theorem dAt_ge {d : List Mk} {x : Nat} (hx : d.length ≤ x) : dAt d x = 0 := by
  unfold dAt
  rw [List.getElem?_eq_none_iff.mpr hx]; rfl
theorem neg_tr (l : Lit) (v : Int) : l.neg.tr v = !l.tr v := by
  obtain ⟨x, g, k⟩ := l
  cases g
  · rfl
  · show decide (v = k) = !(!decide (v = k))
    rw [Bool.not_not]
  · show decide (v ≥ k + 1) = !decide (v ≤ k)
    by_cases h : v ≤ k
    · rw [decide_eq_true h, decide_eq_false (by omega)]; rfl
    · rw [decide_eq_false h, decide_eq_true (by omega)]; rfl
  · show decide (v ≤ k - 1) = !decide (v ≥ k)
    by_cases h : v ≥ k
    · rw [decide_eq_true h, decide_eq_false (by omega)]; rfl
    · rw [decide_eq_false h, decide_eq_true (by omega)]; rfl
theorem neg_x (l : Lit) : l.neg.x = l.x := by obtain ⟨x, g, k⟩ := l; cases g <;> rfl
theorem meetsM_iff {rs : List Lit} {w : List Int} : meetsM rs w = true ↔ ∀ l ∈ rs, l.tr (valAt w l.x) = true := by unfold meetsM; rw [List.all_eq_true]
theorem meets_of {rs : List Lit} {d : List Mk} {w : List Int} (h : HoldsD rs d) (b : inBox d w) : meetsM rs w = true := by
  rw [meetsM_iff]
  intro l hl
  exact (h l hl).2 _ (b.2 _ (h l hl).1)

structure Good (K : List Int → Prop) (d : List Mk) (e : Ent) : Prop where
  x : e.x < d.length
  lx : e.lit.x = e.x
  old : dAt d e.x = e.old
  sp : e.sp = 6
  nz : strikeM e.lit e.old ≠ 0
  rs : ∃ rs, e.rs = some rs ∧ rs.length ≤ 300 ∧ HoldsD rs d ∧ ∀ w, K w → meetsM rs w = true → e.lit.tr (valAt w e.x) = true
inductive Chain (K : List Int → Prop) : List Mk → List Ent → List Mk → Prop where
  | nil (d : List Mk) : Chain K d [] d
  | snoc {d : List Mk} {es : List Ent} {d1 : List Mk} {e : Ent} (c : Chain K d es d1) (g : Good K d1 e) : Chain K d (es ++ [e]) (d1.set e.x (strikeM e.lit e.old))
theorem Chain.trans {K : List Int → Prop} {a b c : List Mk} {es fs : List Ent} (h : Chain K a es b) (k : Chain K b fs c) : Chain K a (es ++ fs) c := by
  induction k with
  | nil => rw [List.append_nil]; exact h
  | snoc _ g ih => rw [← List.append_assoc]; exact .snoc ih g
theorem Good.sub {K : List Int → Prop} {d : List Mk} {e : Ent} (g : Good K d e) : Sub (d.set e.x (strikeM e.lit e.old)) d := by
  refine ⟨List.length_set .., fun x v h => ?_⟩
  rw [dAt_set g.x] at h
  by_cases q : x = e.x
  · rw [if_pos q, has_strike, Bool.and_eq_true] at h
    rw [q, g.old]; exact h.1
  · rw [if_neg q] at h; exact h
theorem Chain.sub {K : List Int → Prop} {a b : List Mk} {es : List Ent} (h : Chain K a es b) : Sub b a := by
  induction h with
  | nil => exact Sub.refl _
  | snoc _ g ih => exact g.sub.trans ih
theorem Chain.box {K : List Int → Prop} {a b : List Mk} {es : List Ent} (h : Chain K a es b) {w : List Int} (hk : K w) (hb : inBox a w) : inBox b w := by
  induction h with
  | nil => exact hb
  | @snoc es d1 e c g ih =>
    have h1 := ih
    obtain ⟨rs, _, _, r1, r2⟩ := g.rs
    have h2 := r2 w hk (meets_of r1 h1)
    refine ⟨by rw [List.length_set]; exact h1.1, fun x hx => ?_⟩
    rw [List.length_set] at hx
    rw [dAt_set g.x]
    by_cases q : x = e.x
    · rw [if_pos q, has_strike, Bool.and_eq_true, q]
      refine ⟨?_, h2⟩
      rw [← g.old]; exact h1.2 _ g.x
    · rw [if_neg q]; exact h1.2 x hx
theorem Chain.nz {K : List Int → Prop} {a b : List Mk} {es : List Ent} (h : Chain K a es b) (k : NZ a) : NZ b := by
  induction h with
  | nil => exact k
  | @snoc es d1 e c g ih =>
    intro x hx
    rw [List.length_set] at hx
    rw [dAt_set g.x]
    by_cases q : x = e.x
    · rw [if_pos q]; exact g.nz
    · rw [if_neg q]; exact ih x hx
noncomputable def Undo (d : List Mk) (es : List Ent) (d1 : List Mk) : Prop := undo es.reverse d1 = d ∧ (∀ e ∈ es, e.x < d.length) ∧ d1.length = d.length
theorem Undo.nil (d : List Mk) : Undo d [] d := ⟨rfl, fun _ h => by simp at h, rfl⟩
theorem Undo.one {d : List Mk} {e : Ent} {m : Mk} (hx : e.x < d.length) (ho : dAt d e.x = e.old) : Undo d [e] (d.set e.x m) := by
  refine ⟨?_, fun y hy => ?_, List.length_set ..⟩
  · show ((d.set e.x m).set e.x e.old) = d
    rw [List.set_set, ← ho]
    unfold dAt
    rw [List.getElem?_eq_getElem hx]
    simp
  · simp at hy; subst hy; exact hx
theorem Undo.trans {a b c : List Mk} {es fs : List Ent} (h : Undo a es b) (k : Undo b fs c) : Undo a (es ++ fs) c := by
  refine ⟨?_, fun e he => ?_, k.2.2.trans h.2.2⟩
  · rw [List.reverse_append]
    unfold undo
    rw [List.foldl_append]
    have h1 := h.1
    have k1 := k.1
    unfold undo at h1 k1
    rw [k1, h1]
  · rw [List.mem_append] at he
    rcases he with he | he
    · exact h.2.1 e he
    · have := k.2.1 e he
      rw [h.2.2] at this; exact this
theorem Chain.undo {K : List Int → Prop} {a b : List Mk} {es : List Ent} (h : Chain K a es b) : Undo a es b := by
  induction h with
  | nil => exact Undo.nil _
  | snoc _ g ih => exact ih.trans (Undo.one g.x g.old)

theorem enter_yes {K : List Int → Prop} {σ : Sg} {l : Lit} {rs : List Lit} (hs : σ.speaker = 6) (hx : l.x < σ.doms.length) (hl : rs.length ≤ 300) (hr : HoldsD rs σ.doms) (hb : ∀ w, K w → meetsM rs w = true → l.tr (valAt w l.x) = true)
    (hz : strikeM l (dAt σ.doms l.x) ≠ 0) : ∃ es, (enterM σ l (some rs) σ.speaker).1 = true ∧ (enterM σ l (some rs) σ.speaker).2.trail = σ.trail ++ es ∧ Chain K σ.doms es (enterM σ l (some rs) σ.speaker).2.doms ∧
      (enterM σ l (some rs) σ.speaker).2.failed = σ.failed ∧ (∀ y, dAt (enterM σ l (some rs) σ.speaker).2.doms y = if y = l.x then strikeM l (dAt σ.doms l.x) else dAt σ.doms y) := by
  unfold enterM
  have e : (σ.doms[l.x]?).getD 0 = dAt σ.doms l.x := rfl
  simp only [e, if_neg hz]
  by_cases q : strikeM l (dAt σ.doms l.x) = dAt σ.doms l.x
  · simp only [if_pos q]
    refine ⟨[], by trivial, by rw [List.append_nil], .nil _, by trivial, fun y => ?_⟩
    by_cases h : y = l.x
    · rw [if_pos h, q, h]
    · rw [if_neg h]
  · simp only [if_neg q]
    refine ⟨[⟨l.x, dAt σ.doms l.x, l, some rs, σ.speaker⟩], by trivial, by trivial, ?_, by trivial, fun y => dAt_set hx⟩
    exact .snoc (.nil _) (e := ⟨l.x, dAt σ.doms l.x, l, some rs, σ.speaker⟩) ⟨hx, rfl, rfl, hs, hz, rs, rfl, hl, hr, hb⟩
theorem enter_no {σ : Sg} {l : Lit} {rs : Option (List Lit)} {sp : Int} (hz : strikeM l (dAt σ.doms l.x) = 0) : enterM σ l rs sp = (false, { σ with failed := true, clash := rs.getD [] ++ [l.neg] }) := by
  unfold enterM
  have e : (σ.doms[l.x]?).getD 0 = dAt σ.doms l.x := rfl
  simp only [e, if_pos hz]
theorem enter_still {σ : Sg} {l : Lit} {rs : Option (List Lit)} {sp : Int} (hz : dAt σ.doms l.x ≠ 0) (h : strikeM l (dAt σ.doms l.x) = dAt σ.doms l.x) : enterM σ l rs sp = (true, σ) := by
  unfold enterM
  have e : (σ.doms[l.x]?).getD 0 = dAt σ.doms l.x := rfl
  simp only [e]
  rw [if_neg (by rw [h]; exact hz), if_pos h]
theorem strike_same {l : Lit} {m : Mk} (h : ∀ v, hasM m v = true → l.tr v = true) : strikeM l m = m := by
  refine mask_ext fun v => ?_
  rw [has_strike]
  cases q : hasM m v with
  | false => rfl
  | true => rw [h v q]; rfl
theorem nz_of {m : Mk} {v : Int} (h : hasM m v = true) : m ≠ 0 := by
  rintro rfl
  have := (mask_zero (m := 0)).mp rfl v
  rw [h] at this; cases this

noncomputable def KK (n : Nat) (s t : Int) (sc : List Nat) (w : List Int) : Prop := w.length = n ∧ keepsM s t (sc.map (valAt w)) = true
noncomputable def nes (s : Int) (p : List Nat) : List Lit := p.map fun y => ⟨y, .ne, s⟩
theorem ne_tr {y : Nat} {s v : Int} : (⟨y, .ne, s⟩ : Lit).tr v = true ↔ v ≠ s := by simp [Lit.tr]
theorem eq_tr {y : Nat} {s v : Int} : (⟨y, .eq, s⟩ : Lit).tr v = true ↔ v = s := by simp [Lit.tr]
theorem meets_nes {s : Int} {p : List Nat} {w : List Int} : meetsM (nes s p) w = true ↔ ∀ y ∈ p, valAt w y ≠ s := by
  rw [meetsM_iff]
  constructor
  · intro h y hy
    exact ne_tr.mp (h ⟨y, .ne, s⟩ (List.mem_map.mpr ⟨y, hy, rfl⟩))
  · intro h l hl
    obtain ⟨y, hy, rfl⟩ := List.mem_map.mp hl
    exact ne_tr.mpr (h y hy)
theorem holds_nes {s : Int} {p : List Nat} {d : List Mk} (hx : ∀ y ∈ p, y < d.length) (h : ∀ y ∈ p, hasM (dAt d y) s = false) : HoldsD (nes s p) d := by
  intro l hl
  obtain ⟨y, hy, rfl⟩ := List.mem_map.mp hl
  refine ⟨hx y hy, fun v hv => ne_tr.mpr ?_⟩
  rintro rfl
  rw [h y hy] at hv; cases hv
theorem valAt_mid {α : Type} {f : α → Int} {a b : List α} {x : α} : valAt ((a ++ x :: b).map f) a.length = f x := by
  unfold valAt
  rw [List.getElem?_map, get_mid rfl]; rfl
theorem keeps_at {s t : Int} {f : Nat → Int} {p r : List Nat} {x : Nat} (h : keepsM s t ((p ++ x :: r).map f) = true) (hx : f x = t) : ∃ y ∈ p, f y = s := by
  rw [keepsM_iff] at h
  have := h p.length (by rw [List.length_map, List.length_append, List.length_cons]; omega) (by rw [valAt_mid]; exact hx)
  rw [List.map_append, List.take_left' (by rw [List.length_map])] at this
  obtain ⟨y, hy, e⟩ := List.mem_map.mp this
  exact ⟨y, hy, e⟩
theorem keeps_of {s t : Int} {f : Nat → Int} {l : List Nat} (h : ∀ p x r, l = p ++ x :: r → f x = t → ∃ y ∈ p, f y = s) : keepsM s t (l.map f) = true := by
  rw [keepsM_iff]
  intro i hi e
  rw [List.length_map] at hi
  have hl : l = l.take i ++ l[i] :: l.drop (i + 1) := by rw [List.getElem_cons_drop, List.take_append_drop]
  have he : f l[i] = t := by
    rw [← e]; unfold valAt
    rw [List.getElem?_map, List.getElem?_eq_getElem hi]; rfl
  obtain ⟨y, hy, e2⟩ := h _ _ _ hl he
  rw [← List.map_take, List.mem_map]
  exact ⟨y, hy, e2⟩

structure FsSt (s t : Int) (sc p : List Nat) (σ : Sg) : Prop where
  sp : σ.speaker = 6
  nz : NZ σ.doms
  x : ∀ y ∈ sc, y < σ.doms.length
  noS : ∀ y ∈ p, hasM (dAt σ.doms y) s = false
  noT : ∀ y ∈ p, hasM (dAt σ.doms y) t = false
structure Bad (K : List Int → Prop) (σ : Sg) : Prop where
  failed : σ.failed = true
  len : σ.clash.length ≤ 300
  holds : HoldsD σ.clash σ.doms
  barred : ∀ w, K w → meetsM σ.clash w = false
noncomputable def headOk (s t : Int) (d : List Mk) : List Nat → Prop
  | [] => True
  | f :: _ => hasM (dAt d f) s = true ∧ hasM (dAt d f) t = false
theorem fs_law {s t : Int} {sc : List Nat} {n : Nat} (hsc : sc.length ≤ 200) : ∀ (r p : List Nat) {σ : Sg}, sc = p ++ r → FsSt s t sc p σ → n = σ.doms.length →
    ∃ es o σ1, fsM s t r p.length σ (nes s p) = (o, σ1) ∧ σ1.2.trail = σ.trail ++ es ∧ Chain (KK n s t sc) σ.doms es σ1.2.doms ∧
      match o with
      | none => Bad (KK n s t sc) σ1.2
      | some j => σ1.2.failed = σ.failed ∧ ∃ p' r', sc = p' ++ r' ∧ j = p'.length ∧ σ1.1 = nes s p' ∧ FsSt s t sc p' σ1.2 ∧ headOk s t σ1.2.doms r' := by
  intro r
  induction r with
  | nil =>
    intro p σ h F hn
    exact ⟨[], some p.length, (nes s p, σ), rfl, by rw [List.append_nil], .nil _, rfl, p, [], h, rfl, rfl, F, trivial⟩
  | cons x r ih =>
    intro p σ h F hn
    have hx : x < σ.doms.length := F.x x (by rw [h]; simp)
    have hlen : (nes s p).length ≤ 200 := by
      rw [nes, List.length_map]
      rw [h, List.length_append] at hsc; omega
    have hr : HoldsD (nes s p) σ.doms := holds_nes (fun y hy => F.x y (by rw [h]; simp [hy])) F.noS
    have hb : ∀ w, KK n s t sc w → meetsM (nes s p) w = true → (⟨x, .ne, t⟩ : Lit).tr (valAt w x) = true := by
      intro w hw hm
      rw [ne_tr]
      intro e
      rw [meets_nes] at hm
      have hk := hw.2
      rw [h] at hk
      obtain ⟨y, hy, e2⟩ := keeps_at hk e
      exact hm y hy e2
    by_cases hz : strikeM ⟨x, .ne, t⟩ (dAt σ.doms x) = 0
    · have e := enter_no (σ := σ) (l := ⟨x, .ne, t⟩) (rs := some (nes s p)) (sp := σ.speaker) hz
      have hall : ∀ v, hasM (dAt σ.doms x) v = true → v = t := by
        intro v hv
        have h0 := mask_zero.mp hz v
        rw [has_strike, hv, Bool.true_and] at h0
        simpa [Lit.tr] using h0
      refine ⟨[], none, (nes s p, { σ with failed := true, clash := nes s p ++ [⟨x, .eq, t⟩] }), ?_, by rw [List.append_nil], .nil _, rfl, ?_, ?_, ?_⟩
      · rw [fsM_cons]
        rw [e]; rfl
      · show (nes s p ++ [(⟨x, .eq, t⟩ : Lit)]).length ≤ 300
        rw [List.length_append, List.length_cons, List.length_nil]; omega
      · intro l hl
        rcases List.mem_append.mp hl with hl | hl
        · exact hr l hl
        · simp only [List.mem_cons, List.not_mem_nil, or_false] at hl
          subst hl
          exact ⟨hx, fun v hv => eq_tr.mpr (hall v hv)⟩
      · intro w hw
        rw [Bool.eq_false_iff]
        intro hm
        rw [meetsM_iff] at hm
        have h1 := hm ⟨x, .eq, t⟩ (by simp)
        have h2 := hb w hw (meetsM_iff.mpr fun l hl => hm l (List.mem_append_left _ hl))
        rw [eq_tr] at h1
        rw [ne_tr] at h2
        exact h2 h1
    · obtain ⟨es, g1, g2, g3, g4, g5⟩ := enter_yes (K := KK n s t sc) (l := ⟨x, .ne, t⟩) F.sp hx (by omega) hr hb hz
      obtain ⟨l1, l2, l3, l4, l5, l6⟩ := enter_len σ ⟨x, .ne, t⟩ (some (nes s p)) σ.speaker
      generalize hσ : (enterM σ ⟨x, .ne, t⟩ (some (nes s p)) σ.speaker).2 = σ' at g2 g3 g4 g5 l1 l2 l3 l4 l5 l6
      have hsub := g3.sub
      have hnoT : hasM (dAt σ'.doms x) t = false := by
        rw [g5 x, if_pos rfl, has_strike]
        simp [Lit.tr]
      have F1 : FsSt s t sc p σ' := ⟨l4.trans F.sp, g3.nz F.nz, fun y hy => by rw [l1]; exact F.x y hy,
        fun y hy => by
          cases q : hasM (dAt σ'.doms y) s with
          | false => rfl
          | true => have := hsub.2 y s q; rw [F.noS y hy] at this; exact this.symm,
        fun y hy => by
          cases q : hasM (dAt σ'.doms y) t with
          | false => rfl
          | true => have := hsub.2 y t q; rw [F.noT y hy] at this; exact this.symm⟩
      by_cases hS : hasM (dAt σ'.doms x) s = true
      · refine ⟨es, some p.length, (nes s p, σ'), ?_, g2, g3, g4, p, x :: r, h, rfl, rfl, F1, hS, hnoT⟩
        rw [fsM_cons, g1, hσ, dom_eq]
        simp only [Bool.true_eq_false, if_false, hS, if_true]
      · have hS' : hasM (dAt σ'.doms x) s = false := by simpa using hS
        have F2 : FsSt s t sc (p ++ [x]) σ' := ⟨F1.sp, F1.nz, F1.x,
          fun y hy => by
            rcases List.mem_append.mp hy with hy | hy
            · exact F1.noS y hy
            · simp only [List.mem_cons, List.not_mem_nil, or_false] at hy; subst hy; exact hS',
          fun y hy => by
            rcases List.mem_append.mp hy with hy | hy
            · exact F1.noT y hy
            · simp only [List.mem_cons, List.not_mem_nil, or_false] at hy; subst hy; exact hnoT⟩
        obtain ⟨es2, o, σ2, k1, k2, k3, k4⟩ := ih (p ++ [x]) (by rw [h]; simp) F2 (hn.trans l1.symm)
        refine ⟨es ++ es2, o, σ2, ?_, by rw [k2, g2, List.append_assoc], g3.trans k3, ?_⟩
        · rw [fsM_cons, g1, hσ, dom_eq]
          simp only [Bool.true_eq_false, if_false, hS]
          rw [List.length_append] at k1
          have e : nes s (p ++ [x]) = nes s p ++ [⟨x, .ne, s⟩] := by simp [nes]
          rw [e] at k1
          exact k1
        · cases o with
          | none => exact k4
          | some j => exact ⟨k4.1.trans g4, k4.2⟩
theorem fs_still {s t : Int} {σ : Sg} : ∀ (p r : List Nat) {i : Nat} {b : List Lit}, (∀ y ∈ p ++ r, dAt σ.doms y ≠ 0) → (∀ y ∈ p, hasM (dAt σ.doms y) s = false) → (∀ y ∈ p, hasM (dAt σ.doms y) t = false) → headOk s t σ.doms r →
    fsM s t (p ++ r) i σ b = (some (i + p.length), b ++ nes s p, σ)
  | [], [], i, b, hz, h1, h2, h3 => by simp [fsM_nil, nes]
  | [], f :: r, i, b, hz, h1, h2, h3 => by
    have e := enter_still (σ := σ) (l := ⟨f, .ne, t⟩) (rs := some b) (sp := σ.speaker) (hz f (by simp)) (strike_same fun v hv => by
      rw [ne_tr]; rintro rfl; rw [h3.2] at hv; cases hv)
    rw [List.nil_append, fsM_cons, e, dom_eq]
    simp only [Bool.true_eq_false, if_false, h3.1, if_true]
    simp [nes]
  | x :: p, r, i, b, hz, h1, h2, h3 => by
    have e := enter_still (σ := σ) (l := ⟨x, .ne, t⟩) (rs := some b) (sp := σ.speaker) (hz x (by simp)) (strike_same fun v hv => by
      rw [ne_tr]; rintro rfl; rw [h2 x List.mem_cons_self] at hv; cases hv)
    rw [List.cons_append, fsM_cons, e, dom_eq]
    simp only [Bool.true_eq_false, if_false, h1 x List.mem_cons_self, Bool.false_eq_true]
    rw [fs_still p r (fun y hy => hz y (by rw [List.cons_append]; exact List.mem_cons_of_mem _ hy)) (fun y hy => h1 y (List.mem_cons_of_mem _ hy)) (fun y hy => h2 y (List.mem_cons_of_mem _ hy)) h3]
    rw [List.length_cons, nes, nes, List.map_cons, List.append_assoc]
    congr 2
    omega
end Mine
end

section
open PySem
set_option maxRecDepth 100000
set_option linter.unusedVariables false
set_option linter.unusedSimpArgs false
set_option autoImplicit false
namespace Mine

noncomputable def ft (t : Int) (m : Mk) : Bool := fixedM m && decide (leastM m = t)
theorem fixed_tab : ∀ m : Mk, fixedM m = true → hasM m (leastM m) = true ∧ (hasM m 1 = true → (1 : Int) = leastM m) ∧ (hasM m 2 = true → (2 : Int) = leastM m) ∧ (hasM m 3 = true → (3 : Int) = leastM m) := by decide +kernel
theorem fixed_has {m : Mk} (h : fixedM m = true) {v : Int} (hv : hasM m v = true) : v = leastM m := by
  obtain ⟨h0, h1, h2, h3⟩ := fixed_tab m h
  rcases hasM_range hv with rfl | rfl | rfl
  · exact h1 hv
  · exact h2 hv
  · exact h3 hv
theorem ft_true {t : Int} {m : Mk} (h : ft t m = true) : hasM m t = true ∧ ∀ v, hasM m v = true → v = t := by
  unfold ft at h
  rw [Bool.and_eq_true, decide_eq_true_eq] at h
  refine ⟨h.2 ▸ (fixed_tab m h.1).1, fun v hv => (fixed_has h.1 hv).trans h.2⟩
theorem loose_tab : ∀ m : Mk, m ≠ 0 → fixedM m = false → (hasM m 1 = true ∧ hasM m 2 = true) ∨ (hasM m 1 = true ∧ hasM m 3 = true) ∨ (hasM m 2 = true ∧ hasM m 3 = true) := by decide +kernel
theorem ft_false {t : Int} {m : Mk} (hz : m ≠ 0) (h : ft t m = false) : ∃ v, hasM m v = true ∧ v ≠ t := by
  unfold ft at h
  cases q : fixedM m with
  | true =>
    rw [q, Bool.true_and, decide_eq_false_iff_not] at h
    exact ⟨leastM m, (fixed_tab m q).1, h⟩
  | false =>
    rcases loose_tab m hz q with ⟨h1, h2⟩ | ⟨h1, h2⟩ | ⟨h1, h2⟩
    · by_cases e : (1 : Int) = t
      · exact ⟨2, h2, by omega⟩
      · exact ⟨1, h1, e⟩
    · by_cases e : (1 : Int) = t
      · exact ⟨3, h2, by omega⟩
      · exact ⟨1, h1, e⟩
    · by_cases e : (2 : Int) = t
      · exact ⟨3, h2, by omega⟩
      · exact ⟨2, h1, e⟩
theorem nz_has {m : Mk} (h : m ≠ 0) : ∃ v, hasM m v = true := by
  cases q : ft 7 m with
  | true => exact ⟨7, (ft_true q).1⟩
  | false => obtain ⟨v, h1, _⟩ := ft_false h q; exact ⟨v, h1⟩
noncomputable def headS (s : Int) (d : List Mk) : List Nat → Prop
  | [] => True
  | y :: _ => hasM (dAt d y) s = true
noncomputable def restOk (s t : Int) (d : List Mk) (f : Nat) (rest : List Nat) : Prop := (∀ v, hasM (dAt d f) v = true → v = s) ∨ ∃ q r, rest = q ++ r ∧ (∀ z ∈ q, ∃ v, hasM (dAt d z) v = true ∧ v ≠ t) ∧ headS s d r
theorem nf_law {s t : Int} {sc p : List Nat} {f n : Nat} {σ : Sg} (hsc : sc.length ≤ 200) (F : FsSt s t sc p σ) (hn : n = σ.doms.length) (hS : hasM (dAt σ.doms f) s = true) (hT : hasM (dAt σ.doms f) t = false) : ∀ (r q : List Nat), sc = p ++ f :: (q ++ r) →
    (∀ z ∈ q, hasM (dAt σ.doms z) s = false ∧ ft t (dAt σ.doms z) = false) →
    ∃ σ1 es, nfM f s t r σ (nes s p ++ nes s q) = (true, σ1) ∧ nfM f s t r σ1 (nes s p ++ nes s q) = (true, σ1) ∧ σ1.trail = σ.trail ++ es ∧ Chain (KK n s t sc) σ.doms es σ1.doms ∧ σ1.failed = σ.failed ∧
      (∀ y, y ≠ f → dAt σ1.doms y = dAt σ.doms y) ∧ hasM (dAt σ1.doms f) s = true ∧ restOk s t σ1.doms f (q ++ r) := by
  intro r
  induction r with
  | nil =>
    intro q h hq
    exact ⟨σ, [], rfl, rfl, by rw [List.append_nil], .nil _, rfl, fun _ _ => rfl, hS, .inr ⟨q, [], rfl, fun z hz => ft_false (F.nz z (F.x z (by rw [h]; simp [hz]))) (hq z hz).2, trivial⟩⟩
  | cons x r ih =>
    intro q h hq
    have hx : x < σ.doms.length := F.x x (by rw [h]; simp)
    have hf : f < σ.doms.length := F.x f (by rw [h]; simp)
    cases q1 : ft t (dAt σ.doms x) with
    | true =>
      obtain ⟨t1, t2⟩ := ft_true q1
      have hxf : x ≠ f := by rintro rfl; rw [hT] at t1; cases t1
      have hlen : (nes s p ++ nes s q ++ [(⟨x, .eq, t⟩ : Lit)]).length ≤ 300 := by
        simp only [nes, List.length_append, List.length_map, List.length_cons, List.length_nil]
        rw [h] at hsc
        simp only [List.length_append, List.length_cons] at hsc
        omega
      have hh : HoldsD (nes s p ++ nes s q ++ [(⟨x, .eq, t⟩ : Lit)]) σ.doms := by
        intro l hl
        rcases List.mem_append.mp hl with hl | hl
        · rcases List.mem_append.mp hl with hl | hl
          · exact holds_nes (fun y hy => F.x y (by rw [h]; simp [hy])) F.noS l hl
          · exact holds_nes (fun y hy => F.x y (by rw [h]; simp [hy])) (fun y hy => (hq y hy).1) l hl
        · simp only [List.mem_cons, List.not_mem_nil, or_false] at hl
          subst hl
          exact ⟨hx, fun v hv => eq_tr.mpr (t2 v hv)⟩
      have hb : ∀ w, KK n s t sc w → meetsM (nes s p ++ nes s q ++ [(⟨x, .eq, t⟩ : Lit)]) w = true → (⟨f, .eq, s⟩ : Lit).tr (valAt w f) = true := by
        intro w hw hm
        rw [meetsM_iff] at hm
        have m1 : meetsM (nes s p) w = true := meetsM_iff.mpr fun l hl => hm l (by simp [hl])
        have m2 : meetsM (nes s q) w = true := meetsM_iff.mpr fun l hl => hm l (by simp [hl])
        have m3 := hm ⟨x, .eq, t⟩ (by simp)
        rw [eq_tr] at m3
        rw [meets_nes] at m1 m2
        have hk := hw.2
        rw [h, show p ++ f :: (q ++ x :: r) = (p ++ f :: q) ++ x :: r by simp] at hk
        obtain ⟨y, hy, e2⟩ := keeps_at hk m3
        rw [eq_tr]
        rcases List.mem_append.mp hy with hy | hy
        · exact absurd e2 (m1 y hy)
        · rcases List.mem_cons.mp hy with rfl | hy
          · exact e2
          · exact absurd e2 (m2 y hy)
      have hz : strikeM ⟨f, .eq, s⟩ (dAt σ.doms f) ≠ 0 := nz_of (v := s) (by rw [has_strike, hS]; simp [Lit.tr])
      obtain ⟨es, g1, g2, g3, g4, g5⟩ := enter_yes (K := KK n s t sc) (l := ⟨f, .eq, s⟩) F.sp hf hlen hh hb hz
      obtain ⟨l1, l2, l3, l4, l5, l6⟩ := enter_len σ ⟨f, .eq, s⟩ (some (nes s p ++ nes s q ++ [(⟨x, .eq, t⟩ : Lit)])) σ.speaker
      have e1 : nfM f s t (x :: r) σ (nes s p ++ nes s q) = enterM σ ⟨f, .eq, s⟩ (some (nes s p ++ nes s q ++ [(⟨x, .eq, t⟩ : Lit)])) σ.speaker := by
        rw [nfM_cons, dom_eq]
        unfold ft at q1
        rw [if_pos q1]
      have e2 : enterM σ ⟨f, .eq, s⟩ (some (nes s p ++ nes s q ++ [(⟨x, .eq, t⟩ : Lit)])) σ.speaker = (true, (enterM σ ⟨f, .eq, s⟩ (some (nes s p ++ nes s q ++ [(⟨x, .eq, t⟩ : Lit)])) σ.speaker).2) := by rw [← g1]
      generalize (enterM σ ⟨f, .eq, s⟩ (some (nes s p ++ nes s q ++ [(⟨x, .eq, t⟩ : Lit)])) σ.speaker).2 = σ1 at e2 g2 g3 g4 g5 l1 l4
      have hfs : hasM (dAt σ1.doms f) s = true := by
        rw [g5 f, if_pos rfl, has_strike, hS]; simp [Lit.tr]
      have honly : ∀ v, hasM (dAt σ1.doms f) v = true → v = s := by
        intro v hv
        rw [g5 f, if_pos rfl, has_strike, Bool.and_eq_true] at hv
        exact eq_tr.mp hv.2
      refine ⟨σ1, es, e1.trans e2, ?_, g2, g3, g4, fun y hy => by rw [g5 y, if_neg hy], hfs, .inl honly⟩
      rw [nfM_cons, dom_eq, g5 x, if_neg hxf]
      unfold ft at q1
      rw [if_pos q1]
      exact enter_still (nz_of hfs) (strike_same fun v hv => eq_tr.mpr (honly v hv))
    | false =>
      have q1' := q1
      unfold ft at q1'
      by_cases q2 : hasM (dAt σ.doms x) s = true
      · have e1 : nfM f s t (x :: r) σ (nes s p ++ nes s q) = (true, σ) := by
          rw [nfM_cons, dom_eq, q1', q2]; rfl
        exact ⟨σ, [], e1, e1, by rw [List.append_nil], .nil _, rfl, fun _ _ => rfl, hS, .inr ⟨q, x :: r, rfl, fun z hz => ft_false (F.nz z (F.x z (by rw [h]; simp [hz]))) (hq z hz).2, q2⟩⟩
      · have q2' : hasM (dAt σ.doms x) s = false := by simpa using q2
        have hxf : x ≠ f := by rintro rfl; rw [hS] at q2'; cases q2'
        obtain ⟨σ1, es, k1, k2, k3, k4, k5, k6, k7, k8⟩ := ih (q ++ [x]) (by rw [h]; simp) (by
          intro z hz
          rcases List.mem_append.mp hz with hz | hz
          · exact hq z hz
          · simp only [List.mem_cons, List.not_mem_nil, or_false] at hz; subst hz; exact ⟨q2', q1⟩)
        have e : nes s (q ++ [x]) = nes s q ++ [⟨x, .ne, s⟩] := by simp [nes]
        rw [e, ← List.append_assoc] at k1 k2
        refine ⟨σ1, es, ?_, ?_, k3, k4, k5, k6, k7, by simpa using k8⟩
        · rw [nfM_cons, dom_eq, q1', q2']; exact k1
        · rw [nfM_cons, dom_eq, k6 x hxf, q1', q2']; exact k2

structure Fin (s t : Int) (sc : List Nat) (d : List Mk) : Prop where
  h : ∃ p r, sc = p ++ r ∧ (∀ y ∈ p, hasM (dAt d y) s = false) ∧ (∀ y ∈ p, hasM (dAt d y) t = false) ∧ headOk s t d r ∧ ∀ f rest, r = f :: rest → restOk s t d f rest
theorem pass_law {s t : Int} {sc : List Nat} {σ : Sg} (hsc : sc.length ≤ 200) (hsp : σ.speaker = 6) (hz : NZ σ.doms) (hx : ∀ y ∈ sc, y < σ.doms.length) :
    ∃ es, (passM s t sc σ).2.trail = σ.trail ++ es ∧ Chain (KK σ.doms.length s t sc) σ.doms es (passM s t sc σ).2.doms ∧
      ((passM s t sc σ).1 = false → Bad (KK σ.doms.length s t sc) (passM s t sc σ).2) ∧
      ((passM s t sc σ).1 = true → (passM s t sc σ).2.failed = σ.failed ∧ passM s t sc (passM s t sc σ).2 = (true, (passM s t sc σ).2) ∧ Fin s t sc (passM s t sc σ).2.doms) := by
  have F0 : FsSt s t sc [] σ := ⟨hsp, hz, hx, fun y h => by simp at h, fun y h => by simp at h⟩
  obtain ⟨es, o, ⟨b, σ1⟩, k1, k2, k3, k4⟩ := fs_law (n := σ.doms.length) hsc sc [] rfl F0 rfl
  have k1' : fsM s t sc 0 σ [] = (o, b, σ1) := k1
  cases o with
  | none =>
    rw [pass_none k1']
    exact ⟨es, k2, k3, fun _ => k4, fun h => by cases h⟩
  | some j =>
    obtain ⟨k5, p, r, h1, h2, h3, F, h4⟩ := k4
    simp only at h3
    subst h2
    rcases r with _ | ⟨f, rest⟩
    · have hj : sc[p.length]? = none := by rw [h1]; simp
      rw [pass_end k1' hj]
      refine ⟨es, k2, k3, fun h => by simp at h, fun _ => ⟨k5, ?_, ⟨p, [], h1, F.noS, F.noT, trivial, fun f rest h => by simp at h⟩⟩⟩
      have e := fs_still (σ := σ1) (i := 0) (b := []) p [] (fun y hy => F.nz y (F.x y (by rw [h1]; exact hy))) F.noS F.noT trivial
      rw [← h1] at e
      rw [Nat.zero_add] at e
      exact pass_end e hj
    · have hj : sc[p.length]? = some f := by rw [h1]; simp
      have hd : sc.drop (p.length + 1) = rest := by rw [h1]; simp
      rw [pass_some k1' hj, hd, h3]
      have hlen : σ.doms.length = σ1.doms.length := k3.sub.1.symm
      obtain ⟨σ2, es2, g1, g2, g3, g4, g5, g6, g7, g8⟩ := nf_law (n := σ.doms.length) hsc F hlen h4.1 h4.2 rest [] (by rw [h1]; rfl) (fun z hz => by simp at hz)
      have e0 : nes s p ++ nes s [] = nes s p := by simp [nes]
      rw [e0] at g1 g2
      rw [g1]
      have hT2 : hasM (dAt σ2.doms f) t = false := by
        cases q : hasM (dAt σ2.doms f) t with
        | false => rfl
        | true => have := g4.sub.2 f t q; rw [h4.2] at this; exact this.symm
      have hnoS : ∀ y ∈ p, hasM (dAt σ2.doms y) s = false := by
        intro y hy
        cases q : hasM (dAt σ2.doms y) s with
        | false => rfl
        | true => have := g4.sub.2 y s q; rw [F.noS y hy] at this; exact this.symm
      have hnoT : ∀ y ∈ p, hasM (dAt σ2.doms y) t = false := by
        intro y hy
        cases q : hasM (dAt σ2.doms y) t with
        | false => rfl
        | true => have := g4.sub.2 y t q; rw [F.noT y hy] at this; exact this.symm
      have hz2 := g4.nz F.nz
      have hlen2 : σ2.doms.length = σ1.doms.length := g4.sub.1
      refine ⟨es ++ es2, by rw [g3, k2, List.append_assoc], k3.trans g4, fun h => by simp at h, fun _ => ⟨g5.trans k5, ?_, ⟨p, f :: rest, h1, hnoS, hnoT, ⟨g7, hT2⟩, ?_⟩⟩⟩
      · have e := fs_still (σ := σ2) (i := 0) (b := []) p (f :: rest) (fun y hy => hz2 y (by rw [hlen2]; exact F.x y (by rw [h1]; exact hy))) hnoS hnoT ⟨g7, hT2⟩
        rw [← h1, Nat.zero_add, List.nil_append] at e
        rw [pass_some e hj, hd]
        exact g2
      · intro f' rest' e
        cases e
        exact g8

theorem build_w {n : Nat} {P : Nat → Int → Prop} (h : ∀ x < n, ∃ v, P x v) : ∃ w : List Int, w.length = n ∧ ∀ x < n, P x (valAt w x) := by
  induction n with
  | zero => exact ⟨[], rfl, fun x hx => by omega⟩
  | succ n ih =>
    obtain ⟨w, h1, h2⟩ := ih fun x hx => h x (by omega)
    obtain ⟨v, hv⟩ := h n (by omega)
    refine ⟨w ++ [v], by rw [List.length_append, h1]; rfl, fun x hx => ?_⟩
    unfold valAt
    rcases Nat.lt_or_ge x n with c | c
    · rw [List.getElem?_append_left (by omega)]
      exact h2 x c
    · have : x = n := by omega
      subst this
      rw [← h1, List.getElem?_concat_length]
      rw [h1]; exact hv
theorem pre_of {A B P R : List Nat} {x : Nat} (h : A ++ B = P ++ x :: R) (hx : x ∉ A) : ∀ a ∈ A, a ∈ P := by
  rw [List.append_eq_append_iff] at h
  rcases h with ⟨C, h1, h2⟩ | ⟨C, h1, h2⟩
  · intro a ha; rw [h1]; simp [ha]
  · rcases C with _ | ⟨c, C⟩
    · intro a ha; rw [h1] at ha; simpa using ha
    · exfalso
      rw [List.cons_append] at h2
      injection h2 with h3 h4
      exact hx (by rw [h1, h3]; simp)
theorem fixed_keeps {s t : Int} {sc : List Nat} {d : List Mk} (F : Fin s t sc d) (hx : ∀ y ∈ sc, y < d.length) (hone : ∀ x < d.length, ∀ v v', hasM (dAt d x) v = true → hasM (dAt d x) v' = true → v = v') {w : List Int} (hw : inBox d w) : KK d.length s t sc w := by
  refine ⟨hw.1, keeps_of fun P x R h e => ?_⟩
  obtain ⟨p, r, h1, h2, h3, h4, h5⟩ := F.h
  have hxs : x < d.length := hx x (by rw [h]; simp)
  have hbx := hw.2 x hxs
  rw [e] at hbx
  have hxp : x ∉ p := fun q => by rw [h3 x q] at hbx; cases hbx
  rcases r with _ | ⟨f, rest⟩
  · rw [List.append_nil] at h1
    exact absurd (by rw [← h1, h]; simp) hxp
  · have hf : f < d.length := hx f (by rw [h1]; simp)
    have hfs : valAt w f = s := hone f hf _ _ (hw.2 f hf) h4.1
    have hxf : x ≠ f := by rintro rfl; rw [h4.2] at hbx; cases hbx
    refine ⟨f, ?_, hfs⟩
    refine pre_of (A := p ++ [f]) (B := rest) (R := R) (x := x) (by rw [← h, h1]; simp) (by simp [hxp, hxf]) f (by simp)
theorem plain_supp {s t : Int} {n : Nat} {d : List Mk} (hn : n = d.length) (F : Fin s t (List.range n) d) (hz : NZ d) {x0 : Nat} (hx0 : x0 < n) {v0 : Int} (hv0 : hasM (dAt d x0) v0 = true) : ∃ w, inBox d w ∧ KK n s t (List.range n) w ∧ valAt w x0 = v0 := by
  obtain ⟨p, r, h1, h2, h3, h4, h5⟩ := F.h
  have hnd : (p ++ r).Nodup := h1 ▸ List.nodup_range
  have hlt : ∀ y ∈ p ++ r, y < n := fun y hy => by rw [← h1] at hy; exact List.mem_range.mp hy
  rcases r with _ | ⟨f, rest⟩
  · obtain ⟨w, w1, w2⟩ := build_w (n := n) (P := fun x v => hasM (dAt d x) v = true ∧ (x = x0 → v = v0)) (by
      intro x hx
      by_cases e : x = x0
      · subst e; exact ⟨v0, hv0, fun _ => rfl⟩
      · obtain ⟨v, hv⟩ := nz_has (hz x (hn ▸ hx)); exact ⟨v, hv, fun q => absurd q e⟩)
    refine ⟨w, ⟨w1.trans hn, fun x hx => (w2 x (hn ▸ hx)).1⟩, ⟨w1, keeps_of fun P x R h e => ?_⟩, (w2 x0 hx0).2 rfl⟩
    have hxn : x < n := List.mem_range.mp (by rw [h]; simp)
    have hb := (w2 x hxn).1
    rw [e] at hb
    have : x ∈ p := by rw [List.append_nil] at h1; rw [← h1, h]; simp
    rw [h3 x this] at hb; cases hb
  · have hst : s ≠ t := by rintro rfl; obtain ⟨ha, hb⟩ := h4; rw [ha] at hb; cases hb
    by_cases q : x0 = f ∧ v0 ≠ s
    · obtain ⟨rfl, q2⟩ := q
      rcases h5 _ _ rfl with h6 | ⟨q', r', h6, h7, h8⟩
      · exact absurd (h6 v0 hv0) q2
      · subst h6
        have hv0t : v0 ≠ t := by rintro rfl; rw [h4.2] at hv0; cases hv0
        rw [List.nodup_append, List.nodup_cons, List.nodup_append] at hnd
        obtain ⟨d1, ⟨d2, d3, d4, d5⟩, d6⟩ := hnd
        obtain ⟨w, w1, w2⟩ := build_w (n := n) (P := fun x v => hasM (dAt d x) v = true ∧ (x = x0 → v = v0) ∧ (x ∈ q' → v ≠ t) ∧ (∀ y r3, r' = y :: r3 → x = y → v = s)) (by
          intro x hx
          by_cases e : x = x0
          · subst e
            refine ⟨v0, hv0, fun _ => rfl, fun _ => hv0t, fun y r3 e1 e2 => ?_⟩
            exfalso; apply d2; rw [e1, e2]; simp
          · by_cases e2 : x ∈ q'
            · obtain ⟨v, hv, hvt⟩ := h7 x e2
              refine ⟨v, hv, fun q => absurd q e, fun _ => hvt, fun y r3 e3 e4 => ?_⟩
              exfalso
              exact d5 x e2 x (by rw [e3, e4]; simp) rfl
            · by_cases e3 : ∃ r3, r' = x :: r3
              · obtain ⟨r3, e3⟩ := e3
                rw [e3] at h8
                exact ⟨s, h8, fun q => absurd q e, fun q => absurd q e2, fun _ _ _ _ => rfl⟩
              · obtain ⟨v, hv⟩ := nz_has (hz x (hn ▸ hx))
                exact ⟨v, hv, fun q => absurd q e, fun q => absurd q e2, fun y r3 e4 e5 => absurd ⟨r3, e5 ▸ e4⟩ e3⟩)
        refine ⟨w, ⟨w1.trans hn, fun x hx => (w2 x (hn ▸ hx)).1⟩, ⟨w1, keeps_of fun P x R h e => ?_⟩, (w2 x0 hx0).2.1 rfl⟩
        have hxn : x < n := List.mem_range.mp (by rw [h]; simp)
        obtain ⟨hb, hc, hd', he⟩ := w2 x hxn
        rw [e] at hb hc hd' he
        have hxp : x ∉ p := fun q => by rw [h3 x q] at hb; cases hb
        have hxf : x ≠ x0 := fun q => hv0t (hc q).symm
        have hxq : x ∉ q' := fun q => hd' q rfl
        rcases r' with _ | ⟨y, r3⟩
        · exfalso
          have : x ∈ p ++ x0 :: (q' ++ []) := by rw [← h1, h]; simp
          simp [hxp, hxf, hxq] at this
        · have hxy : x ≠ y := fun q => hst (he y r3 rfl q).symm
          have hyn : y < n := hlt y (by simp)
          refine ⟨y, ?_, (w2 y hyn).2.2.2 y r3 rfl rfl⟩
          refine pre_of (A := p ++ x0 :: (q' ++ [y])) (B := r3) (R := R) (x := x) (by rw [← h, h1]; simp) (by simp [hxp, hxf, hxq, hxy]) y (by simp)
    · obtain ⟨w, w1, w2⟩ := build_w (n := n) (P := fun x v => hasM (dAt d x) v = true ∧ (x = x0 → v = v0) ∧ (x = f → v = s)) (by
        intro x hx
        by_cases e : x = x0
        · subst e
          refine ⟨v0, hv0, fun _ => rfl, fun e2 => ?_⟩
          by_cases e3 : v0 = s
          · exact e3
          · exact absurd ⟨e2, e3⟩ q
        · by_cases e2 : x = f
          · subst e2; exact ⟨s, h4.1, fun q => absurd q e, fun _ => rfl⟩
          · obtain ⟨v, hv⟩ := nz_has (hz x (hn ▸ hx)); exact ⟨v, hv, fun q => absurd q e, fun q => absurd q e2⟩)
      refine ⟨w, ⟨w1.trans hn, fun x hx => (w2 x (hn ▸ hx)).1⟩, ⟨w1, keeps_of fun P x R h e => ?_⟩, (w2 x0 hx0).2.1 rfl⟩
      have hxn : x < n := List.mem_range.mp (by rw [h]; simp)
      obtain ⟨hb, hc, hd'⟩ := w2 x hxn
      rw [e] at hb hc hd'
      have hxp : x ∉ p := fun q => by rw [h3 x q] at hb; cases hb
      have hxf : x ≠ f := fun q => hst (hd' q).symm
      have hfn : f < n := hlt f (by simp)
      refine ⟨f, ?_, (w2 f hfn).2.2 rfl⟩
      refine pre_of (A := p ++ [f]) (B := rest) (R := R) (x := x) (by rw [← h, h1]; simp) (by simp [hxp, hxf]) f (by simp)
end Mine
end

section
open PySem
set_option maxRecDepth 100000
set_option linter.unusedVariables false
set_option linter.unusedSimpArgs false
set_option autoImplicit false
namespace Mine

theorem compLoop_rel {α : Type} {src : AV} {xs0 : List AV} {t : LT} {f : Vars → Mem → Option (List AV × Vars × Mem)} {enc : α → AV} (P : Vars → Prop) (G : List α → List AV → Mem → Prop) {mem : Mem}
    (hs : ∀ mem', mem <+: mem' → stillA src xs0 mem' = true) : ∀ (l done : List α) {outs : List AV}
    (_ : ∀ done' a rest, done ++ l = done' ++ a :: rest → ∀ outs vars mem', P vars → mem <+: mem' → G done' outs mem' → ∃ v1 v2 mem2 b, bindT t (enc a) vars mem' = some v1 ∧ f v1 mem' = some ([b], v2, mem2) ∧ P v2 ∧ mem' <+: mem2 ∧ G (done' ++ [a]) (outs ++ [b]) mem2)
    {vars : Vars} {mem' : Mem}, P vars → mem <+: mem' → G done outs mem' → ∃ v2 mem2 new, compLoop src xs0 t f (l.map enc) vars mem' = some (new, v2, mem2) ∧ P v2 ∧ mem' <+: mem2 ∧ G (done ++ l) (outs ++ new) mem2 ∧ new.length = l.length := by
  intro l
  induction l with
  | nil =>
    intro done outs hf vars mem' hp hm hg
    exact ⟨vars, mem', [], rfl, hp, List.prefix_refl _, by rw [List.append_nil, List.append_nil]; exact hg, rfl⟩
  | cons a l ih =>
    intro done outs hf vars mem' hp hm hg
    obtain ⟨v1, v2, mem2, b, h1, h2, h3, h4, h5⟩ := hf done a l rfl outs vars mem' hp hm hg
    obtain ⟨v3, mem3, new, k1, k2, k3, k4, k5⟩ := ih (done ++ [a]) (outs := outs ++ [b]) (fun done' a' rest e => hf done' a' rest (by rw [← e]; simp)) h3 (hm.trans h4) h5
    refine ⟨v3, mem3, b :: new, ?_, k2, h4.trans k3, by simpa using k4, by rw [List.length_cons, k5, List.length_cons]⟩
    rw [List.map_cons, cl_cons]
    simp only [Option.bind_some, h1, h2]
    rw [if_pos (hs mem2 (hm.trans h4)), k1]
    rfl
theorem comp1_rel {α : Type} {M : Methods} {Φ : Fun} {vars : Vars} {size : Nat} {lends : List (Nat × Nat)} {t : LT} {it elt : LE} {mem mem1 : Mem} {src : AV} {enc : α → AV} {l : List α} (P : Vars → Prop) (G : List α → List AV → Mem → Prop)
    (e1 : ev M Φ vars it mem = some (src, mem1)) (e2 : iterA mem1 src = some (l.map enc)) (hs : ∀ mem', mem1 <+: mem' → stillA src (l.map enc) mem' = true)
    (hp : P (lendVars vars size lends)) (h0 : G [] [] mem1)
    (hf : ∀ done a rest, l = done ++ a :: rest → ∀ outs vars mem', P vars → mem1 <+: mem' → G done outs mem' → ∃ v1, bindT t (enc a) vars mem' = some v1 ∧ P v1 ∧ ∃ b m3, ev M Φ v1 elt mem' = some (b, m3) ∧ mem' <+: m3 ∧ G (done ++ [a]) (outs ++ [b]) m3)
    (hl : l.length ≤ 1000000) :
    ∃ mem2 outs, ev M Φ vars (.comp1 size lends t it (.bool true) elt) mem = some (.obj mem2.length, mem2 ++ [.list outs]) ∧ mem1 <+: mem2 ∧ G l outs mem2 ∧ outs.length = l.length := by
  obtain ⟨v2, mem2, outs, k1, k2, k3, k4, k5⟩ := compLoop_rel (src := src) (xs0 := l.map enc) (t := t) (enc := enc)
    (f := fun vars mem => do
      let (c, mem) ← ev M Φ vars (.bool true) mem
      match c with
      | .bool true => do
        let (a, mem) ← ev M Φ vars elt mem
        some ([a], vars, mem)
      | .bool false => some ([], vars, mem)
      | _ => Option.none) P G hs l [] (outs := []) (by
    intro done a rest e outs vars mem' hv hm hg
    obtain ⟨v1, b1, b2, b, m3, b3, b4, b5⟩ := hf done a rest e outs vars mem' hv hm hg
    refine ⟨v1, v1, m3, b, b1, ?_, b2, b4, b5⟩
    simp only [Option.bind_eq_bind, Option.bind_some, ev_bool, b3]) hp (List.prefix_refl _) h0
  refine ⟨mem2, outs, ?_, k3, k4, k5⟩
  rw [ev_comp1]
  simp only [Option.bind_eq_bind, Option.bind_some, e1, e2]
  simp only [Option.bind_eq_bind] at k1
  refine Eq.trans (congrArg (fun o => Option.bind o _) k1) ?_
  simp only [Option.bind_some]
  rw [if_pos (sz_of (by omega))]

noncomputable def lotsE : LE := .comp1 4 [(3, 0)] (.v 1) (.callB .«range» [(.meth (.var 0) .«size» [])]) (.bool true) (.callF 374 [(.meth (.var 3) .«dom» [(.var 1)])])
theorem rng_iter {m : Mem} {n : Nat} (h : n ≤ 1000) : callB .range [.int n] m = some (.rng 0 n, m) ∧ iterA m (.rng 0 n) = some ((List.range n).map eN) := by
  constructor
  · simp only [callB]
    rw [if_pos (by omega)]
  · simp only [iterA]
    rw [if_pos (by omega), rng_eq, List.range_eq_range']
theorem vals_len (m : Mk) : (vals m).length ≤ 3 := by unfold vals; exact List.length_filter_le _ _
theorem range_mid {n : Nat} {done rest : List Nat} {a : Nat} (h : List.range n = done ++ a :: rest) : a = done.length ∧ a < n := by
  have h1 : (List.range n)[done.length]? = some a := by rw [h, get_mid rfl]
  rw [List.getElem?_eq_some_iff] at h1
  obtain ⟨h2, h3⟩ := h1
  rw [List.getElem_range] at h3
  rw [List.length_range] at h2
  exact ⟨h3.symm, h3 ▸ h2⟩
theorem lots_ok {A : Ad} {σ : Sg} {m : Mem} {n : Nat} {vars : Vars} (S : St A m σ) (hv : vars[0]? = some (some (.obj A.st))) :
    ∃ m2 L as, ev prg.meths (callN prg (n + 1)) vars lotsE m = some (.obj L, m2) ∧ m <+: m2 ∧ m.length ≤ L ∧ LL m2 L as (σ.doms.map vals) ∧ (∀ a ∈ as, m.length ≤ a ∧ a < L) := by
  have e0 : ev prg.meths (callN prg (n + 1)) vars (.callB .«range» [(.meth (.var 0) .«size» [])]) m = some (.rng 0 σ.doms.length, m) := by
    have e1 : ev prg.meths (callN prg (n + 1)) vars (.meth (.var 0) .«size» []) m = some (.int σ.doms.length, m) := by
      rw [S.call (f := 136) (by rw [ev_var, hv]; try rfl) rfl rfl]
      simp only [zE]
      exact S.size (n := n)
    simp only [ev_callB, evs_cons, e1, evs_nil, Option.bind_some]
    exact (rng_iter (by have := S.ld; omega)).1
  have hP : lendVars vars 4 [(3, 0)] = [none, none, none, some (.obj A.st)] := by
    unfold lendVars
    simp only [List.foldl_cons, List.foldl_nil, hv]; rfl
  obtain ⟨m2, outs, k1, k2, ⟨as, g1, g2, g3⟩, k4⟩ := comp1_rel (M := prg.meths) (Φ := callN prg (n + 1)) (vars := vars) (size := 4) (lends := [(3, 0)]) (t := .v 1) (it := .callB .«range» [(.meth (.var 0) .«size» [])])
    (elt := .callF 374 [(.meth (.var 3) .«dom» [(.var 1)])]) (mem := m) (mem1 := m) (src := .rng 0 σ.doms.length) (enc := eN) (l := List.range σ.doms.length) (fun v => ∃ a b c, v = [a, b, c, some (.obj A.st)])
    (fun done outs m' => ∃ as : List Nat, outs = as.map eJ ∧ as.length = done.length ∧ ∀ (i a : Nat), as[i]? = some a → m'[a]? = some (.list ((vals (dom σ i)).map .int)) ∧ m.length ≤ a ∧ a < m'.length)
    e0 (rng_iter (by have := S.ld; omega)).2 (fun _ _ => rfl) ⟨_, _, _, hP⟩ ⟨[], rfl, rfl, fun i a h => by simp at h⟩ (by
      rintro done x rest hd outs v m' ⟨a, b, c, rfl⟩ hm ⟨as, g1, g2, g3⟩
      obtain ⟨hx, hxn⟩ := range_mid hd
      have hdom : σ.doms[x]? = some (dom σ x) := by unfold dom; rw [List.getElem?_eq_getElem hxn]; rfl
      have S1 := S.pre hm
      refine ⟨[a, some (eN x), c, some (.obj A.st)], rfl, ⟨_, _, _, rfl⟩, .obj m'.length, m' ++ [.list ((vals (dom σ x)).map .int)], ?_, List.prefix_append _ _, as ++ [m'.length], ?_, ?_, ?_⟩
      · have e1 : ev prg.meths (callN prg (n + 1)) [a, some (eN x), c, some (.obj A.st)] (.meth (.var 3) .«dom» [(.var 1)]) m' = some (eM (dom σ x), m') := by
          rw [S1.call (f := 143) rfl rfl rfl]
          simp only [zE]
          exact S1.dom (n := n) hdom
        simp only [ev_callF, evs_cons, e1, evs_nil, Option.bind_some]
        exact numbers_ok
      · rw [g1]; simp [eJ]
      · simp [g2]
      · intro i a' h
        rcases Nat.lt_or_ge i as.length with c1 | c1
        · rw [List.getElem?_append_left c1] at h
          obtain ⟨f1, f2, f3⟩ := g3 i a' h
          refine ⟨get_pre (List.prefix_append _ _) f1, f2, ?_⟩
          rw [List.length_append]; omega
        · have hi : i = as.length := by
            have : i < (as ++ [m'.length]).length := by rw [List.getElem?_eq_some_iff] at h; exact h.1
            rw [List.length_append, List.length_cons, List.length_nil] at this
            omega
          subst hi
          rw [List.getElem?_concat_length] at h
          cases h
          rw [g2, ← hx]
          exact ⟨get_new, hm.length_le, by rw [List.length_append]; simp⟩) (by rw [List.length_range]; have := S.ld; omega)
  subst g1
  have hle := k2.length_le
  refine ⟨m2 ++ [MObj.list (as.map eJ)], m2.length, as, k1, pre_app k2 _, hle, ⟨get_new, ?_, ?_, ?_, ?_⟩, ?_⟩
  · rw [g2, List.length_range, List.length_map]
  · intro i a vs h1 h2
    have h3 := (g3 i a h1).1
    rw [List.getElem?_map] at h2
    have hi : i < σ.doms.length := by
      rcases Nat.lt_or_ge i σ.doms.length with c | c
      · exact c
      · rw [List.getElem?_eq_none_iff.mpr c] at h2; cases h2
    rw [List.getElem?_eq_getElem hi] at h2
    have e : dom σ i = σ.doms[i] := by unfold dom; rw [List.getElem?_eq_getElem hi]; rfl
    rw [e] at h3
    cases h2
    exact get_pre (List.prefix_append _ _) h3
  · rw [List.length_map]; have := S.ld; omega
  · intro vs hvs
    obtain ⟨v, _, rfl⟩ := List.mem_map.mp hvs
    have := vals_len v; omega
  · intro a ha
    obtain ⟨i, hi⟩ := List.mem_iff_getElem?.mp ha
    exact (g3 i a hi).2

theorem Chain.inv {K : List Int → Prop} {d dc : List Mk} {es : List Ent} {e : Ent} (h : Chain K d (es ++ [e]) dc) : ∃ d1, Chain K d es d1 ∧ Good K d1 e ∧ dc = d1.set e.x (strikeM e.lit e.old) := by
  generalize hes : es ++ [e] = fs at h
  cases h with
  | nil => simp at hes
  | snoc c g =>
    have := List.append_inj' hes rfl
    obtain ⟨h1, h2⟩ := this
    cases h1
    cases h2
    exact ⟨_, c, g, rfl⟩
theorem LL.set {m : Mem} {L : Nat} {as : List Nat} {lots : List (List Int)} (h : LL m L as lots) {x a : Nat} {vs : List Int} (ha : m[a]? = some (.list (vs.map .int))) (hL : ∀ b ∈ as, b ≠ L) (hL2 : a ≠ L) (hv : vs.length ≤ 1000) (hx : x < lots.length) :
    setItemA (.obj L) (.int x) (.obj a) m = some (m.set L (.list ((as.set x a).map eJ))) ∧ LL (m.set L (.list ((as.set x a).map eJ))) L (as.set x a) (lots.set x vs) := by
  constructor
  · simp only [setItemA, h.l]
    rw [idx_nat (by rw [List.length_map, h.len]; exact hx) (by rw [List.length_map, h.len]; have := h.sz; omega)]
    simp only [Option.map_some, List.map_set]; rfl
  · refine ⟨get_set h.l, by rw [List.length_set, List.length_set, h.len], ?_, by rw [List.length_set]; exact h.sz, ?_⟩
    · intro i b ws h1 h2
      by_cases q : i = x
      · subst q
        rw [List.getElem?_set_self (by rw [h.len]; exact hx)] at h1
        rw [List.getElem?_set_self hx] at h2
        cases h1; cases h2
        rw [List.getElem?_set_ne (Ne.symm hL2)]; exact ha
      · rw [List.getElem?_set_ne (Ne.symm q)] at h1 h2
        rw [List.getElem?_set_ne (fun e => hL b (List.mem_of_getElem? h1) e.symm)]
        exact h.get i b ws h1 h2
    · intro ws hw
      rcases List.mem_or_eq_of_mem_set hw with hw | hw
      · exact h.sz2 ws hw
      · subst hw; exact hv
noncomputable def srBody : List LS := [.assign (.vs [3, 6, 7, 8, 9]) (.var 5),
  .ite (.cmp .NotEq (.item (.var 4) (.var 3)) (.comp1 4 [(3, 7)] (.v 1) (.callF 374 [(.var 6)]) (.callF 381 [(.var 3), (.var 1)]) (.var 1))) [.ret (.bool false)] [],
  .assign (.item (.var 4) (.var 3)) (.callF 374 [(.var 6)]),
  .ite (.or (.cmp .NotEq (.var 9) (.int 6)) (.not (.callF 398 [(.var 8), (.var 4)]))) [.ret (.bool false)] [],
  .ite (.not (.callF 403 [(.bin .Add (.callB .«list» [(.var 8)]) (.list [(.callF 410 [(.var 7)])])), (.var 2)])) [.ret (.bool false)] []]
structure Ans (m : Mem) (Ka n : Nat) (K : List Int → Prop) (answers : List (List Int)) : Prop where
  l : m[Ka]? = some (.list (answers.map eT))
  sz : answers.length ≤ 1000
  hn : n ≤ 1000
  k : ∀ w ∈ answers, w.length = n ∧ K w
theorem Ans.pre {m m' : Mem} {Ka n : Nat} {K : List Int → Prop} {answers : List (List Int)} (h : Ans m Ka n K answers) (k : m <+: m') : Ans m' Ka n K answers := ⟨get_pre k h.l, h.sz, h.hn, h.k⟩
theorem Ans.only {m m' : Mem} {Ka n : Nat} {K : List Int → Prop} {answers : List (List Int)} {own : Nat → Prop} (h : Ans m Ka n K answers) (k : Only own m m') (hn : ¬ own Ka) : Ans m' Ka n K answers := ⟨k.get h.l hn, h.sz, h.hn, h.k⟩
theorem holdsM_of {rs : List Lit} {d : List Mk} (h : HoldsD rs d) : holdsM rs (d.map vals) = true := by
  unfold holdsM
  rw [List.all_eq_true]
  intro l hl
  rw [List.all_eq_true]
  intro v hv
  have e : lotAt (d.map vals) l.x = vals (dAt d l.x) := by
    unfold lotAt dAt
    rw [List.getElem?_map, List.getElem?_eq_getElem (h l hl).1]; rfl
  rw [e, mem_vals] at hv
  exact (h l hl).2 v hv
theorem barredM_of {K : List Int → Prop} {rs : List Lit} {n : Nat} {answers : List (List Int)} (hk : ∀ w ∈ answers, w.length = n ∧ K w) (h : ∀ w, K w → meetsM rs w = false) : barredM rs answers = true := by
  unfold barredM
  rw [Bool.not_eq_true', List.any_eq_false]
  intro w hw
  rw [h w (hk w hw).2]
  simp
theorem srIter {n Ka L N : Nat} {K : List Int → Prop} {answers : List (List Int)} {mem m : Mem} {d1 : List Mk} {e : Ent} {as : List Nat} {v0 v1 v3 v6 v7 v8 v9 v10 v11 v12 v13 v14 v15 v16 : Option AV}
    (hA : Ans m Ka N K answers) (hL : LL m L as ((d1.set e.x (strikeM e.lit e.old)).map vals)) (hLa : ∀ b ∈ as, b ≠ L) (g : Good K d1 e) (hN : N = d1.length) (hm : mem <+: m) (hmL : mem.length ≤ L) (hKa : Ka < mem.length) :
    W (exs prg.meths (callN prg (n + 3)) srBody [v0, v1, some (.obj Ka), v3, some (.obj L), some (eE e), v6, v7, v8, v9, v10, v11, v12, v13, v14, v15, v16] m) fun z => z.1 = .next ∧ mem <+: z.2.2 ∧ Only (· = L) m z.2.2 ∧
      ∃ as', LL z.2.2 L as' (d1.map vals) ∧ (∀ b ∈ as', b ≠ L) ∧ ∃ v3 v5 v6 v7 v8 v9 v10 v11 v12 v13 v14 v15 v16, z.2.1 = [v0, v1, some (.obj Ka), v3, some (.obj L), v5, v6, v7, v8, v9, v10, v11, v12, v13, v14, v15, v16] := by
  obtain ⟨rs, r1, r2, r3, r4⟩ := g.rs
  have hx : e.x < d1.length := g.x
  have hLlen : L < m.length := lt_of_get hL.l
  have hi : ((d1.set e.x (strikeM e.lit e.old)).map vals)[e.x]? = some (vals (strikeM e.lit e.old)) := by
    rw [List.getElem?_map, List.getElem?_set_self hx]; rfl
  obtain ⟨ad, i1, i2, i3⟩ := hL.at hi
  have hn1 : ∀ m, callN prg (n + 3) 374 [eM e.old] m = some (.obj m.length, m ++ [.list ((vals e.old).map .int)]) := fun m => numbers_ok
  obtain ⟨m2, c1, c2⟩ := comp1_ok (M := prg.meths) (Φ := callN prg (n + 3)) (vars := [v0, v1, some (.obj Ka), some (.int e.x), some (.obj L), some (eE e), some (eM e.old), some (eL e.lit), some (eR rs), some (.int e.sp), v10, v11, v12, v13, v14, v15, v16]) (size := 4) (lends := [(3, 7)]) (t := .v 1) (it := .callF 374 [(.var 6)])
    (cond := .callF 381 [(.var 3), (.var 1)]) (elt := .var 1) (mem := m) (mem1 := m ++ [.list ((vals e.old).map .int)]) (src := .obj m.length) (enc := .int) (l := vals e.old) (fun v => e.lit.tr v) .int (fun v => ∃ a b c, v = [a, b, c, some (eL e.lit)])
    (by simp only [ev_callF, evs_cons, ev_var, List.getElem?_cons_zero, List.getElem?_cons_succ, Option.bind_some, evs_nil, hn1]) (iter_obj get_new) (still_obj get_new) ⟨_, _, _, rfl⟩ (by
      rintro k hk v m' ⟨a, b, c, rfl⟩ hm'
      refine ⟨[a, some (.int k), c, some (eL e.lit)], rfl, ⟨_, _, _, rfl⟩, m', ?_, List.prefix_refl _, fun _ => ⟨m', rfl, List.prefix_refl _⟩⟩
      simp only [zE, true_ok]) (by have := vals_len e.old; omega)
  have hfil : (vals e.old).filter (fun v => e.lit.tr v) = vals (strikeM e.lit e.old) := vals_filter e.old e.lit.tr
  rw [hfil] at c1
  have P2 : m <+: m2 ++ [.list ((vals (strikeM e.lit e.old)).map .int)] := ((List.prefix_append m _).trans c2).trans (List.prefix_append _ _)
  have hcl : ∀ l : List Int, (l.map AV.int).all (cl 0) = true := fun l => by rw [List.all_map, List.all_eq_true]; exact fun x _ => rfl
  have q1 : eqA (m2 ++ [.list ((vals (strikeM e.lit e.old)).map .int)]) (.obj ad) (.obj m2.length) = some true := by
    rw [eqA_list 0 (by decide) (get_pre P2 i3) get_new (hcl _) (hcl _), decide_eq_true rfl]
  have hL2 := hL.pre P2
  have P3 := List.prefix_append (m2 ++ [MObj.list ((vals (strikeM e.lit e.old)).map .int)]) [MObj.list ((vals e.old).map .int)]
  have hlen2 := P2.length_le
  obtain ⟨s1, s2⟩ := (hL2.pre P3).set (x := e.x) (a := (m2 ++ [MObj.list ((vals (strikeM e.lit e.old)).map .int)]).length) (vs := vals e.old) get_new hLa (by omega) (by have := vals_len e.old; omega) (by rw [List.length_map, List.length_set]; exact hx)
  have hback : ((d1.set e.x (strikeM e.lit e.old)).map vals).set e.x (vals e.old) = d1.map vals := by
    rw [← List.map_set, List.set_set]
    congr 1
    rw [← g.old]
    unfold dAt
    rw [List.getElem?_eq_getElem hx]
    simp
  rw [hback] at s2
  have n2 := hn1 (m2 ++ [.list ((vals (strikeM e.lit e.old)).map .int)])
  generalize hm4 : ((m2 ++ [MObj.list ((vals (strikeM e.lit e.old)).map .int)]) ++ [MObj.list ((vals e.old).map .int)]).set L (.list ((as.set e.x (m2 ++ [MObj.list ((vals (strikeM e.lit e.old)).map .int)]).length).map eJ)) = m4 at s1 s2
  have O4 : Only (· = L) m m4 := by
    rw [← hm4]
    exact (Only.of_pre (P2.trans P3)).trans (Only.of_set rfl)
  have P4 : mem <+: m4 := by rw [← hm4]; exact pre_set (hm.trans (P2.trans P3)) hmL
  have hA4 := hA.only O4 (fun q => by omega)
  have u1 : callN prg (n + 3) 398 [eR rs, .obj L] m4 = some (.bool true, m4) := by
    rw [holds_ok (n := n + 1) s2 (by omega) (fun l hl => by rw [List.length_map]; exact (r3 l hl).1), holdsM_of r3]
  have e3 : callB .list [eR rs] m4 = some (.obj m4.length, m4 ++ [.list (rs.map eL)]) := by
    simp only [callB, iterA, itemsA, eR]
    rw [if_pos (sz_of (by rw [List.length_map]; omega))]
  have e4 : ∀ m, callN prg (n + 3) 410 [eL e.lit] m = some (eL e.lit.neg, m) := fun m => other_ok
  have P5 : m4 <+: m4 ++ [MObj.list (rs.map eL)] := List.prefix_append _ _
  have e5 : binA .Add (.obj m4.length) (.obj (m4 ++ [MObj.list (rs.map eL)]).length) (m4 ++ [.list (rs.map eL)] ++ [.list [eL e.lit.neg]]) = some (.obj ((m4 ++ [MObj.list (rs.map eL)]).length + 1), m4 ++ [.list (rs.map eL)] ++ [.list ([e.lit.neg].map eL)] ++ [.list ((rs ++ [e.lit.neg]).map eL)]) :=
    lits_app (m0 := m4) (cs := [e.lit.neg]) get_new (by simp only [List.length_cons, List.length_nil]; omega)
  have P6 : m4 <+: m4 ++ [.list (rs.map eL)] ++ [.list ([e.lit.neg].map eL)] ++ [.list ((rs ++ [e.lit.neg]).map eL)] := by
    rw [List.append_assoc, List.append_assoc]; exact List.prefix_append _ _
  have u2 : callN prg (n + 3) 403 [.obj ((m4 ++ [MObj.list (rs.map eL)]).length + 1), .obj Ka] (m4 ++ [.list (rs.map eL)] ++ [.list ([e.lit.neg].map eL)] ++ [.list ((rs ++ [e.lit.neg]).map eL)]) =
      some (.bool true, m4 ++ [.list (rs.map eL)] ++ [.list ([e.lit.neg].map eL)] ++ [.list ((rs ++ [e.lit.neg]).map eL)]) := by
    have hA6 := hA4.pre P6
    rw [barred_ok (n := n + 1) (rs := rs ++ [e.lit.neg]) (Ls.obj get_new2) hA6.l (by rw [List.length_append, List.length_cons, List.length_nil]; omega) hA6.sz (fun w hw => by
      have hk := hA6.k w hw
      refine ⟨by have := hA6.hn; have := hk.1; omega, fun l hl => ?_⟩
      rw [hk.1, hN]
      rcases List.mem_append.mp hl with hl | hl
      · exact (r3 l hl).1
      · simp only [List.mem_cons, List.not_mem_nil, or_false] at hl
        subst hl
        rw [neg_x, g.lx]; exact hx)]
    rw [barredM_of hA6.k]
    intro w hw
    rw [Bool.eq_false_iff]
    intro hmm
    rw [meetsM_iff] at hmm
    have h1 := r4 w hw (meetsM_iff.mpr fun l hl => hmm l (List.mem_append_left _ hl))
    have h2 := hmm e.lit.neg (by simp)
    rw [neg_tr, neg_x, g.lx, h1] at h2
    cases h2
  have hsp := g.sp
  unfold srBody
  rw [exs_cons]
  have a0 : ex prg.meths (callN prg (n + 3)) (.assign (.vs [3, 6, 7, 8, 9]) (.var 5)) [v0, v1, some (.obj Ka), v3, some (.obj L), some (eE e), v6, v7, v8, v9, v10, v11, v12, v13, v14, v15, v16] m =
      some (.next, [v0, v1, some (.obj Ka), some (.int e.x), some (.obj L), some (eE e), some (eM e.old), some (eL e.lit), some (eR rs), some (.int e.sp), v10, v11, v12, v13, v14, v15, v16], m) := by
    rw [eE, r1]; rfl
  rw [a0, Option.bind_some]
  simp only [exs_cons, ex_ite, ev_cmp, ev_item, ev_var, List.getElem?_cons_zero, List.getElem?_cons_succ, Option.bind_some, i1, c1, cm_eq, cm_ne, cm_lt, cm_le, cm_gt, cm_ge, cm_is, cm_in, cm_ni, q1, Option.map_some, Bool.not_true, Bool.false_eq_true, if_false, exs_nil]
  simp only [exs_cons, ex_assign, ev_callF, evs_cons, evs_nil, ev_var, List.getElem?_cons_zero, List.getElem?_cons_succ, Option.bind_some, n2, as_item, s1]
  simp only [ex_ite, ev_or, ev_not, ev_cmp, ev_callF, ev_callB, ev_bin, ev_list, evs_cons, evs_nil, ev_var, ev_int, List.getElem?_cons_zero, List.getElem?_cons_succ, Option.bind_some, cm_eq, cm_ne, cm_lt, cm_le, cm_gt, cm_ge, cm_is, cm_in, cm_ni, eqA_int, hsp, decide_true, Option.map_some, Bool.not_true, Bool.false_eq_true, if_false, u1, exs_nil, e3, e4, e5, u2]
  refine W_some ?_
  refine ⟨rfl, P4.trans P6, O4.trans (Only.of_pre P6), as.set e.x (m2 ++ [MObj.list ((vals (strikeM e.lit e.old)).map .int)]).length, s2.pre P6, ?_, _, _, _, _, _, _, _, _, _, _, _, _, _, rfl⟩
  intro b hb
  rcases List.mem_or_eq_of_mem_set hb with hb | hb
  · exact hLa b hb
  · omega
end Mine
end

section
open PySem
set_option maxRecDepth 100000
set_option linter.unusedVariables false
set_option linter.unusedSimpArgs false
set_option autoImplicit false
namespace Mine

theorem srLoop {n Ka L N Sl : Nat} {K : List Int → Prop} {answers : List (List Int)} {mem : Mem} {d : List Mk} {all : List AV} {v0 v1 : Option AV} (hN : N = d.length) (hmL : mem.length ≤ L) (hKa : Ka < mem.length) (hSl : Sl ≠ L) :
    ∀ (r : List Ent) {dc : List Mk} {m : Mem} {as : List Nat} {v3 v5 v6 v7 v8 v9 v10 v11 v12 v13 v14 v15 v16 : Option AV}, Chain K d r.reverse dc → Ans m Ka N K answers → LL m L as (dc.map vals) → (∀ b ∈ as, b ≠ L) → mem <+: m → m[Sl]? = some (.list all) →
    W (forLoop (.obj Sl) all (.v 5) (exs prg.meths (callN prg (n + 3)) srBody) (r.map eE) [v0, v1, some (.obj Ka), v3, some (.obj L), v5, v6, v7, v8, v9, v10, v11, v12, v13, v14, v15, v16] m) fun z => z.1 = .next ∧ mem <+: z.2.2 := by
  intro r
  induction r with
  | nil =>
    intro dc m as v3 v5 v6 v7 v8 v9 v10 v11 v12 v13 v14 v15 v16 c hA hL hLa hm hs
    refine W_some ?_
    exact ⟨rfl, hm⟩
  | cons e r ih =>
    intro dc m as v3 v5 v6 v7 v8 v9 v10 v11 v12 v13 v14 v15 v16 c hA hL hLa hm hs
    rw [List.reverse_cons] at c
    obtain ⟨d1, c1, g, rfl⟩ := c.inv
    obtain ⟨⟨fl, v, m'⟩, e1, k1, k2, k3, as', k4, k5, w3, w5, w6, w7, w8, w9, w10, w11, w12, w13, w14, w15, w16, k6⟩ := srIter (n := n) (v0 := v0) (v1 := v1) (v3 := v3) (v6 := v6) (v7 := v7) (v8 := v8) (v9 := v9) (v10 := v10) (v11 := v11) (v12 := v12) (v13 := v13) (v14 := v14) (v15 := v15) (v16 := v16) hA hL hLa g (hN.trans c1.sub.1.symm) hm hmL hKa
    dsimp only at k1 k2 k3 k4 k6
    subst k1 k6
    have hs' := k3.get hs hSl
    rw [List.map_cons, for_cons (m2 := m') rfl e1 (by simp only [stillA, hs', decide_true])]
    exact ih c1 (hA.only k3 (fun q => by omega)) k4 k5 k2 hs'
theorem slice_trail {A : Ad} {σ : Sg} {m : Mem} {t0 es : List Ent} (S : St A m σ) (ht : σ.trail = t0 ++ es) : sliceA (.obj A.tr) (.int t0.length) .none m = some (.obj m.length, m ++ [.list (es.map eE)]) := by
  have hl := S.lt
  have hlen : σ.trail.length = t0.length + es.length := by rw [ht, List.length_append]
  have a1 : clampA (σ.trail.map eE).length 0 (.int t0.length) = some t0.length := by
    simp only [clampA]
    rw [if_pos (by omega), List.length_map]
    congr 1
    omega
  have a2 : clampA (σ.trail.map eE).length (σ.trail.map eE).length .none = some (σ.trail.map eE).length := rfl
  simp only [sliceA, itemsA, S.tr, a1, a2]
  rw [if_neg (by rw [List.length_map]; omega), List.take_length, ht, List.map_append, List.drop_left' (by rw [List.length_map])]
theorem said_ok {A : Ad} {σ : Sg} {m : Mem} {n Ka N : Nat} {K : List Int → Prop} {answers : List (List Int)} {t0 es : List Ent} {d : List Mk} (S : St A m σ) (ht : σ.trail = t0 ++ es) (c : Chain K d es σ.doms) (hA : Ans m Ka N K answers) (hN : N = d.length) :
    callN prg (n + 4) 415 [.obj A.st, .int t0.length, .obj Ka] m = some (.bool true, m) := by
  refine call_pure f415 _ rfl rfl ?_
  obtain ⟨m2, L, as, k1, k2, k3, k4, k5⟩ := lots_ok (n := n + 2) (vars := [some (.obj A.st), some (.int t0.length), some (.obj Ka), none, none, none, none, none, none, none, none, none, none, none, none, none, none]) S rfl
  have S2 := S.pre k2
  have e1 := slice_trail S2 ht
  have P3 := List.prefix_append m2 [MObj.list (es.map eE)]
  obtain ⟨⟨fl, v, m'⟩, e2, g1, g2⟩ := srLoop (n := n) (mem := m) (all := es.map eE) (Sl := m2.length) (v0 := some (.obj A.st)) (v1 := some (.int t0.length)) hN k3 (lt_of_get hA.l) (by have := lt_of_get k4.l; omega) es.reverse (dc := σ.doms) (m := m2 ++ [.list (es.map eE)]) (as := as)
    (v3 := none) (v5 := none) (v6 := none) (v7 := none) (v8 := none) (v9 := none) (v10 := none) (v11 := none) (v12 := none) (v13 := none) (v14 := none) (v15 := none) (v16 := none)
    (by rw [List.reverse_reverse]; exact c) (hA.pre (k2.trans P3)) (k4.pre P3) (fun b hb => by have := (k5 b hb).2; omega) (k2.trans P3) get_new
  dsimp only at g1 g2
  subst g1
  unfold lotsE at k1
  rw [b415, exs_cons, ex_assign]
  simp only [List.replicate, List.set_cons_zero, List.set_cons_succ]
  rw [k1, Option.bind_some, as_v]
  simp only [Option.bind_some, List.set_cons_zero, List.set_cons_succ]
  rw [exs_cons, ex_for (src := .obj m2.length) (m1 := m2 ++ [.list (es.map eE)]) (xs := es.map eE) (by simp only [zE, S2.a_tr, e1]) (iter_obj get_new) rfl]
  have ek : kindItems 2 (es.map eE) = es.reverse.map eE := by
    show (es.map eE).reverse = _
    rw [List.map_reverse]
  rw [ek]
  refine W_bind ⟨_, e2, ?_⟩
  simp only [zE]
  refine W_some ?_
  exact ⟨rfl, g2⟩

noncomputable def inB (d : List Mk) (w : List Int) : Bool := (List.range d.length).all fun x => decide (valAt w x ∈ vals (dAt d x))
noncomputable def leftM (d : List Mk) (answers : List (List Int)) : List (List Int) := answers.filter (inB d)
noncomputable def dueM (d : List Mk) (left : List (List Int)) (x : Nat) : List Int := (vals (dAt d x)).filter fun v => decide (v ∈ left.map fun w => valAt w x)
theorem inB_iff {d : List Mk} {w : List Int} (h : w.length = d.length) : inB d w = true ↔ inBox d w := by
  unfold inB inBox
  rw [List.all_eq_true]
  constructor
  · intro k
    refine ⟨h, fun x hx => ?_⟩
    have := k x (List.mem_range.mpr hx)
    rw [decide_eq_true_eq, mem_vals] at this
    exact this
  · intro k x hx
    rw [decide_eq_true_eq, mem_vals]
    exact k.2 x (List.mem_range.mp hx)
structure Ask (s t : Int) (sc : List Nat) (σ : Sg) (answers : List (List Int)) (plain : Bool) : Prop where
  sp : σ.speaker = 6
  nz : NZ σ.doms
  x : ∀ y ∈ sc, y < σ.doms.length
  sl : sc.length ≤ 10
  k : ∀ w ∈ answers, w.length = σ.doms.length ∧ KK σ.doms.length s t sc w
  all : ∀ w, inBox σ.doms w → KK σ.doms.length s t sc w → w ∈ answers
  plain : plain = true → sc = List.range σ.doms.length
  pos : 0 < σ.doms.length
section
variable {s t : Int} {sc : List Nat} {σ : Sg} {answers : List (List Int)} {plain : Bool} (Q : Ask s t sc σ answers plain)
include Q
theorem Ask.left_iff {w : List Int} : w ∈ leftM σ.doms answers ↔ inBox σ.doms w ∧ KK σ.doms.length s t sc w := by
  unfold leftM
  rw [List.mem_filter]
  constructor
  · rintro ⟨h1, h2⟩
    obtain ⟨k1, k2⟩ := Q.k w h1
    exact ⟨(inB_iff k1).mp h2, k2⟩
  · rintro ⟨h1, h2⟩
    exact ⟨Q.all w h1 h2, (inB_iff h1.1).mpr h1⟩
theorem Ask.left_nil {d1 : List Mk} {es : List Ent} (c : Chain (KK σ.doms.length s t sc) σ.doms es d1) {σ1 : Sg} (h1 : σ1.doms = d1) (B : Bad (KK σ.doms.length s t sc) σ1) : leftM σ.doms answers = [] := by
  rw [List.eq_nil_iff_forall_not_mem]
  intro w hw
  obtain ⟨h2, h3⟩ := Q.left_iff.mp hw
  have h4 := c.box h3 h2
  rw [← h1] at h4
  have := B.barred w h3
  rw [meets_of B.holds h4] at this
  cases this
theorem Ask.due {d1 : List Mk} {es : List Ent} (c : Chain (KK σ.doms.length s t sc) σ.doms es d1) {x : Nat} (hx : x < σ.doms.length) : (dueM σ.doms (leftM σ.doms answers) x).filter (fun v => !decide (v ∈ vals (dAt d1 x))) = [] := by
  rw [List.filter_eq_nil_iff]
  intro v hv
  unfold dueM at hv
  rw [List.mem_filter, decide_eq_true_eq, List.mem_map] at hv
  obtain ⟨h1, w, hw, rfl⟩ := hv
  obtain ⟨h2, h3⟩ := Q.left_iff.mp hw
  have h4 := c.box h3 h2
  have h5 := h4.2 x (by rw [c.sub.1]; exact hx)
  simp [mem_vals, h5]
theorem Ask.due_eq {d1 : List Mk} {es : List Ent} (c : Chain (KK σ.doms.length s t sc) σ.doms es d1) (F : Fin s t sc d1) (hp : plain = true) {x : Nat} (hx : x < σ.doms.length) : vals (dAt d1 x) = dueM σ.doms (leftM σ.doms answers) x := by
  have hs := c.sub
  have e1 : vals (dAt d1 x) = (vals (dAt σ.doms x)).filter (hasM (dAt d1 x)) := by
    rw [vals_filter]
    congr 1
    refine mask_ext fun v => ?_
    rw [hasM_ofP]
    cases q : hasM (dAt d1 x) v with
    | false => simp
    | true =>
      rw [hs.2 x v q]
      rcases hasM_range q with rfl | rfl | rfl <;> rfl
  rw [e1]
  unfold dueM
  refine List.filter_congr fun v hv => ?_
  rw [Bool.eq_iff_iff, decide_eq_true_eq, List.mem_map]
  have hsc := Q.plain hp
  constructor
  · intro h
    rw [hsc, ← hs.1] at F
    obtain ⟨w, w1, w2, w3⟩ := plain_supp (n := d1.length) rfl F (c.nz Q.nz) (by rw [hs.1]; exact hx) h
    refine ⟨w, Q.left_iff.mpr ⟨⟨w1.1.trans hs.1, fun y hy => hs.2 y _ (w1.2 y (by rw [hs.1]; exact hy))⟩, ?_⟩, w3⟩
    rw [hsc, ← hs.1]; exact w2
  · rintro ⟨w, hw, rfl⟩
    obtain ⟨h2, h3⟩ := Q.left_iff.mp hw
    have h4 := c.box h3 h2
    exact h4.2 x (by rw [hs.1]; exact hx)
theorem Ask.left_some {d1 : List Mk} {es : List Ent} (c : Chain (KK σ.doms.length s t sc) σ.doms es d1) (F : Fin s t sc d1) (hp : plain = true ∨ ∀ x < σ.doms.length, (vals (dAt d1 x)).length = 1) : leftM σ.doms answers ≠ [] := by
  have hs := c.sub
  have hz := c.nz Q.nz
  intro h
  rw [List.eq_nil_iff_forall_not_mem] at h
  rcases hp with hp | hp
  · have h0 : 0 < σ.doms.length := Q.pos
    obtain ⟨v, hv⟩ := nz_has (hz 0 (by rw [hs.1]; exact h0))
    have e := Q.due_eq c F hp h0
    rw [← mem_vals, e] at hv
    unfold dueM at hv
    rw [List.mem_filter, decide_eq_true_eq, List.mem_map] at hv
    obtain ⟨_, w, hw, _⟩ := hv
    exact h w hw
  · obtain ⟨w, w1, w2⟩ := build_w (n := d1.length) (P := fun x v => hasM (dAt d1 x) v = true) (fun x hx => nz_has (hz x hx))
    have hb : inBox d1 w := ⟨w1, w2⟩
    have hk := fixed_keeps F (fun y hy => by rw [hs.1]; exact Q.x y hy) (by
      intro x hx v v' h1 h2
      rw [← mem_vals] at h1 h2
      have := hp x (by rw [← hs.1]; exact hx)
      obtain ⟨a, ha⟩ := List.length_eq_one_iff.mp this
      rw [ha] at h1 h2
      simp at h1 h2
      rw [h1, h2]) hb
    refine h w (Q.left_iff.mpr ⟨⟨w1.trans hs.1, fun y hy => hs.2 y _ (w2 y (by rw [hs.1]; exact hy))⟩, ?_⟩)
    rw [← hs.1]; exact hk
end
end Mine
end

section
open PySem
set_option maxRecDepth 100000
set_option linter.unusedVariables false
set_option linter.unusedSimpArgs false
set_option autoImplicit false
namespace Mine

noncomputable def vA (st R Ka : Nat) (pl : Bool) (a4 a5 a6 a7 a8 a9 a10 a11 a12 : Option AV) : Vars := [some (.obj st), some (.obj R), some (.obj Ka), some (.bool pl), a4, a5, a6, a7, a8, a9, a10, a11, a12, none, none, none, none, none, none]
section
variable {st R Ka : Nat} {pl : Bool} {a4 a5 a6 a7 a8 a9 a10 a11 a12 : Option AV}
theorem vA_g0 : (vA st R Ka pl a4 a5 a6 a7 a8 a9 a10 a11 a12)[0]? = some (some (.obj st)) := rfl
theorem vA_g1 : (vA st R Ka pl a4 a5 a6 a7 a8 a9 a10 a11 a12)[1]? = some (some (.obj R)) := rfl
theorem vA_g2 : (vA st R Ka pl a4 a5 a6 a7 a8 a9 a10 a11 a12)[2]? = some (some (.obj Ka)) := rfl
theorem vA_g3 : (vA st R Ka pl a4 a5 a6 a7 a8 a9 a10 a11 a12)[3]? = some (some (.bool pl)) := rfl
theorem vA_g4 : (vA st R Ka pl a4 a5 a6 a7 a8 a9 a10 a11 a12)[4]? = some a4 := rfl
theorem vA_g5 : (vA st R Ka pl a4 a5 a6 a7 a8 a9 a10 a11 a12)[5]? = some a5 := rfl
theorem vA_g6 : (vA st R Ka pl a4 a5 a6 a7 a8 a9 a10 a11 a12)[6]? = some a6 := rfl
theorem vA_g7 : (vA st R Ka pl a4 a5 a6 a7 a8 a9 a10 a11 a12)[7]? = some a7 := rfl
theorem vA_g8 : (vA st R Ka pl a4 a5 a6 a7 a8 a9 a10 a11 a12)[8]? = some a8 := rfl
theorem vA_g9 : (vA st R Ka pl a4 a5 a6 a7 a8 a9 a10 a11 a12)[9]? = some a9 := rfl
theorem vA_g10 : (vA st R Ka pl a4 a5 a6 a7 a8 a9 a10 a11 a12)[10]? = some a10 := rfl
theorem vA_g11 : (vA st R Ka pl a4 a5 a6 a7 a8 a9 a10 a11 a12)[11]? = some a11 := rfl
theorem vA_g12 : (vA st R Ka pl a4 a5 a6 a7 a8 a9 a10 a11 a12)[12]? = some a12 := rfl
theorem vA_s4 {b : Option AV} : (vA st R Ka pl a4 a5 a6 a7 a8 a9 a10 a11 a12).set 4 b = vA st R Ka pl b a5 a6 a7 a8 a9 a10 a11 a12 := rfl
theorem vA_s5 {b : Option AV} : (vA st R Ka pl a4 a5 a6 a7 a8 a9 a10 a11 a12).set 5 b = vA st R Ka pl a4 b a6 a7 a8 a9 a10 a11 a12 := rfl
theorem vA_s6 {b : Option AV} : (vA st R Ka pl a4 a5 a6 a7 a8 a9 a10 a11 a12).set 6 b = vA st R Ka pl a4 a5 b a7 a8 a9 a10 a11 a12 := rfl
theorem vA_s7 {b : Option AV} : (vA st R Ka pl a4 a5 a6 a7 a8 a9 a10 a11 a12).set 7 b = vA st R Ka pl a4 a5 a6 b a8 a9 a10 a11 a12 := rfl
theorem vA_s8 {b : Option AV} : (vA st R Ka pl a4 a5 a6 a7 a8 a9 a10 a11 a12).set 8 b = vA st R Ka pl a4 a5 a6 a7 b a9 a10 a11 a12 := rfl
theorem vA_s9 {b : Option AV} : (vA st R Ka pl a4 a5 a6 a7 a8 a9 a10 a11 a12).set 9 b = vA st R Ka pl a4 a5 a6 a7 a8 b a10 a11 a12 := rfl
theorem vA_s10 {b : Option AV} : (vA st R Ka pl a4 a5 a6 a7 a8 a9 a10 a11 a12).set 10 b = vA st R Ka pl a4 a5 a6 a7 a8 a9 b a11 a12 := rfl
theorem vA_s11 {b : Option AV} : (vA st R Ka pl a4 a5 a6 a7 a8 a9 a10 a11 a12).set 11 b = vA st R Ka pl a4 a5 a6 a7 a8 a9 a10 b a12 := rfl
theorem vA_s12 {b : Option AV} : (vA st R Ka pl a4 a5 a6 a7 a8 a9 a10 a11 a12).set 12 b = vA st R Ka pl a4 a5 a6 a7 a8 a9 a10 a11 b := rfl
end
theorem LL.only {m m' : Mem} {L : Nat} {as : List Nat} {lots : List (List Int)} {own : Nat → Prop} (h : LL m L as lots) (k : Only own m m') (hL : ¬ own L) (ha : ∀ a ∈ as, ¬ own a) : LL m' L as lots :=
  ⟨k.get h.l hL, h.len, fun i a vs e f => k.get (h.get i a vs e f) (ha a (List.mem_of_getElem? e)), h.sz, h.sz2⟩
theorem LL.len_ok {m : Mem} {L : Nat} {as : List Nat} {d : List Mk} (h : LL m L as (d.map vals)) : callB .len [.obj L] m = some (.int d.length, m) := by
  have h1 := h.sz
  have h2 := h.len
  rw [List.length_map] at h1 h2
  simp only [callB, itemsA, h.l]
  rw [if_pos (sz_of (by rw [List.length_map]; omega)), List.length_map, h2]
theorem LL.at_d {m : Mem} {L : Nat} {as : List Nat} {d : List Mk} (h : LL m L as (d.map vals)) {x : Nat} (hx : x < d.length) : ∃ a, itemA (.obj L) (.int x) m = some (.obj a) ∧ m[a]? = some (.list ((vals (dAt d x)).map .int)) := by
  have e : (d.map vals)[x]? = some (vals (dAt d x)) := by
    unfold dAt; rw [List.getElem?_map, List.getElem?_eq_getElem hx]; rfl
  obtain ⟨a, h1, _, h2⟩ := h.at e
  exact ⟨a, h1, h2⟩

noncomputable def leftE : LE := .comp1 6 [(5, 6)] (.v 1) (.var 2) (.callB .«all» [(.comp1 4 [(2, 5), (3, 1)] (.v 1) (.callB .«range» [(.callB .«len» [(.var 5)])]) (.bool true) (.cmp .In (.item (.var 3) (.var 1)) (.item (.var 2) (.var 1))))]) (.var 1)
theorem left_ok {n Ka L N : Nat} {K : List Int → Prop} {answers : List (List Int)} {m : Mem} {d : List Mk} {as : List Nat} {vars : Vars} (hA : Ans m Ka N K answers) (hL : LL m L as (d.map vals)) (hN : N = d.length) (h2 : vars[2]? = some (some (.obj Ka))) (h6 : vars[6]? = some (some (.obj L))) :
    ∃ m2, ev prg.meths (callN prg n) vars leftE m = some (.obj m2.length, m2 ++ [.list ((leftM d answers).map eT)]) ∧ m <+: m2 := by
  have hP : lendVars vars 6 [(5, 6)] = [none, none, none, none, none, some (.obj L)] := by
    unfold lendVars
    simp only [List.foldl_cons, List.foldl_nil, h6]; rfl
  have hd : d.length ≤ 1000 := by have := hA.hn; omega
  refine comp1_ok (M := prg.meths) (Φ := callN prg n) (vars := vars) (size := 6) (lends := [(5, 6)]) (t := .v 1) (it := .var 2)
    (mem := m) (mem1 := m) (src := .obj Ka) (enc := eT) (l := answers) (inB d) eT (fun v => ∃ a b c e f, v = [a, b, c, e, f, some (.obj L)])
    (by rw [ev_var, h2]; try rfl) (iter_obj hA.l) (still_obj hA.l) ⟨_, _, _, _, _, hP⟩ ?_ (by have := hA.sz; omega)
  rintro w hw v m' ⟨a, b, c, e, f, rfl⟩ hm
  refine ⟨[a, some (eT w), c, e, f, some (.obj L)], rfl, ⟨_, _, _, _, _, rfl⟩, ?_⟩
  obtain ⟨w1, _⟩ := hA.k w hw
  have hL' := hL.pre hm
  obtain ⟨m3, k1, k2⟩ := comp1_map (M := prg.meths) (Φ := callN prg n) (vars := [a, some (eT w), c, e, f, some (.obj L)]) (size := 4) (lends := [(2, 5), (3, 1)]) (t := .v 1) (it := .callB .«range» [(.callB .«len» [(.var 5)])])
    (elt := .cmp .In (.item (.var 3) (.var 1)) (.item (.var 2) (.var 1))) (mem := m') (mem1 := m') (src := .rng 0 d.length) (enc := eN) (l := List.range d.length) (fun x => .bool (decide (valAt w x ∈ vals (dAt d x)))) (fun v => ∃ a b, v = [a, b, some (.obj L), some (eT w)])
    (by simp only [zE, hL'.len_ok, (rng_iter hd).1]) (rng_iter hd).2 (fun _ _ => rfl) ⟨_, _, rfl⟩ (by
      rintro x hx v m2 ⟨a', b', rfl⟩ hm'
      rw [List.mem_range] at hx
      obtain ⟨ad, g1, g2⟩ := (hL'.pre hm').at_d hx
      refine ⟨[a', some (eN x), some (.obj L), some (eT w)], rfl, ⟨_, _, rfl⟩, m2, ?_, List.prefix_refl _⟩
      have e1 : itemA (eT w) (.int x) m2 = some (.int (valAt w x)) := Is.tup.item (by omega) (by omega)
      have e2 : cmpA .In (.int (valAt w x)) (.obj ad) m2 = some (decide (valAt w x ∈ vals (dAt d x))) := (Is.obj g2).slice_in _
      simp only [zE, eN, e1, g1, e2]) (by rw [List.length_range]; omega)
  obtain ⟨m4, g1, g2⟩ := ev_all k1 k2
  exact ⟨m4, g1, g2, fun _ => ⟨m4, rfl, List.prefix_refl _⟩⟩

noncomputable def lenAt (m : Mem) (a : Nat) : Nat := match m[a]? with | some (.list xs) => xs.length | _ => 0
noncomputable def fixedE : LE := .callB .«all» [(.comp1 3 [] (.v 1) (.var 9) (.bool true) (.cmp .Eq (.callB .«len» [(.var 1)]) (.int 1)))]
theorem fixedE_ok {n L : Nat} {m : Mem} {d : List Mk} {as : List Nat} {vars : Vars} (hL : LL m L as (d.map vals)) (h9 : vars[9]? = some (some (.obj L))) :
    ∃ b m', ev prg.meths (callN prg n) vars fixedE m = some (.bool b, m') ∧ m <+: m' ∧ (b = true → ∀ x < d.length, (vals (dAt d x)).length = 1) := by
  have hsz := hL.sz
  have hlen := hL.len
  rw [List.length_map] at hsz hlen
  have hat : ∀ (i a : Nat), as[i]? = some a → m[a]? = some (.list ((vals (dAt d i)).map .int)) := by
    intro i a h
    have hi : i < d.length := by rw [← hlen]; rw [List.getElem?_eq_some_iff] at h; exact h.1
    refine hL.get i a _ h ?_
    unfold dAt; rw [List.getElem?_map, List.getElem?_eq_getElem hi]; rfl
  obtain ⟨m3, k1, k2⟩ := comp1_map (M := prg.meths) (Φ := callN prg n) (vars := vars) (size := 3) (lends := []) (t := .v 1) (it := .var 9)
    (elt := .cmp .Eq (.callB .«len» [(.var 1)]) (.int 1)) (mem := m) (mem1 := m) (src := .obj L) (enc := eJ) (l := as) (fun a => .bool (decide ((lenAt m a : Int) = 1))) (fun v => ∃ a b c, v = [a, b, c])
    (by rw [ev_var, h9]; try rfl) (iter_obj hL.l) (still_obj hL.l) ⟨_, _, _, rfl⟩ (by
      rintro ad had v m' ⟨a, b, c, rfl⟩ hm
      obtain ⟨i, hi⟩ := List.mem_iff_getElem?.mp had
      have g := hat i ad hi
      have e1 : lenAt m ad = (vals (dAt d i)).length := by unfold lenAt; rw [g]; simp
      have e2 : callB .len [.obj ad] m' = some (.int (lenAt m ad), m') := by
        simp only [callB, itemsA, get_pre hm g]
        rw [if_pos (sz_of (by rw [List.length_map]; have := vals_len (dAt d i); omega)), List.length_map, e1]
      refine ⟨[a, some (.obj ad), c], rfl, ⟨_, _, _, rfl⟩, m', ?_, List.prefix_refl _⟩
      simp only [zE, e2, cm_eq, cm_ne, cm_lt, cm_le, cm_gt, cm_ge, cm_is, cm_in, cm_ni, eqA_int]) (by omega)
  obtain ⟨m4, g1, g2⟩ := ev_all k1 k2
  refine ⟨_, m4, g1, g2, fun h x hx => ?_⟩
  rw [List.all_eq_true] at h
  have hx' : x < as.length := by omega
  have h1 := h as[x] (List.getElem_mem hx')
  have g := hat x as[x] (List.getElem?_eq_getElem hx')
  rw [decide_eq_true_eq] at h1
  unfold lenAt at h1
  rw [g] at h1
  simp only [List.length_map] at h1
  omega

noncomputable def duBody : List LS := [.assign (.v 11) (.comp1 4 [(2, 7), (3, 5)] (.v 1) (.item (.var 6) (.var 5)) (.cmp .In (.var 1) (.comp1 3 [(2, 3)] (.v 1) (.var 2) (.bool true) (.item (.var 1) (.var 2)))) (.var 1)),
  .ite (.or (.cmp .NotEq (.comp1 4 [(2, 9), (3, 5)] (.v 1) (.var 11) (.cmp .NotIn (.var 1) (.item (.var 2) (.var 3))) (.var 1)) (.list [])) (.and (.var 3) (.cmp .NotEq (.item (.var 9) (.var 5)) (.var 11)))) [.ret (.bool false)] []]
theorem cl_ints (l : List Int) : (l.map AV.int).all (cl 0) = true := by rw [List.all_map, List.all_eq_true]; exact fun x _ => rfl
theorem duIter {n st R Ka L1 L2 Lf x N : Nat} {pl : Bool} {m : Mem} {d d1 : List Mk} {as as1 : List Nat} {left : List (List Int)} {a4 a8 a10 a11 a12 : Option AV} (hL1 : LL m L1 as (d.map vals)) (hL2 : LL m L2 as1 (d1.map vals)) (hlf : m[Lf]? = some (.list (left.map eT))) (hN : N = d.length) (hN1 : N = d1.length) (hN3 : N ≤ 1000)
    (hlw : ∀ w ∈ left, w.length = N) (hll : left.length ≤ 1000) (hx : x < N) (q1 : (dueM d left x).filter (fun v => !decide (v ∈ vals (dAt d1 x))) = []) (q2 : pl = true → vals (dAt d1 x) = dueM d left x) :
    ∃ b m', exs prg.meths (callN prg n) duBody (vA st R Ka pl a4 (some (eN x)) (some (.obj L1)) (some (.obj Lf)) a8 (some (.obj L2)) a10 a11 a12) m = some (.next, vA st R Ka pl a4 (some (eN x)) (some (.obj L1)) (some (.obj Lf)) a8 (some (.obj L2)) a10 b a12, m') ∧ m <+: m' := by
  obtain ⟨ad, i1, i2⟩ := hL1.at_d (x := x) (by omega)
  have hvl := vals_len (dAt d x)
  obtain ⟨m2, c1, c2⟩ := comp1_ok (M := prg.meths) (Φ := callN prg n) (vars := vA st R Ka pl a4 (some (eN x)) (some (.obj L1)) (some (.obj Lf)) a8 (some (.obj L2)) a10 a11 a12) (size := 4) (lends := [(2, 7), (3, 5)]) (t := .v 1) (it := .item (.var 6) (.var 5))
    (cond := .cmp .In (.var 1) (.comp1 3 [(2, 3)] (.v 1) (.var 2) (.bool true) (.item (.var 1) (.var 2)))) (elt := .var 1)
    (mem := m) (mem1 := m) (src := .obj ad) (enc := .int) (l := vals (dAt d x)) (fun v => decide (v ∈ left.map fun w => valAt w x)) .int (fun v => ∃ a b, v = [a, b, some (.obj Lf), some (eN x)])
    (by simp only [ev_item, ev_var, vA_g0, vA_g1, vA_g2, vA_g3, vA_g4, vA_g5, vA_g6, vA_g7, vA_g8, vA_g9, vA_g10, vA_g11, vA_g12, vA_s4, vA_s5, vA_s6, vA_s7, vA_s8, vA_s9, vA_s10, vA_s11, vA_s12, Option.bind_some, eN, i1]) (iter_obj i2) (still_obj i2) ⟨_, _, rfl⟩ (by
      rintro k hk v m' ⟨a, b, rfl⟩ hm
      obtain ⟨m3, k1, k2⟩ := comp1_map (M := prg.meths) (Φ := callN prg n) (vars := [a, some (.int k), some (.obj Lf), some (eN x)]) (size := 3) (lends := [(2, 3)]) (t := .v 1) (it := .var 2) (elt := .item (.var 1) (.var 2))
        (mem := m') (mem1 := m') (src := .obj Lf) (enc := eT) (l := left) (fun w => .int (valAt w x)) (fun v => ∃ a b, v = [a, b, some (eN x)]) rfl (iter_obj (get_pre hm hlf)) (still_obj (get_pre hm hlf)) ⟨_, _, rfl⟩ (by
          rintro w hw v m'' ⟨a', b', rfl⟩ hm'
          refine ⟨[a', some (eT w), some (eN x)], rfl, ⟨_, _, rfl⟩, m'', ?_, List.prefix_refl _⟩
          have := hlw w hw
          have e1 : itemA (eT w) (.int x) m'' = some (.int (valAt w x)) := Is.tup.item (by omega) (by omega)
          simp only [zE, eN, e1]) (by omega)
      refine ⟨[a, some (.int k), some (.obj Lf), some (eN x)], rfl, ⟨_, _, rfl⟩, m3 ++ [.list (left.map fun w => .int (valAt w x))], ?_, pre_app k2 _, fun _ => ⟨_, rfl, List.prefix_refl _⟩⟩
      have e2 : cmpA .In (.int k) (.obj m3.length) (m3 ++ [.list (left.map fun w => .int (valAt w x))]) = some (decide (k ∈ left.map fun w => valAt w x)) :=
        (Is.obj (l := left.map fun w => valAt w x) (by rw [List.map_map]; exact get_new)).slice_in k
      simp only [ev_cmp, ev_var, List.getElem?_cons_zero, List.getElem?_cons_succ, Option.bind_some, k1, e2]) (by omega)
  have hdue : (vals (dAt d x)).filter (fun v => decide (v ∈ left.map fun w => valAt w x)) = dueM d left x := rfl
  rw [hdue] at c1
  have hdl : (dueM d left x).length ≤ 3 := by
    unfold dueM
    have := List.length_filter_le (fun v => decide (v ∈ left.map fun w => valAt w x)) (vals (dAt d x))
    omega
  have P2 : m <+: m2 ++ [MObj.list ((dueM d left x).map AV.int)] := pre_app c2 _
  have hL2' := hL2.pre P2
  obtain ⟨m3, f1, f2⟩ := comp1_ok (M := prg.meths) (Φ := callN prg n) (vars := vA st R Ka pl a4 (some (eN x)) (some (.obj L1)) (some (.obj Lf)) a8 (some (.obj L2)) a10 (some (.obj m2.length)) a12) (size := 4) (lends := [(2, 9), (3, 5)]) (t := .v 1) (it := .var 11)
    (cond := .cmp .NotIn (.var 1) (.item (.var 2) (.var 3))) (elt := .var 1)
    (mem := m2 ++ [.list ((dueM d left x).map .int)]) (mem1 := m2 ++ [.list ((dueM d left x).map .int)]) (src := .obj m2.length) (enc := .int) (l := dueM d left x) (fun v => !decide (v ∈ vals (dAt d1 x))) .int (fun v => ∃ a b, v = [a, b, some (.obj L2), some (eN x)])
    rfl (iter_obj get_new) (still_obj get_new) ⟨_, _, rfl⟩ (by
      rintro k hk v m' ⟨a, b, rfl⟩ hm
      obtain ⟨ad2, j1, j2⟩ := (hL2'.pre hm).at_d (x := x) (by omega)
      refine ⟨[a, some (.int k), some (.obj L2), some (eN x)], rfl, ⟨_, _, rfl⟩, m', ?_, List.prefix_refl _, fun _ => ⟨_, rfl, List.prefix_refl _⟩⟩
      have e2 : cmpA .NotIn (.int k) (.obj ad2) m' = some (!decide (k ∈ vals (dAt d1 x))) := (Is.obj j2).slice_notin k
      simp only [ev_cmp, ev_item, ev_var, List.getElem?_cons_zero, List.getElem?_cons_succ, Option.bind_some, eN, j1, e2]) (by omega)
  rw [q1] at f1
  have P3 : m <+: m3 ++ [MObj.list (([] : List Int).map AV.int)] ++ [MObj.list []] := ((P2.trans f2).trans (List.prefix_append _ _)).trans (List.prefix_append _ _)
  have e3 : eqA (m3 ++ [MObj.list (([] : List Int).map AV.int)] ++ [.list []]) (.obj m3.length) (.obj (m3 ++ [MObj.list (([] : List Int).map AV.int)]).length) = some true := by
    rw [eqA_list 0 (by decide) (xs := ([] : List Int).map AV.int) (ys := []) (get_pre (List.prefix_append _ _) get_new) get_new rfl rfl]; rfl
  obtain ⟨ad3, j3, j4⟩ := (hL2.pre P3).at_d (x := x) (by omega)
  have hdu : (m3 ++ [MObj.list (([] : List Int).map AV.int)] ++ [MObj.list []])[m2.length]? = some (.list ((dueM d left x).map .int)) := by
    refine get_pre ?_ (get_new (mem := m2) (o := .list ((dueM d left x).map .int)))
    exact (f2.trans (List.prefix_append _ _)).trans (List.prefix_append _ _)
  refine ⟨some (.obj m2.length), m3 ++ [.list (([] : List Int).map AV.int)] ++ [.list []], ?_, P3⟩
  unfold duBody
  rw [exs_cons, ex_assign, c1]
  simp only [Option.bind_some, as_v, vA_g0, vA_g1, vA_g2, vA_g3, vA_g4, vA_g5, vA_g6, vA_g7, vA_g8, vA_g9, vA_g10, vA_g11, vA_g12, vA_s4, vA_s5, vA_s6, vA_s7, vA_s8, vA_s9, vA_s10, vA_s11, vA_s12]
  rw [exs_cons, ex_ite, ev_or, ev_cmp, f1]
  simp only [Option.bind_some, ev_list, evs_nil, cm_eq, cm_ne, cm_lt, cm_le, cm_gt, cm_ge, cm_is, cm_in, cm_ni, e3, Option.map_some, Bool.not_true, Bool.false_eq_true, if_false, ev_and, ev_var, vA_g0, vA_g1, vA_g2, vA_g3, vA_g4, vA_g5, vA_g6, vA_g7, vA_g8, vA_g9, vA_g10, vA_g11, vA_g12, vA_s4, vA_s5, vA_s6, vA_s7, vA_s8, vA_s9, vA_s10, vA_s11, vA_s12]
  cases pl with
  | false => simp only [Bool.false_eq_true, if_false, Option.bind_some, exs_nil]
  | true =>
    have e4 : cmpA .NotEq (.obj ad3) (.obj m2.length) (m3 ++ [MObj.list (([] : List Int).map AV.int)] ++ [.list []]) = some false := by
      simp only [cmpA]
      rw [eqA_list 0 (by decide) j4 hdu (cl_ints _) (cl_ints _), q2 rfl, decide_eq_true rfl]; rfl
    simp only [if_true, ev_cmp, ev_item, ev_var, vA_g0, vA_g1, vA_g2, vA_g3, vA_g4, vA_g5, vA_g6, vA_g7, vA_g8, vA_g9, vA_g10, vA_g11, vA_g12, vA_s4, vA_s5, vA_s6, vA_s7, vA_s8, vA_s9, vA_s10, vA_s11, vA_s12, Option.bind_some, eN, j3, e4, Bool.false_eq_true, if_false, exs_nil]
theorem duLoop {n st R Ka L1 L2 Lf N : Nat} {pl : Bool} {d d1 : List Mk} {as as1 : List Nat} {left : List (List Int)} {a4 a8 a10 a12 src : Option AV} {all : List AV} {Nn : Int} (hN : N = d.length) (hN1 : N = d1.length) (hN3 : N ≤ 1000)
    (hlw : ∀ w ∈ left, w.length = N) (hll : left.length ≤ 1000) (q1 : ∀ x < N, (dueM d left x).filter (fun v => !decide (v ∈ vals (dAt d1 x))) = []) (q2 : ∀ x < N, pl = true → vals (dAt d1 x) = dueM d left x) :
    ∀ (r k : Nat) {m : Mem} {a5 a11 : Option AV}, LL m L1 as (d.map vals) → LL m L2 as1 (d1.map vals) → m[Lf]? = some (.list (left.map eT)) → k + r ≤ N →
    ∃ b5 b11 m', forLoop (.rng 0 Nn) all (.v 5) (exs prg.meths (callN prg n) duBody) ((List.range' k r).map eN) (vA st R Ka pl a4 a5 (some (.obj L1)) (some (.obj Lf)) a8 (some (.obj L2)) a10 a11 a12) m =
      some (.next, vA st R Ka pl a4 b5 (some (.obj L1)) (some (.obj Lf)) a8 (some (.obj L2)) a10 b11 a12, m') ∧ m <+: m' := by
  intro r
  induction r with
  | zero =>
    intro k m a5 a11 h1 h2 h3 hk
    exact ⟨a5, a11, m, rfl, List.prefix_refl _⟩
  | succ r ih =>
    intro k m a5 a11 h1 h2 h3 hk
    obtain ⟨b, m', e1, e2⟩ := duIter (n := n) (st := st) (R := R) (Ka := Ka) (pl := pl) (a4 := a4) (a8 := a8) (a10 := a10) (a11 := a11) (a12 := a12) (x := k) h1 h2 h3 hN hN1 hN3 hlw hll (by omega) (q1 k (by omega)) (q2 k (by omega))
    rw [List.range'_succ, List.map_cons, for_cons rfl e1 rfl]
    obtain ⟨b5, b11, m2, k1, k2⟩ := ih (k + 1) (h1.pre e2) (h2.pre e2) (get_pre e2 h3) (by omega)
    exact ⟨b5, b11, m2, k1, e2.trans k2⟩
end Mine
end

section
open PySem
set_option maxRecDepth 100000
set_option linter.unusedVariables false
set_option linter.unusedSimpArgs false
set_option autoImplicit false
namespace Mine

structure Stp (σ τ : Sg) : Prop where
  undo : ∃ es, τ.trail = σ.trail ++ es ∧ Undo σ.doms es τ.doms
  nz : NZ τ.doms
  sub : Sub τ.doms σ.doms
  sp : τ.speaker = σ.speaker
  fi : τ.firsts = σ.firsts
  mr : τ.marks = σ.marks
  lt : τ.trail.length ≤ σ.trail.length + 12
  ln : τ.news ≤ σ.news + 12
theorem cl_tups (l : List (List Int)) : (l.map eT).all (cl 1) = true := by
  rw [List.all_map, List.all_eq_true]
  exact fun w _ => cl_ints w
theorem asked_ok {A : Ad} {σ : Sg} {m : Mem} {n R Rd Ka : Nat} {s t : Int} {sc : List Nat} {answers : List (List Int)} {plain : Bool} (hR : ¬ A.own R) (hRd : ¬ A.own Rd) (hKa : ¬ A.own Ka) (S : St A m σ) (U : Ru R Rd m s t sc)
    (Q : Ask s t sc σ answers plain) (hA : Ans m Ka σ.doms.length (KK σ.doms.length s t sc) answers) (hf : σ.failed = false) (ht : σ.trail.length ≤ 400) (hw : σ.news ≤ 400) :
    W (callN prg (n + 8) 420 [.obj A.st, .obj R, .obj Ka, .bool plain] m) fun z => z.1 = .bool true ∧ ∃ τ, St A z.2 τ ∧ Only A.own m z.2 ∧ Stp σ τ := by
  obtain ⟨es, t1, t2, t3, t4⟩ := pass_law (s := s) (t := t) (sc := sc) (σ := σ) (by have := Q.sl; omega) Q.sp Q.nz Q.x
  obtain ⟨l1, l2, l3, l4, l5, l6⟩ := pass_len s t sc σ
  have hsl := Q.sl
  have hStp : Stp σ (passM s t sc σ).2 := ⟨⟨es, t1, t2.undo⟩, t2.nz Q.nz, t2.sub, l4, l5, l6, by omega, by omega⟩
  refine call_raw f420 (vars := vA A.st R Ka plain none none none none none none none none none) rfl ?_
  obtain ⟨m1, L1, as1, k1, k2, k3, k4, k5⟩ := lots_ok (n := n + 6) (vars := vA A.st R Ka plain (some (.int σ.trail.length)) none none none none none none none none) S rfl
  obtain ⟨m2, j1, j2⟩ := left_ok (n := n + 7) (vars := vA A.st R Ka plain (some (.int σ.trail.length)) none (some (.obj L1)) none none none none none none) (hA.pre k2) k4 rfl rfl rfl
  have P2 : m <+: m2 ++ [MObj.list ((leftM σ.doms answers).map eT)] := (k2.trans j2).trans (List.prefix_append _ _)
  have hlf : ¬ A.own m2.length := S.new (k2.trans j2).length_le
  obtain ⟨⟨a, m3⟩, p1, p2, S3, O3, U3⟩ := propagate_ok (n := n) hR hRd (S.pre P2) (U.pre P2) Q.x (by omega) (by omega) (fun h => (t4 h).2.1) (by rw [t1, List.length_append]; omega)
  dsimp only at p2 S3 O3 U3
  subst p2
  have e8 : ev prg.meths (callN prg (n + 7)) (vA A.st R Ka plain (some (.int σ.trail.length)) none (some (.obj L1)) (some (.obj m2.length)) none none none none none) (.meth (.var 1) .«propagate» [(.var 0)]) (m2 ++ [.list ((leftM σ.doms answers).map eT)]) = some (.bool (passM s t sc σ).1, m3) := by
    rw [(U.pre P2).call (f := 327) rfl rfl rfl]
    simp only [evs_cons, evs_nil, ev_var, vA_g0, Option.bind_some]
    exact p1
  obtain ⟨m4, L2, as2, g1, g2, g3, g4, g5⟩ := lots_ok (n := n + 6) (vars := vA A.st R Ka plain (some (.int σ.trail.length)) none (some (.obj L1)) (some (.obj m2.length)) (some (.bool (passM s t sc σ).1)) none none none none) S3 rfl
  have hLo : LL m4 L1 as1 (σ.doms.map vals) := ((k4.pre (j2.trans (List.prefix_append _ _))).only O3 (S.new k3) (fun a ha => S.new (k5 a ha).1)).pre g2
  have hle : (m4[m2.length]?) = some (.list ((leftM σ.doms answers).map eT)) := get_pre g2 (O3.get get_new hlf)
  have hA4 := ((hA.pre P2).only O3 hKa).pre g2
  have S4 := S3.pre g2
  have U4 := U3.pre g2
  have O4 : Only A.own m m4 := (Only.of_pre P2).trans (O3.trans (Only.of_pre g2))
  have e9 : callN prg (n + 7) 415 [.obj A.st, .int σ.trail.length, .obj Ka] m4 = some (.bool true, m4) := said_ok (n := n + 3) S4 t1 t2 hA4 rfl
  obtain ⟨b, m5, f1, f2, f3⟩ := fixedE_ok (n := n + 7) (vars := vA A.st R Ka plain (some (.int σ.trail.length)) none (some (.obj L1)) (some (.obj m2.length)) (some (.bool (passM s t sc σ).1)) (some (.obj L2)) none none none) g4 rfl
  have S5 := S4.pre f2
  have U5 := U4.pre f2
  have hA5 := hA4.pre f2
  have hL15 := hLo.pre f2
  have hL25 := g4.pre f2
  have hle5 := get_pre f2 hle
  have O5 : Only A.own m m5 := O4.trans (Only.of_pre f2)
  have P6 := List.prefix_append m5 [MObj.list []]
  have eleft : eqA (m5 ++ [.list []]) (.obj m2.length) (.obj m5.length) = some (decide ((leftM σ.doms answers).map eT = [])) :=
    eqA_list 1 (by decide) (get_pre P6 hle5) get_new (cl_tups _) rfl
  unfold lotsE at k1 g1
  unfold leftE at j1
  unfold fixedE at f1
  rw [b420, exs_cons, ex_assign]
  simp only [ev_callB, evs_cons, evs_nil, ev_attr, ev_var, vA_g0, Option.bind_some, S.a_tr, S.len_tr, as_v, vA_s4]
  rw [exs_cons, ex_assign, k1]
  simp only [Option.bind_some, as_v, vA_s6]
  rw [exs_cons, ex_assign, j1]
  simp only [Option.bind_some, as_v, vA_s7]
  rw [exs_cons, ex_assign, e8]
  simp only [Option.bind_some, as_v, vA_s8]
  rw [exs_cons, ex_assign, g1]
  simp only [Option.bind_some, as_v, vA_s9]
  rw [exs_cons, ex_ite]
  simp only [ev_not, ev_callF, evs_cons, evs_nil, ev_var, vA_g0, vA_g4, vA_g2, Option.bind_some, e9, Bool.not_true, Bool.false_eq_true, if_false, exs_nil]
  rw [exs_cons, ex_assign, f1]
  simp only [Option.bind_some, as_v, vA_s10]
  rw [exs_cons, ex_ite]
  simp only [ev_not, ev_var, vA_g8, Option.bind_some]
  cases hok : (passM s t sc σ).1 with
  | false =>
    have B := t3 hok
    have hnil := Q.left_nil t2 rfl B
    have S6 := S5.pre P6
    have h1 : callN prg (n + 7) 398 [eR (passM s t sc σ).2.clash, .obj L2] (m5 ++ [.list []]) = some (.bool true, m5 ++ [.list []]) := by
      rw [holds_ok (n := n + 5) (hL25.pre P6) (by have := B.len; omega) (fun l hl => by rw [List.length_map]; exact (B.holds l hl).1), holdsM_of B.holds]
    have h2 : callN prg (n + 7) 403 [eR (passM s t sc σ).2.clash, .obj Ka] (m5 ++ [.list []]) = some (.bool true, m5 ++ [.list []]) := by
      have hA6 := hA5.pre P6
      rw [barred_ok (n := n + 5) (rs := (passM s t sc σ).2.clash) Ls.tup hA6.l (by have := B.len; omega) hA6.sz (fun w hw => by
        have hk := (hA6.k w hw).1
        refine ⟨by have := hA6.hn; omega, fun l hl => ?_⟩
        rw [hk, ← l1]
        exact (B.holds l hl).1), barredM_of hA6.k B.barred]
    rw [hnil] at eleft
    simp only [List.map_nil, decide_true] at eleft
    simp only [Bool.not_false, if_true, exs_cons, ex_ret, ev_and, ev_cmp, ev_list, evs_nil, evs_cons, ev_attr, ev_callF, ev_var, vA_g7, vA_g0, vA_g9, vA_g2, Option.bind_some, cm_eq, cm_ne, cm_lt, cm_le, cm_gt, cm_ge, cm_is, cm_in, cm_ni, eleft, S6.a_if, B.failed, S6.a_cl, h1, h2]
    refine W_some (.inr ?_)
    exact ⟨_, rfl, rfl, _, S6, O5.trans (Only.of_pre P6), hStp⟩
  | true =>
    obtain ⟨k6, k7, F⟩ := t4 hok
    simp only [Bool.not_true, Bool.false_eq_true, if_false, Option.bind_some, exs_nil]
    have S6 := S5.pre P6
    have a_if : attrA prg.meths (.obj A.st) .isFailed m5 = some (.bool false) := by
      have := S5.a_if
      rw [k6, hf] at this; exact this
    have hcond : decide ((leftM σ.doms answers).map eT = []) = true → plain = false ∧ b = false := by
      intro h
      rw [decide_eq_true_eq, List.map_eq_nil_iff] at h
      constructor
      · cases hp : plain with
        | false => rfl
        | true => exact absurd h (Q.left_some t2 F (.inl hp))
      · cases hb : b with
        | false => rfl
        | true => exact absurd h (Q.left_some t2 F (.inr fun x hx => f3 hb x (by rw [l1]; exact hx)))
    have hc : ev prg.meths (callN prg (n + 7)) (vA A.st R Ka plain (some (.int σ.trail.length)) none (some (.obj L1)) (some (.obj m2.length)) (some (.bool true)) (some (.obj L2)) (some (.bool b)) none none)
        (.or (.attr (.var 0) .«isFailed») (.and (.cmp .Eq (.var 7) (.list [])) (.or (.var 3) (.var 10)))) m5 = some (.bool false, m5 ++ [.list []]) := by
      simp only [ev_or, ev_and, ev_attr, ev_cmp, ev_list, evs_nil, ev_var, vA_g0, vA_g7, vA_g3, vA_g10, Option.bind_some, a_if, Bool.false_eq_true, if_false, cm_eq, cm_ne, cm_lt, cm_le, cm_gt, cm_ge, cm_is, cm_in, cm_ni, eleft]
      cases hl : decide ((leftM σ.doms answers).map eT = []) with
      | false => simp only [Bool.false_eq_true, if_false]
      | true =>
        obtain ⟨h1, h2⟩ := hcond hl
        simp only [h1, h2, if_true, Bool.false_eq_true, if_false]
    rw [exs_cons, ex_ite, hc]
    simp only [Option.bind_some, Bool.false_eq_true, if_false, exs_nil]
    have hlen2 := (hL25.pre P6).len_ok
    have hN := hA.hn
    obtain ⟨r1, r2⟩ := rng_iter (m := m5 ++ [.list []]) (n := (passM s t sc σ).2.doms.length) (by rw [l1]; exact hN)
    have elen : ev prg.meths (callN prg (n + 7)) (vA A.st R Ka plain (some (.int σ.trail.length)) none (some (.obj L1)) (some (.obj m2.length)) (some (.bool true)) (some (.obj L2)) (some (.bool b)) none none)
        (.callB .«range» [(.callB .«len» [(.var 9)])]) (m5 ++ [.list []]) = some (.rng 0 (passM s t sc σ).2.doms.length, m5 ++ [.list []]) := by
      simp only [ev_callB, evs_cons, evs_nil, ev_var, vA_g9, Option.bind_some, hlen2, r1]
    rw [exs_cons, ex_for elen r2 rfl]
    have ekd : kindItems 0 ((List.range (passM s t sc σ).2.doms.length).map eN) = (List.range' 0 (passM s t sc σ).2.doms.length).map eN := by rw [List.range_eq_range']; rfl
    rw [ekd]
    obtain ⟨b5, b11, m7, d1, d2⟩ := duLoop (n := n + 7) (st := A.st) (R := R) (Ka := Ka) (L1 := L1) (L2 := L2) (Lf := m2.length) (N := σ.doms.length) (pl := plain) (d := σ.doms) (d1 := (passM s t sc σ).2.doms) (as := as1) (as1 := as2) (left := leftM σ.doms answers) (a4 := some (.int σ.trail.length)) (a8 := some (.bool true)) (a10 := some (.bool b)) (a12 := none) (src := none)
      (all := (List.range (passM s t sc σ).2.doms.length).map eN) (Nn := (passM s t sc σ).2.doms.length) rfl l1.symm hN (fun w hw => (Q.left_iff.mp hw).1.1) (by
        unfold leftM
        have := List.length_filter_le (inB σ.doms) answers
        have := hA.sz; omega) (fun x hx => Q.due t2 hx) (fun x hx hp => Q.due_eq t2 F hp hx) (passM s t sc σ).2.doms.length 0 (a5 := none) (a11 := none) (hL15.pre P6) (hL25.pre P6) (get_pre P6 hle5) (by rw [l1]; omega)
    unfold duBody at d1
    rw [d1]
    have S7 := S6.pre d2
    have U7 := (U5.pre P6).pre d2
    simp only [Option.bind_some]
    rw [exs_cons, ex_assign]
    simp only [ev_callB, evs_cons, evs_nil, ev_attr, ev_var, vA_g0, Option.bind_some, S7.a_tr, S7.len_tr, as_v, vA_s12]
    obtain ⟨⟨a, m8⟩, p3, p4, S8, O8, U8⟩ := propagate_ok (n := n) hR hRd S7 U7 (fun x hx => by rw [l1]; exact Q.x x hx) (by omega) (by omega) (fun h => by rw [k7]; exact k7) (by rw [k7]; exact Nat.le_refl _)
    dsimp only at p4 S8 O8 U8
    subst p4
    rw [k7] at p3 S8
    rw [exs_cons, ex_ret, ev_and, U7.call (f := 327) (by simp only [ev_var, vA_g1, Option.bind_some]) rfl rfl]
    simp only [evs_cons, evs_nil, ev_var, vA_g0, vA_g12, Option.bind_some, p3, if_true, ev_cmp, ev_callB, ev_attr, S8.a_tr, S8.len_tr, cm_eq, cm_ne, cm_lt, cm_le, cm_gt, cm_ge, cm_is, cm_in, cm_ni, eqA_int, decide_true]
    refine W_some (.inr ?_)
    exact ⟨_, rfl, rfl, _, S8, (O5.trans (Only.of_pre P6)).trans ((Only.of_pre d2).trans O8), hStp⟩
end Mine
end

section
open PySem
set_option maxRecDepth 100000
set_option linter.unusedVariables false
set_option linter.unusedSimpArgs false
set_option autoImplicit false
namespace Mine

noncomputable def InT : List (List Int) → List Int → Prop
  | [], [] => True
  | l :: ls, v :: u => v ∈ l ∧ InT ls u
  | _, _ => False
theorem InT_cons {l : List Int} {ls : List (List Int)} {v : Int} {u : List Int} : InT (l :: ls) (v :: u) = (v ∈ l ∧ InT ls u) := rfl
theorem mem_fold : ∀ (lots : List (List Int)) {found : List (List Int)} {w : List Int}, w ∈ lots.foldl tupStep found ↔ ∃ w0 ∈ found, ∃ u, InT lots u ∧ w = w0 ++ u := by
  intro lots
  induction lots with
  | nil =>
    intro found w
    constructor
    · intro h; exact ⟨w, h, [], trivial, by simp⟩
    · rintro ⟨w0, h, u, hu, rfl⟩
      cases u with
      | nil => simpa using h
      | cons => exact hu.elim
  | cons l lots ih =>
    intro found w
    rw [List.foldl_cons, ih]
    unfold tupStep
    constructor
    · rintro ⟨w1, h, u, hu, rfl⟩
      rw [List.mem_flatMap] at h
      obtain ⟨w0, h0, h1⟩ := h
      rw [List.mem_map] at h1
      obtain ⟨v, hv, rfl⟩ := h1
      exact ⟨w0, h0, v :: u, ⟨hv, hu⟩, by simp⟩
    · rintro ⟨w0, h0, u, hu, rfl⟩
      cases u with
      | nil => exact hu.elim
      | cons v u =>
        refine ⟨w0 ++ [v], ?_, u, hu.2, by simp⟩
        rw [List.mem_flatMap]
        exact ⟨w0, h0, List.mem_map.mpr ⟨v, hu.1, rfl⟩⟩
theorem mem_tuples {lots : List (List Int)} {w : List Int} : w ∈ tuplesM lots ↔ InT lots w := by
  unfold tuplesM
  rw [mem_fold]
  constructor
  · rintro ⟨w0, h, u, hu, rfl⟩
    simp only [List.mem_cons, List.not_mem_nil, or_false] at h
    subst h; simpa using hu
  · intro h; exact ⟨[], by simp, w, h, by simp⟩
theorem inT_box : ∀ {d : List Mk} {w : List Int}, InT (d.map vals) w ↔ inBox d w
  | [], [] => ⟨fun _ => ⟨rfl, fun x hx => by simp at hx⟩, fun _ => trivial⟩
  | [], _ :: _ => ⟨fun h => h.elim, fun h => by have := h.1; simp at this⟩
  | _ :: _, [] => ⟨fun h => h.elim, fun h => by have := h.1; simp at this⟩
  | m :: d, v :: w => by
    rw [List.map_cons, InT_cons, inT_box, mem_vals]
    constructor
    · rintro ⟨h1, h2⟩
      refine ⟨by rw [List.length_cons, List.length_cons, h2.1], fun x hx => ?_⟩
      cases x with
      | zero => exact h1
      | succ x => exact h2.2 x (by rw [List.length_cons] at hx; omega)
    · intro h
      refine ⟨h.2 0 (by rw [List.length_cons]; omega), ?_, fun x hx => ?_⟩
      · have := h.1; simpa using this
      · exact h.2 (x + 1) (by rw [List.length_cons]; omega)
theorem inT_len : ∀ {lots : List (List Int)} {w : List Int}, InT lots w → w.length = lots.length
  | [], [], _ => rfl
  | [], _ :: _, h => h.elim
  | _ :: _, [], h => h.elim
  | _ :: _, _ :: _, h => by rw [List.length_cons, List.length_cons, inT_len h.2]
theorem tuples_size : ∀ (lots : List (List Int)) (found : List (List Int)), (∀ l ∈ lots, l.length ≤ 3) → (lots.foldl tupStep found).length ≤ found.length * 3 ^ lots.length := by
  intro lots
  induction lots with
  | nil =>
    intro found h
    simp
  | cons l lots ih =>
    intro found h
    rw [List.foldl_cons, List.length_cons, Nat.pow_succ]
    refine Nat.le_trans (ih _ fun k hk => h k (List.mem_cons_of_mem _ hk)) ?_
    rw [tupStep_len, Nat.mul_assoc]
    refine Nat.mul_le_mul_left _ ?_
    rw [Nat.mul_comm (3 ^ lots.length)]
    exact Nat.mul_le_mul_right _ (h l List.mem_cons_self)

noncomputable def ckBody : List LS := [.ite (.cmp .NotEq (.meth (.var 0) .«check» [(.var 5)]) (.callF 388 [(.var 1), (.var 2), (.var 5)])) [.ret (.bool false)] []]
theorem ckLoop {n R Rd K : Nat} {s t : Int} {sc : List Nat} {m : Mem} {all : List AV} (U : Ru R Rd m s t sc) (hK : m[K]? = some (.list all)) {v3 v4 v6 v7 v8 : Option AV} : ∀ (l : List (List Int)) {v5 : Option AV}, (∀ w ∈ l, w.length ≤ 1000) →
    ∃ b5, forLoop (.obj K) all (.v 5) (exs prg.meths (callN prg (n + 1)) ckBody) (l.map eT) [some (.obj R), some (.int s), some (.int t), v3, v4, v5, v6, v7, v8] m = some (.next, [some (.obj R), some (.int s), some (.int t), v3, v4, b5, v6, v7, v8], m) := by
  intro l
  induction l with
  | nil =>
    intro v5 h
    exact ⟨v5, rfl⟩
  | cons w l ih =>
    intro v5 h
    have hw := h w List.mem_cons_self
    have e1 : ev prg.meths (callN prg (n + 1)) [some (.obj R), some (.int s), some (.int t), v3, v4, some (eT w), v6, v7, v8] (.meth (.var 0) .«check» [(.var 5)]) m = some (.bool (keepsM s t w), m) := by
      rw [U.call (f := 348) rfl rfl rfl]
      simp only [zE]
      rw [check_ok (n := n) U hw, checkM_eq]
    have e2 : callN prg (n + 1) 388 [.int s, .int t, eT w] m = some (.bool (keepsM s t w), m) := keeps_ok (n := n) .tup hw
    rw [List.map_cons, for_cons (v1 := [some (.obj R), some (.int s), some (.int t), v3, v4, some (eT w), v6, v7, v8]) (v2 := [some (.obj R), some (.int s), some (.int t), v3, v4, some (eT w), v6, v7, v8]) (m2 := m) rfl (by
      simp only [ckBody, exs_cons, ex_ite, ev_cmp, e1, ev_callF, evs_cons, evs_nil, ev_var, List.getElem?_cons_zero, List.getElem?_cons_succ, Option.bind_some, e2, cm_eq, cm_ne, cm_lt, cm_le, cm_gt, cm_ge, cm_is, cm_in, cm_ni, eqA_bool, BEq.rfl, Option.map_some, Bool.not_true, Bool.false_eq_true, if_false, exs_nil]) (by simp only [stillA, hK, decide_true])]
    exact ih (fun k hk => h k (List.mem_cons_of_mem _ hk))
theorem str_prec : PyData.strOk "precede" = true := by decide +kernel
theorem checkRight_ok {n R Rd L Sc : Nat} {s t : Int} {sc : List Nat} {m : Mem} {as : List Nat} {d : List Mk} (U : Ru R Rd m s t sc) (hL : LL m L as (d.map vals)) (hS : m[Sc]? = some (.list (sc.map eN))) (hl : sc.length ≤ 4) (hx : ∀ y ∈ sc, y < d.length) :
    callN prg (n + 2) 425 [.obj R, .int s, .int t, .obj L, .obj Sc] m = some (.bool true, m) := by
  refine call_pure f425 _ rfl rfl ?_
  obtain ⟨m2, k1, k2⟩ := comp1_map (M := prg.meths) (Φ := callN prg (n + 1)) (vars := [some (.obj R), some (.int s), some (.int t), some (.obj L), some (.obj Sc), none, none, none, none]) (size := 3) (lends := [(2, 3)]) (t := .v 1) (it := .var 4)
    (elt := .item (.var 2) (.var 1)) (mem := m) (mem1 := m) (src := .obj Sc) (enc := eN) (l := sc) (fun x => eJ ((as[x]?).getD 0)) (fun v => ∃ a b, v = [a, b, some (.obj L)])
    rfl (iter_obj hS) (still_obj hS) ⟨_, _, rfl⟩ (by
      rintro x hx' v m' ⟨a, b, rfl⟩ hm
      refine ⟨[a, some (eN x), some (.obj L)], rfl, ⟨_, _, rfl⟩, m', ?_, List.prefix_refl _⟩
      have hxd := hx x hx'
      have e : (d.map vals)[x]? = some (vals (dAt d x)) := by
        unfold dAt; rw [List.getElem?_map, List.getElem?_eq_getElem hxd]; rfl
      obtain ⟨ad, g1, g2, _⟩ := (hL.pre hm).at e
      simp only [zE, eN, g1, g2, Option.getD_some, eJ]) (by omega)
  have P2 : m <+: m2 ++ [MObj.list (sc.map fun x => eJ ((as[x]?).getD 0))] := pre_app k2 _
  have hLL : LL (m2 ++ [MObj.list (sc.map fun x => eJ ((as[x]?).getD 0))]) m2.length (sc.map fun x => (as[x]?).getD 0) (sc.map fun x => vals (dAt d x)) := by
    refine ⟨?_, by simp, ?_, by rw [List.length_map]; omega, ?_⟩
    · rw [List.map_map]; exact get_new
    · intro i a vs h1 h2
      rw [List.getElem?_map] at h1 h2
      cases hi : sc[i]? with
      | none => rw [hi] at h1; cases h1
      | some x =>
        rw [hi] at h1 h2
        cases h1; cases h2
        have hxd := hx x (List.mem_of_getElem? hi)
        have e : (d.map vals)[x]? = some (vals (dAt d x)) := by
          unfold dAt; rw [List.getElem?_map, List.getElem?_eq_getElem hxd]; rfl
        obtain ⟨ad, _, g2, g3⟩ := (hL.pre P2).at e
        simp only [g2, Option.getD_some]; exact g3
    · intro vs hv
      obtain ⟨x, _, rfl⟩ := List.mem_map.mp hv
      have := vals_len (dAt d x); omega
  have h3 : ∀ vs ∈ (sc.map fun x => vals (dAt d x)), vs.length ≤ 3 := by
    intro vs hv
    obtain ⟨x, _, rfl⟩ := List.mem_map.mp hv
    exact vals_len _
  have e2 := tuples_ok (n := n) hLL (by rw [List.length_map]; exact hl) h3
  generalize hm3 : m2 ++ [MObj.list (sc.map fun x => eJ ((as[x]?).getD 0))] = m3 at P2 hLL e2 k1
  have P4 : m <+: m3 ++ [MObj.list ((tuplesM (sc.map fun x => vals (dAt d x))).map eT)] := pre_app P2 _
  have U4 := U.pre P4
  obtain ⟨b5, e3⟩ := ckLoop (n := n) (v3 := some (.obj L)) (v4 := some (.obj Sc)) (v6 := none) (v7 := none) (v8 := none) U4 (get_new (mem := m3) (o := .list ((tuplesM (sc.map fun x => vals (dAt d x))).map eT))) (tuplesM (sc.map fun x => vals (dAt d x))) (v5 := none) (by
    intro w hw
    rw [mem_tuples] at hw
    rw [inT_len hw, List.length_map]; omega)
  rw [b425]
  simp only [List.replicate, List.set_cons_zero, List.set_cons_succ]
  rw [exs_cons, ex_for (src := .obj m3.length) (m1 := m3 ++ [.list ((tuplesM (sc.map fun x => vals (dAt d x))).map eT)]) (xs := (tuplesM (sc.map fun x => vals (dAt d x))).map eT) (by
    rw [ev_callF, evs_cons, k1]
    simp only [Option.bind_some, evs_nil]
    exact e2) (iter_obj get_new) rfl]
  unfold ckBody at e3
  refine W_bind ⟨_, e3, ?_⟩
  generalize m3 ++ [MObj.list ((tuplesM (sc.map fun x => vals (dAt d x))).map eT)] = m4 at P4 U4
  have hS4 := get_pre P4 hS
  have e4 : callB .tuple [.obj Sc] m4 = some (.tup (sc.map eN), m4) := by
    simp only [callB, itemsA, hS4]
    rw [if_pos (sz_of (by rw [List.length_map]; omega))]
  have hcn : (sc.map eN).all (cl 1) = true := by rw [List.all_map, List.all_eq_true]; exact fun x _ => rfl
  have hc1 : cl 2 (.tup (sc.map eN)) = true := hcn
  have hc2 : cl 3 (tellA s t sc) = true := by
    show ([AV.str "precede", .int s, .int t, .tup (sc.map eN)] : List AV).all (cl 2) = true
    simp only [List.all_cons, List.all_nil, hc1, Bool.and_true]
    show (cl 2 (.str "precede") && (true && true)) = true
    rw [show cl 2 (.str "precede") = PyData.strOk "precede" from rfl, str_prec]; rfl
  have e5 : eqA m4 (tellA s t sc) (tellA s t sc) = some true := by rw [eqA_cl 3 (by decide) hc2 hc2, decide_eq_true rfl]
  have e6 : eqA m4 (.tup (sc.map eN)) (.tup (sc.map eN)) = some true := by rw [eqA_cl 2 (by decide) hc1 hc1, decide_eq_true rfl]
  have e7 : ev prg.meths (callN prg (n + 1)) [some (.obj R), some (.int s), some (.int t), some (.obj L), some (.obj Sc), b5, none, none, none] (.meth (.var 0) .«told» []) m4 = some (tellA s t sc, m4) := by
    rw [U4.call (f := 355) rfl rfl rfl]
    simp only [zE]
    exact told_ok (n := n) U4
  simp only [exs_cons, exs_nil, ex_ret, ev_and, ev_cmp, e7, ev_tuple, evs_cons, evs_nil, ev_str, ev_var, ev_callB, ev_attr, List.getElem?_cons_zero, List.getElem?_cons_succ, Option.bind_some, e4, cm_eq, cm_ne, cm_lt, cm_le, cm_gt, cm_ge, cm_is, cm_in, cm_ni]
  have e5' := e5
  conv at e5' => lhs; arg 3; unfold tellA
  rw [e5']
  simp only [Option.bind_some, if_true, U4.a_scope, e4, e6]
  refine W_some ?_
  exact ⟨rfl, P4⟩
end Mine
end

section
open PySem
set_option maxRecDepth 100000
set_option linter.unusedVariables false
set_option linter.unusedSimpArgs false
set_option autoImplicit false
namespace Mine

noncomputable def vL (a0 a1 a2 a3 a4 a5 a6 a7 a8 a9 a10 a11 a12 a13 a14 a15 a16 a17 a18 a19 : Option AV) : Vars := [a0, a1, a2, a3, a4, a5, a6, a7, a8, a9, a10, a11, a12, a13, a14, a15, a16, a17, a18, a19, none, none, none, none, none, none, none, none, none, none, none]
section
variable {a0 a1 a2 a3 a4 a5 a6 a7 a8 a9 a10 a11 a12 a13 a14 a15 a16 a17 a18 a19 : Option AV}
theorem vL_g0 : (vL a0 a1 a2 a3 a4 a5 a6 a7 a8 a9 a10 a11 a12 a13 a14 a15 a16 a17 a18 a19)[0]? = some a0 := rfl
theorem vL_g1 : (vL a0 a1 a2 a3 a4 a5 a6 a7 a8 a9 a10 a11 a12 a13 a14 a15 a16 a17 a18 a19)[1]? = some a1 := rfl
theorem vL_g2 : (vL a0 a1 a2 a3 a4 a5 a6 a7 a8 a9 a10 a11 a12 a13 a14 a15 a16 a17 a18 a19)[2]? = some a2 := rfl
theorem vL_g3 : (vL a0 a1 a2 a3 a4 a5 a6 a7 a8 a9 a10 a11 a12 a13 a14 a15 a16 a17 a18 a19)[3]? = some a3 := rfl
theorem vL_g4 : (vL a0 a1 a2 a3 a4 a5 a6 a7 a8 a9 a10 a11 a12 a13 a14 a15 a16 a17 a18 a19)[4]? = some a4 := rfl
theorem vL_g5 : (vL a0 a1 a2 a3 a4 a5 a6 a7 a8 a9 a10 a11 a12 a13 a14 a15 a16 a17 a18 a19)[5]? = some a5 := rfl
theorem vL_g6 : (vL a0 a1 a2 a3 a4 a5 a6 a7 a8 a9 a10 a11 a12 a13 a14 a15 a16 a17 a18 a19)[6]? = some a6 := rfl
theorem vL_g7 : (vL a0 a1 a2 a3 a4 a5 a6 a7 a8 a9 a10 a11 a12 a13 a14 a15 a16 a17 a18 a19)[7]? = some a7 := rfl
theorem vL_g8 : (vL a0 a1 a2 a3 a4 a5 a6 a7 a8 a9 a10 a11 a12 a13 a14 a15 a16 a17 a18 a19)[8]? = some a8 := rfl
theorem vL_g9 : (vL a0 a1 a2 a3 a4 a5 a6 a7 a8 a9 a10 a11 a12 a13 a14 a15 a16 a17 a18 a19)[9]? = some a9 := rfl
theorem vL_g10 : (vL a0 a1 a2 a3 a4 a5 a6 a7 a8 a9 a10 a11 a12 a13 a14 a15 a16 a17 a18 a19)[10]? = some a10 := rfl
theorem vL_g11 : (vL a0 a1 a2 a3 a4 a5 a6 a7 a8 a9 a10 a11 a12 a13 a14 a15 a16 a17 a18 a19)[11]? = some a11 := rfl
theorem vL_g12 : (vL a0 a1 a2 a3 a4 a5 a6 a7 a8 a9 a10 a11 a12 a13 a14 a15 a16 a17 a18 a19)[12]? = some a12 := rfl
theorem vL_g13 : (vL a0 a1 a2 a3 a4 a5 a6 a7 a8 a9 a10 a11 a12 a13 a14 a15 a16 a17 a18 a19)[13]? = some a13 := rfl
theorem vL_g14 : (vL a0 a1 a2 a3 a4 a5 a6 a7 a8 a9 a10 a11 a12 a13 a14 a15 a16 a17 a18 a19)[14]? = some a14 := rfl
theorem vL_g15 : (vL a0 a1 a2 a3 a4 a5 a6 a7 a8 a9 a10 a11 a12 a13 a14 a15 a16 a17 a18 a19)[15]? = some a15 := rfl
theorem vL_g16 : (vL a0 a1 a2 a3 a4 a5 a6 a7 a8 a9 a10 a11 a12 a13 a14 a15 a16 a17 a18 a19)[16]? = some a16 := rfl
theorem vL_g17 : (vL a0 a1 a2 a3 a4 a5 a6 a7 a8 a9 a10 a11 a12 a13 a14 a15 a16 a17 a18 a19)[17]? = some a17 := rfl
theorem vL_g18 : (vL a0 a1 a2 a3 a4 a5 a6 a7 a8 a9 a10 a11 a12 a13 a14 a15 a16 a17 a18 a19)[18]? = some a18 := rfl
theorem vL_g19 : (vL a0 a1 a2 a3 a4 a5 a6 a7 a8 a9 a10 a11 a12 a13 a14 a15 a16 a17 a18 a19)[19]? = some a19 := rfl
theorem vL_s0 {b : Option AV} : (vL a0 a1 a2 a3 a4 a5 a6 a7 a8 a9 a10 a11 a12 a13 a14 a15 a16 a17 a18 a19).set 0 b = vL b a1 a2 a3 a4 a5 a6 a7 a8 a9 a10 a11 a12 a13 a14 a15 a16 a17 a18 a19 := rfl
theorem vL_s1 {b : Option AV} : (vL a0 a1 a2 a3 a4 a5 a6 a7 a8 a9 a10 a11 a12 a13 a14 a15 a16 a17 a18 a19).set 1 b = vL a0 b a2 a3 a4 a5 a6 a7 a8 a9 a10 a11 a12 a13 a14 a15 a16 a17 a18 a19 := rfl
theorem vL_s2 {b : Option AV} : (vL a0 a1 a2 a3 a4 a5 a6 a7 a8 a9 a10 a11 a12 a13 a14 a15 a16 a17 a18 a19).set 2 b = vL a0 a1 b a3 a4 a5 a6 a7 a8 a9 a10 a11 a12 a13 a14 a15 a16 a17 a18 a19 := rfl
theorem vL_s3 {b : Option AV} : (vL a0 a1 a2 a3 a4 a5 a6 a7 a8 a9 a10 a11 a12 a13 a14 a15 a16 a17 a18 a19).set 3 b = vL a0 a1 a2 b a4 a5 a6 a7 a8 a9 a10 a11 a12 a13 a14 a15 a16 a17 a18 a19 := rfl
theorem vL_s4 {b : Option AV} : (vL a0 a1 a2 a3 a4 a5 a6 a7 a8 a9 a10 a11 a12 a13 a14 a15 a16 a17 a18 a19).set 4 b = vL a0 a1 a2 a3 b a5 a6 a7 a8 a9 a10 a11 a12 a13 a14 a15 a16 a17 a18 a19 := rfl
theorem vL_s5 {b : Option AV} : (vL a0 a1 a2 a3 a4 a5 a6 a7 a8 a9 a10 a11 a12 a13 a14 a15 a16 a17 a18 a19).set 5 b = vL a0 a1 a2 a3 a4 b a6 a7 a8 a9 a10 a11 a12 a13 a14 a15 a16 a17 a18 a19 := rfl
theorem vL_s6 {b : Option AV} : (vL a0 a1 a2 a3 a4 a5 a6 a7 a8 a9 a10 a11 a12 a13 a14 a15 a16 a17 a18 a19).set 6 b = vL a0 a1 a2 a3 a4 a5 b a7 a8 a9 a10 a11 a12 a13 a14 a15 a16 a17 a18 a19 := rfl
theorem vL_s7 {b : Option AV} : (vL a0 a1 a2 a3 a4 a5 a6 a7 a8 a9 a10 a11 a12 a13 a14 a15 a16 a17 a18 a19).set 7 b = vL a0 a1 a2 a3 a4 a5 a6 b a8 a9 a10 a11 a12 a13 a14 a15 a16 a17 a18 a19 := rfl
theorem vL_s8 {b : Option AV} : (vL a0 a1 a2 a3 a4 a5 a6 a7 a8 a9 a10 a11 a12 a13 a14 a15 a16 a17 a18 a19).set 8 b = vL a0 a1 a2 a3 a4 a5 a6 a7 b a9 a10 a11 a12 a13 a14 a15 a16 a17 a18 a19 := rfl
theorem vL_s9 {b : Option AV} : (vL a0 a1 a2 a3 a4 a5 a6 a7 a8 a9 a10 a11 a12 a13 a14 a15 a16 a17 a18 a19).set 9 b = vL a0 a1 a2 a3 a4 a5 a6 a7 a8 b a10 a11 a12 a13 a14 a15 a16 a17 a18 a19 := rfl
theorem vL_s10 {b : Option AV} : (vL a0 a1 a2 a3 a4 a5 a6 a7 a8 a9 a10 a11 a12 a13 a14 a15 a16 a17 a18 a19).set 10 b = vL a0 a1 a2 a3 a4 a5 a6 a7 a8 a9 b a11 a12 a13 a14 a15 a16 a17 a18 a19 := rfl
theorem vL_s11 {b : Option AV} : (vL a0 a1 a2 a3 a4 a5 a6 a7 a8 a9 a10 a11 a12 a13 a14 a15 a16 a17 a18 a19).set 11 b = vL a0 a1 a2 a3 a4 a5 a6 a7 a8 a9 a10 b a12 a13 a14 a15 a16 a17 a18 a19 := rfl
theorem vL_s12 {b : Option AV} : (vL a0 a1 a2 a3 a4 a5 a6 a7 a8 a9 a10 a11 a12 a13 a14 a15 a16 a17 a18 a19).set 12 b = vL a0 a1 a2 a3 a4 a5 a6 a7 a8 a9 a10 a11 b a13 a14 a15 a16 a17 a18 a19 := rfl
theorem vL_s13 {b : Option AV} : (vL a0 a1 a2 a3 a4 a5 a6 a7 a8 a9 a10 a11 a12 a13 a14 a15 a16 a17 a18 a19).set 13 b = vL a0 a1 a2 a3 a4 a5 a6 a7 a8 a9 a10 a11 a12 b a14 a15 a16 a17 a18 a19 := rfl
theorem vL_s14 {b : Option AV} : (vL a0 a1 a2 a3 a4 a5 a6 a7 a8 a9 a10 a11 a12 a13 a14 a15 a16 a17 a18 a19).set 14 b = vL a0 a1 a2 a3 a4 a5 a6 a7 a8 a9 a10 a11 a12 a13 b a15 a16 a17 a18 a19 := rfl
theorem vL_s15 {b : Option AV} : (vL a0 a1 a2 a3 a4 a5 a6 a7 a8 a9 a10 a11 a12 a13 a14 a15 a16 a17 a18 a19).set 15 b = vL a0 a1 a2 a3 a4 a5 a6 a7 a8 a9 a10 a11 a12 a13 a14 b a16 a17 a18 a19 := rfl
theorem vL_s16 {b : Option AV} : (vL a0 a1 a2 a3 a4 a5 a6 a7 a8 a9 a10 a11 a12 a13 a14 a15 a16 a17 a18 a19).set 16 b = vL a0 a1 a2 a3 a4 a5 a6 a7 a8 a9 a10 a11 a12 a13 a14 a15 b a17 a18 a19 := rfl
theorem vL_s17 {b : Option AV} : (vL a0 a1 a2 a3 a4 a5 a6 a7 a8 a9 a10 a11 a12 a13 a14 a15 a16 a17 a18 a19).set 17 b = vL a0 a1 a2 a3 a4 a5 a6 a7 a8 a9 a10 a11 a12 a13 a14 a15 a16 b a18 a19 := rfl
theorem vL_s18 {b : Option AV} : (vL a0 a1 a2 a3 a4 a5 a6 a7 a8 a9 a10 a11 a12 a13 a14 a15 a16 a17 a18 a19).set 18 b = vL a0 a1 a2 a3 a4 a5 a6 a7 a8 a9 a10 a11 a12 a13 a14 a15 a16 a17 b a19 := rfl
theorem vL_s19 {b : Option AV} : (vL a0 a1 a2 a3 a4 a5 a6 a7 a8 a9 a10 a11 a12 a13 a14 a15 a16 a17 a18 a19).set 19 b = vL a0 a1 a2 a3 a4 a5 a6 a7 a8 a9 a10 a11 a12 a13 a14 a15 a16 a17 a18 b := rfl
end
theorem Only.then {own own1 : Nat → Prop} {a b c : Mem} (h : Only own a b) (k : Only own1 b c) (q : ∀ i, own1 i → own i ∨ a.length ≤ i) : Only own a c :=
  ⟨Nat.le_trans h.1 k.1, fun i hi hn => (k.2 i (Nat.lt_of_lt_of_le hi h.1) (fun e => by rcases q i e with e | e; exact hn e; omega)).trans (h.2 i hi hn)⟩

structure Psv (own : Nat → Prop) (m : Mem) (R Rd Ka Se : Nat) (ads : List Nat) (stk : List (List Mk)) (s t : Int) (sc : List Nat) (N : Nat) (answers : List (List Int)) : Prop where
  U : Ru R Rd m s t sc
  an : Ans m Ka N (KK N s t sc) answers
  se : m[Se]? = some (.list (ads.map eJ))
  len : ads.length = stk.length
  get : ∀ (i a : Nat) (d : List Mk), ads[i]? = some a → stk[i]? = some d → m[a]? = some (.list (d.map eM))
  lt : ∀ a ∈ ads, a < m.length
  oR : ¬ own R
  oRd : ¬ own Rd
  oKa : ¬ own Ka
  oSe : ¬ own Se
  oA : ∀ a ∈ ads, ¬ own a
  nR : R ≠ Se
  nRd : Rd ≠ Se
  nKa : Ka ≠ Se
  nA : ∀ a ∈ ads, a ≠ Se
section
variable {own : Nat → Prop} {m m' : Mem} {R Rd Ka Se : Nat} {ads : List Nat} {stk : List (List Mk)} {s t : Int} {sc : List Nat} {N : Nat} {answers : List (List Int)}
theorem Psv.only (P : Psv own m R Rd Ka Se ads stk s t sc N answers) (k : Only own m m') : Psv own m' R Rd Ka Se ads stk s t sc N answers :=
  ⟨P.U.only k P.oR P.oRd, P.an.only k P.oKa, k.get P.se P.oSe, P.len, fun i a d h1 h2 => k.get (P.get i a d h1 h2) (P.oA a (List.mem_of_getElem? h1)), fun a ha => Nat.lt_of_lt_of_le (P.lt a ha) k.1, P.oR, P.oRd, P.oKa, P.oSe, P.oA, P.nR, P.nRd, P.nKa, P.nA⟩
theorem Psv.mono {own' : Nat → Prop} (P : Psv own m R Rd Ka Se ads stk s t sc N answers) (k : ∀ i < m.length, own' i → own i) : Psv own' m R Rd Ka Se ads stk s t sc N answers :=
  ⟨P.U, P.an, P.se, P.len, P.get, P.lt, fun h => P.oR (k _ (lt_of_get P.U.inst) h), fun h => P.oRd (k _ (lt_of_get P.U.dict) h), fun h => P.oKa (k _ (lt_of_get P.an.l) h), fun h => P.oSe (k _ (lt_of_get P.se) h), fun a ha h => P.oA a ha (k _ (P.lt a ha) h), P.nR, P.nRd, P.nKa, P.nA⟩
theorem Psv.push (P : Psv own m R Rd Ka Se ads stk s t sc N answers) (k : m <+: m') {b : Nat} {d : List Mk} (hb : m'[b]? = some (.list (d.map eM))) (hl : m.length ≤ b) (ho : ¬ own b) :
    Psv own (m'.set Se (.list ((ads ++ [b]).map eJ))) R Rd Ka Se (ads ++ [b]) (stk ++ [d]) s t sc N answers := by
  have hSe := lt_of_get P.se
  have O : Only (· = Se) m (m'.set Se (.list ((ads ++ [b]).map eJ))) := (Only.of_pre k).trans (Only.of_set rfl)
  have hbs : b ≠ Se := by omega
  refine ⟨P.U.only O P.nR P.nRd, P.an.only O P.nKa, get_set (get_pre k P.se), by rw [List.length_append, List.length_append, P.len]; rfl, ?_, ?_, P.oR, P.oRd, P.oKa, P.oSe, ?_, P.nR, P.nRd, P.nKa, ?_⟩
  · intro i a e h1 h2
    rcases Nat.lt_or_ge i ads.length with c | c
    · rw [List.getElem?_append_left c] at h1
      rw [List.getElem?_append_left (by rw [← P.len]; exact c)] at h2
      exact O.get (P.get i a e h1 h2) (P.nA a (List.mem_of_getElem? h1))
    · have hi : i = ads.length := by
        have : i < (ads ++ [b]).length := by rw [List.getElem?_eq_some_iff] at h1; exact h1.1
        rw [List.length_append, List.length_cons, List.length_nil] at this
        omega
      subst hi
      rw [List.getElem?_concat_length] at h1
      rw [P.len, List.getElem?_concat_length] at h2
      cases h1; cases h2
      rw [List.getElem?_set_ne (Ne.symm hbs)]; exact hb
  · intro a ha
    rw [List.length_set]
    rcases List.mem_append.mp ha with ha | ha
    · exact Nat.lt_of_lt_of_le (P.lt a ha) k.length_le
    · simp only [List.mem_cons, List.not_mem_nil, or_false] at ha; subst ha; exact lt_of_get hb
  · intro a ha
    rcases List.mem_append.mp ha with ha | ha
    · exact P.oA a ha
    · simp only [List.mem_cons, List.not_mem_nil, or_false] at ha; subst ha; exact ho
  · intro a ha
    rcases List.mem_append.mp ha with ha | ha
    · exact P.nA a ha
    · simp only [List.mem_cons, List.not_mem_nil, or_false] at ha; subst ha; exact hbs
theorem Psv.pop {b : Nat} {d : List Mk} (P : Psv own m R Rd Ka Se (ads ++ [b]) (stk ++ [d]) s t sc N answers) : m[b]? = some (.list (d.map eM)) ∧ Psv own (m.set Se (.list (ads.map eJ))) R Rd Ka Se ads stk s t sc N answers := by
  have O : Only (· = Se) m (m.set Se (.list (ads.map eJ))) := Only.of_set rfl
  have hlen := P.len
  rw [List.length_append, List.length_append] at hlen
  have hl : ads.length = stk.length := by simpa using hlen
  constructor
  · exact P.get ads.length b d (by rw [List.getElem?_concat_length]) (by rw [hl, List.getElem?_concat_length])
  · refine ⟨P.U.only O P.nR P.nRd, P.an.only O P.nKa, get_set P.se, hl, ?_, ?_, P.oR, P.oRd, P.oKa, P.oSe, fun a ha => P.oA a (List.mem_append_left _ ha), P.nR, P.nRd, P.nKa, fun a ha => P.nA a (List.mem_append_left _ ha)⟩
    · intro i a e h1 h2
      have c1 : i < ads.length := by rw [List.getElem?_eq_some_iff] at h1; exact h1.1
      refine O.get (P.get i a e (by rw [List.getElem?_append_left c1]; exact h1) (by rw [List.getElem?_append_left (by omega)]; exact h2)) (P.nA a (List.mem_append_left _ (List.mem_of_getElem? h1)))
    · intro a ha
      rw [List.length_set]; exact P.lt a (List.mem_append_left _ ha)
end

inductive Lev : List Mk → List Ent → List Nat → List (List Mk) → Prop where
  | nil (d : List Mk) (t : List Ent) : Lev d t [] []
  | cons {d0 d : List Mk} {t0 es : List Ent} {ms : List Nat} {st : List (List Mk)} (h : Lev d0 t0 ms st) (u : Undo d0 es d) : Lev d (t0 ++ es) (ms ++ [t0.length]) (st ++ [d0])
theorem Lev.ext {d d' : List Mk} {t es : List Ent} {ms : List Nat} {st : List (List Mk)} (h : Lev d t ms st) (u : Undo d es d') : Lev d' (t ++ es) ms st := by
  cases h with
  | nil => exact .nil _ _
  | cons h v => rw [List.append_assoc]; exact .cons h (v.trans u)
theorem Lev.push {d : List Mk} {t : List Ent} {ms : List Nat} {st : List (List Mk)} (h : Lev d t ms st) : Lev d t (ms ++ [t.length]) (st ++ [d]) := by
  have := Lev.cons h (Undo.nil d)
  rw [List.append_nil] at this; exact this
theorem Lev.len {d : List Mk} {t : List Ent} {ms : List Nat} {st : List (List Mk)} (h : Lev d t ms st) : ms.length = st.length := by
  induction h with
  | nil => rfl
  | cons _ _ ih => rw [List.length_append, List.length_append, ih]; rfl
theorem Lev.inv {d d0 : List Mk} {t : List Ent} {ms : List Nat} {st : List (List Mk)} (h : Lev d t ms (st ++ [d0])) : ∃ t0 es ms0, t = t0 ++ es ∧ ms = ms0 ++ [t0.length] ∧ Undo d0 es d ∧ Lev d0 t0 ms0 st := by
  generalize hs : st ++ [d0] = s2 at h
  cases h with
  | nil => simp at hs
  | cons h u =>
    obtain ⟨h1, h2⟩ := List.append_inj' hs rfl
    cases h1; cases h2
    exact ⟨_, _, _, rfl, rfl, u, h⟩
structure Inv (d0 : List Mk) (σ : Sg) (stk : List (List Mk)) : Prop where
  sp : σ.speaker = 6
  nz : NZ σ.doms
  sub : Sub σ.doms d0
  fi : 0 ∉ σ.firsts
  lev : Lev σ.doms σ.trail σ.marks stk
structure Glob (s t : Int) (sc : List Nat) (d0 : List Mk) (answers : List (List Int)) (plain : Bool) : Prop where
  x : ∀ y ∈ sc, y < d0.length
  sl : sc.length ≤ 10
  plain : plain = true → sc = List.range d0.length
  pos : 0 < d0.length
  le : d0.length ≤ 4
  k : ∀ w ∈ answers, w.length = d0.length ∧ KK d0.length s t sc w
  all : ∀ w, inBox d0 w → KK d0.length s t sc w → w ∈ answers
theorem Glob.ask {s t : Int} {sc : List Nat} {d0 : List Mk} {answers : List (List Int)} {plain : Bool} (G : Glob s t sc d0 answers plain) {σ : Sg} {stk : List (List Mk)} (I : Inv d0 σ stk) : Ask s t sc σ answers plain := by
  have e := I.sub.1
  refine ⟨I.sp, I.nz, fun y hy => by rw [e]; exact G.x y hy, by have := G.sl; omega, fun w hw => by rw [e]; exact G.k w hw, fun w h1 h2 => ?_, fun h => by rw [e]; exact G.plain h, by rw [e]; exact G.pos⟩
  rw [e] at h2
  exact G.all w ⟨h1.1.trans e, fun x hx => I.sub.2 x _ (h1.2 x (by rw [e]; exact hx))⟩ h2
theorem Inv.stp {d0 : List Mk} {σ τ : Sg} {stk : List (List Mk)} (I : Inv d0 σ stk) (h : Stp σ τ) : Inv d0 τ stk := by
  obtain ⟨es, h1, h2⟩ := h.undo
  refine ⟨h.sp.trans I.sp, h.nz, h.sub.trans I.sub, by rw [h.fi]; exact I.fi, ?_⟩
  rw [h1, h.mr]
  exact I.lev.ext h2
theorem undo_old {d0 d : List Mk} {es : List Ent} (u : Undo d0 es d) : undo es.reverse d = d0 := u.1

theorem decide_law {d0 : List Mk} {σ : Sg} {stk : List (List Mk)} {l : Lit} (I : Inv d0 σ stk) (hx : l.x < σ.doms.length) : Inv d0 (enterM σ l none (-1)).2 stk ∧
    ((enterM σ l none (-1)).1 = true → (enterM σ l none (-1)).2.failed = σ.failed) ∧ ((enterM σ l none (-1)).1 = false → (enterM σ l none (-1)).2.failed = true) := by
  by_cases hz : strikeM l (dAt σ.doms l.x) = 0
  · rw [enter_no hz]
    exact ⟨⟨I.sp, I.nz, I.sub, I.fi, I.lev⟩, fun h => by simp at h, fun _ => rfl⟩
  · unfold enterM
    have e : (σ.doms[l.x]?).getD 0 = dAt σ.doms l.x := rfl
    simp only [e, if_neg hz]
    by_cases q : strikeM l (dAt σ.doms l.x) = dAt σ.doms l.x
    · simp only [if_pos q]
      exact ⟨I, fun _ => by trivial, fun h => by simp at h⟩
    · simp only [if_neg q]
      refine ⟨⟨I.sp, ?_, ?_, I.fi, ?_⟩, fun _ => by trivial, fun h => by simp at h⟩
      · intro y hy
        show dAt (σ.doms.set l.x (strikeM l (dAt σ.doms l.x))) y ≠ 0
        rw [dAt_set hx]
        by_cases h : y = l.x
        · rw [if_pos h]; exact hz
        · rw [if_neg h]
          exact I.nz y (by have : y < (σ.doms.set l.x (strikeM l (dAt σ.doms l.x))).length := hy; rw [List.length_set] at this; exact this)
      · refine Sub.trans ⟨List.length_set .., fun y v h => ?_⟩ I.sub
        rw [dAt_set hx] at h
        by_cases h2 : y = l.x
        · rw [if_pos h2, has_strike, Bool.and_eq_true] at h
          rw [h2]; exact h.1
        · rw [if_neg h2] at h; exact h
      · exact I.lev.ext (Undo.one (e := ⟨l.x, dAt σ.doms l.x, l, none, -1⟩) hx rfl)
noncomputable def domsE (k : Nat) : LE := .comp1 3 [(2, 11)] (.v 1) (.callB .«range» [(.var 2)]) (.bool true) (.meth (.var 2) .«dom» [(.var 1)])
theorem doms_ok {A : Ad} {σ : Sg} {m : Mem} {n : Nat} {vars : Vars} (S : St A m σ) (h2 : vars[2]? = some (some (.int σ.doms.length))) (h11 : vars[11]? = some (some (.obj A.st))) :
    ∃ m2, ev prg.meths (callN prg (n + 1)) vars (.comp1 3 [(2, 11)] (.v 1) (.callB .«range» [(.var 2)]) (.bool true) (.meth (.var 2) .«dom» [(.var 1)])) m = some (.obj m2.length, m2 ++ [.list (σ.doms.map eM)]) ∧ m <+: m2 := by
  have hP : lendVars vars 3 [(2, 11)] = [none, none, some (.obj A.st)] := by
    unfold lendVars
    simp only [List.foldl_cons, List.foldl_nil, h11]; rfl
  have hd := S.ld
  obtain ⟨m2, k1, k2⟩ := comp1_map (M := prg.meths) (Φ := callN prg (n + 1)) (vars := vars) (size := 3) (lends := [(2, 11)]) (t := .v 1) (it := .callB .«range» [(.var 2)])
    (elt := .meth (.var 2) .«dom» [(.var 1)]) (mem := m) (mem1 := m) (src := .rng 0 σ.doms.length) (enc := eN) (l := List.range σ.doms.length) (fun x => eM (dAt σ.doms x)) (fun v => ∃ a b, v = [a, b, some (.obj A.st)])
    (by rw [ev_callB, evs_cons, ev_var, h2]; exact (rng_iter (by omega)).1) (rng_iter (by omega)).2 (fun _ _ => rfl) ⟨_, _, hP⟩ (by
      rintro x hx v m' ⟨a, b, rfl⟩ hm
      rw [List.mem_range] at hx
      refine ⟨[a, some (eN x), some (.obj A.st)], rfl, ⟨_, _, rfl⟩, m', ?_, List.prefix_refl _⟩
      have S1 := S.pre hm
      rw [S1.call (f := 143) rfl rfl rfl]
      have hdom : σ.doms[x]? = some (dAt σ.doms x) := by unfold dAt; rw [List.getElem?_eq_getElem hx]; rfl
      simp only [evs_cons, evs_nil, ev_var, List.getElem?_cons_zero, List.getElem?_cons_succ, Option.bind_some]
      exact S1.dom (n := n) hdom) (by rw [List.length_range]; omega)
  refine ⟨m2, ?_, k2⟩
  rw [k1]
  congr 5
  refine List.ext_getElem? fun i => ?_
  rw [List.getElem?_map, List.getElem?_map]
  rcases Nat.lt_or_ge i σ.doms.length with c | c
  · rw [List.getElem?_range c, List.getElem?_eq_getElem c]
    unfold dAt
    simp only [Option.map_some]
    rw [List.getElem?_eq_getElem c]; rfl
  · rw [List.getElem?_eq_none_iff.mpr (by rw [List.length_range]; exact c), List.getElem?_eq_none_iff.mpr c]; rfl
end Mine
end

section
open PySem
set_option maxRecDepth 100000
set_option linter.unusedVariables false
set_option linter.unusedSimpArgs false
set_option autoImplicit false
namespace Mine

noncomputable def nbBody : List LS := [.ite (.attr (.var 11) .«isFailed») [.brk] [],
  .assign (.v 6) (.list [(.var 18)]),
  .assign (.vs [14, 19]) (.tuple [(.callF 367 [(.var 6), (.var 2)]), (.item (.tuple [(.str ("=" : Str)), (.str ("!=" : Str)), (.str ("<=" : Str)), (.str (">=" : Str))]) (.callF 367 [(.var 6), (.int 4)]))]),
  .expr (.meth (.var 16) .«append» [(.comp1 3 [(2, 11)] (.v 1) (.callB .«range» [(.var 2)]) (.bool true) (.meth (.var 2) .«dom» [(.var 1)]))]),
  .expr (.meth (.var 11) .«push» []),
  .ite (.meth (.var 11) .«decide» [(.tuple [(.var 14), (.var 19), (.bin .Add (.int 1) (.callF 367 [(.var 6), (.int 3)]))])]) [.ite (.not (.callF 420 [(.var 11), (.var 13), (.var 15), (.var 10)])) [.ret (.bool false)] []] [.ite (.not (.attr (.var 11) .«isFailed»)) [.ret (.bool false)] []]]
theorem fm_nat (x : Int) {n : Nat} (hn : 0 < n) : ∃ k : Nat, x.fmod n = (k : Int) ∧ k < n := by
  have h1 := Int.fmod_nonneg_of_pos x (b := (n : Int)) (by omega)
  have h2 := Int.fmod_lt_of_pos x (b := (n : Int)) (by omega)
  exact ⟨(x.fmod n).toNat, by omega, by omega⟩
theorem sign_ok {m : Mem} {j : Nat} (h : j < 4) : ∃ g : Sn, itemA (.tup [.str ("=" : Str), .str ("!=" : Str), .str ("<=" : Str), .str (">=" : Str)]) (.int j) m = some (.str g.str) := by
  match j, h with
  | 0, _ => exact ⟨.eq, rfl⟩
  | 1, _ => exact ⟨.ne, rfl⟩
  | 2, _ => exact ⟨.le, rfl⟩
  | 3, _ => exact ⟨.ge, rfl⟩
theorem nbIter {A : Ad} {σ : Sg} {m : Mem} {R Rd Ka Se : Nat} {ads : List Nat} {stk : List (List Mk)} {s t : Int} {sc : List Nat} {d0 : List Mk} {answers : List (List Int)} {plain : Bool} {x : Int} {Sl : Nat} {all : List AV} {a0 a1 a3 a4 a5 a6 a7 a8 a9 a12 a14 a17 a19 : Option AV}
    (G : Glob s t sc d0 answers plain) (S : St A m σ) (P : Psv A.own m R Rd Ka Se ads stk s t sc d0.length answers) (I : Inv d0 σ stk) (hf : σ.failed = false) (ht : σ.trail.length ≤ 300) (hn : σ.news ≤ 300) (hmk : σ.marks.length ≤ 300) (hads : ads.length ≤ 300)
    (hSl : m[Sl]? = some (.list all)) (oSl : ¬ A.own Sl) (nSl : Sl ≠ Se) :
    W (exs prg.meths (callN prg 19) nbBody (vL a0 a1 (some (.int d0.length)) a3 a4 a5 a6 a7 a8 a9 (some (.bool plain)) (some (.obj A.st)) a12 (some (.obj R)) a14 (some (.obj Ka)) (some (.obj Se)) a17 (some (.int x)) a19) m) fun z => z.1 = .next ∧
      ∃ τ ads' stk' b6 b14 b19, z.2.1 = vL a0 a1 (some (.int d0.length)) a3 a4 a5 b6 a7 a8 a9 (some (.bool plain)) (some (.obj A.st)) a12 (some (.obj R)) b14 (some (.obj Ka)) (some (.obj Se)) a17 (some (.int x)) b19 ∧ St A z.2.2 τ ∧ Psv A.own z.2.2 R Rd Ka Se ads' stk' s t sc d0.length answers ∧ Inv d0 τ stk' ∧
        z.2.2[Sl]? = some (.list all) ∧ τ.trail.length ≤ σ.trail.length + 13 ∧ τ.news ≤ σ.news + 13 ∧ τ.marks.length ≤ σ.marks.length + 1 ∧ ads'.length ≤ ads.length + 1 := by
  have hN : 0 < d0.length := G.pos
  have hN4 := G.le
  have hlen : σ.doms.length = d0.length := I.sub.1
  have hSe := lt_of_get P.se
  have hSllt := lt_of_get hSl
  refine gI fun Gz gz => ?_
  obtain ⟨X, hX, hXN⟩ := fm_nat x hN
  obtain ⟨j, hj, hj4⟩ := fm_nat (x.fdiv d0.length) (n := 4) (by decide)
  obtain ⟨z, hz, hz3⟩ := fm_nat ((x.fdiv d0.length).fdiv 4) (n := 3) (by decide)
  refine gz ?_
  generalize hy1 : x.fdiv d0.length = y1 at hj hz
  generalize hy2 : y1.fdiv 4 = y2 at hz
  have dg1 : callN prg 19 367 [.obj m.length, .int d0.length] (m ++ [.list [.int x]]) = some (.int X, m ++ [.list [.int y1]]) := by
    rw [digit_ok (n := 18) (x := x) get_new (by omega) (by omega), hX, hy1, set_new]
  have dg2 : callN prg 19 367 [.obj m.length, .int 4] (m ++ [.list [.int y1]]) = some (.int j, m ++ [.list [.int y2]]) := by
    rw [digit_ok (n := 18) (x := y1) get_new (by omega) (by omega), hy2, set_new]
    have : y1.fmod 4 = (j : Int) := hj
    rw [this]
  obtain ⟨g, hg⟩ := sign_ok (m := m ++ [.list [.int y2]]) hj4
  have P2 := List.prefix_append m [MObj.list [.int y2]]
  have S2 := S.pre P2
  obtain ⟨m3, c1, c2⟩ := doms_ok (n := 18) (vars := vL a0 a1 (some (.int d0.length)) a3 a4 a5 (some (.obj m.length)) a7 a8 a9 (some (.bool plain)) (some (.obj A.st)) a12 (some (.obj R)) (some (.int X)) (some (.obj Ka)) (some (.obj Se)) a17 (some (.int x)) (some (.str g.str))) S2 (by rw [hlen]; rfl) rfl
  have hlen3 : m.length + 1 ≤ m3.length := by have := c2.length_le; rw [List.length_append] at this; exact this
  have PM : m <+: m3 ++ [MObj.list (σ.doms.map eM)] := (P2.trans c2).trans (List.prefix_append _ _)
  have hse2 := get_pre P2 P.se
  have hse3 := get_pre PM P.se
  have Pw : Psv (fun i => A.own i ∨ i = m.length) m R Rd Ka Se ads stk s t sc d0.length answers := P.mono fun i hi h => by
    rcases h with h | h
    · exact h
    · omega
  have P4 := Pw.push PM (b := m3.length) (d := σ.doms) get_new (by omega) (by
    rintro (h | h)
    · exact S.new (by omega) h
    · omega)
  have O4 : Only (· = Se) m ((m3 ++ [MObj.list (σ.doms.map eM)]).set Se (.list ((ads ++ [m3.length]).map eJ))) := (Only.of_pre PM).trans (Only.of_set rfl)
  have S4 := S.only O4 (fun i hi e => P.oSe (e ▸ hi))
  have hr4 : ((m3 ++ [MObj.list (σ.doms.map eM)]).set Se (.list ((ads ++ [m3.length]).map eJ)))[m.length]? = some (.list [.int y2]) := by
    rw [List.getElem?_set_ne (by omega)]
    exact get_pre (c2.trans (List.prefix_append _ _)) get_new
  have hSl4 := O4.get hSl nSl
  have eap : (ads.map eJ ++ [AV.obj m3.length]) = (ads ++ [m3.length]).map eJ := by simp [eJ]
  generalize hm4 : (m3 ++ [MObj.list (σ.doms.map eM)]).set Se (.list ((ads ++ [m3.length]).map eJ)) = m4 at P4 O4 S4 hr4 hSl4
  refine gI fun Gz gz => ?_
  obtain ⟨⟨ap, m5⟩, p1, p2, S5, O5⟩ := S4.push (n := 18) (by omega)
  dsimp only at p2 S5 O5
  subst p2
  have hml : ∀ i, m.length ≤ i → ¬ A.own i := fun i h => S.new h
  have P5 := P4.only (O5.mono fun i h => .inl h)
  have hr5 := O5.get hr4 (hml _ (Nat.le_refl _))
  have hSl5 := O5.get hSl4 oSl
  refine gz ?_
  have dg3 : callN prg 19 367 [.obj m.length, .int 3] m5 = some (.int z, m5.set m.length (.list [.int (y2.fdiv 3)])) := by
    rw [digit_ok (n := 18) (x := y2) hr5 (by omega) (by omega)]
    have : y2.fmod 3 = (z : Int) := hz
    rw [this]
  have O6 : Only (· = m.length) m5 (m5.set m.length (.list [.int (y2.fdiv 3)])) := Only.of_set rfl
  have S6 := S5.only O6 (fun i hi e => hml i (by omega) hi)
  have P6 := P5.only (O6.mono fun i h => .inr h)
  have hSl6 := O6.get hSl5 (by omega)
  have hXl : X < σ.doms.length := by rw [hlen]; exact hXN
  refine gI fun Gz gz => ?_
  obtain ⟨⟨ad, m7⟩, q1, q2, S7, O7⟩ := S6.decide (n := 14) (l := ⟨X, g, 1 + (z : Int)⟩) hXl ⟨by dsimp only; omega, by dsimp only; omega⟩ (by dsimp only; omega) (by dsimp only; omega)
  dsimp only at q2 S7 O7
  subst q2
  have P7 := P6.only (O7.mono fun i h => .inl h)
  have hSl7 := O7.get hSl6 oSl
  have I5 : Inv d0 { σ with marks := σ.marks ++ [σ.trail.length] } (stk ++ [σ.doms]) := ⟨I.sp, I.nz, I.sub, I.fi, I.lev.push⟩
  obtain ⟨I7, fy, fn⟩ := decide_law (l := ⟨X, g, 1 + (z : Int)⟩) I5 hXl
  obtain ⟨l1, l2, l3, l4, l5, l6⟩ := enter_len { σ with marks := σ.marks ++ [σ.trail.length] } ⟨X, g, 1 + (z : Int)⟩ none (-1)
  dsimp only at l1 l2 l3 l4 l5 l6
  have hmarks : (enterM { σ with marks := σ.marks ++ [σ.trail.length] } ⟨X, g, 1 + (z : Int)⟩ none (-1)).2.marks.length ≤ σ.marks.length + 1 := by rw [l6, List.length_append]; simp
  have hadl : (ads ++ [m3.length]).length ≤ ads.length + 1 := by rw [List.length_append]; simp
  have eif := S.a_if
  rw [hf] at eif
  refine gz ?_
  unfold nbBody
  rw [exs_cons, ex_ite]
  simp only [ev_attr, ev_var, vL_g11, Option.bind_some, eif, Bool.false_eq_true, if_false, exs_nil]
  rw [exs_cons, ex_assign]
  simp only [ev_list, evs_cons, evs_nil, ev_var, vL_g18, Option.bind_some, as_v, vL_s6]
  rw [exs_cons, ex_assign]
  simp only [ev_tuple, ev_item, ev_callF, ev_str, ev_int, evs_cons, evs_nil, ev_var, vL_g6, vL_g2, Option.bind_some, dg1, dg2, hg, as_vs, sv_cons, sv_nil, vL_s14, vL_s19]
  rw [exs_cons, ex_expr, ev_mlist (i := Se) (m1 := m ++ [.list [.int y2]]) (by simp only [ev_var, vL_g16, Option.bind_some]) hse2, evs_cons, c1]
  simp only [Option.bind_some, evs_nil, hse3, listMeth]
  rw [if_pos (sz_of (by rw [List.length_map]; omega)), eap, hm4]
  simp only [Option.bind_some]
  rw [exs_cons, ex_expr, S4.call (f := 234) (by simp only [ev_var, vL_g11, Option.bind_some]) rfl rfl]
  simp only [evs_nil, Option.bind_some, p1]
  have ed : ev prg.meths (callN prg 19) (vL a0 a1 (some (.int d0.length)) a3 a4 a5 (some (.obj m.length)) a7 a8 a9 (some (.bool plain)) (some (.obj A.st)) a12 (some (.obj R)) (some (.int X)) (some (.obj Ka)) (some (.obj Se)) a17 (some (.int x)) (some (.str g.str)))
      (.meth (.var 11) .«decide» [(.tuple [(.var 14), (.var 19), (.bin .Add (.int 1) (.callF 367 [(.var 6), (.int 3)]))])]) m5 = some (.bool (enterM { σ with marks := σ.marks ++ [σ.trail.length] } ⟨X, g, 1 + (z : Int)⟩ none (-1)).1, m7) := by
    rw [S5.call (f := 220) (by simp only [ev_var, vL_g11, Option.bind_some]) rfl rfl]
    simp only [ev_tuple, ev_bin, ev_callF, ev_int, evs_cons, evs_nil, ev_var, vL_g14, vL_g19, vL_g6, Option.bind_some, dg3, bA_add, bA_sub, bA_tup]
    exact q1
  rw [exs_cons, ex_ite, ed]
  simp only [Option.bind_some]
  cases hd : (enterM { σ with marks := σ.marks ++ [σ.trail.length] } ⟨X, g, 1 + (z : Int)⟩ none (-1)).1 with
  | false =>
    have e7 := S7.a_if
    rw [fn hd] at e7
    simp only [Bool.false_eq_true, if_false, exs_cons, ex_ite, ev_not, ev_attr, ev_var, vL_g11, Option.bind_some, e7, Bool.not_true, exs_nil]
    refine W_some ?_
    refine ⟨rfl, _, _, _, _, _, _, rfl, S7, P7.mono (fun i _ h => .inl h), I7, hSl7, by omega, by omega, hmarks, hadl⟩
  | true =>
    have hf7 := fy hd
    have P7' := P7.mono (own' := A.own) (fun i _ h => .inl h)
    have hl7 : (enterM { σ with marks := σ.marks ++ [σ.trail.length] } ⟨X, g, 1 + (z : Int)⟩ none (-1)).2.doms.length = d0.length := I7.sub.1
    refine gI fun Gz gz => ?_
    obtain ⟨⟨aa, m8⟩, r1, r2, τ, S8, O8, T8⟩ := asked_ok (n := 11) P7'.oR P7'.oRd P7'.oKa S7 P7'.U (G.ask I7) (by rw [hl7]; exact P7'.an) (hf7.trans hf) (by omega) (by omega)
    dsimp only at r2 S8 O8
    subst r2
    refine gz ?_
    simp only [if_true, exs_cons, ex_ite, ev_not, ev_callF, evs_cons, evs_nil, ev_var, vL_g11, vL_g13, vL_g15, vL_g10, Option.bind_some, r1, Bool.not_true, Bool.false_eq_true, if_false, exs_nil]
    have hT1 := T8.lt
    have hT2 := T8.ln
    have hT3 := T8.mr
    refine W_some ?_
    refine ⟨rfl, _, _, _, _, _, _, rfl, S8, P7'.only O8, I7.stp T8, O8.get hSl7 oSl, by omega, by omega, by rw [hT3]; exact hmarks, hadl⟩
theorem nbLoop {A : Ad} {R Rd Ka Se : Nat} {s t : Int} {sc : List Nat} {d0 : List Mk} {answers : List (List Int)} {plain : Bool} {Sl : Nat} {all : List AV} {a0 a1 a3 a4 a5 a7 a8 a9 a12 a17 : Option AV}
    (G : Glob s t sc d0 answers plain) (oSl : ¬ A.own Sl) (nSl : Sl ≠ Se) : ∀ (xs : List Int) {σ : Sg} {m : Mem} {ads : List Nat} {stk : List (List Mk)} {a6 a14 a18 a19 : Option AV}, St A m σ → Psv A.own m R Rd Ka Se ads stk s t sc d0.length answers → Inv d0 σ stk →
    σ.trail.length + 13 * xs.length ≤ 300 → σ.news + 13 * xs.length ≤ 300 → σ.marks.length + xs.length ≤ 300 → ads.length + xs.length ≤ 300 → m[Sl]? = some (.list all) →
    W (forLoop (.obj Sl) all (.v 18) (exs prg.meths (callN prg 19) nbBody) (xs.map .int) (vL a0 a1 (some (.int d0.length)) a3 a4 a5 a6 a7 a8 a9 (some (.bool plain)) (some (.obj A.st)) a12 (some (.obj R)) a14 (some (.obj Ka)) (some (.obj Se)) a17 a18 a19) m) fun z => z.1 = .next ∧
      ∃ τ ads' stk' b6 b14 b18 b19, z.2.1 = vL a0 a1 (some (.int d0.length)) a3 a4 a5 b6 a7 a8 a9 (some (.bool plain)) (some (.obj A.st)) a12 (some (.obj R)) b14 (some (.obj Ka)) (some (.obj Se)) a17 b18 b19 ∧ St A z.2.2 τ ∧ Psv A.own z.2.2 R Rd Ka Se ads' stk' s t sc d0.length answers ∧ Inv d0 τ stk' ∧ ads'.length ≤ 300 := by
  intro xs
  induction xs with
  | nil =>
    intro σ m ads stk a6 a14 a18 a19 S P I h1 h2 h3 h4 hSl
    refine W_some ?_
    exact ⟨rfl, _, _, _, _, _, _, _, rfl, S, P, I, by simp at h4; exact h4⟩
  | cons x xs ih =>
    intro σ m ads stk a6 a14 a18 a19 S P I h1 h2 h3 h4 hSl
    rw [List.length_cons] at h1 h2 h3 h4
    have hb : bindT (.v 18) (.int x) (vL a0 a1 (some (.int d0.length)) a3 a4 a5 a6 a7 a8 a9 (some (.bool plain)) (some (.obj A.st)) a12 (some (.obj R)) a14 (some (.obj Ka)) (some (.obj Se)) a17 a18 a19) m =
      some (vL a0 a1 (some (.int d0.length)) a3 a4 a5 a6 a7 a8 a9 (some (.bool plain)) (some (.obj A.st)) a12 (some (.obj R)) a14 (some (.obj Ka)) (some (.obj Se)) a17 (some (.int x)) a19) := rfl
    rw [List.map_cons]
    cases hf : σ.failed with
    | true =>
      have e := S.a_if
      rw [hf] at e
      rw [for_brk hb (v2 := vL a0 a1 (some (.int d0.length)) a3 a4 a5 a6 a7 a8 a9 (some (.bool plain)) (some (.obj A.st)) a12 (some (.obj R)) a14 (some (.obj Ka)) (some (.obj Se)) a17 (some (.int x)) a19) (m2 := m) (by
        unfold nbBody
        rw [exs_cons, ex_ite]
        simp only [ev_attr, ev_var, vL_g11, Option.bind_some, e, if_true, exs_cons, ex_brk])]
      refine W_some ?_
      exact ⟨rfl, _, _, _, _, _, _, _, rfl, S, P, I, by omega⟩
    | false =>
      refine gI fun Gz gz => ?_
      obtain ⟨⟨fl, v, m'⟩, e1, e2, τ, ads', stk', b6, b14, b19, e3, S', P', I', hSl', g1, g2, g3, g4⟩ := nbIter (x := x) (a0 := a0) (a1 := a1) (a3 := a3) (a4 := a4) (a5 := a5) (a6 := a6) (a7 := a7) (a8 := a8) (a9 := a9) (a12 := a12) (a14 := a14) (a17 := a17) (a19 := a19) G S P I hf (by omega) (by omega) (by omega) (by omega) hSl oSl nSl
      dsimp only at e2 e3 S' P' hSl'
      subst e2 e3
      refine gz ?_
      rw [for_cons hb e1 (by simp only [stillA, hSl', decide_true])]
      exact ih S' P' I' (by omega) (by omega) (by omega) (by omega) hSl'

noncomputable def bkTest : LE := .cmp .Gt (.callB .«len» [(.var 16)]) (.int 0)
noncomputable def bkBody : List LS := [.expr (.meth (.var 11) .«pop» [(.int 1)]),
  .ite (.or (.attr (.var 11) .«isFailed») (.cmp .NotEq (.comp1 3 [(2, 11)] (.v 1) (.callB .«range» [(.var 2)]) (.bool true) (.meth (.var 2) .«dom» [(.var 1)])) (.meth (.var 16) .«pop» []))) [.ret (.bool false)] []]
theorem bkLoop {R Rd Ka Se : Nat} {s t : Int} {sc : List Nat} {N st : Nat} {answers : List (List Int)} {a0 a1 a3 a4 a5 a6 a7 a8 a9 a10 a12 a13 a14 a15 a17 a18 a19 : Option AV} : ∀ (n : Nat) {A : Ad} {σ : Sg} {m : Mem} {ads : List Nat} {stk : List (List Mk)} {fu : Nat}, stk.length = n → A.st = st → St A m σ → Psv A.own m R Rd Ka Se ads stk s t sc N answers →
    Lev σ.doms σ.trail σ.marks stk → 0 ∉ σ.firsts → σ.doms.length = N → ads.length ≤ 300 → n < fu →
    W (whileLoop (fun vars mem => ev prg.meths (callN prg 19) vars bkTest mem) (exs prg.meths (callN prg 19) bkBody) fu (vL a0 a1 (some (.int N)) a3 a4 a5 a6 a7 a8 a9 a10 (some (.obj st)) a12 a13 a14 a15 (some (.obj Se)) a17 a18 a19) m) fun z => z.1 = .next ∧
      z.2.1 = vL a0 a1 (some (.int N)) a3 a4 a5 a6 a7 a8 a9 a10 (some (.obj st)) a12 a13 a14 a15 (some (.obj Se)) a17 a18 a19 ∧ ∃ A' τ, A'.st = st ∧ St A' z.2.2 τ ∧ τ.marks = [] := by
  intro n
  induction n with
  | zero =>
    intro A σ m ads stk fu hn hst S P L hf hN ha hfu
    refine gI fun Gz gz => ?_
    obtain ⟨fu, rfl⟩ := Nat.exists_eq_succ_of_ne_zero (Nat.ne_of_gt (Nat.lt_of_le_of_lt (Nat.zero_le _) hfu))
    have h0 : stk = [] := List.eq_nil_of_length_eq_zero hn
    subst h0
    have h1 : ads = [] := List.eq_nil_of_length_eq_zero (P.len.trans rfl)
    subst h1
    have e1 : callB .len [.obj Se] m = some (.int 0, m) := by
      simp only [callB, itemsA, P.se]; rfl
    refine gz ?_
    rw [while_stop (m1 := m) (by
      simp only [bkTest, ev_cmp, ev_callB, evs_cons, evs_nil, ev_var, ev_int, vL_g16, Option.bind_some, e1, cm_eq, cm_ne, cm_lt, cm_le, cm_gt, cm_ge, cm_is, cm_in, cm_ni]; rfl)]
    refine W_some ?_
    refine ⟨rfl, rfl, A, σ, hst, S, ?_⟩
    exact List.eq_nil_of_length_eq_zero (L.len.trans rfl)
  | succ n ih =>
    intro A σ m ads stk fu hn hst S P L hf hN ha hfu
    obtain ⟨fu, rfl⟩ := Nat.exists_eq_succ_of_ne_zero (Nat.ne_of_gt (Nat.lt_of_le_of_lt (Nat.zero_le _) hfu))
    rcases List.eq_nil_or_concat stk with h0 | ⟨stk0, d, h0⟩
    · subst h0; cases hn
    rw [List.concat_eq_append] at h0
    subst h0
    rcases List.eq_nil_or_concat ads with h1 | ⟨ads0, b, h1⟩
    · subst h1; have := P.len; simp at this
    rw [List.concat_eq_append] at h1
    refine gI fun Gz gz => ?_
    subst h1
    subst hst
    have hse0 := P.se
    have hal : (ads0 ++ [b]).length = ads0.length + 1 := by rw [List.length_append]; rfl
    have e1 : callB .len [.obj Se] m = some (.int (ads0.length + 1 : Nat), m) := by
      simp only [callB, itemsA, hse0]
      rw [if_pos (sz_of (by rw [List.length_map]; omega)), List.length_map, hal]
    obtain ⟨t0, es, ms0, ht, hms, hu, hL⟩ := L.inv
    have hlen : σ.doms.length = d.length := hu.2.2
    obtain ⟨⟨a, m1⟩, p1, p2, A', hst', S1, O1, hown⟩ := pop_ok (n := 18) S hms ht (fun e he => by rw [hlen]; exact hu.2.1 e he) hf
    dsimp only at p2 S1 O1
    subst p2
    rw [undo_old hu] at S1
    have P1 : Psv A'.own m1 R Rd Ka Se (ads0 ++ [b]) (stk0 ++ [d]) s t sc N answers := by
      have Q1 := P.only O1
      have Q2 := P.mono (own' := A'.own) (fun i hi h => by
        rcases hown i h with h | h
        · exact h
        · omega)
      exact ⟨Q1.U, Q1.an, Q1.se, Q1.len, Q1.get, Q1.lt, Q2.oR, Q2.oRd, Q2.oKa, Q2.oSe, Q2.oA, Q1.nR, Q1.nRd, Q1.nKa, Q1.nA⟩
    have hdN : d.length = N := hlen.symm.trans hN
    obtain ⟨m2, c1, c2⟩ := doms_ok (n := 18) (vars := vL a0 a1 (some (.int N)) a3 a4 a5 a6 a7 a8 a9 a10 (some (.obj A.st)) a12 a13 a14 a15 (some (.obj Se)) a17 a18 a19) S1 (by rw [← hdN]; rfl) (by rw [hst']; rfl)
    have PM : m1 <+: m2 ++ [MObj.list (d.map eM)] := c2.trans (List.prefix_append _ _)
    have P2 := P1.only (Only.of_pre (own := A'.own) PM)
    have S2 := S1.pre PM
    obtain ⟨hb, P3⟩ := P2.pop
    have e2 : ev prg.meths (callN prg 19) (vL a0 a1 (some (.int N)) a3 a4 a5 a6 a7 a8 a9 a10 (some (.obj A.st)) a12 a13 a14 a15 (some (.obj Se)) a17 a18 a19) (.meth (.var 16) .«pop» []) (m2 ++ [.list (d.map eM)]) = some (.obj b, (m2 ++ [MObj.list (d.map eM)]).set Se (.list (ads0.map eJ))) := by
      rw [ev_mlist (i := Se) (m1 := m2 ++ [.list (d.map eM)]) (by simp only [ev_var, vL_g16, Option.bind_some]) P2.se]
      simp only [evs_nil, Option.bind_some, P2.se, listMeth]
      rw [List.map_append, List.map_cons, List.map_nil, List.getLast?_concat, List.dropLast_concat]
      simp only
      rw [if_pos (sz_of (by rw [List.length_append, List.length_map]; simp only [List.length_cons, List.length_nil]; omega))]; rfl
    have O3 : Only (· = Se) (m2 ++ [MObj.list (d.map eM)]) ((m2 ++ [MObj.list (d.map eM)]).set Se (.list (ads0.map eJ))) := Only.of_set rfl
    have S3 := S2.only O3 (fun i hi e => P2.oSe (e ▸ hi))
    have hm2 : Se ≠ m2.length := by
      have := lt_of_get P1.se
      have := c2.length_le
      omega
    have hall : (d.map eM).all (cl 3) = true := by rw [List.all_map, List.all_eq_true]; exact fun x _ => eM_cl x
    have e3 : eqA ((m2 ++ [MObj.list (d.map eM)]).set Se (.list (ads0.map eJ))) (.obj m2.length) (.obj b) = some true := by
      rw [eqA_list 3 (by decide) (xs := d.map eM) (ys := d.map eM) (by rw [List.getElem?_set_ne hm2]; exact get_new) (by rw [List.getElem?_set_ne (Ne.symm (P2.nA b (by simp)))]; exact hb) hall hall, decide_eq_true rfl]
    have e4 := S1.a_if
    rw [hst'] at e4
    refine gz ?_
    rw [while_go (m1 := m) (v2 := vL a0 a1 (some (.int N)) a3 a4 a5 a6 a7 a8 a9 a10 (some (.obj A.st)) a12 a13 a14 a15 (some (.obj Se)) a17 a18 a19) (m2 := (m2 ++ [MObj.list (d.map eM)]).set Se (.list (ads0.map eJ))) (by
      simp only [bkTest, ev_cmp, ev_callB, evs_cons, evs_nil, ev_var, ev_int, vL_g16, Option.bind_some, e1, cm_eq, cm_ne, cm_lt, cm_le, cm_gt, cm_ge, cm_is, cm_in, cm_ni]
      rw [decide_eq_true (by omega)]) (by
      unfold bkBody
      rw [exs_cons, ex_expr, S.call (f := 241) (by simp only [ev_var, vL_g11, Option.bind_some]) rfl rfl]
      simp only [evs_cons, evs_nil, ev_int, Option.bind_some, p1]
      rw [exs_cons, ex_ite, ev_or]
      simp only [ev_attr, ev_var, vL_g11, Option.bind_some, e4, Bool.false_eq_true, if_false]
      rw [ev_cmp, c1]
      simp only [Option.bind_some, e2, cmpA, e3, Option.map_some, Bool.not_true, Bool.false_eq_true, if_false, exs_nil])]
    refine ih (by rw [List.length_append] at hn; simpa using hn) hst' S3 P3 hL hf hdN (by rw [hal] at ha; omega) (by omega)
end Mine
end

section
open PySem
set_option maxRecDepth 100000
set_option linter.unusedVariables false
set_option linter.unusedSimpArgs false
set_option autoImplicit false
namespace Mine

theorem slice_from {m : Mem} {i k : Nat} {ys : List AV} (h : m[i]? = some (.list ys)) (hk : k ≤ ys.length) (hl : ys.length ≤ 1000) : sliceA (.obj i) (.int k) .none m = some (.obj m.length, m ++ [.list (ys.drop k)]) := by
  have a1 : clampA ys.length 0 (.int k) = some k := by
    simp only [clampA]
    rw [if_pos (by omega)]
    congr 1
    omega
  have a2 : clampA ys.length ys.length .none = some ys.length := rfl
  simp only [sliceA, itemsA, h, a1, a2]
  rw [if_neg (by omega), List.take_length]
theorem len_obj {m : Mem} {i : Nat} {ys : List AV} (h : m[i]? = some (.list ys)) (hl : ys.length ≤ 1000) : callB .len [.obj i] m = some (.int ys.length, m) := by
  simp only [callB, itemsA, h]
  rw [if_pos (sz_of (by omega))]
noncomputable def st1 : LS := .ite (.cmp .Lt (.callB .«len» [(.var 1)]) (.int 5)) [.assign (.v 1) (.bin .Add (.var 1) (.slice (.list [(.int 1), (.int 7), (.int 7), (.int 2), (.int 0), (.int 0), (.int 1), (.int 2)]) (.callB .«len» [(.var 1)]) .none))] []
noncomputable def dflt : List Int := [1, 7, 7, 2, 0, 0, 1, 2]
theorem st1_ok {Φ : Fun} {m : Mem} {b : Nat} {xs : List Int} (h : m[b]? = some (.list (xs.map .int))) (hl : xs.length ≤ 9) : ∃ a c m', ex prg.meths Φ st1 (vL none (some (.obj b)) none none none none none none none none none none none none none none none none none none) m = some (.next, vL none (some (.obj a)) none none none none none none none none none none none none none none none none none none, m') ∧
    m'[a]? = some (.list (List.map AV.int c)) ∧ 5 ≤ c.length ∧ c.length ≤ 9 := by
  have e1 : callB .len [.obj b] m = some (.int xs.length, m) := by rw [len_obj h (by rw [List.length_map]; omega), List.length_map]
  by_cases q : xs.length < 5
  · have P1 := List.prefix_append m [MObj.list (dflt.map AV.int)]
    have h1 := get_pre P1 h
    have e2 : callB .len [.obj b] (m ++ [.list (dflt.map .int)]) = some (.int xs.length, m ++ [.list (dflt.map .int)]) := by rw [len_obj h1 (by rw [List.length_map]; omega), List.length_map]
    have e3 := slice_from (k := xs.length) (get_new (mem := m) (o := .list (dflt.map .int))) (by simp only [dflt, List.length_map, List.length_cons, List.length_nil]; omega) (by simp [dflt])
    have P2 := List.prefix_append (m ++ [MObj.list (dflt.map AV.int)]) [MObj.list ((dflt.map AV.int).drop xs.length)]
    have e4 : binA .Add (.obj b) (.obj (m ++ [MObj.list (dflt.map AV.int)]).length) (m ++ [MObj.list (dflt.map AV.int)] ++ [MObj.list ((dflt.map AV.int).drop xs.length)]) =
        some (.obj (m ++ [MObj.list (dflt.map AV.int)] ++ [MObj.list ((dflt.map AV.int).drop xs.length)]).length, m ++ [MObj.list (dflt.map AV.int)] ++ [MObj.list ((dflt.map AV.int).drop xs.length)] ++ [.list (xs.map .int ++ (dflt.map AV.int).drop xs.length)]) := by
      simp only [bA_obj, get_pre P2 h1, get_new]
      rw [if_pos (sz_of (by rw [List.length_map, List.length_drop, List.length_map]; simp only [dflt, List.length_cons, List.length_nil]; omega))]
    refine ⟨(m ++ [MObj.list (dflt.map AV.int)] ++ [MObj.list ((dflt.map AV.int).drop xs.length)]).length, xs ++ dflt.drop xs.length, m ++ [MObj.list (dflt.map AV.int)] ++ [MObj.list ((dflt.map AV.int).drop xs.length)] ++ [MObj.list (xs.map .int ++ (dflt.map AV.int).drop xs.length)], ?_, ?_, ?_, ?_⟩
    · unfold st1
      simp only [exs_cons, exs_nil, ex_assign, ex_expr, ex_ret, ex_ite, ex_brk, ev_none, ev_bool, ev_int, ev_str, ev_var, ev_bin, ev_neg, ev_not, ev_cmp, ev_and, ev_or, ev_ite, ev_tuple, ev_list, ev_dict, ev_item, ev_slice, ev_attr, ev_callF, ev_callB, evs_cons, evs_nil, as_v, as_vs, as_attr, as_item, sv_cons, sv_nil, Option.bind_some, bA_add, bA_sub, cm_eq, cm_ne, cm_lt, cm_le, cm_gt, cm_ge, cm_is, vL_g0, vL_g1, vL_g2, vL_g3, vL_g4, vL_g5, vL_g6, vL_g7, vL_g8, vL_g9, vL_g10, vL_g11, vL_g12, vL_g13, vL_g14, vL_g15, vL_g16, vL_g17, vL_g18, vL_g19, vL_s0, vL_s1, vL_s2, vL_s3, vL_s4, vL_s5, vL_s6, vL_s7, vL_s8, vL_s9, vL_s10, vL_s11, vL_s12, vL_s13, vL_s14, vL_s15, vL_s16, vL_s17, vL_s18, vL_s19, e1, cm_eq, cm_ne, cm_lt, cm_le, cm_gt, cm_ge, cm_is, cm_in, cm_ni]
      rw [decide_eq_true (by omega)]
      have e2' : callB .len [.obj b] (m ++ [MObj.list [AV.int 1, AV.int 7, AV.int 7, AV.int 2, AV.int 0, AV.int 0, AV.int 1, AV.int 2]]) = some (.int xs.length, m ++ [MObj.list [AV.int 1, AV.int 7, AV.int 7, AV.int 2, AV.int 0, AV.int 0, AV.int 1, AV.int 2]]) := e2
      have e3' : sliceA (.obj m.length) (.int xs.length) .none (m ++ [MObj.list [AV.int 1, AV.int 7, AV.int 7, AV.int 2, AV.int 0, AV.int 0, AV.int 1, AV.int 2]]) = some (.obj (m ++ [MObj.list (dflt.map AV.int)]).length, m ++ [MObj.list (dflt.map AV.int)] ++ [MObj.list ((dflt.map AV.int).drop xs.length)]) := e3
      simp only [if_true, exs_cons, exs_nil, ex_assign, ex_expr, ex_ret, ex_ite, ex_brk, ev_none, ev_bool, ev_int, ev_str, ev_var, ev_bin, ev_neg, ev_not, ev_cmp, ev_and, ev_or, ev_ite, ev_tuple, ev_list, ev_dict, ev_item, ev_slice, ev_attr, ev_callF, ev_callB, evs_cons, evs_nil, as_v, as_vs, as_attr, as_item, sv_cons, sv_nil, Option.bind_some, bA_add, bA_sub, cm_eq, cm_ne, cm_lt, cm_le, cm_gt, cm_ge, cm_is, vL_g0, vL_g1, vL_g2, vL_g3, vL_g4, vL_g5, vL_g6, vL_g7, vL_g8, vL_g9, vL_g10, vL_g11, vL_g12, vL_g13, vL_g14, vL_g15, vL_g16, vL_g17, vL_g18, vL_g19, vL_s0, vL_s1, vL_s2, vL_s3, vL_s4, vL_s5, vL_s6, vL_s7, vL_s8, vL_s9, vL_s10, vL_s11, vL_s12, vL_s13, vL_s14, vL_s15, vL_s16, vL_s17, vL_s18, vL_s19, e2', e3', e4]
    · rw [List.map_append, List.map_drop]; exact get_new
    · rw [List.length_append, List.length_drop]; simp only [dflt, List.length_cons, List.length_nil]; omega
    · rw [List.length_append, List.length_drop]; simp only [dflt, List.length_cons, List.length_nil]; omega
  · refine ⟨b, xs, m, ?_, h, by omega, hl⟩
    unfold st1
    simp only [exs_cons, exs_nil, ex_assign, ex_expr, ex_ret, ex_ite, ex_brk, ev_none, ev_bool, ev_int, ev_str, ev_var, ev_bin, ev_neg, ev_not, ev_cmp, ev_and, ev_or, ev_ite, ev_tuple, ev_list, ev_dict, ev_item, ev_slice, ev_attr, ev_callF, ev_callB, evs_cons, evs_nil, as_v, as_vs, as_attr, as_item, sv_cons, sv_nil, Option.bind_some, bA_add, bA_sub, cm_eq, cm_ne, cm_lt, cm_le, cm_gt, cm_ge, cm_is, vL_g0, vL_g1, vL_g2, vL_g3, vL_g4, vL_g5, vL_g6, vL_g7, vL_g8, vL_g9, vL_g10, vL_g11, vL_g12, vL_g13, vL_g14, vL_g15, vL_g16, vL_g17, vL_g18, vL_g19, vL_s0, vL_s1, vL_s2, vL_s3, vL_s4, vL_s5, vL_s6, vL_s7, vL_s8, vL_s9, vL_s10, vL_s11, vL_s12, vL_s13, vL_s14, vL_s15, vL_s16, vL_s17, vL_s18, vL_s19, e1, cm_eq, cm_ne, cm_lt, cm_le, cm_gt, cm_ge, cm_is, cm_in, cm_ni]
    rw [decide_eq_false (by omega)]

theorem LL.snoc {m m' : Mem} {L : Nat} {as : List Nat} {lots : List (List Int)} {b : Nat} {vs : List Int} (h : LL m L as lots) (k : m <+: m') (hb : m'[b]? = some (.list (vs.map .int))) (hl : m.length ≤ b) (ha : ∀ a ∈ as, a ≠ L) (hv : vs.length ≤ 1000) (hs : lots.length < 1000) :
    LL (m'.set L (.list ((as ++ [b]).map eJ))) L (as ++ [b]) (lots ++ [vs]) := by
  have hL := lt_of_get h.l
  have O : Only (· = L) m (m'.set L (.list ((as ++ [b]).map eJ))) := (Only.of_pre k).trans (Only.of_set rfl)
  refine ⟨get_set (get_pre k h.l), by rw [List.length_append, List.length_append, h.len]; rfl, ?_, by rw [List.length_append]; exact hs, ?_⟩
  · intro i a e h1 h2
    rcases Nat.lt_or_ge i as.length with c | c
    · rw [List.getElem?_append_left c] at h1
      rw [List.getElem?_append_left (by rw [← h.len]; exact c)] at h2
      exact O.get (h.get i a e h1 h2) (ha a (List.mem_of_getElem? h1))
    · have hi : i = as.length := by
        have : i < (as ++ [b]).length := by rw [List.getElem?_eq_some_iff] at h1; exact h1.1
        rw [List.length_append, List.length_cons, List.length_nil] at this
        omega
      subst hi
      rw [List.getElem?_concat_length] at h1
      rw [h.len, List.getElem?_concat_length] at h2
      cases h1; cases h2
      rw [List.getElem?_set_ne (by omega)]; exact hb
  · intro ws hw
    rcases List.mem_append.mp hw with hw | hw
    · exact h.sz2 ws hw
    · simp only [List.mem_cons, List.not_mem_nil, or_false] at hw; subst hw; exact hv
noncomputable def ltBody : List LS := [.assign (.v 5) (.bin .Add (.int 1) (.bin .Mod (.bin .Sub (.item (.var 1) (.bin .Mod (.bin .Add (.int 1) (.var 4)) (.callB .«len» [(.var 1)]))) (.int 1)) (.int 7))),
  .expr (.meth (.var 3) .«append» [(.comp1 3 [(2, 5)] (.v 1) (.tuple [(.int 1), (.int 2), (.int 3)]) (.cmp .Eq (.bin .Mod (.bin .FloorDiv (.var 2) (.bin .Pow (.int 2) (.bin .Sub (.var 1) (.int 1)))) (.int 2)) (.int 1)) (.var 1))])]
theorem mask_tab : ∀ m : Mk, ∀ v ∈ ([1, 2, 3] : List Int), decide (((m.val : Int).fdiv ((2 : Int) ^ (v - 1).toNat)).fmod 2 = 1) = hasM m v := by decide +kernel
theorem ltIter {n k a L : Nat} {c : List Int} {m : Mem} {as : List Nat} {d : List Mk} {a0 a2 a5 a6 a7 a8 a9 a10 a11 a12 a13 a14 a15 a16 a17 a18 a19 : Option AV} (hc : m[a]? = some (.list (c.map .int))) (hc5 : 5 ≤ c.length) (hc9 : c.length ≤ 9) (hL : LL m L as (d.map vals)) (hLa : ∀ b ∈ as, b ≠ L) (haL : a ≠ L) (hd : d.length ≤ 10) :
    ∃ m' b5 v b, exs prg.meths (callN prg n) ltBody (vL a0 (some (.obj a)) a2 (some (.obj L)) (some (eN k)) a5 a6 a7 a8 a9 a10 a11 a12 a13 a14 a15 a16 a17 a18 a19) m = some (.next, vL a0 (some (.obj a)) a2 (some (.obj L)) (some (eN k)) b5 a6 a7 a8 a9 a10 a11 a12 a13 a14 a15 a16 a17 a18 a19, m') ∧
      m'[a]? = some (.list (c.map .int)) ∧ LL m' L (as ++ [b]) ((d ++ [v]).map vals) ∧ b ≠ L ∧ v ≠ 0 ∧ Only (· = L) m m' := by
  have e1 : callB .len [.obj a] m = some (.int c.length, m) := by rw [len_obj hc (by rw [List.length_map]; omega), List.length_map]
  obtain ⟨j, hj, hjl⟩ := fm_nat (1 + (k : Int)) (n := c.length) (by omega)
  have e2 : itemA (.obj a) (.int j) m = some (.int (valAt c j)) := (Is.obj hc).item hjl (by omega)
  obtain ⟨q, hq, hq7⟩ := fm_nat (valAt c j - 1) (n := 7) (by decide)
  have hv8 : 1 + q < 8 := by omega
  have hvn : (⟨1 + q, hv8⟩ : Mk) ≠ 0 := by
    intro h
    have := congrArg Fin.val h
    simp at this
  obtain ⟨m2, c1, c2⟩ := comp1_ok (M := prg.meths) (Φ := callN prg n) (vars := vL a0 (some (.obj a)) a2 (some (.obj L)) (some (eN k)) (some (.int (1 + (q : Int)))) a6 a7 a8 a9 a10 a11 a12 a13 a14 a15 a16 a17 a18 a19) (size := 3) (lends := [(2, 5)]) (t := .v 1) (it := .tuple [(.int 1), (.int 2), (.int 3)])
    (cond := .cmp .Eq (.bin .Mod (.bin .FloorDiv (.var 2) (.bin .Pow (.int 2) (.bin .Sub (.var 1) (.int 1)))) (.int 2)) (.int 1)) (elt := .var 1) (mem := m) (mem1 := m) (src := .tup [.int 1, .int 2, .int 3]) (enc := .int) (l := [1, 2, 3]) (hasM ⟨1 + q, hv8⟩) .int
    (fun v => ∃ a b, v = [a, b, some (.int (1 + (q : Int)))]) rfl rfl (fun _ _ => rfl) ⟨_, _, rfl⟩ (by
      rintro v hv vs m' ⟨a', b', rfl⟩ hm
      refine ⟨[a', some (.int v), some (.int (1 + (q : Int)))], rfl, ⟨_, _, rfl⟩, m', ?_, List.prefix_refl _, fun _ => ⟨m', rfl, List.prefix_refl _⟩⟩
      have htab := mask_tab ⟨1 + q, hv8⟩ v hv
      have hv3 : v = 1 ∨ v = 2 ∨ v = 3 := by simpa using hv
      have hpow : ∀ m : Mem, binA .Pow (.int 2) (.int (v - 1)) m = some (.int ((2 : Int) ^ (v - 1).toNat), m) := by
        intro m
        simp only [bA_pow, bA_fdiv, bA_mod]
        rw [if_pos (by omega)]
      have hpp : (2 : Int) ^ (v - 1).toNat ≠ 0 ∧ ((2 : Int) ^ (v - 1).toNat).natAbs < 1000 := by
        rcases hv3 with rfl | rfl | rfl <;> decide
      have hdiv : ∀ m : Mem, binA .FloorDiv (.int (1 + (q : Int))) (.int ((2 : Int) ^ (v - 1).toNat)) m = some (.int ((1 + (q : Int)).fdiv ((2 : Int) ^ (v - 1).toNat)), m) := by
        intro m
        simp only [bA_pow, bA_fdiv, bA_mod]
        rw [if_pos hpp]
      have hmod : ∀ (y : Int) (m : Mem), binA .Mod (.int y) (.int 2) m = some (.int (y.fmod 2), m) := by
        intro y m; rfl
      have hsub : ∀ m : Mem, binA .Sub (.int v) (.int 1) m = some (.int (v - 1), m) := fun m => rfl
      simp only [ev_cmp, ev_bin, ev_int, ev_var, List.getElem?_cons_zero, List.getElem?_cons_succ, Option.bind_some, hsub, hpow, hdiv, hmod, cm_eq, cm_ne, cm_lt, cm_le, cm_gt, cm_ge, cm_is, cm_in, cm_ni, eqA_int]
      rw [← htab]
      dsimp only
      rw [show (((1 + q : Nat) : Int)) = 1 + (q : Int) by omega]) (by simp)
  have hvals : [1, 2, 3].filter (hasM ⟨1 + q, hv8⟩) = vals ⟨1 + q, hv8⟩ := rfl
  rw [hvals] at c1
  have PM : m <+: m2 ++ [MObj.list ((vals ⟨1 + q, hv8⟩).map AV.int)] := c2.trans (List.prefix_append _ _)
  have hL2 := (hL.pre PM).l
  have hlen := hL.len
  rw [List.length_map] at hlen
  have hLL := hL.snoc PM (b := m2.length) (vs := vals ⟨1 + q, hv8⟩) get_new c2.length_le hLa (by have := vals_len ⟨1 + q, hv8⟩; omega) (by rw [List.length_map]; omega)
  have O : Only (· = L) m ((m2 ++ [MObj.list ((vals ⟨1 + q, hv8⟩).map AV.int)]).set L (.list ((as ++ [m2.length]).map eJ))) := (Only.of_pre PM).trans (Only.of_set rfl)
  have eap : (as.map eJ ++ [AV.obj m2.length]) = (as ++ [m2.length]).map eJ := by simp [eJ]
  refine ⟨(m2 ++ [MObj.list ((vals ⟨1 + q, hv8⟩).map AV.int)]).set L (.list ((as ++ [m2.length]).map eJ)), some (.int (1 + (q : Int))), ⟨1 + q, hv8⟩, m2.length, ?_, O.get hc haL, by rw [show (d ++ [(⟨1 + q, hv8⟩ : Mk)]).map vals = d.map vals ++ [vals ⟨1 + q, hv8⟩] by simp]; exact hLL, by have := lt_of_get hL.l; have := c2.length_le; omega, hvn, O⟩
  unfold ltBody
  rw [exs_cons, ex_assign]
  have hjm : binA .Mod (.int (1 + (k : Int))) (.int c.length) m = some (.int j, m) := by
    simp only [bA_pow, bA_fdiv, bA_mod]
    rw [if_neg (by omega), hj]
  have hqm : binA .Mod (.int (valAt c j - 1)) (.int 7) m = some (.int q, m) := by
    simp only [bA_pow, bA_fdiv, bA_mod]
    rw [if_neg (by decide)]
    have : (valAt c j - 1).fmod 7 = (q : Int) := hq
    rw [this]
  have hadd : ∀ (x y : Int) (m : Mem), binA .Add (.int x) (.int y) m = some (.int (x + y), m) := fun _ _ _ => rfl
  have hsub : ∀ (x y : Int) (m : Mem), binA .Sub (.int x) (.int y) m = some (.int (x - y), m) := fun _ _ _ => rfl
  simp only [ev_bin, ev_item, ev_callB, evs_cons, evs_nil, ev_int, ev_var, vL_g1, vL_g4, Option.bind_some, eN, e1, hadd, hsub, hjm, e2, hqm, as_v, vL_s5]
  rw [exs_cons, ex_expr, ev_mlist (i := L) (m1 := m) (by simp only [ev_var, vL_g3, Option.bind_some]) hL.l, evs_cons]
  simp only [eN] at c1
  rw [c1]
  simp only [Option.bind_some, evs_nil, hL2, listMeth]
  rw [if_pos (sz_of (by rw [List.length_map]; omega)), eap]
  simp only [Option.bind_some, exs_nil]
theorem ltLoop {n a L : Nat} {c : List Int} {all : List AV} {Nn : Int} {a0 a2 a6 a7 a8 a9 a10 a11 a12 a13 a14 a15 a16 a17 a18 a19 : Option AV} (hc5 : 5 ≤ c.length) (hc9 : c.length ≤ 9) (haL : a ≠ L) : ∀ (r k : Nat) {m : Mem} {as : List Nat} {d : List Mk} {a4 a5 : Option AV}, m[a]? = some (.list (c.map .int)) → LL m L as (d.map vals) → (∀ b ∈ as, b ≠ L) → (∀ v ∈ d, v ≠ 0) → d.length + r ≤ 10 →
    ∃ m' b4 b5 as' d', forLoop (.rng 0 Nn) all (.v 4) (exs prg.meths (callN prg n) ltBody) ((List.range' k r).map eN) (vL a0 (some (.obj a)) a2 (some (.obj L)) a4 a5 a6 a7 a8 a9 a10 a11 a12 a13 a14 a15 a16 a17 a18 a19) m = some (.next, vL a0 (some (.obj a)) a2 (some (.obj L)) b4 b5 a6 a7 a8 a9 a10 a11 a12 a13 a14 a15 a16 a17 a18 a19, m') ∧
      m'[a]? = some (.list (c.map .int)) ∧ LL m' L as' (List.map vals d') ∧ (∀ b ∈ as', b ≠ L) ∧ (∀ v ∈ d', v ≠ 0) ∧ d'.length = d.length + r := by
  intro r
  induction r with
  | zero =>
    intro k m as d a4 a5 hc hL hLa hnz hd
    exact ⟨m, a4, a5, as, d, rfl, hc, hL, hLa, hnz, rfl⟩
  | succ r ih =>
    intro k m as d a4 a5 hc hL hLa hnz hd
    obtain ⟨m1, b5, v, b, e1, h1, h2, h3, h4, _⟩ := ltIter (n := n) (k := k) (a0 := a0) (a2 := a2) (a5 := a5) (a6 := a6) (a7 := a7) (a8 := a8) (a9 := a9) (a10 := a10) (a11 := a11) (a12 := a12) (a13 := a13) (a14 := a14) (a15 := a15) (a16 := a16) (a17 := a17) (a18 := a18) (a19 := a19) hc hc5 hc9 hL hLa haL (by omega)
    rw [List.range'_succ, List.map_cons, for_cons rfl e1 rfl]
    obtain ⟨m2, b4, b5', as', d', k1, k2, k3, k4, k5, k6⟩ := ih (k + 1) (a4 := some (eN k)) (a5 := b5) h1 h2 (by
      intro x hx
      rcases List.mem_append.mp hx with hx | hx
      · exact hLa x hx
      · simp only [List.mem_cons, List.not_mem_nil, or_false] at hx; subst hx; exact h3) (by
      intro x hx
      rcases List.mem_append.mp hx with hx | hx
      · exact hnz x hx
      · simp only [List.mem_cons, List.not_mem_nil, or_false] at hx; subst hx; exact h4) (by rw [List.length_append]; simp only [List.length_cons, List.length_nil]; omega)
    refine ⟨m2, b4, b5', as', d', k1, k2, k3, k4, k5, ?_⟩
    rw [k6, List.length_append]; simp only [List.length_cons, List.length_nil]; omega

noncomputable def nvBody : List LS := [.expr (.meth (.var 11) .«newVar» [(.callF 35 [(.var 12)])])]
theorem nvLoop {A : Ad} {L : Nat} {all : List AV} {a0 a1 a2 a3 a4 a5 a6 a7 a8 a9 a10 a13 a14 a15 a16 a17 a18 a19 : Option AV} (oL : ¬ A.own L) : ∀ (as : List Nat) (d : List Mk) {σ : Sg} {m : Mem} {a12 : Option AV}, as.length = d.length → (∀ (i a : Nat) (v : Mk), as[i]? = some a → d[i]? = some v → m[a]? = some (.list ((vals v).map .int)) ∧ ¬ A.own a) → (∀ v ∈ d, v ≠ 0) →
    St A m σ → m[L]? = some (.list all) → σ.doms.length + d.length ≤ 90 → σ.firsts.length + d.length ≤ 90 →
    ∃ m' b12, forLoop (.obj L) all (.v 12) (exs prg.meths (callN prg 19) nvBody) (as.map eJ) (vL a0 a1 a2 a3 a4 a5 a6 a7 a8 a9 a10 (some (.obj A.st)) a12 a13 a14 a15 a16 a17 a18 a19) m = some (.next, vL a0 a1 a2 a3 a4 a5 a6 a7 a8 a9 a10 (some (.obj A.st)) b12 a13 a14 a15 a16 a17 a18 a19, m') ∧
      St A m' { σ with doms := σ.doms ++ d, firsts := σ.firsts ++ d } ∧ Only A.own m m' := by
  intro as
  induction as with
  | nil =>
    intro d σ m a12 h0 h1 h2 S hL h3 h4
    obtain rfl := List.eq_nil_of_length_eq_zero h0.symm
    exact ⟨m, a12, rfl, by rw [List.append_nil, List.append_nil]; exact S, Only.refl _⟩
  | cons a as ih =>
    intro d σ m a12 h0 h1 h2 S hL h3 h4
    obtain ⟨v, d, rfl⟩ := List.exists_cons_of_length_eq_add_one h0.symm
    rw [List.length_cons] at h3 h4
    obtain ⟨g1, g2⟩ := h1 0 a v rfl rfl
    obtain ⟨⟨r, m1⟩, e1, k1, S1, O1⟩ := newVar_ok (n := 18) (v := v) S (h2 v List.mem_cons_self) (by omega) (by omega)
    dsimp only at k1 S1 O1
    subst k1
    have e2 : callN prg 19 35 [.obj a] m = some (eM v, m) := fromValues_ok (n := 17) g1
    have hL1 := O1.get hL oL
    rw [List.map_cons, for_cons (v1 := vL a0 a1 a2 a3 a4 a5 a6 a7 a8 a9 a10 (some (.obj A.st)) (some (.obj a)) a13 a14 a15 a16 a17 a18 a19) (v2 := vL a0 a1 a2 a3 a4 a5 a6 a7 a8 a9 a10 (some (.obj A.st)) (some (.obj a)) a13 a14 a15 a16 a17 a18 a19) (m2 := m1) rfl (by
      unfold nvBody
      rw [exs_cons, ex_expr, S.call (f := 129) (by simp only [ev_var, vL_g11, Option.bind_some]) rfl rfl]
      simp only [ev_callF, evs_cons, evs_nil, ev_var, vL_g12, Option.bind_some, e2, e1, exs_nil]) (by simp only [stillA, hL1, decide_true])]
    obtain ⟨m2, b12, k2, k3, k4⟩ := ih d (σ := { σ with doms := σ.doms ++ [v], firsts := σ.firsts ++ [v] }) (m := m1) (a12 := some (.obj a)) (by simpa using h0) (fun i b w e f => by
      obtain ⟨f1, f2⟩ := h1 (i + 1) b w (by simpa using e) (by simpa using f)
      exact ⟨O1.get f1 f2, f2⟩) (fun w hw => h2 w (List.mem_cons_of_mem _ hw)) S1 hL1 (by simp only [List.length_append, List.length_cons, List.length_nil]; omega) (by simp only [List.length_append, List.length_cons, List.length_nil]; omega)
    refine ⟨m2, b12, k2, ?_, O1.trans k4⟩
    simp only [List.append_assoc, List.cons_append, List.nil_append] at k3
    exact k3

noncomputable def ansE : LE := .comp1 6 [(3, 7), (4, 9), (5, 8)] (.v 1) (.callF 393 [(.var 3)]) (.callF 388 [(.var 3), (.var 5), (.comp1 3 [(2, 1)] (.v 1) (.var 4) (.bool true) (.item (.var 2) (.var 1)))]) (.var 1)
noncomputable def ansM (s t : Int) (sc : List Nat) (d : List Mk) : List (List Int) := (tuplesM (d.map vals)).filter fun w => keepsM s t (sc.map (valAt w))
theorem ansE_ok {n L Sc : Nat} {s t : Int} {sc : List Nat} {m : Mem} {as : List Nat} {d : List Mk} {vars : Vars} (hL : LL m L as (d.map vals)) (hS : m[Sc]? = some (.list (sc.map eN))) (hd : d.length ≤ 4) (hl : sc.length ≤ 4) (hx : ∀ y ∈ sc, y < d.length) (h3 : vars[3]? = some (some (.obj L))) (h7 : vars[7]? = some (some (.int s))) (h8 : vars[8]? = some (some (.int t))) (h9 : vars[9]? = some (some (.obj Sc))) :
    ∃ m2, ev prg.meths (callN prg (n + 1)) vars ansE m = some (.obj m2.length, m2 ++ [.list ((ansM s t sc d).map eT)]) ∧ m <+: m2 := by
  have hP : lendVars vars 6 [(3, 7), (4, 9), (5, 8)] = [none, none, none, some (.int s), some (.obj Sc), some (.int t)] := by
    unfold lendVars
    simp only [List.foldl_cons, List.foldl_nil, h7, h8, h9]; rfl
  have h33 : ∀ vs ∈ d.map vals, vs.length ≤ 3 := by
    intro vs hv
    obtain ⟨x, _, rfl⟩ := List.mem_map.mp hv
    exact vals_len _
  have e1 : callN prg (n + 1) 393 [.obj L] m = some (.obj m.length, m ++ [.list ((tuplesM (d.map vals)).map eT)]) := tuples_ok hL (by rw [List.length_map]; exact hd) h33
  have P1 := List.prefix_append m [MObj.list ((tuplesM (d.map vals)).map eT)]
  have hsz : (tuplesM (d.map vals)).length ≤ 81 := by
    have := tuples_size (d.map vals) [[]] h33
    unfold tuplesM
    have h4 : 3 ^ (d.map vals).length ≤ 3 ^ 4 := Nat.pow_le_pow_right (by decide) (by rw [List.length_map]; exact hd)
    simp only [List.length_cons, List.length_nil] at this
    omega
  obtain ⟨m2, k1, k2⟩ := comp1_ok (M := prg.meths) (Φ := callN prg (n + 1)) (vars := vars) (size := 6) (lends := [(3, 7), (4, 9), (5, 8)]) (t := .v 1) (it := .callF 393 [(.var 3)])
    (cond := .callF 388 [(.var 3), (.var 5), (.comp1 3 [(2, 1)] (.v 1) (.var 4) (.bool true) (.item (.var 2) (.var 1)))]) (elt := .var 1) (mem := m) (mem1 := m ++ [.list ((tuplesM (d.map vals)).map eT)]) (src := .obj m.length) (enc := eT) (l := tuplesM (d.map vals))
    (fun w => keepsM s t (sc.map (valAt w))) eT (fun v => ∃ a b c, v = [a, b, c, some (.int s), some (.obj Sc), some (.int t)])
    (by rw [ev_callF, evs_cons, ev_var, h3]; exact e1) (iter_obj get_new) (still_obj get_new) ⟨_, _, _, hP⟩ (by
      rintro w hw v m' ⟨a, b, c, rfl⟩ hm
      rw [mem_tuples] at hw
      have hwl := inT_len hw
      rw [List.length_map] at hwl
      have hS' := get_pre (P1.trans hm) hS
      obtain ⟨m3, c1, c2⟩ := comp1_map (M := prg.meths) (Φ := callN prg (n + 1)) (vars := [a, some (eT w), c, some (.int s), some (.obj Sc), some (.int t)]) (size := 3) (lends := [(2, 1)]) (t := .v 1) (it := .var 4) (elt := .item (.var 2) (.var 1))
        (mem := m') (mem1 := m') (src := .obj Sc) (enc := eN) (l := sc) (fun x => .int (valAt w x)) (fun v => ∃ a b, v = [a, b, some (eT w)]) rfl (iter_obj hS') (still_obj hS') ⟨_, _, rfl⟩ (by
          rintro x hx' v m'' ⟨a', b', rfl⟩ hm'
          refine ⟨[a', some (eN x), some (eT w)], rfl, ⟨_, _, rfl⟩, m'', ?_, List.prefix_refl _⟩
          have e2 : itemA (eT w) (.int x) m'' = some (.int (valAt w x)) := Is.tup.item (by rw [hwl]; exact hx x hx') (by omega)
          simp only [ev_item, ev_var, List.getElem?_cons_zero, List.getElem?_cons_succ, Option.bind_some, eN, e2]) (by omega)
      refine ⟨[a, some (eT w), c, some (.int s), some (.obj Sc), some (.int t)], rfl, ⟨_, _, _, rfl⟩, m3 ++ [.list (sc.map fun x => .int (valAt w x))], ?_, pre_app c2 _, fun _ => ⟨_, rfl, List.prefix_refl _⟩⟩
      have e3 : callN prg (n + 1) 388 [.int s, .int t, .obj m3.length] (m3 ++ [.list (sc.map fun x => .int (valAt w x))]) = some (.bool (keepsM s t (sc.map (valAt w))), m3 ++ [.list (sc.map fun x => .int (valAt w x))]) := by
        refine keeps_ok (n := n) (Is.obj ?_) (by rw [List.length_map]; omega)
        rw [List.map_map]; exact get_new
      simp only [ev_callF, evs_cons, evs_nil, ev_var, List.getElem?_cons_zero, List.getElem?_cons_succ, Option.bind_some, c1, e3]) (by omega)
  exact ⟨m2, k1, P1.trans k2⟩
theorem ans_glob {s t : Int} {sc : List Nat} {d : List Mk} {plain : Bool} (hx : ∀ y ∈ sc, y < d.length) (hl : sc.length ≤ 4) (hp : plain = true → sc = List.range d.length) (h0 : 0 < d.length) (h4 : d.length ≤ 4) : Glob s t sc d (ansM s t sc d) plain ∧ (ansM s t sc d).length ≤ 81 := by
  have h33 : ∀ vs ∈ d.map vals, vs.length ≤ 3 := by
    intro vs hv
    obtain ⟨x, _, rfl⟩ := List.mem_map.mp hv
    exact vals_len _
  constructor
  · refine ⟨hx, by omega, hp, h0, h4, ?_, ?_⟩
    · intro w hw
      unfold ansM at hw
      rw [List.mem_filter, mem_tuples] at hw
      have := inT_len hw.1
      rw [List.length_map] at this
      exact ⟨this, this, hw.2⟩
    · intro w h1 h2
      unfold ansM
      rw [List.mem_filter, mem_tuples, inT_box]
      exact ⟨h1, h2.2⟩
  · have h1 : (ansM s t sc d).length ≤ (tuplesM (d.map vals)).length := List.length_filter_le _ _
    have := tuples_size (d.map vals) [[]] h33
    have h4 : 3 ^ (d.map vals).length ≤ 3 ^ 4 := Nat.pow_le_pow_right (by decide) (by rw [List.length_map]; exact h4)
    simp only [List.length_cons, List.length_nil] at this
    unfold tuplesM at h1
    omega
end Mine
end

section
open PySem
set_option maxRecDepth 100000
set_option linter.unusedVariables false
set_option linter.unusedSimpArgs false
set_option autoImplicit false
namespace Mine

noncomputable def st6 : LS := .ite (.not (.var 10)) [.assign (.item (.var 9) (.callF 367 [(.var 6), (.var 2)])) (.item (.var 9) (.int 0))] []
theorem gtrick {P : Prop} (h : ∀ G : Prop, (P → G) → G) : P := h P id
theorem st6_ok {m0 m : Mem} {r Sc N : Nat} {y : Int} {plain : Bool} {a0 a1 a3 a4 a5 a7 a8 a11 a12 a13 a14 a15 a16 a17 a18 a19 : Option AV} (hN : 0 < N) (hN4 : N ≤ 4) (hr : m[r]? = some (.list [.int y])) (hS : m[Sc]? = some (.list ((List.range N).map eN))) (hrS : r ≠ Sc) (hm : m0 <+: m) (h1 : m0.length ≤ r) (h2 : m0.length ≤ Sc) :
    ∃ m' sc, ex prg.meths (callN prg 19) st6 (vL a0 a1 (some (.int N)) a3 a4 a5 (some (.obj r)) a7 a8 (some (.obj Sc)) (some (.bool plain)) a11 a12 a13 a14 a15 a16 a17 a18 a19) m = some (.next, vL a0 a1 (some (.int N)) a3 a4 a5 (some (.obj r)) a7 a8 (some (.obj Sc)) (some (.bool plain)) a11 a12 a13 a14 a15 a16 a17 a18 a19, m') ∧
      m'[Sc]? = some (.list (List.map eN sc)) ∧ m0 <+: m' ∧ sc.length = N ∧ (∀ y ∈ sc, y < N) ∧ (plain = true → sc = List.range N) := by
  cases plain with
  | true =>
    refine ⟨m, List.range N, ?_, hS, hm, List.length_range, fun y hy => List.mem_range.mp hy, fun _ => rfl⟩
    unfold st6
    simp only [ex_ite, ev_not, ev_var, vL_g10, Option.bind_some, Bool.not_true, Bool.false_eq_true, if_false, exs_nil]
  | false =>
    obtain ⟨J, hJ, hJN⟩ := fm_nat y hN
    have e1 : itemA (.obj Sc) (.int 0) m = some (.int 0) := by
      have := item_list (i := 0) hS (by rw [List.length_map, List.length_range]; omega) (x := eN 0) (by rw [List.getElem?_map, List.getElem?_range hN]; rfl)
      exact this
    have e2 : callN prg 19 367 [.obj r, .int N] m = some (.int J, m.set r (.list [.int (y.fdiv N)])) := by
      rw [digit_ok (n := 18) hr (by omega) (by omega), hJ]
    have hS' : (m.set r (.list [.int (y.fdiv N)]))[Sc]? = some (.list ((List.range N).map eN)) := by rw [List.getElem?_set_ne hrS]; exact hS
    have e3 : setItemA (.obj Sc) (.int J) (.int 0) (m.set r (.list [.int (y.fdiv N)])) = some ((m.set r (.list [.int (y.fdiv N)])).set Sc (.list (((List.range N).set J 0).map eN))) := by
      simp only [setItemA, hS']
      rw [idx_nat (by rw [List.length_map, List.length_range]; exact hJN) (by rw [List.length_map, List.length_range]; omega)]
      simp only [Option.map_some, List.map_set]
      rfl
    refine ⟨(m.set r (.list [.int (y.fdiv N)])).set Sc (.list (((List.range N).set J 0).map eN)), (List.range N).set J 0, ?_, get_set hS', pre_set (pre_set hm h1) h2, by rw [List.length_set, List.length_range], ?_, fun h => by cases h⟩
    · unfold st6
      simp only [ex_ite, ev_not, ev_var, vL_g10, Option.bind_some, Bool.not_false, if_true, exs_cons, ex_assign, ev_item, ev_int, vL_g9, e1, as_item, ev_callF, evs_cons, evs_nil, vL_g6, vL_g2, e2, e3, exs_nil]
    · intro x hx
      rcases List.mem_or_eq_of_mem_set hx with hx | hx
      · exact List.mem_range.mp hx
      · omega
theorem adOf_own {m : Mem} {i : Nat} (h : (adOf m).own i) : m.length ≤ i := by
  simp only [Ad.own, Ad.all, adOf, List.mem_cons, List.not_mem_nil, or_false] at h
  omega
theorem slice_mid {m : Mem} {i p q : Nat} {ys : List AV} (h : m[i]? = some (.list ys)) (hl : ys.length ≤ 1000) : sliceA (.obj i) (.int p) (.int q) m = some (.obj m.length, m ++ [.list ((ys.take (min q ys.length)).drop (min p ys.length))]) := by
  have a1 : ∀ k : Nat, ∀ dd : Nat, clampA ys.length dd (.int k) = some (min k ys.length) := by
    intro k dd
    simp only [clampA]
    rw [if_pos (by omega), Int.toNat_natCast]
  simp only [sliceA, itemsA, h, a1]
  rw [if_neg (by omega)]
theorem lawRest_eq : lawRest = b430.drop 1 := by kernel_rfl
theorem lawVars_eq : lawVars = vL none (some (.obj 1)) none none none none none none none none none none none none none none none none none none := by kernel_rfl

theorem law_ok (nums : List Int) : LawOk nums := by
  have main : W (exs prg.meths (callN prg 19) lawRest lawVars [.list ((nums.take 9).map .int), .list ((nums.take 9).map .int)]) fun r => r.1 = .ret (.bool true) := by
    refine gtrick fun G hG => ?_
    obtain ⟨a, c, m1, e1, hc1, hc5, hc9⟩ := st1_ok (Φ := callN prg 19) (m := [.list ((nums.take 9).map .int), .list ((nums.take 9).map .int)]) (b := 1) (xs := nums.take 9) rfl (by rw [List.length_take]; omega)
    unfold st1 at e1
    obtain ⟨k0, hk0, hk03⟩ := fm_nat (valAt c 0) (n := 3) (by decide)
    have i0 : itemA (.obj a) (.int 0) m1 = some (.int (valAt c 0)) := (Is.obj hc1).item (i := 0) (by omega) (by omega)
    have i4 : ∀ m, m[a]? = some (.list (c.map .int)) → itemA (.obj a) (.int 4) m = some (.int (valAt c 4)) := fun m h => (Is.obj h).item (i := 4) (by omega) (by omega)
    have hadd : ∀ (x y : Int) (m : Mem), binA .Add (.int x) (.int y) m = some (.int (x + y), m) := fun _ _ _ => rfl
    have hmod3 : binA .Mod (.int (valAt c 0)) (.int 3) m1 = some (.int k0, m1) := by
      simp only [bA_mod]
      rw [if_neg (by decide)]
      have : (valAt c 0).fmod 3 = (k0 : Int) := hk0
      rw [this]
    generalize hNN : 2 + k0 = N at *
    have hN : 0 < N := by omega
    have hN4 : N ≤ 4 := by omega
    have e2 : ex prg.meths (callN prg 19) (.assign (.v 2) (.bin .Add (.int 2) (.bin .Mod (.item (.var 1) (.int 0)) (.int 3)))) (vL none (some (.obj a)) none none none none none none none none none none none none none none none none none none) m1 =
        some (.next, vL none (some (.obj a)) (some (.int N)) none none none none none none none none none none none none none none none none none, m1) := by
      simp only [ex_assign, ev_bin, ev_item, ev_int, ev_var, vL_g1, Option.bind_some, i0, hmod3, hadd, as_v, vL_s2]
      rw [show (2 : Int) + (k0 : Int) = (N : Int) by omega]
    have e3 : ex prg.meths (callN prg 19) (.assign (.v 3) (.list [])) (vL none (some (.obj a)) (some (.int N)) none none none none none none none none none none none none none none none none none) m1 =
        some (.next, vL none (some (.obj a)) (some (.int N)) (some (.obj m1.length)) none none none none none none none none none none none none none none none none, m1 ++ [.list []]) := by
      simp only [ex_assign, ev_list, evs_nil, Option.bind_some, as_v, vL_s3]
    have haL : a ≠ m1.length := by have := lt_of_get hc1; omega
    obtain ⟨m2, b4, b5, as, d, e4, hc2, hL2, hLa, hdz, hdl⟩ := ltLoop (n := 19) (a := a) (L := m1.length) (c := c) (all := (List.range' 0 N).map eN) (Nn := N) (a0 := none) (a2 := some (.int N)) (a6 := none) (a7 := none) (a8 := none) (a9 := none) (a10 := none) (a11 := none) (a12 := none) (a13 := none) (a14 := none) (a15 := none) (a16 := none) (a17 := none) (a18 := none) (a19 := none)
      hc5 hc9 haL N 0 (m := m1 ++ [.list []]) (as := []) (d := []) (a4 := none) (a5 := none) (get_pre (List.prefix_append _ _) hc1) ⟨get_new, rfl, fun i a vs h => by simp at h, by simp, fun vs h => by simp at h⟩ (fun b h => by simp at h) (fun v h => by simp at h) (by simp only [List.length_nil]; omega)
    simp only [List.length_nil, Nat.zero_add] at hdl
    obtain ⟨r1, r2⟩ := rng_iter (m := m1 ++ [MObj.list []]) (n := N) (by omega)
    rw [List.range_eq_range'] at r2
    have e5 : ex prg.meths (callN prg 19) (.for 0 (.v 4) (.callB .«range» [(.var 2)]) ltBody) (vL none (some (.obj a)) (some (.int N)) (some (.obj m1.length)) none none none none none none none none none none none none none none none none) (m1 ++ [.list []]) =
        some (.next, vL none (some (.obj a)) (some (.int N)) (some (.obj m1.length)) b4 b5 none none none none none none none none none none none none none none, m2) := by
      rw [ex_for (src := .rng 0 N) (m1 := m1 ++ [.list []]) (by simp only [ev_callB, evs_cons, evs_nil, ev_var, vL_g2, Option.bind_some, r1]) r2 rfl]
      exact e4
    unfold ltBody at e5
    have e6 : ex prg.meths (callN prg 19) (.assign (.v 6) (.list [(.item (.var 1) (.int 4))])) (vL none (some (.obj a)) (some (.int N)) (some (.obj m1.length)) b4 b5 none none none none none none none none none none none none none none) m2 =
        some (.next, vL none (some (.obj a)) (some (.int N)) (some (.obj m1.length)) b4 b5 (some (.obj m2.length)) none none none none none none none none none none none none none, m2 ++ [.list [.int (valAt c 4)]]) := by
      simp only [ex_assign, ev_list, evs_cons, evs_nil, ev_item, ev_int, ev_var, vL_g1, Option.bind_some, i4 m2 hc2, as_v, vL_s6]
    obtain ⟨k1, hk1, hk14⟩ := fm_nat (valAt c 4) (n := 4) (by decide)
    generalize hy1 : (valAt c 4).fdiv 4 = y1
    obtain ⟨k2, hk2, hk24⟩ := fm_nat y1 (n := 4) (by decide)
    generalize hy2 : y1.fdiv 4 = y2
    obtain ⟨k3, hk3, hk34⟩ := fm_nat ((k2 : Int) + 1) (n := 4) (by decide)
    have dg1 : callN prg 19 367 [.obj m2.length, .int 4] (m2 ++ [.list [.int (valAt c 4)]]) = some (.int k1, m2 ++ [.list [.int y1]]) := by
      rw [digit_ok (n := 18) (x := valAt c 4) get_new (by omega) (by omega), hy1, set_new]
      have : (valAt c 4).fmod 4 = (k1 : Int) := hk1
      rw [this]
    have dg2 : callN prg 19 367 [.obj m2.length, .int 4] (m2 ++ [.list [.int y1]]) = some (.int k2, m2 ++ [.list [.int y2]]) := by
      rw [digit_ok (n := 18) (x := y1) get_new (by omega) (by omega), hy2, set_new]
      have : y1.fmod 4 = (k2 : Int) := hk2
      rw [this]
    have hmod4 : ∀ m : Mem, binA .Mod (.int ((k2 : Int) + 1)) (.int 4) m = some (.int k3, m) := by
      intro m
      simp only [bA_mod]
      rw [if_neg (by decide)]
      have : ((k2 : Int) + 1).fmod 4 = (k3 : Int) := hk3
      rw [this]
    obtain ⟨r3, r4⟩ := rng_iter (m := m2 ++ [MObj.list [.int y2]]) (n := N) (by omega)
    have el : callB .list [.rng 0 N] (m2 ++ [.list [.int y2]]) = some (.obj (m2 ++ [MObj.list [.int y2]]).length, m2 ++ [.list [.int y2]] ++ [.list ((List.range N).map eN)]) := by
      simp only [callB, r4]
      rw [if_pos (sz_of (by rw [List.length_map, List.length_range]; omega))]
    have e7 : ex prg.meths (callN prg 19) (.assign (.vs [7, 8, 9]) (.tuple [(.bin .Add (.int 1) (.callF 367 [(.var 6), (.int 4)])), (.bin .Add (.int 1) (.bin .Mod (.bin .Add (.callF 367 [(.var 6), (.int 4)]) (.int 1)) (.int 4))), (.callB .«list» [(.callB .«range» [(.var 2)])])]))
        (vL none (some (.obj a)) (some (.int N)) (some (.obj m1.length)) b4 b5 (some (.obj m2.length)) none none none none none none none none none none none none none) (m2 ++ [.list [.int (valAt c 4)]]) =
        some (.next, vL none (some (.obj a)) (some (.int N)) (some (.obj m1.length)) b4 b5 (some (.obj m2.length)) (some (.int (1 + (k1 : Int)))) (some (.int (1 + (k3 : Int)))) (some (.obj (m2 ++ [MObj.list [.int y2]]).length)) none none none none none none none none none none, m2 ++ [.list [.int y2]] ++ [.list ((List.range N).map eN)]) := by
      simp only [ex_assign, ev_tuple, evs_cons, evs_nil, ev_bin, ev_callF, ev_callB, ev_int, ev_var, vL_g6, vL_g2, Option.bind_some, dg1, dg2, hadd, hmod4, r3, el, as_vs, sv_cons, sv_nil, vL_s7, vL_s8, vL_s9]
    generalize hSc : (m2 ++ [MObj.list [.int y2]]).length = Sc at *
    have hScl : m2.length + 1 = Sc := by rw [← hSc, List.length_append]; rfl
    have hr8 : (m2 ++ [MObj.list [.int y2]] ++ [MObj.list ((List.range N).map eN)])[m2.length]? = some (.list [.int y2]) := get_pre (List.prefix_append _ _) get_new
    have hs8 : (m2 ++ [MObj.list [.int y2]] ++ [MObj.list ((List.range N).map eN)])[Sc]? = some (.list ((List.range N).map eN)) := by rw [← hSc]; exact get_new
    have P8 : m2 <+: m2 ++ [MObj.list [.int y2]] ++ [MObj.list ((List.range N).map eN)] := by rw [List.append_assoc]; exact List.prefix_append _ _
    generalize m2 ++ [MObj.list [.int y2]] ++ [MObj.list ((List.range N).map eN)] = m8 at *
    obtain ⟨k4, hk4, hk44⟩ := fm_nat y2 (n := 4) (by decide)
    have dg3 : callN prg 19 367 [.obj m2.length, .int 4] m8 = some (.int k4, m8.set m2.length (.list [.int (y2.fdiv 4)])) := by
      rw [digit_ok (n := 18) (x := y2) hr8 (by omega) (by omega)]
      have : y2.fmod 4 = (k4 : Int) := hk4
      rw [this]
    have e8 : ex prg.meths (callN prg 19) (.assign (.v 10) (.cmp .NotEq (.callF 367 [(.var 6), (.int 4)]) (.int 1))) (vL none (some (.obj a)) (some (.int N)) (some (.obj m1.length)) b4 b5 (some (.obj m2.length)) (some (.int (1 + (k1 : Int)))) (some (.int (1 + (k3 : Int)))) (some (.obj Sc)) none none none none none none none none none none) m8 =
        some (.next, vL none (some (.obj a)) (some (.int N)) (some (.obj m1.length)) b4 b5 (some (.obj m2.length)) (some (.int (1 + (k1 : Int)))) (some (.int (1 + (k3 : Int)))) (some (.obj Sc)) (some (.bool (!decide ((k4 : Int) = 1)))) none none none none none none none none none, m8.set m2.length (.list [.int (y2.fdiv 4)])) := by
      simp only [ex_assign, ev_cmp, ev_callF, evs_cons, evs_nil, ev_int, ev_var, vL_g6, Option.bind_some, dg3, cm_eq, cm_ne, cm_lt, cm_le, cm_gt, cm_ge, cm_is, cm_in, cm_ni, eqA_int, Option.map_some, as_v, vL_s10]
    generalize hpl : (!decide ((k4 : Int) = 1)) = plain at *
    obtain ⟨m9, sc, e9, hsc9, P9, hscl, hscx, hscp⟩ := st6_ok (m0 := m2) (m := m8.set m2.length (.list [.int (y2.fdiv 4)])) (r := m2.length) (Sc := Sc) (N := N) (plain := plain) (a0 := none) (a1 := some (.obj a)) (a3 := some (.obj m1.length)) (a4 := b4) (a5 := b5) (a7 := some (.int (1 + (k1 : Int)))) (a8 := some (.int (1 + (k3 : Int)))) (a11 := none) (a12 := none) (a13 := none) (a14 := none) (a15 := none) (a16 := none) (a17 := none) (a18 := none) (a19 := none)
      hN hN4 (get_set hr8) (by rw [List.getElem?_set_ne (by omega)]; exact hs8) (by omega) (pre_set P8 (Nat.le_refl _)) (Nat.le_refl _) (by omega)
    unfold st6 at e9
    have hc9' := get_pre P9 hc2
    have hL9 := hL2.pre P9
    generalize hs : 1 + (k1 : Int) = s at *
    generalize ht : 1 + (k3 : Int) = t at *
    have okS : okK s := ⟨by omega, by omega⟩
    have okT : okK t := ⟨by omega, by omega⟩
    obtain ⟨⟨v10, m10⟩, e10, h10, S10, P10⟩ := newStore_ok (n := 17) (m := m9)
    dsimp only at h10 S10 P10
    subst h10
    have fresh : ∀ i, i < m9.length → ¬ (adOf m9).own i := fun i hi h => by have := adOf_own h; omega
    have e11 : ex prg.meths (callN prg 19) (.assign (.v 11) (.callF 258 [])) (vL none (some (.obj a)) (some (.int N)) (some (.obj m1.length)) b4 b5 (some (.obj m2.length)) (some (.int s)) (some (.int t)) (some (.obj Sc)) (some (.bool plain)) none none none none none none none none none) m9 =
        some (.next, vL none (some (.obj a)) (some (.int N)) (some (.obj m1.length)) b4 b5 (some (.obj m2.length)) (some (.int s)) (some (.int t)) (some (.obj Sc)) (some (.bool plain)) (some (.obj (adOf m9).st)) none none none none none none none none, m10) := by
      simp only [ex_assign, ev_callF, evs_nil, Option.bind_some, e10, as_v, vL_s11]
    generalize hA : adOf m9 = A at *
    have hL10 := hL9.pre P10
    have hasz : as.length = d.length := by have := hL9.len; rw [List.length_map] at this; exact this
    have hasl : ∀ (i ad : Nat), as[i]? = some ad → ad < m9.length := by
      intro i ad h
      have hi : i < d.length := by rw [← hasz]; rw [List.getElem?_eq_some_iff] at h; exact h.1
      exact lt_of_get (hL9.get i ad _ h (by rw [List.getElem?_map, List.getElem?_eq_getElem hi]; rfl))
    obtain ⟨m11, b12, e12, S11, O11⟩ := nvLoop (A := A) (L := m1.length) (all := as.map eJ) (a0 := none) (a1 := some (.obj a)) (a2 := some (.int N)) (a3 := some (.obj m1.length)) (a4 := b4) (a5 := b5) (a6 := some (.obj m2.length)) (a7 := some (.int s)) (a8 := some (.int t)) (a9 := some (.obj Sc)) (a10 := some (.bool plain)) (a13 := none) (a14 := none) (a15 := none) (a16 := none) (a17 := none) (a18 := none) (a19 := none)
      (fresh _ (lt_of_get hL9.l)) as d (a12 := none) hasz (fun i ad v h1 h2 => ⟨hL10.get i ad _ h1 (by rw [List.getElem?_map, h2]; rfl), fresh _ (hasl i ad h1)⟩) hdz S10 hL10.l (by simp only [sg0, List.length_nil]; omega) (by simp only [sg0, List.length_nil]; omega)
    have e13 : ex prg.meths (callN prg 19) (.for 0 (.v 12) (.var 3) nvBody) (vL none (some (.obj a)) (some (.int N)) (some (.obj m1.length)) b4 b5 (some (.obj m2.length)) (some (.int s)) (some (.int t)) (some (.obj Sc)) (some (.bool plain)) (some (.obj A.st)) none none none none none none none none) m10 =
        some (.next, vL none (some (.obj a)) (some (.int N)) (some (.obj m1.length)) b4 b5 (some (.obj m2.length)) (some (.int s)) (some (.int t)) (some (.obj Sc)) (some (.bool plain)) (some (.obj A.st)) b12 none none none none none none none, m11) := by
      rw [ex_for (src := .obj m1.length) (m1 := m10) (by simp only [ev_var, vL_g3, Option.bind_some]) (iter_obj hL10.l) rfl]
      exact e12
    unfold nvBody at e13
    obtain ⟨e14, S12⟩ := S11.set_sp (b := 6)
    have e15 : ex prg.meths (callN prg 19) (.assign (.attr (.var 11) .«speaker») (.int 6)) (vL none (some (.obj a)) (some (.int N)) (some (.obj m1.length)) b4 b5 (some (.obj m2.length)) (some (.int s)) (some (.int t)) (some (.obj Sc)) (some (.bool plain)) (some (.obj A.st)) b12 none none none none none none none) m11 =
        some (.next, vL none (some (.obj a)) (some (.int N)) (some (.obj m1.length)) b4 b5 (some (.obj m2.length)) (some (.int s)) (some (.int t)) (some (.obj Sc)) (some (.bool plain)) (some (.obj A.st)) b12 none none none none none none none, m11.set A.d (.sdict (dictOf A { { sg0 with doms := sg0.doms ++ d, firsts := sg0.firsts ++ d } with speaker := 6 }))) := by
      simp only [ex_assign, ev_int, Option.bind_some, as_attr, ev_var, vL_g11, e14]
    have O12 : Only A.own m10 (m11.set A.d (.sdict (dictOf A { { sg0 with doms := sg0.doms ++ d, firsts := sg0.firsts ++ d } with speaker := 6 }))) := O11.trans (Only.of_set (by simp [Ad.own, Ad.all]))
    have hσ : ({ { sg0 with doms := sg0.doms ++ d, firsts := sg0.firsts ++ d } with speaker := 6 } : Sg) = ⟨d, d, [], [], 0, 6, false, []⟩ := by simp [sg0]
    rw [hσ] at S12 O12 e15
    generalize m11.set A.d (.sdict (dictOf A ⟨d, d, [], [], 0, 6, false, []⟩)) = m12 at *
    have P912 : m9 <+: m12 := Only.pre P10 O12 (fun i h => by rw [← hA] at h; exact adOf_own h)
    have hsc12 := get_pre P912 hsc9
    have hc12 := get_pre P912 hc9'
    have hL12 := hL9.pre P912
    have fresh12 : ∀ i, i < m9.length → ¬ A.own i := fresh
    obtain ⟨⟨v13, m13⟩, e16, h13, U13, P13⟩ := newRule_ok (n := 17) (m := m12) (s := s) (t := t) (sc := sc) okS okT (by omega)
    dsimp only at h13 U13 P13
    subst h13
    have et : callB .tuple [.obj Sc] m12 = some (.tup (sc.map eN), m12) := by
      simp only [callB, itemsA, hsc12]
      rw [if_pos (sz_of (by rw [List.length_map]; omega))]
    have e17 : ex prg.meths (callN prg 19) (.assign (.v 13) (.callF 358 [(.var 7), (.var 8), (.callB .«tuple» [(.var 9)])])) (vL none (some (.obj a)) (some (.int N)) (some (.obj m1.length)) b4 b5 (some (.obj m2.length)) (some (.int s)) (some (.int t)) (some (.obj Sc)) (some (.bool plain)) (some (.obj A.st)) b12 none none none none none none none) m12 =
        some (.next, vL none (some (.obj a)) (some (.int N)) (some (.obj m1.length)) b4 b5 (some (.obj m2.length)) (some (.int s)) (some (.int t)) (some (.obj Sc)) (some (.bool plain)) (some (.obj A.st)) b12 (some (.obj (m12.length + 1))) none none none none none none, m13) := by
      simp only [ex_assign, ev_callF, ev_callB, evs_cons, evs_nil, ev_var, vL_g7, vL_g8, vL_g9, Option.bind_some, et, e16, as_v, vL_s13]
    have hlt12 : ∀ i, m12.length ≤ i → ¬ A.own i := fun i h => S12.new h
    have S13 := S12.pre P13
    have hL13 := hL12.pre P13
    have hsc13 := get_pre P13 hsc12
    obtain ⟨Gl, hGl⟩ := ans_glob (s := s) (t := t) (sc := sc) (d := d) (plain := plain) (fun y hy => by rw [hdl]; exact hscx y hy) (by omega) (fun h => by rw [hdl]; exact hscp h) (by omega) (by omega)
    obtain ⟨m14, e18, P14⟩ := ansE_ok (n := 18) (s := s) (t := t) (sc := sc) (d := d) (vars := vL none (some (.obj a)) (some (.int N)) (some (.obj m1.length)) b4 b5 (some (.obj m2.length)) (some (.int s)) (some (.int t)) (some (.obj Sc)) (some (.bool plain)) (some (.obj A.st)) b12 (some (.obj (m12.length + 1))) none none none none none none)
      hL13 hsc13 (by omega) (by omega) (fun y hy => by rw [hdl]; exact hscx y hy) rfl rfl rfl rfl
    have e19 : ex prg.meths (callN prg 19) (.assign (.v 15) ansE) (vL none (some (.obj a)) (some (.int N)) (some (.obj m1.length)) b4 b5 (some (.obj m2.length)) (some (.int s)) (some (.int t)) (some (.obj Sc)) (some (.bool plain)) (some (.obj A.st)) b12 (some (.obj (m12.length + 1))) none none none none none none) m13 =
        some (.next, vL none (some (.obj a)) (some (.int N)) (some (.obj m1.length)) b4 b5 (some (.obj m2.length)) (some (.int s)) (some (.int t)) (some (.obj Sc)) (some (.bool plain)) (some (.obj A.st)) b12 (some (.obj (m12.length + 1))) none (some (.obj m14.length)) none none none none, m14 ++ [.list ((ansM s t sc d).map eT)]) := by
      rw [ex_assign, e18]
      simp only [Option.bind_some, as_v, vL_s15]
    unfold ansE at e19
    have P15 : m13 <+: m14 ++ [MObj.list ((ansM s t sc d).map eT)] := pre_app P14 _
    have hKa : (m14 ++ [MObj.list ((ansM s t sc d).map eT)])[m14.length]? = some (.list ((ansM s t sc d).map eT)) := get_new
    have hKal : m13.length ≤ m14.length := P14.length_le
    generalize hm15 : m14 ++ [MObj.list ((ansM s t sc d).map eT)] = m15 at *
    have hm15l : m15.length = m14.length + 1 := by rw [← hm15, List.length_append]; rfl
    have hm13l : m12.length ≤ m13.length := P13.length_le
    have S15 := S13.pre P15
    have U15 := U13.pre P15
    have hL15 := hL13.pre P15
    have hsc15 := get_pre P15 hsc13
    have hAns15 : Ans m15 m14.length d.length (KK d.length s t sc) (ansM s t sc d) := ⟨hKa, by omega, by omega, Gl.k⟩
    have hR15 : m12.length + 1 < m15.length := lt_of_get U15.inst
    have nR : ¬ A.own (m12.length + 1) := hlt12 _ (by omega)
    have nRd : ¬ A.own m12.length := hlt12 _ (by omega)
    have nKa : ¬ A.own m14.length := hlt12 _ (by omega)
    have I0 : Inv d ⟨d, d, [], [], 0, 6, false, []⟩ [] := by
      refine ⟨rfl, ?_, Sub.refl _, ?_, .nil _ _⟩
      · intro x hx
        show dAt d x ≠ 0
        unfold dAt
        have hx' : x < d.length := hx
        rw [List.getElem?_eq_getElem hx']
        exact hdz _ (List.getElem_mem hx')
      · intro h
        exact hdz 0 h rfl
    have e20 : callN prg 19 425 [.obj (m12.length + 1), .int s, .int t, .obj m1.length, .obj Sc] m15 = some (.bool true, m15) := checkRight_ok (n := 17) U15 hL15 hsc15 (by omega) (fun y hy => by rw [hdl]; exact hscx y hy)
    obtain ⟨⟨v21, m16⟩, e21, h21, τ, S16, O16, T16⟩ := asked_ok (n := 11) nR nRd nKa S15 U15 (Gl.ask I0) hAns15 rfl (by simp) (by simp)
    dsimp only at h21 S16 O16
    subst h21
    have e22 : ex prg.meths (callN prg 19) (.ite (.or (.not (.callF 425 [(.var 13), (.var 7), (.var 8), (.var 3), (.var 9)])) (.not (.callF 420 [(.var 11), (.var 13), (.var 15), (.var 10)]))) [.ret (.bool false)] []) (vL none (some (.obj a)) (some (.int N)) (some (.obj m1.length)) b4 b5 (some (.obj m2.length)) (some (.int s)) (some (.int t)) (some (.obj Sc)) (some (.bool plain)) (some (.obj A.st)) b12 (some (.obj (m12.length + 1))) none (some (.obj m14.length)) none none none none) m15 =
        some (.next, vL none (some (.obj a)) (some (.int N)) (some (.obj m1.length)) b4 b5 (some (.obj m2.length)) (some (.int s)) (some (.int t)) (some (.obj Sc)) (some (.bool plain)) (some (.obj A.st)) b12 (some (.obj (m12.length + 1))) none (some (.obj m14.length)) none none none none, m16) := by
      simp only [ex_ite, ev_or, ev_not, ev_callF, evs_cons, evs_nil, ev_var, vL_g13, vL_g7, vL_g8, vL_g3, vL_g9, vL_g11, vL_g15, vL_g10, Option.bind_some, e20, e21, Bool.not_true, Bool.false_eq_true, if_false, exs_nil]
    have I16 := I0.stp T16
    have hc16 : m16[a]? = some (.list (c.map .int)) := O16.get (get_pre (P13.trans P15) hc12) (fresh12 _ (lt_of_get hc9'))
    have hm16l : m15.length ≤ m16.length := O16.1
    have P17 := List.prefix_append m16 [MObj.list []]
    have e23 := slice_mid (p := 5) (q := 8) (get_pre P17 hc16) (by rw [List.length_map]; omega)
    generalize hst : ((c.take (min 8 c.length)).drop (min 5 c.length)) = steps at *
    have hsteps : (((c.map AV.int).take (min 8 (c.map AV.int).length)).drop (min 5 (c.map AV.int).length)) = steps.map .int := by
      rw [← hst, List.map_drop, List.map_take, List.length_map]
    rw [hsteps] at e23
    have hstl : steps.length ≤ 3 := by rw [← hst, List.length_drop, List.length_take]; omega
    have e24 : ex prg.meths (callN prg 19) (.assign (.vs [16, 17]) (.tuple [(.list []), (.slice (.var 1) (.int 5) (.int 8))])) (vL none (some (.obj a)) (some (.int N)) (some (.obj m1.length)) b4 b5 (some (.obj m2.length)) (some (.int s)) (some (.int t)) (some (.obj Sc)) (some (.bool plain)) (some (.obj A.st)) b12 (some (.obj (m12.length + 1))) none (some (.obj m14.length)) none none none none) m16 =
        some (.next, vL none (some (.obj a)) (some (.int N)) (some (.obj m1.length)) b4 b5 (some (.obj m2.length)) (some (.int s)) (some (.int t)) (some (.obj Sc)) (some (.bool plain)) (some (.obj A.st)) b12 (some (.obj (m12.length + 1))) none (some (.obj m14.length)) (some (.obj m16.length)) (some (.obj (m16 ++ [MObj.list []]).length)) none none, m16 ++ [.list []] ++ [.list (steps.map .int)]) := by
      have e23' : sliceA (.obj a) (.int 5) (.int 8) (m16 ++ [.list []]) = some (.obj (m16 ++ [MObj.list []]).length, m16 ++ [.list []] ++ [.list (steps.map .int)]) := e23
      simp only [ex_assign, ev_tuple, ev_list, ev_slice, evs_cons, evs_nil, ev_int, ev_var, vL_g1, Option.bind_some, e23', as_vs, sv_cons, sv_nil, vL_s16, vL_s17]
    have P18 : m16 <+: m16 ++ [MObj.list []] ++ [MObj.list (steps.map AV.int)] := P17.trans (List.prefix_append _ _)
    have hSl : (m16 ++ [MObj.list []]).length = m16.length + 1 := by rw [List.length_append]; rfl
    have nnew : ∀ i, m16.length ≤ i → ¬ A.own i := fun i h => S16.new h
    have hPsv : Psv A.own (m16 ++ [MObj.list []] ++ [MObj.list (steps.map AV.int)]) (m12.length + 1) m12.length m14.length m16.length [] [] s t sc d.length (ansM s t sc d) :=
      ⟨(U15.only O16 nR nRd).pre P18, (hAns15.only O16 nKa).pre P18, get_pre (List.prefix_append _ _) get_new, rfl, fun i b e h => by simp at h, fun b h => by simp at h, nR, nRd, nKa, nnew _ (Nat.le_refl _), fun b h => by simp at h, by omega, by omega, by omega, fun b h => by simp at h⟩
    have hT1 := T16.lt
    have hT2 := T16.ln
    have hT3 := T16.mr
    obtain ⟨⟨fl, vv, m19⟩, e25, g1, τ2, ads2, stk2, w6, w14, w18, w19, g2, S19, P19, I19, g3⟩ := nbLoop (A := A) (Sl := (m16 ++ [MObj.list []]).length) (all := steps.map .int) (a0 := none) (a1 := some (.obj a)) (a3 := some (.obj m1.length)) (a4 := b4) (a5 := b5) (a7 := some (.int s)) (a8 := some (.int t)) (a9 := some (.obj Sc)) (a12 := b12) (a17 := some (.obj (m16 ++ [MObj.list []]).length))
      Gl (nnew _ (by omega)) (by omega) steps (m := m16 ++ [.list []] ++ [.list (steps.map .int)]) (a6 := some (.obj m2.length)) (a14 := none) (a18 := none) (a19 := none) (S16.pre P18) hPsv I16 (by simp only [List.length_nil] at hT1; omega) (by simp only at hT2; omega) (by rw [hT3]; simp only [List.length_nil]; omega) (by simp only [List.length_nil]; omega) get_new
    dsimp only at g1 g2 S19 P19
    subst g1 g2
    rw [hdl] at e25
    have e26 : ex prg.meths (callN prg 19) (.for 0 (.v 18) (.var 17) nbBody) (vL none (some (.obj a)) (some (.int N)) (some (.obj m1.length)) b4 b5 (some (.obj m2.length)) (some (.int s)) (some (.int t)) (some (.obj Sc)) (some (.bool plain)) (some (.obj A.st)) b12 (some (.obj (m12.length + 1))) none (some (.obj m14.length)) (some (.obj m16.length)) (some (.obj (m16 ++ [MObj.list []]).length)) none none) (m16 ++ [.list []] ++ [.list (steps.map .int)]) =
        some (.next, vL none (some (.obj a)) (some (.int N)) (some (.obj m1.length)) b4 b5 w6 (some (.int s)) (some (.int t)) (some (.obj Sc)) (some (.bool plain)) (some (.obj A.st)) b12 (some (.obj (m12.length + 1))) w14 (some (.obj m14.length)) (some (.obj m16.length)) (some (.obj (m16 ++ [MObj.list []]).length)) w18 w19, m19) := by
      rw [ex_for (src := .obj (m16 ++ [MObj.list []]).length) (m1 := m16 ++ [.list []] ++ [.list (steps.map .int)]) (by simp only [ev_var, vL_g17, Option.bind_some]) (iter_obj get_new) rfl]
      exact e25
    unfold nbBody at e26
    have hlen2 := P19.len
    obtain ⟨⟨fl, vv, m20⟩, e27, g4, g5, A', τ3, g6, S20, g7⟩ := bkLoop (R := m12.length + 1) (Rd := m12.length) (Ka := m14.length) (Se := m16.length) (s := s) (t := t) (sc := sc) (N := N) (st := A.st) (answers := ansM s t sc d) (a0 := none) (a1 := some (.obj a)) (a3 := some (.obj m1.length)) (a4 := b4) (a5 := b5) (a6 := w6) (a7 := some (.int s)) (a8 := some (.int t)) (a9 := some (.obj Sc)) (a10 := some (.bool plain)) (a12 := b12) (a13 := some (.obj (m12.length + 1))) (a14 := w14) (a15 := some (.obj m14.length)) (a17 := some (.obj (m16 ++ [MObj.list []]).length)) (a18 := w18) (a19 := w19)
      stk2.length (fu := 1000) rfl rfl S19 (hdl ▸ P19) I19.lev I19.fi (I19.sub.1.trans hdl) g3 (by omega)
    dsimp only at g4 g5 S20
    subst g4 g5
    have e28 : ex prg.meths (callN prg 19) (.while bkTest bkBody) (vL none (some (.obj a)) (some (.int N)) (some (.obj m1.length)) b4 b5 w6 (some (.int s)) (some (.int t)) (some (.obj Sc)) (some (.bool plain)) (some (.obj A.st)) b12 (some (.obj (m12.length + 1))) w14 (some (.obj m14.length)) (some (.obj m16.length)) (some (.obj (m16 ++ [MObj.list []]).length)) w18 w19) m19 =
        some (.next, vL none (some (.obj a)) (some (.int N)) (some (.obj m1.length)) b4 b5 w6 (some (.int s)) (some (.int t)) (some (.obj Sc)) (some (.bool plain)) (some (.obj A.st)) b12 (some (.obj (m12.length + 1))) w14 (some (.obj m14.length)) (some (.obj m16.length)) (some (.obj (m16 ++ [MObj.list []]).length)) w18 w19, m20) := by
      rw [ex_while]
      exact e27
    unfold bkTest bkBody at e28
    refine hG ?_
    rw [lawRest_eq, lawVars_eq, b430]
    simp only [List.drop_succ_cons, List.drop_zero]
    rw [exs_next e1, exs_next e2, exs_next e3, exs_next e5, exs_next e6, exs_next e7, exs_next e8, exs_next e9, exs_next e11, exs_next e13, exs_next e15, exs_next e17, exs_next e19, exs_next e22, exs_next e24, exs_next e26, exs_next e28]
    have e29 := S20.depth (n := 18)
    rw [g7] at e29
    rw [exs_cons, ex_ret, ev_cmp, S20.call (f := 248) (by rw [g6]; simp only [ev_var, vL_g11, Option.bind_some]) rfl rfl]
    simp only [evs_nil, Option.bind_some, e29, ev_int, cm_eq, cm_ne, cm_lt, cm_le, cm_gt, cm_ge, cm_is, cm_in, cm_ni, eqA_int, List.length_nil]
    exact W_some rfl
  obtain ⟨⟨fl, v, m'⟩, e, h⟩ := main
  cases h
  exact ⟨v, m', e⟩
end Mine
end

theorem PySem.Challenge.cw_no0306_01_holds : PySem.Challenge.rw_no0306_01.Holds :=
  Mine.hd_of Mine.said_ok' (Mine.left_of Mine.run_ok) (Mine.walk_ok fun nums _ => Mine.law_ok nums)
