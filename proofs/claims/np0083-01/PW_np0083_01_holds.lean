import PyProof.Rows.All
import Wide.All
import OpenK.AllK
import Wide.FinOn
import Lean
import PySem.Challenge.RW_np0083_01
set_option Elab.async false
set_option maxRecDepth 100000
set_option linter.all false
set_option tactic.hygienic false
open PySem PySem.W PySem.Calls PyProof.Rows
section
namespace Mine
universe u0 u1 u2 u3 u4 u5 u6 u7 u8 u9 u10 u11 u12
variable {g:Prop} {A0:Sort u0} {A1:Sort u1} {A2:Sort u2} {A3:Sort u3} {A4:Sort u4} {A5:Sort u5} {A6:Sort u6} {A7:Sort u7} {A8:Sort u8} {A9:Sort u9} {A10:Sort u10} {A11:Sort u11} {A12:Sort u12}
section
variable {q0 q1 q2 q3 q4 q5 q6 q7 q8 q9 q10 q11 q12 q13 q14 q15 q16:Prop}
theorem e0_2 (h:q0∧q1) (k:q0->q1->g):g:=k h.1 h.2
theorem e0_3 (h:q0∧q1∧q2) (k:q0->q1->q2->g):g:=k h.1 h.2.1 h.2.2
theorem e0_4 (h:q0∧q1∧q2∧q3) (k:q0->q1->q2->q3->g):g:=k h.1 h.2.1 h.2.2.1 h.2.2.2
theorem i0_2 (h0:q0) (h1:q1):q0∧q1:=⟨h0,h1⟩
theorem i0_3 (h0:q0) (h1:q1) (h2:q2):q0∧q1∧q2:=⟨h0,h1,h2⟩
theorem i0_17 (h0:q0) (h1:q1) (h2:q2) (h3:q3) (h4:q4) (h5:q5) (h6:q6) (h7:q7) (h8:q8) (h9:q9) (h10:q10) (h11:q11) (h12:q12) (h13:q13) (h14:q14) (h15:q15) (h16:q16):q0∧q1∧q2∧q3∧q4∧q5∧q6∧q7∧q8∧q9∧q10∧q11∧q12∧q13∧q14∧q15∧q16:=⟨h0,h1,h2,h3,h4,h5,h6,h7,h8,h9,h10,h11,h12,h13,h14,h15,h16⟩
end
section
variable {p0 p1 p2 p3 p4:A0->Prop}
theorem e1_1 (h:∃ x0,p0 x0) (k:∀ x0,p0 x0->g):g:=h.elim λx0 h=>k x0 h
theorem e1_2 (h:∃ x0,p0 x0∧p1 x0) (k:∀ x0,p0 x0->p1 x0->g):g:=h.elim λx0 h=>k x0 h.1 h.2
theorem e1_3 (h:∃ x0,p0 x0∧p1 x0∧p2 x0) (k:∀ x0,p0 x0->p1 x0->p2 x0->g):g:=h.elim λx0 h=>k x0 h.1 h.2.1 h.2.2
theorem e1_4 (h:∃ x0,p0 x0∧p1 x0∧p2 x0∧p3 x0) (k:∀ x0,p0 x0->p1 x0->p2 x0->p3 x0->g):g:=h.elim λx0 h=>k x0 h.1 h.2.1 h.2.2.1 h.2.2.2
theorem e1_5 (h:∃ x0,p0 x0∧p1 x0∧p2 x0∧p3 x0∧p4 x0) (k:∀ x0,p0 x0->p1 x0->p2 x0->p3 x0->p4 x0->g):g:=h.elim λx0 h=>k x0 h.1 h.2.1 h.2.2.1 h.2.2.2.1 h.2.2.2.2
theorem i1_1 (x0:A0) (h0:p0 x0):∃ x0,p0 x0:=⟨x0,h0⟩
theorem i1_2 (x0:A0) (h0:p0 x0) (h1:p1 x0):∃ x0,p0 x0∧p1 x0:=⟨x0,h0,h1⟩
theorem i1_3 (x0:A0) (h0:p0 x0) (h1:p1 x0) (h2:p2 x0):∃ x0,p0 x0∧p1 x0∧p2 x0:=⟨x0,h0,h1,h2⟩
theorem i1_4 (x0:A0) (h0:p0 x0) (h1:p1 x0) (h2:p2 x0) (h3:p3 x0):∃ x0,p0 x0∧p1 x0∧p2 x0∧p3 x0:=⟨x0,h0,h1,h2,h3⟩
theorem i1_5 (x0:A0) (h0:p0 x0) (h1:p1 x0) (h2:p2 x0) (h3:p3 x0) (h4:p4 x0):∃ x0,p0 x0∧p1 x0∧p2 x0∧p3 x0∧p4 x0:=⟨x0,h0,h1,h2,h3,h4⟩
end
section
variable {p0 p1 p2 p3 p4 p5:A0->A1->Prop}
theorem e2_1 (h:∃ x0 x1,p0 x0 x1) (k:∀ x0 x1,p0 x0 x1->g):g:=h.elim λx0 h=>h.elim λx1 h=>k x0 x1 h
theorem e2_2 (h:∃ x0 x1,p0 x0 x1∧p1 x0 x1) (k:∀ x0 x1,p0 x0 x1->p1 x0 x1->g):g:=h.elim λx0 h=>h.elim λx1 h=>k x0 x1 h.1 h.2
theorem e2_3 (h:∃ x0 x1,p0 x0 x1∧p1 x0 x1∧p2 x0 x1) (k:∀ x0 x1,p0 x0 x1->p1 x0 x1->p2 x0 x1->g):g:=h.elim λx0 h=>h.elim λx1 h=>k x0 x1 h.1 h.2.1 h.2.2
theorem e2_4 (h:∃ x0 x1,p0 x0 x1∧p1 x0 x1∧p2 x0 x1∧p3 x0 x1) (k:∀ x0 x1,p0 x0 x1->p1 x0 x1->p2 x0 x1->p3 x0 x1->g):g:=h.elim λx0 h=>h.elim λx1 h=>k x0 x1 h.1 h.2.1 h.2.2.1 h.2.2.2
theorem e2_5 (h:∃ x0 x1,p0 x0 x1∧p1 x0 x1∧p2 x0 x1∧p3 x0 x1∧p4 x0 x1) (k:∀ x0 x1,p0 x0 x1->p1 x0 x1->p2 x0 x1->p3 x0 x1->p4 x0 x1->g):g:=h.elim λx0 h=>h.elim λx1 h=>k x0 x1 h.1 h.2.1 h.2.2.1 h.2.2.2.1 h.2.2.2.2
theorem e2_6 (h:∃ x0 x1,p0 x0 x1∧p1 x0 x1∧p2 x0 x1∧p3 x0 x1∧p4 x0 x1∧p5 x0 x1) (k:∀ x0 x1,p0 x0 x1->p1 x0 x1->p2 x0 x1->p3 x0 x1->p4 x0 x1->p5 x0 x1->g):g:=h.elim λx0 h=>h.elim λx1 h=>k x0 x1 h.1 h.2.1 h.2.2.1 h.2.2.2.1 h.2.2.2.2.1 h.2.2.2.2.2
theorem i2_1 (x0:A0) (x1:A1) (h0:p0 x0 x1):∃ x0 x1,p0 x0 x1:=⟨x0,x1,h0⟩
theorem i2_2 (x0:A0) (x1:A1) (h0:p0 x0 x1) (h1:p1 x0 x1):∃ x0 x1,p0 x0 x1∧p1 x0 x1:=⟨x0,x1,h0,h1⟩
theorem i2_3 (x0:A0) (x1:A1) (h0:p0 x0 x1) (h1:p1 x0 x1) (h2:p2 x0 x1):∃ x0 x1,p0 x0 x1∧p1 x0 x1∧p2 x0 x1:=⟨x0,x1,h0,h1,h2⟩
theorem i2_4 (x0:A0) (x1:A1) (h0:p0 x0 x1) (h1:p1 x0 x1) (h2:p2 x0 x1) (h3:p3 x0 x1):∃ x0 x1,p0 x0 x1∧p1 x0 x1∧p2 x0 x1∧p3 x0 x1:=⟨x0,x1,h0,h1,h2,h3⟩
theorem i2_5 (x0:A0) (x1:A1) (h0:p0 x0 x1) (h1:p1 x0 x1) (h2:p2 x0 x1) (h3:p3 x0 x1) (h4:p4 x0 x1):∃ x0 x1,p0 x0 x1∧p1 x0 x1∧p2 x0 x1∧p3 x0 x1∧p4 x0 x1:=⟨x0,x1,h0,h1,h2,h3,h4⟩
theorem i2_6 (x0:A0) (x1:A1) (h0:p0 x0 x1) (h1:p1 x0 x1) (h2:p2 x0 x1) (h3:p3 x0 x1) (h4:p4 x0 x1) (h5:p5 x0 x1):∃ x0 x1,p0 x0 x1∧p1 x0 x1∧p2 x0 x1∧p3 x0 x1∧p4 x0 x1∧p5 x0 x1:=⟨x0,x1,h0,h1,h2,h3,h4,h5⟩
end
section
variable {p0 p1 p2 p3 p4 p5:A0->A1->A2->Prop}
theorem e3_1 (h:∃ x0 x1 x2,p0 x0 x1 x2) (k:∀ x0 x1 x2,p0 x0 x1 x2->g):g:=h.elim λx0 h=>h.elim λx1 h=>h.elim λx2 h=>k x0 x1 x2 h
theorem e3_2 (h:∃ x0 x1 x2,p0 x0 x1 x2∧p1 x0 x1 x2) (k:∀ x0 x1 x2,p0 x0 x1 x2->p1 x0 x1 x2->g):g:=h.elim λx0 h=>h.elim λx1 h=>h.elim λx2 h=>k x0 x1 x2 h.1 h.2
theorem e3_3 (h:∃ x0 x1 x2,p0 x0 x1 x2∧p1 x0 x1 x2∧p2 x0 x1 x2) (k:∀ x0 x1 x2,p0 x0 x1 x2->p1 x0 x1 x2->p2 x0 x1 x2->g):g:=h.elim λx0 h=>h.elim λx1 h=>h.elim λx2 h=>k x0 x1 x2 h.1 h.2.1 h.2.2
theorem e3_4 (h:∃ x0 x1 x2,p0 x0 x1 x2∧p1 x0 x1 x2∧p2 x0 x1 x2∧p3 x0 x1 x2) (k:∀ x0 x1 x2,p0 x0 x1 x2->p1 x0 x1 x2->p2 x0 x1 x2->p3 x0 x1 x2->g):g:=h.elim λx0 h=>h.elim λx1 h=>h.elim λx2 h=>k x0 x1 x2 h.1 h.2.1 h.2.2.1 h.2.2.2
theorem e3_5 (h:∃ x0 x1 x2,p0 x0 x1 x2∧p1 x0 x1 x2∧p2 x0 x1 x2∧p3 x0 x1 x2∧p4 x0 x1 x2) (k:∀ x0 x1 x2,p0 x0 x1 x2->p1 x0 x1 x2->p2 x0 x1 x2->p3 x0 x1 x2->p4 x0 x1 x2->g):g:=h.elim λx0 h=>h.elim λx1 h=>h.elim λx2 h=>k x0 x1 x2 h.1 h.2.1 h.2.2.1 h.2.2.2.1 h.2.2.2.2
theorem e3_6 (h:∃ x0 x1 x2,p0 x0 x1 x2∧p1 x0 x1 x2∧p2 x0 x1 x2∧p3 x0 x1 x2∧p4 x0 x1 x2∧p5 x0 x1 x2) (k:∀ x0 x1 x2,p0 x0 x1 x2->p1 x0 x1 x2->p2 x0 x1 x2->p3 x0 x1 x2->p4 x0 x1 x2->p5 x0 x1 x2->g):g:=h.elim λx0 h=>h.elim λx1 h=>h.elim λx2 h=>k x0 x1 x2 h.1 h.2.1 h.2.2.1 h.2.2.2.1 h.2.2.2.2.1 h.2.2.2.2.2
theorem i3_1 (x0:A0) (x1:A1) (x2:A2) (h0:p0 x0 x1 x2):∃ x0 x1 x2,p0 x0 x1 x2:=⟨x0,x1,x2,h0⟩
theorem i3_2 (x0:A0) (x1:A1) (x2:A2) (h0:p0 x0 x1 x2) (h1:p1 x0 x1 x2):∃ x0 x1 x2,p0 x0 x1 x2∧p1 x0 x1 x2:=⟨x0,x1,x2,h0,h1⟩
theorem i3_3 (x0:A0) (x1:A1) (x2:A2) (h0:p0 x0 x1 x2) (h1:p1 x0 x1 x2) (h2:p2 x0 x1 x2):∃ x0 x1 x2,p0 x0 x1 x2∧p1 x0 x1 x2∧p2 x0 x1 x2:=⟨x0,x1,x2,h0,h1,h2⟩
theorem i3_4 (x0:A0) (x1:A1) (x2:A2) (h0:p0 x0 x1 x2) (h1:p1 x0 x1 x2) (h2:p2 x0 x1 x2) (h3:p3 x0 x1 x2):∃ x0 x1 x2,p0 x0 x1 x2∧p1 x0 x1 x2∧p2 x0 x1 x2∧p3 x0 x1 x2:=⟨x0,x1,x2,h0,h1,h2,h3⟩
theorem i3_5 (x0:A0) (x1:A1) (x2:A2) (h0:p0 x0 x1 x2) (h1:p1 x0 x1 x2) (h2:p2 x0 x1 x2) (h3:p3 x0 x1 x2) (h4:p4 x0 x1 x2):∃ x0 x1 x2,p0 x0 x1 x2∧p1 x0 x1 x2∧p2 x0 x1 x2∧p3 x0 x1 x2∧p4 x0 x1 x2:=⟨x0,x1,x2,h0,h1,h2,h3,h4⟩
theorem i3_6 (x0:A0) (x1:A1) (x2:A2) (h0:p0 x0 x1 x2) (h1:p1 x0 x1 x2) (h2:p2 x0 x1 x2) (h3:p3 x0 x1 x2) (h4:p4 x0 x1 x2) (h5:p5 x0 x1 x2):∃ x0 x1 x2,p0 x0 x1 x2∧p1 x0 x1 x2∧p2 x0 x1 x2∧p3 x0 x1 x2∧p4 x0 x1 x2∧p5 x0 x1 x2:=⟨x0,x1,x2,h0,h1,h2,h3,h4,h5⟩
end
section
variable {p0 p1 p2 p3 p4 p5 p6:A0->A1->A2->A3->Prop}
theorem e4_2 (h:∃ x0 x1 x2 x3,p0 x0 x1 x2 x3∧p1 x0 x1 x2 x3) (k:∀ x0 x1 x2 x3,p0 x0 x1 x2 x3->p1 x0 x1 x2 x3->g):g:=h.elim λx0 h=>h.elim λx1 h=>h.elim λx2 h=>h.elim λx3 h=>k x0 x1 x2 x3 h.1 h.2
theorem e4_3 (h:∃ x0 x1 x2 x3,p0 x0 x1 x2 x3∧p1 x0 x1 x2 x3∧p2 x0 x1 x2 x3) (k:∀ x0 x1 x2 x3,p0 x0 x1 x2 x3->p1 x0 x1 x2 x3->p2 x0 x1 x2 x3->g):g:=h.elim λx0 h=>h.elim λx1 h=>h.elim λx2 h=>h.elim λx3 h=>k x0 x1 x2 x3 h.1 h.2.1 h.2.2
theorem e4_4 (h:∃ x0 x1 x2 x3,p0 x0 x1 x2 x3∧p1 x0 x1 x2 x3∧p2 x0 x1 x2 x3∧p3 x0 x1 x2 x3) (k:∀ x0 x1 x2 x3,p0 x0 x1 x2 x3->p1 x0 x1 x2 x3->p2 x0 x1 x2 x3->p3 x0 x1 x2 x3->g):g:=h.elim λx0 h=>h.elim λx1 h=>h.elim λx2 h=>h.elim λx3 h=>k x0 x1 x2 x3 h.1 h.2.1 h.2.2.1 h.2.2.2
theorem e4_5 (h:∃ x0 x1 x2 x3,p0 x0 x1 x2 x3∧p1 x0 x1 x2 x3∧p2 x0 x1 x2 x3∧p3 x0 x1 x2 x3∧p4 x0 x1 x2 x3) (k:∀ x0 x1 x2 x3,p0 x0 x1 x2 x3->p1 x0 x1 x2 x3->p2 x0 x1 x2 x3->p3 x0 x1 x2 x3->p4 x0 x1 x2 x3->g):g:=h.elim λx0 h=>h.elim λx1 h=>h.elim λx2 h=>h.elim λx3 h=>k x0 x1 x2 x3 h.1 h.2.1 h.2.2.1 h.2.2.2.1 h.2.2.2.2
theorem e4_6 (h:∃ x0 x1 x2 x3,p0 x0 x1 x2 x3∧p1 x0 x1 x2 x3∧p2 x0 x1 x2 x3∧p3 x0 x1 x2 x3∧p4 x0 x1 x2 x3∧p5 x0 x1 x2 x3) (k:∀ x0 x1 x2 x3,p0 x0 x1 x2 x3->p1 x0 x1 x2 x3->p2 x0 x1 x2 x3->p3 x0 x1 x2 x3->p4 x0 x1 x2 x3->p5 x0 x1 x2 x3->g):g:=h.elim λx0 h=>h.elim λx1 h=>h.elim λx2 h=>h.elim λx3 h=>k x0 x1 x2 x3 h.1 h.2.1 h.2.2.1 h.2.2.2.1 h.2.2.2.2.1 h.2.2.2.2.2
theorem e4_7 (h:∃ x0 x1 x2 x3,p0 x0 x1 x2 x3∧p1 x0 x1 x2 x3∧p2 x0 x1 x2 x3∧p3 x0 x1 x2 x3∧p4 x0 x1 x2 x3∧p5 x0 x1 x2 x3∧p6 x0 x1 x2 x3) (k:∀ x0 x1 x2 x3,p0 x0 x1 x2 x3->p1 x0 x1 x2 x3->p2 x0 x1 x2 x3->p3 x0 x1 x2 x3->p4 x0 x1 x2 x3->p5 x0 x1 x2 x3->p6 x0 x1 x2 x3->g):g:=h.elim λx0 h=>h.elim λx1 h=>h.elim λx2 h=>h.elim λx3 h=>k x0 x1 x2 x3 h.1 h.2.1 h.2.2.1 h.2.2.2.1 h.2.2.2.2.1 h.2.2.2.2.2.1 h.2.2.2.2.2.2
theorem i4_2 (x0:A0) (x1:A1) (x2:A2) (x3:A3) (h0:p0 x0 x1 x2 x3) (h1:p1 x0 x1 x2 x3):∃ x0 x1 x2 x3,p0 x0 x1 x2 x3∧p1 x0 x1 x2 x3:=⟨x0,x1,x2,x3,h0,h1⟩
theorem i4_4 (x0:A0) (x1:A1) (x2:A2) (x3:A3) (h0:p0 x0 x1 x2 x3) (h1:p1 x0 x1 x2 x3) (h2:p2 x0 x1 x2 x3) (h3:p3 x0 x1 x2 x3):∃ x0 x1 x2 x3,p0 x0 x1 x2 x3∧p1 x0 x1 x2 x3∧p2 x0 x1 x2 x3∧p3 x0 x1 x2 x3:=⟨x0,x1,x2,x3,h0,h1,h2,h3⟩
theorem i4_5 (x0:A0) (x1:A1) (x2:A2) (x3:A3) (h0:p0 x0 x1 x2 x3) (h1:p1 x0 x1 x2 x3) (h2:p2 x0 x1 x2 x3) (h3:p3 x0 x1 x2 x3) (h4:p4 x0 x1 x2 x3):∃ x0 x1 x2 x3,p0 x0 x1 x2 x3∧p1 x0 x1 x2 x3∧p2 x0 x1 x2 x3∧p3 x0 x1 x2 x3∧p4 x0 x1 x2 x3:=⟨x0,x1,x2,x3,h0,h1,h2,h3,h4⟩
theorem i4_6 (x0:A0) (x1:A1) (x2:A2) (x3:A3) (h0:p0 x0 x1 x2 x3) (h1:p1 x0 x1 x2 x3) (h2:p2 x0 x1 x2 x3) (h3:p3 x0 x1 x2 x3) (h4:p4 x0 x1 x2 x3) (h5:p5 x0 x1 x2 x3):∃ x0 x1 x2 x3,p0 x0 x1 x2 x3∧p1 x0 x1 x2 x3∧p2 x0 x1 x2 x3∧p3 x0 x1 x2 x3∧p4 x0 x1 x2 x3∧p5 x0 x1 x2 x3:=⟨x0,x1,x2,x3,h0,h1,h2,h3,h4,h5⟩
theorem i4_7 (x0:A0) (x1:A1) (x2:A2) (x3:A3) (h0:p0 x0 x1 x2 x3) (h1:p1 x0 x1 x2 x3) (h2:p2 x0 x1 x2 x3) (h3:p3 x0 x1 x2 x3) (h4:p4 x0 x1 x2 x3) (h5:p5 x0 x1 x2 x3) (h6:p6 x0 x1 x2 x3):∃ x0 x1 x2 x3,p0 x0 x1 x2 x3∧p1 x0 x1 x2 x3∧p2 x0 x1 x2 x3∧p3 x0 x1 x2 x3∧p4 x0 x1 x2 x3∧p5 x0 x1 x2 x3∧p6 x0 x1 x2 x3:=⟨x0,x1,x2,x3,h0,h1,h2,h3,h4,h5,h6⟩
end
section
variable {p0 p1 p2 p3 p4 p5 p6 p7:A0->A1->A2->A3->A4->Prop}
theorem e5_1 (h:∃ x0 x1 x2 x3 x4,p0 x0 x1 x2 x3 x4) (k:∀ x0 x1 x2 x3 x4,p0 x0 x1 x2 x3 x4->g):g:=h.elim λx0 h=>h.elim λx1 h=>h.elim λx2 h=>h.elim λx3 h=>h.elim λx4 h=>k x0 x1 x2 x3 x4 h
theorem e5_2 (h:∃ x0 x1 x2 x3 x4,p0 x0 x1 x2 x3 x4∧p1 x0 x1 x2 x3 x4) (k:∀ x0 x1 x2 x3 x4,p0 x0 x1 x2 x3 x4->p1 x0 x1 x2 x3 x4->g):g:=h.elim λx0 h=>h.elim λx1 h=>h.elim λx2 h=>h.elim λx3 h=>h.elim λx4 h=>k x0 x1 x2 x3 x4 h.1 h.2
theorem e5_3 (h:∃ x0 x1 x2 x3 x4,p0 x0 x1 x2 x3 x4∧p1 x0 x1 x2 x3 x4∧p2 x0 x1 x2 x3 x4) (k:∀ x0 x1 x2 x3 x4,p0 x0 x1 x2 x3 x4->p1 x0 x1 x2 x3 x4->p2 x0 x1 x2 x3 x4->g):g:=h.elim λx0 h=>h.elim λx1 h=>h.elim λx2 h=>h.elim λx3 h=>h.elim λx4 h=>k x0 x1 x2 x3 x4 h.1 h.2.1 h.2.2
theorem e5_4 (h:∃ x0 x1 x2 x3 x4,p0 x0 x1 x2 x3 x4∧p1 x0 x1 x2 x3 x4∧p2 x0 x1 x2 x3 x4∧p3 x0 x1 x2 x3 x4) (k:∀ x0 x1 x2 x3 x4,p0 x0 x1 x2 x3 x4->p1 x0 x1 x2 x3 x4->p2 x0 x1 x2 x3 x4->p3 x0 x1 x2 x3 x4->g):g:=h.elim λx0 h=>h.elim λx1 h=>h.elim λx2 h=>h.elim λx3 h=>h.elim λx4 h=>k x0 x1 x2 x3 x4 h.1 h.2.1 h.2.2.1 h.2.2.2
theorem e5_6 (h:∃ x0 x1 x2 x3 x4,p0 x0 x1 x2 x3 x4∧p1 x0 x1 x2 x3 x4∧p2 x0 x1 x2 x3 x4∧p3 x0 x1 x2 x3 x4∧p4 x0 x1 x2 x3 x4∧p5 x0 x1 x2 x3 x4) (k:∀ x0 x1 x2 x3 x4,p0 x0 x1 x2 x3 x4->p1 x0 x1 x2 x3 x4->p2 x0 x1 x2 x3 x4->p3 x0 x1 x2 x3 x4->p4 x0 x1 x2 x3 x4->p5 x0 x1 x2 x3 x4->g):g:=h.elim λx0 h=>h.elim λx1 h=>h.elim λx2 h=>h.elim λx3 h=>h.elim λx4 h=>k x0 x1 x2 x3 x4 h.1 h.2.1 h.2.2.1 h.2.2.2.1 h.2.2.2.2.1 h.2.2.2.2.2
theorem e5_8 (h:∃ x0 x1 x2 x3 x4,p0 x0 x1 x2 x3 x4∧p1 x0 x1 x2 x3 x4∧p2 x0 x1 x2 x3 x4∧p3 x0 x1 x2 x3 x4∧p4 x0 x1 x2 x3 x4∧p5 x0 x1 x2 x3 x4∧p6 x0 x1 x2 x3 x4∧p7 x0 x1 x2 x3 x4) (k:∀ x0 x1 x2 x3 x4,p0 x0 x1 x2 x3 x4->p1 x0 x1 x2 x3 x4->p2 x0 x1 x2 x3 x4->p3 x0 x1 x2 x3 x4->p4 x0 x1 x2 x3 x4->p5 x0 x1 x2 x3 x4->p6 x0 x1 x2 x3 x4->p7 x0 x1 x2 x3 x4->g):g:=h.elim λx0 h=>h.elim λx1 h=>h.elim λx2 h=>h.elim λx3 h=>h.elim λx4 h=>k x0 x1 x2 x3 x4 h.1 h.2.1 h.2.2.1 h.2.2.2.1 h.2.2.2.2.1 h.2.2.2.2.2.1 h.2.2.2.2.2.2.1 h.2.2.2.2.2.2.2
theorem i5_1 (x0:A0) (x1:A1) (x2:A2) (x3:A3) (x4:A4) (h0:p0 x0 x1 x2 x3 x4):∃ x0 x1 x2 x3 x4,p0 x0 x1 x2 x3 x4:=⟨x0,x1,x2,x3,x4,h0⟩
theorem i5_2 (x0:A0) (x1:A1) (x2:A2) (x3:A3) (x4:A4) (h0:p0 x0 x1 x2 x3 x4) (h1:p1 x0 x1 x2 x3 x4):∃ x0 x1 x2 x3 x4,p0 x0 x1 x2 x3 x4∧p1 x0 x1 x2 x3 x4:=⟨x0,x1,x2,x3,x4,h0,h1⟩
theorem i5_3 (x0:A0) (x1:A1) (x2:A2) (x3:A3) (x4:A4) (h0:p0 x0 x1 x2 x3 x4) (h1:p1 x0 x1 x2 x3 x4) (h2:p2 x0 x1 x2 x3 x4):∃ x0 x1 x2 x3 x4,p0 x0 x1 x2 x3 x4∧p1 x0 x1 x2 x3 x4∧p2 x0 x1 x2 x3 x4:=⟨x0,x1,x2,x3,x4,h0,h1,h2⟩
theorem i5_4 (x0:A0) (x1:A1) (x2:A2) (x3:A3) (x4:A4) (h0:p0 x0 x1 x2 x3 x4) (h1:p1 x0 x1 x2 x3 x4) (h2:p2 x0 x1 x2 x3 x4) (h3:p3 x0 x1 x2 x3 x4):∃ x0 x1 x2 x3 x4,p0 x0 x1 x2 x3 x4∧p1 x0 x1 x2 x3 x4∧p2 x0 x1 x2 x3 x4∧p3 x0 x1 x2 x3 x4:=⟨x0,x1,x2,x3,x4,h0,h1,h2,h3⟩
theorem i5_5 (x0:A0) (x1:A1) (x2:A2) (x3:A3) (x4:A4) (h0:p0 x0 x1 x2 x3 x4) (h1:p1 x0 x1 x2 x3 x4) (h2:p2 x0 x1 x2 x3 x4) (h3:p3 x0 x1 x2 x3 x4) (h4:p4 x0 x1 x2 x3 x4):∃ x0 x1 x2 x3 x4,p0 x0 x1 x2 x3 x4∧p1 x0 x1 x2 x3 x4∧p2 x0 x1 x2 x3 x4∧p3 x0 x1 x2 x3 x4∧p4 x0 x1 x2 x3 x4:=⟨x0,x1,x2,x3,x4,h0,h1,h2,h3,h4⟩
theorem i5_6 (x0:A0) (x1:A1) (x2:A2) (x3:A3) (x4:A4) (h0:p0 x0 x1 x2 x3 x4) (h1:p1 x0 x1 x2 x3 x4) (h2:p2 x0 x1 x2 x3 x4) (h3:p3 x0 x1 x2 x3 x4) (h4:p4 x0 x1 x2 x3 x4) (h5:p5 x0 x1 x2 x3 x4):∃ x0 x1 x2 x3 x4,p0 x0 x1 x2 x3 x4∧p1 x0 x1 x2 x3 x4∧p2 x0 x1 x2 x3 x4∧p3 x0 x1 x2 x3 x4∧p4 x0 x1 x2 x3 x4∧p5 x0 x1 x2 x3 x4:=⟨x0,x1,x2,x3,x4,h0,h1,h2,h3,h4,h5⟩
theorem i5_8 (x0:A0) (x1:A1) (x2:A2) (x3:A3) (x4:A4) (h0:p0 x0 x1 x2 x3 x4) (h1:p1 x0 x1 x2 x3 x4) (h2:p2 x0 x1 x2 x3 x4) (h3:p3 x0 x1 x2 x3 x4) (h4:p4 x0 x1 x2 x3 x4) (h5:p5 x0 x1 x2 x3 x4) (h6:p6 x0 x1 x2 x3 x4) (h7:p7 x0 x1 x2 x3 x4):∃ x0 x1 x2 x3 x4,p0 x0 x1 x2 x3 x4∧p1 x0 x1 x2 x3 x4∧p2 x0 x1 x2 x3 x4∧p3 x0 x1 x2 x3 x4∧p4 x0 x1 x2 x3 x4∧p5 x0 x1 x2 x3 x4∧p6 x0 x1 x2 x3 x4∧p7 x0 x1 x2 x3 x4:=⟨x0,x1,x2,x3,x4,h0,h1,h2,h3,h4,h5,h6,h7⟩
end
section
variable {p0 p1 p2 p3 p4 p5 p6:A0->A1->A2->A3->A4->A5->Prop}
theorem e6_3 (h:∃ x0 x1 x2 x3 x4 x5,p0 x0 x1 x2 x3 x4 x5∧p1 x0 x1 x2 x3 x4 x5∧p2 x0 x1 x2 x3 x4 x5) (k:∀ x0 x1 x2 x3 x4 x5,p0 x0 x1 x2 x3 x4 x5->p1 x0 x1 x2 x3 x4 x5->p2 x0 x1 x2 x3 x4 x5->g):g:=h.elim λx0 h=>h.elim λx1 h=>h.elim λx2 h=>h.elim λx3 h=>h.elim λx4 h=>h.elim λx5 h=>k x0 x1 x2 x3 x4 x5 h.1 h.2.1 h.2.2
theorem e6_5 (h:∃ x0 x1 x2 x3 x4 x5,p0 x0 x1 x2 x3 x4 x5∧p1 x0 x1 x2 x3 x4 x5∧p2 x0 x1 x2 x3 x4 x5∧p3 x0 x1 x2 x3 x4 x5∧p4 x0 x1 x2 x3 x4 x5) (k:∀ x0 x1 x2 x3 x4 x5,p0 x0 x1 x2 x3 x4 x5->p1 x0 x1 x2 x3 x4 x5->p2 x0 x1 x2 x3 x4 x5->p3 x0 x1 x2 x3 x4 x5->p4 x0 x1 x2 x3 x4 x5->g):g:=h.elim λx0 h=>h.elim λx1 h=>h.elim λx2 h=>h.elim λx3 h=>h.elim λx4 h=>h.elim λx5 h=>k x0 x1 x2 x3 x4 x5 h.1 h.2.1 h.2.2.1 h.2.2.2.1 h.2.2.2.2
theorem e6_7 (h:∃ x0 x1 x2 x3 x4 x5,p0 x0 x1 x2 x3 x4 x5∧p1 x0 x1 x2 x3 x4 x5∧p2 x0 x1 x2 x3 x4 x5∧p3 x0 x1 x2 x3 x4 x5∧p4 x0 x1 x2 x3 x4 x5∧p5 x0 x1 x2 x3 x4 x5∧p6 x0 x1 x2 x3 x4 x5) (k:∀ x0 x1 x2 x3 x4 x5,p0 x0 x1 x2 x3 x4 x5->p1 x0 x1 x2 x3 x4 x5->p2 x0 x1 x2 x3 x4 x5->p3 x0 x1 x2 x3 x4 x5->p4 x0 x1 x2 x3 x4 x5->p5 x0 x1 x2 x3 x4 x5->p6 x0 x1 x2 x3 x4 x5->g):g:=h.elim λx0 h=>h.elim λx1 h=>h.elim λx2 h=>h.elim λx3 h=>h.elim λx4 h=>h.elim λx5 h=>k x0 x1 x2 x3 x4 x5 h.1 h.2.1 h.2.2.1 h.2.2.2.1 h.2.2.2.2.1 h.2.2.2.2.2.1 h.2.2.2.2.2.2
theorem i6_3 (x0:A0) (x1:A1) (x2:A2) (x3:A3) (x4:A4) (x5:A5) (h0:p0 x0 x1 x2 x3 x4 x5) (h1:p1 x0 x1 x2 x3 x4 x5) (h2:p2 x0 x1 x2 x3 x4 x5):∃ x0 x1 x2 x3 x4 x5,p0 x0 x1 x2 x3 x4 x5∧p1 x0 x1 x2 x3 x4 x5∧p2 x0 x1 x2 x3 x4 x5:=⟨x0,x1,x2,x3,x4,x5,h0,h1,h2⟩
theorem i6_5 (x0:A0) (x1:A1) (x2:A2) (x3:A3) (x4:A4) (x5:A5) (h0:p0 x0 x1 x2 x3 x4 x5) (h1:p1 x0 x1 x2 x3 x4 x5) (h2:p2 x0 x1 x2 x3 x4 x5) (h3:p3 x0 x1 x2 x3 x4 x5) (h4:p4 x0 x1 x2 x3 x4 x5):∃ x0 x1 x2 x3 x4 x5,p0 x0 x1 x2 x3 x4 x5∧p1 x0 x1 x2 x3 x4 x5∧p2 x0 x1 x2 x3 x4 x5∧p3 x0 x1 x2 x3 x4 x5∧p4 x0 x1 x2 x3 x4 x5:=⟨x0,x1,x2,x3,x4,x5,h0,h1,h2,h3,h4⟩
theorem i6_7 (x0:A0) (x1:A1) (x2:A2) (x3:A3) (x4:A4) (x5:A5) (h0:p0 x0 x1 x2 x3 x4 x5) (h1:p1 x0 x1 x2 x3 x4 x5) (h2:p2 x0 x1 x2 x3 x4 x5) (h3:p3 x0 x1 x2 x3 x4 x5) (h4:p4 x0 x1 x2 x3 x4 x5) (h5:p5 x0 x1 x2 x3 x4 x5) (h6:p6 x0 x1 x2 x3 x4 x5):∃ x0 x1 x2 x3 x4 x5,p0 x0 x1 x2 x3 x4 x5∧p1 x0 x1 x2 x3 x4 x5∧p2 x0 x1 x2 x3 x4 x5∧p3 x0 x1 x2 x3 x4 x5∧p4 x0 x1 x2 x3 x4 x5∧p5 x0 x1 x2 x3 x4 x5∧p6 x0 x1 x2 x3 x4 x5:=⟨x0,x1,x2,x3,x4,x5,h0,h1,h2,h3,h4,h5,h6⟩
end
section
variable {p0 p1 p2 p3 p4 p5:A0->A1->A2->A3->A4->A5->A6->A7->Prop}
theorem e8_6 (h:∃ x0 x1 x2 x3 x4 x5 x6 x7,p0 x0 x1 x2 x3 x4 x5 x6 x7∧p1 x0 x1 x2 x3 x4 x5 x6 x7∧p2 x0 x1 x2 x3 x4 x5 x6 x7∧p3 x0 x1 x2 x3 x4 x5 x6 x7∧p4 x0 x1 x2 x3 x4 x5 x6 x7∧p5 x0 x1 x2 x3 x4 x5 x6 x7) (k:∀ x0 x1 x2 x3 x4 x5 x6 x7,p0 x0 x1 x2 x3 x4 x5 x6 x7->p1 x0 x1 x2 x3 x4 x5 x6 x7->p2 x0 x1 x2 x3 x4 x5 x6 x7->p3 x0 x1 x2 x3 x4 x5 x6 x7->p4 x0 x1 x2 x3 x4 x5 x6 x7->p5 x0 x1 x2 x3 x4 x5 x6 x7->g):g:=h.elim λx0 h=>h.elim λx1 h=>h.elim λx2 h=>h.elim λx3 h=>h.elim λx4 h=>h.elim λx5 h=>h.elim λx6 h=>h.elim λx7 h=>k x0 x1 x2 x3 x4 x5 x6 x7 h.1 h.2.1 h.2.2.1 h.2.2.2.1 h.2.2.2.2.1 h.2.2.2.2.2
end
section
variable {p0 p1 p2 p3 p4 p5:A0->A1->A2->A3->A4->A5->A6->A7->A8->Prop}
theorem e9_1 (h:∃ x0 x1 x2 x3 x4 x5 x6 x7 x8,p0 x0 x1 x2 x3 x4 x5 x6 x7 x8) (k:∀ x0 x1 x2 x3 x4 x5 x6 x7 x8,p0 x0 x1 x2 x3 x4 x5 x6 x7 x8->g):g:=h.elim λx0 h=>h.elim λx1 h=>h.elim λx2 h=>h.elim λx3 h=>h.elim λx4 h=>h.elim λx5 h=>h.elim λx6 h=>h.elim λx7 h=>h.elim λx8 h=>k x0 x1 x2 x3 x4 x5 x6 x7 x8 h
theorem e9_6 (h:∃ x0 x1 x2 x3 x4 x5 x6 x7 x8,p0 x0 x1 x2 x3 x4 x5 x6 x7 x8∧p1 x0 x1 x2 x3 x4 x5 x6 x7 x8∧p2 x0 x1 x2 x3 x4 x5 x6 x7 x8∧p3 x0 x1 x2 x3 x4 x5 x6 x7 x8∧p4 x0 x1 x2 x3 x4 x5 x6 x7 x8∧p5 x0 x1 x2 x3 x4 x5 x6 x7 x8) (k:∀ x0 x1 x2 x3 x4 x5 x6 x7 x8,p0 x0 x1 x2 x3 x4 x5 x6 x7 x8->p1 x0 x1 x2 x3 x4 x5 x6 x7 x8->p2 x0 x1 x2 x3 x4 x5 x6 x7 x8->p3 x0 x1 x2 x3 x4 x5 x6 x7 x8->p4 x0 x1 x2 x3 x4 x5 x6 x7 x8->p5 x0 x1 x2 x3 x4 x5 x6 x7 x8->g):g:=h.elim λx0 h=>h.elim λx1 h=>h.elim λx2 h=>h.elim λx3 h=>h.elim λx4 h=>h.elim λx5 h=>h.elim λx6 h=>h.elim λx7 h=>h.elim λx8 h=>k x0 x1 x2 x3 x4 x5 x6 x7 x8 h.1 h.2.1 h.2.2.1 h.2.2.2.1 h.2.2.2.2.1 h.2.2.2.2.2
end
section
variable {p0 p1 p2 p3 p4 p5 p6:A0->A1->A2->A3->A4->A5->A6->A7->A8->A9->Prop}
theorem e10_7 (h:∃ x0 x1 x2 x3 x4 x5 x6 x7 x8 x9,p0 x0 x1 x2 x3 x4 x5 x6 x7 x8 x9∧p1 x0 x1 x2 x3 x4 x5 x6 x7 x8 x9∧p2 x0 x1 x2 x3 x4 x5 x6 x7 x8 x9∧p3 x0 x1 x2 x3 x4 x5 x6 x7 x8 x9∧p4 x0 x1 x2 x3 x4 x5 x6 x7 x8 x9∧p5 x0 x1 x2 x3 x4 x5 x6 x7 x8 x9∧p6 x0 x1 x2 x3 x4 x5 x6 x7 x8 x9) (k:∀ x0 x1 x2 x3 x4 x5 x6 x7 x8 x9,p0 x0 x1 x2 x3 x4 x5 x6 x7 x8 x9->p1 x0 x1 x2 x3 x4 x5 x6 x7 x8 x9->p2 x0 x1 x2 x3 x4 x5 x6 x7 x8 x9->p3 x0 x1 x2 x3 x4 x5 x6 x7 x8 x9->p4 x0 x1 x2 x3 x4 x5 x6 x7 x8 x9->p5 x0 x1 x2 x3 x4 x5 x6 x7 x8 x9->p6 x0 x1 x2 x3 x4 x5 x6 x7 x8 x9->g):g:=h.elim λx0 h=>h.elim λx1 h=>h.elim λx2 h=>h.elim λx3 h=>h.elim λx4 h=>h.elim λx5 h=>h.elim λx6 h=>h.elim λx7 h=>h.elim λx8 h=>h.elim λx9 h=>k x0 x1 x2 x3 x4 x5 x6 x7 x8 x9 h.1 h.2.1 h.2.2.1 h.2.2.2.1 h.2.2.2.2.1 h.2.2.2.2.2.1 h.2.2.2.2.2.2
theorem i10_7 (x0:A0) (x1:A1) (x2:A2) (x3:A3) (x4:A4) (x5:A5) (x6:A6) (x7:A7) (x8:A8) (x9:A9) (h0:p0 x0 x1 x2 x3 x4 x5 x6 x7 x8 x9) (h1:p1 x0 x1 x2 x3 x4 x5 x6 x7 x8 x9) (h2:p2 x0 x1 x2 x3 x4 x5 x6 x7 x8 x9) (h3:p3 x0 x1 x2 x3 x4 x5 x6 x7 x8 x9) (h4:p4 x0 x1 x2 x3 x4 x5 x6 x7 x8 x9) (h5:p5 x0 x1 x2 x3 x4 x5 x6 x7 x8 x9) (h6:p6 x0 x1 x2 x3 x4 x5 x6 x7 x8 x9):∃ x0 x1 x2 x3 x4 x5 x6 x7 x8 x9,p0 x0 x1 x2 x3 x4 x5 x6 x7 x8 x9∧p1 x0 x1 x2 x3 x4 x5 x6 x7 x8 x9∧p2 x0 x1 x2 x3 x4 x5 x6 x7 x8 x9∧p3 x0 x1 x2 x3 x4 x5 x6 x7 x8 x9∧p4 x0 x1 x2 x3 x4 x5 x6 x7 x8 x9∧p5 x0 x1 x2 x3 x4 x5 x6 x7 x8 x9∧p6 x0 x1 x2 x3 x4 x5 x6 x7 x8 x9:=⟨x0,x1,x2,x3,x4,x5,x6,x7,x8,x9,h0,h1,h2,h3,h4,h5,h6⟩
end
section
variable {p0 p1 p2:A0->A1->A2->A3->A4->A5->A6->A7->A8->A9->A10->A11->A12->Prop}
theorem e13_3 (h:∃ x0 x1 x2 x3 x4 x5 x6 x7 x8 x9 x10 x11 x12,p0 x0 x1 x2 x3 x4 x5 x6 x7 x8 x9 x10 x11 x12∧p1 x0 x1 x2 x3 x4 x5 x6 x7 x8 x9 x10 x11 x12∧p2 x0 x1 x2 x3 x4 x5 x6 x7 x8 x9 x10 x11 x12) (k:∀ x0 x1 x2 x3 x4 x5 x6 x7 x8 x9 x10 x11 x12,p0 x0 x1 x2 x3 x4 x5 x6 x7 x8 x9 x10 x11 x12->p1 x0 x1 x2 x3 x4 x5 x6 x7 x8 x9 x10 x11 x12->p2 x0 x1 x2 x3 x4 x5 x6 x7 x8 x9 x10 x11 x12->g):g:=h.elim λx0 h=>h.elim λx1 h=>h.elim λx2 h=>h.elim λx3 h=>h.elim λx4 h=>h.elim λx5 h=>h.elim λx6 h=>h.elim λx7 h=>h.elim λx8 h=>h.elim λx9 h=>h.elim λx10 h=>h.elim λx11 h=>h.elim λx12 h=>k x0 x1 x2 x3 x4 x5 x6 x7 x8 x9 x10 x11 x12 h.1 h.2.1 h.2.2
end
end Mine
end
section
open PySem
namespace Mine
noncomputable section
set_option genInjectivity false in
set_option genSizeOf false in
structure Lin where
 c:Int
 t:List (Nat × Int)
noncomputable def iz:Int->Bool
 | .ofNat 0=>true
 | _=>false
noncomputable def ipos:Int->Bool
 | .ofNat (_+1)=>true
 | _=>false
noncomputable def putT (x:Nat) (k:Int):List (Nat × Int)->List (Nat × Int)
 | []=>bif iz k then [] else [(x,k)]
 | (y,j)::r=>bif Nat.beq x y then (bif iz (j+k) then r else (y,j+k)::r) else bif Nat.blt x y then (bif iz k then (y,j)::r else (x,k)::(y,j)::r) else (y,j)::putT x k r
noncomputable def addT (a b:List (Nat × Int)):List (Nat × Int):=a.foldr (λp acc=>putT p.1 p.2 acc) b
noncomputable def negT:List (Nat × Int)->List (Nat × Int)
 | []=>[]
 | (x,k)::r=>(x,-k)::negT r
noncomputable def Lin.k (c:Int):Lin:=⟨c,[]⟩
noncomputable def Lin.x (n:Nat):Lin:=⟨0,[(n,1)]⟩
noncomputable def Lin.add (a b:Lin):Lin:=⟨a.c+b.c,addT a.t b.t⟩
noncomputable def Lin.neg (a:Lin):Lin:=⟨-a.c,negT a.t⟩
noncomputable def Lin.sub (a b:Lin):Lin:=a.add b.neg
noncomputable def Lin.const? (a:Lin):Option Int:=match a.t with | []=>some a.c | _=>none
noncomputable def ieq (a b:Int):Bool:=iz (a-b)
noncomputable def teq:List (Nat × Int)->List (Nat × Int)->Bool
 | [],[]=>true
 | (x,k)::r,(y,j)::s=>Nat.beq x y&&ieq k j&&teq r s
 | _,_=>false
noncomputable def Lin.eq (a b:Lin):Bool:=ieq a.c b.c&&teq a.t b.t
set_option genInjectivity false in
set_option genSizeOf false in
inductive MV where
 | none
 | bool (b:Bool)
 | int (l:Lin)
 | str (s:List Nat)
 | ref (n:Nat)
 | glob (v:Value)
 | opq (n:Nat)
 | unk (n:Nat)
 | txt (n:Nat)
set_option genInjectivity false in
set_option genSizeOf false in
inductive ME where
 | v (x:MV)
 | seg (n:Nat)
set_option genInjectivity false in
set_option genSizeOf false in
inductive MO where
 | inst (C:Addr) (at_:List (Str × MV))
 | list (xs:List ME)
 | tuple (xs:List ME)
 | dictI (kvs:List (Int × MV))
 | dictS (kvs:List (List Nat × MV))
 | range (a b:Int)
 | deck (n:Nat)
set_option genInjectivity false in
set_option genSizeOf false in
inductive Cnd where
 | pos (l:Lin)
 | zer (l:Lin)
noncomputable def Cnd.eq:Cnd->Cnd->Bool
 | .pos a,.pos b=>a.eq b
 | .zer a,.zer b=>a.eq b
 | _,_=>false
set_option genInjectivity false in
set_option genSizeOf false in
structure St where
 heap:List MO
 ls:List (Str × MV)
 facts:List (Cnd × Bool)
set_option genInjectivity false in
set_option genSizeOf false in
inductive Res (α:Type) where
 | stuck (why:String)
 | ret (a:α) (s:St)
 | fork (c:Cnd) (t f:Res α)
 | both (t f:Res α)
noncomputable def Res.bind {α β:Type} (r:Res α) (k:α->St->Res β):Res β:=@Res.rec α (λ_=>Res β) (λw=>.stuck w) (λa s=>k a s) (λc _ _ t f=>.fork c t f) (λ_ _ t f=>.both t f) r
set_option genInjectivity false in
set_option genSizeOf false in
inductive Fl where
 | next | brk | cont
 | ret (v:MV)
set_option genInjectivity false in
set_option genSizeOf false in
structure Fn where
 params:List Str
 ar:List Nat
 dflts:List MV
 body:List Stmt
 sc:Scope
set_option genInjectivity false in
set_option genSizeOf false in
structure Cls where
 init:Addr
 meths:List (Str × Addr)
 attrs:List (Str × Unit)
set_option genInjectivity false in
set_option genSizeOf false in
structure Tab where
 names:List (Str × MV)
 fns:List (Addr × Fn)
 cls:List (Addr × Cls)
 tups:List (Addr × List (List Nat))
 base:List MO
 sums:List (Addr × (List MV->St->Option (Res MV)))
 ops:List (Operator × Lin × Lin × Nat)
noncomputable def seq (a b:Str):Bool:=PySem.W.Fast.sEq a b
noncomputable def look {β:Type} (x:Str) (l:List (Str × β)):Option β:=@List.rec (Str × β) (λ_=>Option β) none (λp _ ih=>bif seq x p.1 then some p.2 else ih) l
noncomputable def lookN {β:Type} (x:Nat) (l:List (Nat × β)):Option β:=@List.rec (Nat × β) (λ_=>Option β) none (λp _ ih=>bif Nat.beq x p.1 then some p.2 else ih) l
noncomputable def Zkg {β:Type} (x:Int) (l:List (Int × β)):Option β:=@List.rec (Int × β) (λ_=>Option β) none (λp _ ih=>bif ieq x p.1 then some p.2 else ih) l
noncomputable def put {β:Type} (x:Str) (b:β) (l:List (Str × β)):List (Str × β):=@List.rec (Str × β) (λ_=>List (Str × β)) [(x,b)] (λp r ih=>bif seq x p.1 then (p.1,b)::r else p::ih) l
noncomputable def putI {β:Type} (x:Int) (b:β) (l:List (Int × β)):List (Int × β):=@List.rec (Int × β) (λ_=>List (Int × β)) [(x,b)] (λp r ih=>bif ieq x p.1 then (p.1,b)::r else p::ih) l
noncomputable def leq:List Nat->List Nat->Bool
 | [],[]=>true
 | a::r,b::s=>Nat.beq a b&&leq r s
 | _,_=>false
noncomputable def Zi1 {β:Type} (x:List Nat):List (List Nat × β)->Option β
 | []=>none
 | (y,b)::r=>bif leq x y then some b else Zi1 x r
noncomputable def nth {α:Type} (l:List α):Nat->Option α:=@List.rec α (λ_=>Nat->Option α) (λ_=>none) (λa _ ih n=>bif Nat.beq n 0 then some a else ih (n-1)) l
noncomputable def Zcm {α:Type} (l:List α):Nat->α->List α:=@List.rec α (λ_=>Nat->α->List α) (λ_ _=>[]) (λa r ih n b=>bif Nat.beq n 0 then b::r else a::ih (n-1) b) l
section
variable (Γ:Tab)
noncomputable def cell (s:St) (n:Nat):Option MO:=bif Nat.blt n Γ.base.length then nth Γ.base n else nth s.heap (n-Γ.base.length)
noncomputable def upd (s:St) (n:Nat) (o:MO):Option St:=bif Nat.blt n Γ.base.length then none else some { s with heap:=Zcm s.heap (n-Γ.base.length) o }
noncomputable def Za6 (s:St) (o:MO):MV × St:=(.ref (Γ.base.length+s.heap.length),{ s with heap:=s.heap++[o] })
end
noncomputable def ask (c:Cnd) (s:St):Res Bool:=
 let go:Res Bool:=match s.facts.find? (λp=>p.1.eq c) with
  | some p=>.ret p.2 s
  | none=>.fork c (.ret true { s with facts:=(c,true)::s.facts }) (.ret false { s with facts:=(c,false)::s.facts })
 match c with
 | .pos l=>match l.t with | []=>.ret (ipos l.c) s | _=>go
 | .zer l=>match l.t with | []=>.ret (iz l.c) s | _=>go
noncomputable def lenL:List ME->Lin
 | []=>.k 0
 | .v _::r=>(lenL r).add (.k 1)
 | .seg n::r=>(lenL r).add (.x (2 * (n % 100)+1))
noncomputable def ZeD (i:Lin):List ME->Lin->Option MV
 | [],_=>none
 | .v x::r,o=>bif i.eq o then some x else ZeD i r (o.add (.k 1))
 | .seg n::r,o=>ZeD i r (o.add (.x (2 * (n % 100)+1)))
noncomputable def Zbu:List ME->Option (List ME × MV)
 | []=>none
 | .v x::r=>match r with
  | []=>some ([],x)
  | _=>match Zbu r with | some p=>some (.v x::p.1,p.2) | none=>none
 | .seg n::r=>match Zbu r with | some p=>some (.seg n::p.1,p.2) | none=>none
noncomputable def Zck (xs:List ME):Bool:=Nat.ble xs.length 200
noncomputable def ZkG (xs:List ME):Bool:=Nat.ble xs.length 4
noncomputable def Zd9:List ME->Option (List MV)
 | []=>some []
 | .v x::r=>match Zd9 r with | some l=>some (x::l) | none=>none
 | .seg _::_=>none
noncomputable def Zap:List Nat->Bool
 | []=>true
 | c::r=>Nat.blt c 128&&Zap r
section
variable (Γ:Tab)
noncomputable def Zcz (v:MV) (s:St):Res Bool:=match v with
 | .bool b=>.ret b s
 | _=>.stuck "truthy"
noncomputable def ZaI:List ME->Option Bool
 | []=>some true
 | .v _::_=>some false
 | .seg _::r=>match ZaI r with | some false=>some false | _=>none
noncomputable def Zjd (s:St) (v:MV):Option (List ME):=match v with
 | .ref n=>match cell Γ s n with | some (.tuple xs)=>some xs | _=>none
 | _=>none
noncomputable def Zcw:MV->MV->Bool
 | .none,.none=>true
 | .bool a,.bool b=>a==b
 | .int a,.int b=>a.eq b
 | .str a,.str b=>leq a b&&Zap a
 | .opq a,.opq b=>Nat.beq a b
 | _,_=>false
noncomputable def ZbY (f:MV->MV->Bool):List ME->List ME->Bool
 | [],[]=>true
 | .v x::r,.v y::q=>f x y&&ZbY f r q
 | .seg n::r,.seg k::q=>Nat.beq n k&&Nat.blt n 100&&ZbY f r q
 | _,_=>false
noncomputable def rowT (s:St) (v:MV):Option (List ME):=match v with
 | .ref n=>match cell Γ s n with | some (.tuple xs)=>some xs | _=>none
 | .glob (.ref a)=>match lookN a Γ.tups with | some []=>some [] | _=>none
 | _=>none
noncomputable def Zd5 (s:St) (a b:MV):Bool:=match rowT Γ s a with
 | some xs=>match rowT Γ s b with | some ys=>ZbY Zcw xs ys | none=>false
 | none=>Zcw a b
noncomputable def Zev:List ME->Bool
 | []=>true
 | .v x::r=>Zcw x x&&Zev r
 | .seg n::r=>Nat.blt n 100&&Zev r
noncomputable def ZjK (s:St) (xs:List ME):Res Bool:=bif Zev xs then (match ZaI xs with | some b=>.ret b s | none=>.stuck "eq empty") else .stuck "eq empty"
noncomputable def ZmT (s:St) (xs ys:List ME):Res Bool:=match ys with
 | []=>ZjK s xs
 | _=>bif ZbY (Zd5 Γ s) xs ys then .ret true s else .stuck "eq tuple"
noncomputable def ZnT (n k:Nat) (s:St):Res Bool:=match cell Γ s n,cell Γ s k with
 | some (.list xs),some (.list ys)=>match ys with
  | []=>ZjK s xs
  | _=>.stuck "eq list"
 | some (.tuple xs),some (.tuple ys)=>ZmT Γ s xs ys
 | _,_=>.stuck "eq ref"
noncomputable def eqOf (a b:MV) (s:St):Res Bool:=match a,b with
 | .bool x,.bool y=>.ret (x==y) s
 | .int x,.int y=>ask (.zer (x.sub y)) s
 | .str x,.str y=>.ret (leq x y) s
 | .ref n,.ref k=>ZnT Γ n k s
 | _,_=>.stuck "eq"
noncomputable def Zj4:MV->Option Bool
 | .none=>some true
 | .opq _=>none
 | .glob _=>none
 | _=>some false
noncomputable def notR (r:Res Bool):Res Bool:=r.bind λb s=>.ret (!b) s
noncomputable def ZbB:List ME->Option (List (List Nat))
 | []=>some []
 | .v (.str x)::r=>match ZbB r with | some l=>some (x::l) | none=>none
 | _=>none
noncomputable def isOf (b:Bool) (x y:MV) (s:St):Res Bool:=match y with
 | .none=>match Zj4 x with | some r=>.ret (r==b) s | none=>.stuck "is"
 | _=>.stuck "is"
noncomputable def ltOf (x y:MV) (s:St):Res Bool:=match x with
 | .int a=>match y with | .int b=>ask (.pos (b.sub a)) s | _=>.stuck "lt"
 | _=>.stuck "lt"
noncomputable def anyL (x:List Nat):List (List Nat)->Bool
 | []=>false
 | y::r=>leq y x||anyL x r
noncomputable def Zg0 (n:Nat):List Nat->Bool
 | []=>false
 | k::r=>Nat.beq n k||Zg0 n r
noncomputable def ZlC (x y:List Nat) (s:St):Res Bool:=match x with
 | [c]=>.ret (Zg0 c y) s
 | _=>bif Nat.blt y.length x.length then .ret false s else .stuck "in str"
noncomputable def inOf (a b:MV) (s:St):Res Bool:=match a with
 | .str x=>match b with
  | .str y=>ZlC x y s
  | .ref n=>match cell Γ s n with
   | some (.tuple xs)=>match ZbB xs with | some l=>.ret (anyL x l) s | none=>.stuck "in"
   | _=>.stuck "in"
  | .glob (.ref n)=>match lookN n Γ.tups with | some l=>.ret (anyL x l) s | none=>.stuck "in"
  | _=>.stuck "in"
 | _=>.stuck "in"
noncomputable def ZdG (op:CmpOp) (a b:MV) (s:St):Res Bool:=match op with
 | .Eq=>eqOf Γ a b s
 | .NotEq=>notR (eqOf Γ a b s)
 | .Is=>isOf true a b s
 | .IsNot=>isOf false a b s
 | .Lt=>ltOf a b s
 | .Gt=>ltOf b a s
 | .LtE=>notR (ltOf b a s)
 | .GtE=>notR (ltOf a b s)
 | .In=>inOf Γ a b s
 | .NotIn=>match b with | .str _=>notR (inOf Γ a b s) | _=>.stuck "not in"
noncomputable def Zdm (xs:List ME) (s:St):Res MV:=bif Zck xs then .ret (Za6 Γ s (.tuple xs)).1 (Za6 Γ s (.tuple xs)).2 else .stuck "long tuple"
noncomputable def ZcP (xs:List ME) (s:St):Res MV:=bif Zck xs then .ret (Za6 Γ s (.list xs)).1 (Za6 Γ s (.list xs)).2 else .stuck "long list"
noncomputable def ZeT (xs:List ME):Nat->List ME
 | 0=>[]
 | n+1=>xs++ZeT xs n
noncomputable def Zjr (n k:Nat) (s:St):Res MV:=match cell Γ s n,cell Γ s k with
 | some (.list xs),some (.list ys)=>ZcP Γ (xs++ys) s
 | some (.tuple xs),some (.tuple ys)=>match ZaI xs with
  | some true=>.ret (.ref k) s
  | some false=>(match ZaI ys with
   | some true=>.ret (.ref n) s
   | some false=>Zdm Γ (xs++ys) s
   | none=>.stuck "add tuple")
  | none=>.stuck "add tuple"
 | _,_=>.stuck "add ref"
noncomputable def Znq (a b:MV) (s:St):Res MV:=match a with
 | .int x=>match b with | .int y=>.ret (.int (x.add y)) s | _=>.stuck "add"
 | .str x=>match b with | .str y=>bif Nat.ble (x.length+y.length) 5000 then .ret (.str (x++y)) s else .stuck "long str" | _=>.stuck "add"
 | .ref n=>match b with | .ref k=>Zjr Γ n k s | _=>.stuck "add"
 | _=>.stuck "add"
noncomputable def opEq (a b:Operator):Bool:=decide (a=b)&&(decide (a = .Mult)||(decide (a = .Mod)||decide (a = .FloorDiv)))
noncomputable def Zkv (op:Operator) (a b:Lin):List (Operator × Lin × Lin × Nat)->Option Nat
 | []=>none
 | e::r=>bif opEq op e.1&&(a.eq e.2.1&&b.eq e.2.2.1) then some e.2.2.2 else Zkv op a b r
noncomputable def Zkr (op:Operator) (a b:Lin) (s:St):Res MV:=match Zkv op a b Γ.ops with | some k=>.ret (.int (.x k)) s | none=>.stuck "op"
noncomputable def Zol (a b:MV) (s:St):Res MV:=match a with
 | .int x=>match b with | .int y=>Zkr Γ .Mult x y s | _=>.stuck "mul"
 | .ref n=>match b with
  | .int l=>match cell Γ s n,l.const? with
   | some (.list xs),some (.ofNat c)=>bif Nat.ble c 100 then ZcP Γ (ZeT xs c) s else .stuck "mul"
   | _,_=>.stuck "mul"
  | _=>.stuck "mul"
 | _=>.stuck "mul"
noncomputable def Zoj (a b:MV) (s:St):Res MV:=match a with
 | .int x=>match b with
  | .int y=>match x.const?,y.const? with | some a,some b=>bif ipos b then .ret (.int (.k (Int.fmod a b))) s else .stuck "mod" | _,_=>Zkr Γ .Mod x y s
  | _=>.stuck "mod"
 | _=>.stuck "mod"
noncomputable def ZjT (a b:MV) (s:St):Res MV:=match a with
 | .int x=>match b with | .int y=>Zkr Γ .FloorDiv x y s | _=>.stuck "floordiv"
 | _=>.stuck "floordiv"
noncomputable def ZoJ (a b:MV) (s:St):Res MV:=match a with
 | .int x=>match b with | .int y=>.ret (.int (x.sub y)) s | _=>.stuck "sub"
 | _=>.stuck "sub"
noncomputable def Zos (a b:MV) (s:St):Res MV:=match a with
 | .int x=>match b with
  | .int y=>match x.const?,y.const? with | some (.ofNat a),some (.ofNat b)=>(bif Nat.ble b 1000&&Nat.ble a 1000 then .ret (.int (.k (Int.ofNat (a ^ b)))) s else .stuck "pow") | _,_=>.stuck "pow"
  | _=>.stuck "pow"
 | _=>.stuck "pow"
noncomputable def ZnE (op:Operator) (a b:MV) (s:St):Res MV:=match op with
 | .Add=>Znq Γ a b s
 | .Sub=>ZoJ a b s
 | .Mult=>Zol Γ a b s
 | .Mod=>Zoj Γ a b s
 | .FloorDiv=>ZjT Γ a b s
 | .Pow=>Zos a b s
 | _=>.stuck "binop"
noncomputable def Zdg (v:MV) (x:Str) (s:St):Res MV:=match v with
 | .ref n=>match cell Γ s n with
  | some (.inst _ at_)=>match look x at_ with | some w=>.ret w s | none=>.stuck "no attr"
  | _=>.stuck "attr of no inst"
 | _=>.stuck "attr"
noncomputable def ZfO (C:Addr) (x:Str) (at_:List (Str × MV)):Bool:=match look x at_ with
 | some _=>true
 | none=>match lookN C Γ.cls with
  | some c=>match look x c.attrs with | some _=>Nat.blt at_.length 900 | none=>false
  | none=>false
noncomputable def Za8 (n:Nat) (o:MO) (s:St):Res Unit:=match upd Γ s n o with | some s'=>.ret () s' | none=>.stuck "base"
noncomputable def ZeX (v:MV) (x:Str) (w:MV) (s:St):Res Unit:=match v with
 | .ref n=>match cell Γ s n with
  | some (.inst C at_)=>bif ZfO Γ C x at_ then Za8 Γ n (.inst C (put x w at_)) s else .stuck "attr"
  | _=>.stuck "setattr of no inst"
 | _=>.stuck "setattr"
noncomputable def ZeV (c:Nat) (x:List Nat):List Nat:=((x.reverse).dropWhile (Nat.beq c)).reverse
noncomputable def ZhE (n:Nat) (xs:List ME) (vs:List MV) (s:St):Res MV:=match vs with
 | [w]=>bif Zck xs then (Za8 Γ n (.list (xs++[.v w])) s).bind λ_ s=>.ret .none s else .stuck "long list"
 | _=>.stuck "append"
noncomputable def cut0:List ME->Option (List ME × MV)
 | .v x::r=>some (r,x)
 | _=>none
noncomputable def Zl6 (n:Nat) (p:Option (List ME × MV)) (s:St):Res MV:=match p with | some p=>(Za8 Γ n (.list p.1) s).bind λ_ s=>.ret p.2 s | none=>.stuck "pop"
noncomputable def mPop (n:Nat) (xs:List ME) (vs:List MV) (s:St):Res MV:=match vs with
 | []=>Zl6 Γ n (Zbu xs) s
 | [.int l]=>match l.const? with | some (.ofNat 0)=>Zl6 Γ n (cut0 xs) s | _=>.stuck "pop"
 | _=>.stuck "pop"
noncomputable def mGet (kvs:List (Int × MV)) (vs:List MV) (s:St):Res MV:=match vs with
 | [.int l,w]=>match l.const? with | some c=>(match Zkg c kvs with | some u=>.ret u s | none=>.ret w s) | none=>.stuck "get"
 | _=>.stuck "get"
noncomputable def ZhF (y:List Nat) (vs:List MV) (s:St):Res MV:=match vs with
 | [.str x]=>match x with | [c]=>bif Nat.ble y.length 5000 then .ret (.str (ZeV c y)) s else .stuck "long str" | _=>.stuck "rstrip"
 | _=>.stuck "rstrip"
noncomputable def Zof (y:List Nat) (vs:List MV) (s:St):Res MV:=match vs with
 | [.ref n]=>match y with
  | []=>match cell Γ s n with | some (.list xs)=>(match ZbB xs with | some l=>bif Nat.ble l.length 500&&Nat.ble l.flatten.length 5000 then .ret (.str l.flatten) s else .stuck "long join" | none=>.stuck "join") | _=>.stuck "join"
  | _=>.stuck "join"
 | _=>.stuck "join"
set_option genInjectivity false in
set_option genSizeOf false in
inductive MK where
 | append | pop | get | rstrip | join
noncomputable def ZlO (x:Str):Option MK:=bif seq x "append" then some .append else bif seq x "pop" then some .pop else none
noncomputable def strM (x:Str):Option MK:=bif seq x "rstrip" then some .rstrip else bif seq x "join" then some .join else none
noncomputable def Zf1 (v:MV) (x:Str) (s:St):Option MK:=match v with
 | .ref n=>match cell Γ s n with
  | some (.list _)=>ZlO x
  | some (.dictI _)=>bif seq x "get" then some .get else none
  | _=>none
 | .str _=>strM x
 | _=>none
noncomputable def Zne (k:MK) (n:Nat) (vs:List MV) (s:St):Res MV:=match cell Γ s n with
 | some (.list xs)=>match k with
  | .append=>ZhE Γ n xs vs s
  | .pop=>mPop Γ n xs vs s
  | _=>.stuck "list method"
 | some (.dictI kvs)=>match k with
  | .get=>mGet kvs vs s
  | _=>.stuck "dict method"
 | _=>.stuck "method"
noncomputable def Znf (k:MK) (y:List Nat) (vs:List MV) (s:St):Res MV:=match k with
 | .rstrip=>ZhF y vs s
 | .join=>Zof Γ y vs s
 | _=>.stuck "str method"
noncomputable def ZhI (k:MK) (v:MV) (vs:List MV) (s:St):Res MV:=match v with
 | .ref n=>Zne Γ k n vs s
 | .str y=>Znf Γ k y vs s
 | _=>.stuck "method"
noncomputable def ZnA (vs:List MV) (s:St):Res MV:=match vs with
 | [.str x]=>bif Nat.ble x.length 5000 then .ret (.int (.k x.length)) s else .stuck "len"
 | [.txt n]=>.ret (.int (.x (2 * n+1000))) s
 | [.ref n]=>match cell Γ s n with | some (.list xs)=>.ret (.int (lenL xs)) s | some (.tuple xs)=>.ret (.int (lenL xs)) s | _=>.stuck "len"
 | _=>.stuck "len"
noncomputable def ZnB (vs:List MV) (s:St):Res MV:=match vs with
 | [.int a,.int b]=>(ask (.pos (a.sub b)) s).bind λt s=>.ret (.int (bif t then b else a)) s
 | _=>.stuck "min"
noncomputable def ZnC (vs:List MV) (s:St):Res MV:=match vs with
 | [.str x]=>match x with | [c]=>.ret (.int (.k c)) s | _=>.stuck "ord"
 | _=>.stuck "ord"
noncomputable def Znx (vs:List MV) (s:St):Res MV:=match vs with
 | [.int a]=>(ask (.pos a.neg) s).bind λt s=>.ret (.int (bif t then a.neg else a)) s
 | _=>.stuck "abs"
noncomputable def ZnD (vs:List MV) (s:St):Res MV:=match vs with
 | [.ref n]=>match cell Γ s n with | some (.list [.seg k])=>(bif Nat.blt k 100 then .ret (.int (.x (2 * k+500))) s else .stuck "sum") | _=>.stuck "sum"
 | _=>.stuck "sum"
noncomputable def Znz (vs:List MV) (s:St):Res MV:=match vs with
 | [.bool b]=>.ret (.int (.k (bif b then 1 else 0))) s
 | _=>.stuck "int"
noncomputable def Zh4 (vs:List MV) (s:St):Res MV:=match vs with
 | [.ref n]=>match cell Γ s n with | some (.list xs)=>ZcP Γ xs s | some (.tuple xs)=>ZcP Γ xs s | _=>.stuck "list"
 | [.glob (.ref n)]=>match lookN n Γ.tups with | some l=>ZcP Γ (l.map λx=>.v (.str x)) s | none=>.stuck "list"
 | _=>.stuck "list"
noncomputable def Zhp (vs:List MV) (s:St):Res MV:=match vs with
 | [.ref n]=>match cell Γ s n with | some (.list xs)=>(bif ZkG xs then Zdm Γ xs s else .stuck "tuple") | _=>.stuck "tuple"
 | _=>.stuck "tuple"
noncomputable def allB:List MV->Option Bool
 | []=>some true
 | .bool b::r=>match allB r with | some t=>some (b&&t) | none=>none
 | _=>none
noncomputable def Zny (vs:List MV) (s:St):Res MV:=match vs with
 | [.ref n]=>match cell Γ s n with | some (.list xs)=>(match Zd9 xs with | some l=>(match allB l with | some b=>.ret (.bool b) s | none=>.stuck "all") | none=>.stuck "all") | _=>.stuck "all"
 | _=>.stuck "all"
noncomputable def Zho (vs:List MV) (s:St):Res MV:=match vs with
 | [.int a,.int b]=>match a.const?,b.const? with | some x,some y=>bif ieq x x&&Nat.ble x.natAbs 1000&&Nat.ble y.natAbs 1000 then .ret (Za6 Γ s (.range x y)).1 (Za6 Γ s (.range x y)).2 else .stuck "range" | _,_=>.stuck "range"
 | _=>.stuck "range"
noncomputable def biOf (id:String) (vs:List MV) (s:St):Res MV:=
 bif seq id "len" then ZnA Γ vs s
 else bif seq id "min" then ZnB vs s
 else bif seq id "ord" then ZnC vs s
 else bif seq id "all" then Zny Γ vs s
 else bif seq id "abs" then Znx vs s
 else bif seq id "sum" then ZnD Γ vs s
 else .stuck "builtin"
noncomputable def tyOf (id:String) (vs:List MV) (s:St):Res MV:=
 bif seq id "list" then Zh4 Γ vs s
 else bif seq id "tuple" then Zhp Γ vs s
 else bif seq id "int" then Znz vs s
 else bif seq id "range" then Zho Γ vs s
 else .stuck "type"
noncomputable def Zn5 (l:Lin) (xs:List ME):Lin:=match l.const? with | some (.negSucc k)=>(Lin.k (.negSucc k)).add (lenL xs) | _=>l
noncomputable def Zim (l:Lin) (xs:List ME) (s:St):Res MV:=match ZeD (Zn5 l xs) xs (.k 0) with | some w=>.ret w s | none=>.stuck "item"
noncomputable def ZkQ (l:Lin) (x:List Nat) (s:St):Res MV:=match l.const? with | some (.ofNat k)=>(bif Nat.ble k 5000 then (match nth x k with | some c=>.ret (.str [c]) s | none=>.stuck "str item") else .stuck "str item") | _=>.stuck "str item"
noncomputable def Znj (o:Option MO) (i:MV) (s:St):Res MV:=match o with
 | some (.list xs)=>match i with | .int l=>Zim l xs s | _=>.stuck "sub"
 | some (.tuple xs)=>match i with | .int l=>Zim l xs s | _=>.stuck "sub"
 | some (.dictS kvs)=>match i with | .str x=>(match Zi1 x kvs with | some w=>.ret w s | none=>.stuck "key") | _=>.stuck "sub"
 | _=>.stuck "sub"
noncomputable def ZoI (v i:MV) (s:St):Res MV:=match v with
 | .ref n=>Znj (cell Γ s n) i s
 | .str x=>match i with | .int l=>ZkQ l x s | _=>.stuck "sub"
 | _=>.stuck "sub"
noncomputable def Zgg (x:List Nat) (lo hi:Option MV) (s:St):Res MV:=match lo,hi with
 | none,some (.int l)=>match l.const? with | some (.ofNat c)=>.ret (.str (x.take c)) s | _=>.stuck "slice"
 | some (.int l),none=>match l.const? with | some (.ofNat c)=>.ret (.str (x.drop c)) s | _=>.stuck "slice"
 | _,_=>.stuck "slice"
noncomputable def Zgh (n:Nat) (xs:List ME) (lo hi:Option MV) (s:St):Res MV:=match lo,hi with
 | none,some (.int l)=>match l.const? with
  | some (.negSucc 0)=>(match xs with
   | []=>.ret (.ref n) s
   | _=>match Zbu xs with | some q=>Zdm Γ q.1 s | none=>.stuck "slice")
  | _=>.stuck "slice"
 | _,_=>.stuck "slice"
noncomputable def ZhO (v:MV) (lo hi:Option MV) (s:St):Res MV:=match v with
 | .str x=>bif Nat.ble x.length 5000 then Zgg x lo hi s else .stuck "slice"
 | .ref n=>match cell Γ s n with | some (.tuple xs)=>Zgh Γ n xs lo hi s | _=>.stuck "slice"
 | _=>.stuck "slice"
set_option genInjectivity false in
set_option genSizeOf false in
structure Ih where
 ev:Nat->Scope->PySem.Expr->St->Res MV
 tst:Nat->Scope->PySem.Expr->St->Res Bool
 blk:Nat->Scope->List Stmt->St->Res Fl
 call:Nat->MV->List MV->St->Res MV
 whl:Nat->Scope->PySem.Expr->List Stmt->St->Res Fl
noncomputable def Zae:PySem.Expr->Bool
 | .Starred _ _=>false
 | .Set _ _ _=>false
 | _=>true
noncomputable def ZbK:PySem.Expr->Bool
 | .Call _ _ _ _=>false
 | _=>true
noncomputable def ZaF (ev:PySem.Expr->St->Res MV) (l:List PySem.Expr):St->Res (List MV):=@List.rec PySem.Expr (λ_=>St->Res (List MV)) (λs=>.ret [] s) (λe _ ih s=>bif !(Zae e) then .stuck "arg" else (ev e s).bind λv s=>(ih s).bind λvs s=>.ret (v::vs) s) l
noncomputable def Zor (ev:PySem.Expr->St->Res MV) (o:Option PySem.Expr) (s:St):Res (Option MV):=match o with
 | none=>.ret none s
 | some e=>(ev e s).bind λv s=>.ret (some v) s
noncomputable def Zgs (tst:PySem.Expr->St->Res Bool) (op:BoolOp):List PySem.Expr->St->Res Bool
 | [],s=>.ret (match op with | .And=>true | .Or=>false) s
 | e::r,s=>(tst e s).bind λb s=>match op with
  | .And=>bif b then Zgs tst op r s else .ret false s
  | .Or=>bif b then .ret true s else Zgs tst op r s
noncomputable def Zh5 (ev:PySem.Expr->St->Res MV) (op:BoolOp) (y:PySem.Expr) (v:MV) (s:St):Res MV:=(Zcz v s).bind λb s=>match op with
 | .And=>bif b then ev y s else .ret v s
 | .Or=>bif b then .ret v s else ev y s
noncomputable def Zpa (ev:PySem.Expr->St->Res MV) (op:BoolOp) (l:List PySem.Expr) (s:St):Res MV:=match l with
 | [x,y]=>(ev x s).bind (Zh5 ev op y)
 | _=>.stuck "bool"
noncomputable def Zpc (ev:PySem.Expr->St->Res MV) (a:MV) (ops:List CmpOp) (es:List PySem.Expr) (s:St):Res Bool:=match ops with
 | [op]=>match es with
  | [e]=>bif Zae e then (ev e s).bind λb s=>ZdG Γ op a b s else .stuck "chain"
  | _=>.stuck "chain"
 | [op,op2]=>match es with
  | [e,e2]=>bif !(Zae e2) then .stuck "chain" else (ev e s).bind λb s=>(ZdG Γ op a b s).bind λt s=>bif t then (ev e2 s).bind λc s=>ZdG Γ op2 b c s else .ret false s
  | _=>.stuck "chain"
 | _=>.stuck "chain"
noncomputable def Zah (sc:Scope) (x:Str):Bool:=match look x sc.names with
 | some .local=>true
 | _=>false
noncomputable def Zbk (sc:Scope) (x:Str) (v:MV) (s:St):Res Unit:=bif Zah sc x && !(seq x "__debug__") then .ret () { s with ls:=put x v s.ls } else .stuck "store"
noncomputable def Zbb:PySem.Expr->Option Str
 | .Name x _=>some x
 | _=>none
noncomputable def Zao (sc:Scope):List PySem.Expr->List ME->St->Res Unit
 | [],ys,s=>match ys with | []=>.ret () s | _=>.stuck "unpack"
 | t::r,ys,s=>match ys with
  | .v v::vs=>match Zbb t with
   | some x=>(Zbk sc x v s).bind λ_ s=>Zao sc r vs s
   | none=>.stuck "unpack"
  | _=>.stuck "unpack"
noncomputable def Zbn (sc:Scope) (x:Str) (s:St):Res MV:=match look x s.ls with
 | some v=>.ret v s
 | none=>match look x sc.names with
  | some .globalImplicit=>match look x Γ.names with | some v=>.ret v s | none=>.stuck "name"
  | _=>.stuck "name"
noncomputable def Zhw (c:Const) (s:St):Res MV:=match c with
 | .none=>.ret .none s
 | .bool b=>.ret (.bool b) s
 | .int i=>.ret (.int (.k i)) s
 | .str x=>.ret (.str x.cps.toList) s
 | _=>.stuck "const"
noncomputable def evUn (op:UnaryOp) (v:MV) (s:St):Res MV:=match op with
 | .Not=>(Zcz v s).bind λb s=>.ret (.bool (!b)) s
 | .USub=>match v with | .int l=>.ret (.int l.neg) s | _=>.stuck "neg"
 | _=>.stuck "unary"
noncomputable def Zm6 (vs:List MV) (s:St):Res MV:=Zdm Γ (vs.map .v) s
noncomputable def Zm5 (vs:List MV) (s:St):Res MV:=ZcP Γ (vs.map .v) s
noncomputable def ZjR (ev:PySem.Expr->St->Res MV) (lo hi:Option PySem.Expr) (v:MV) (s:St):Res MV:=(Zor ev lo s).bind λa s=>(Zor ev hi s).bind λb s=>ZhO Γ v a b s
noncomputable def ZnY (ev:PySem.Expr->St->Res MV) (i:PySem.Expr) (v:MV) (s:St):Res MV:=match i with
 | .Slice lo hi st _=>match st with | none=>ZjR Γ ev lo hi v s | some _=>.stuck "step"
 | i=>(ev i s).bind λi s=>ZoI Γ v i s
noncomputable def Zir (C:Addr) (x:Str) (at_:List (Str × MV)):Option Addr:=match look x at_ with
 | some _=>none
 | none=>match lookN C Γ.cls with | some c=>look x c.meths | none=>none
noncomputable def ZfU (ih:Ih) (d:Nat) (sc:Scope) (x:Str) (es:List PySem.Expr) (v:MV) (s:St):Res MV:=match Zf1 Γ v x s with
 | some k=>(ZaF (ih.ev d sc) es s).bind λvs s=>ZhI Γ k v vs s
 | none=>.stuck "no method"
noncomputable def ZjP (ih:Ih) (d:Nat) (sc:Scope) (x:Str) (es:List PySem.Expr) (v:MV) (s:St):Res MV:=match v with
 | .ref n=>match cell Γ s n with
  | some (.inst C at_)=>match Zir Γ C x at_ with
   | some f=>(ZaF (ih.ev d sc) es s).bind λvs s=>ih.call d (.glob (.ref f)) (v::vs) s
   | none=>.stuck "no method"
  | _=>ZfU Γ ih d sc x es v s
 | _=>ZfU Γ ih d sc x es v s
noncomputable def Zdv (o:PySem.Expr) (es:List PySem.Expr) (apos pos:Pos):Bool:=ZbK o&&Nat.beq apos.endLine pos.line&&Nat.blt es.length 20&&es.all Zae
noncomputable def ZjL (ih:Ih) (d:Nat) (sc:Scope) (f:PySem.Expr) (es:List PySem.Expr) (pos:Pos) (s:St):Res MV:=match f with
 | .Attribute o x apos=>bif Zdv o es apos pos then (ih.ev d sc o s).bind λv s=>ZjP Γ ih d sc x es v s else .stuck "method form"
 | .Name x _=>(Zbn Γ sc x s).bind λfv s=>(ZaF (ih.ev d sc) es s).bind λvs s=>ih.call d fv vs s
 | _=>.stuck "callee"
noncomputable def ZiQ (ev:PySem.Expr->St->Res MV) (l:PySem.Expr) (ops:List CmpOp) (rs:List PySem.Expr) (s:St):Res Bool:=(ev l s).bind λa s=>Zpc Γ ev a ops rs s
noncomputable def ZnU (ev:PySem.Expr->St->Res MV) (l:PySem.Expr) (op:Operator) (r:PySem.Expr) (s:St):Res MV:=(ev l s).bind λa s=>(ev r s).bind λb s=>ZnE Γ op a b s
noncomputable def evIf (ih:Ih) (d:Nat) (sc:Scope) (t a b:PySem.Expr) (s:St):Res MV:=(ih.tst d sc t s).bind λc s=>bif c then ih.ev d sc a s else ih.ev d sc b s
noncomputable def ZcH:List (Option PySem.Expr)->Option (List (List Nat))
 | []=>some []
 | some (.Constant (.str x) _ _)::r=>match ZcH r with | some l=>some (x.cps.toList::l) | none=>none
 | _=>none
noncomputable def Zkn (ks:List (List Nat)) (vs:List MV) (s:St):Res MV:=match ks with
 | []=>match vs with | []=>.ret (Za6 Γ s (.dictI [])).1 (Za6 Γ s (.dictI [])).2 | _=>.stuck "dict"
 | _=>.ret (Za6 Γ s (.dictS (ks.zip vs))).1 (Za6 Γ s (.dictS (ks.zip vs))).2
noncomputable def Zkq:List (List Nat)->Bool
 | []=>true
 | x::r=>!(anyL x r)&&Zkq r
noncomputable def ZjO (ev:PySem.Expr->St->Res MV) (ks:List (Option PySem.Expr)) (vs:List PySem.Expr) (s:St):Res MV:=match ZcH ks with
 | some l=>bif Nat.beq l.length vs.length&&Nat.ble l.length 15&&Zkq l then (ZaF ev vs s).bind λws s=>Zkn Γ l ws s else .stuck "dict"
 | none=>.stuck "dict"
noncomputable def Zgx (ih:Ih) (d:Nat) (sc:Scope) (elt:PySem.Expr) (n:Nat) (s:St):Res Unit:=(ih.ev d sc elt s).bind λv s=>match cell Γ s n with
 | some (.list xs)=>bif Zck xs then Za8 Γ n (.list (xs++[.v v])) s else .stuck "comp"
 | _=>.stuck "comp"
noncomputable def Zh9 (ih:Ih) (d:Nat) (sc:Scope) (elt:PySem.Expr) (ifs:List PySem.Expr) (n:Nat) (s:St):Res Unit:=match ifs with
 | []=>Zgx Γ ih d sc elt n s
 | [c]=>(ih.tst d sc c s).bind λb s=>bif b then Zgx Γ ih d sc elt n s else .ret () s
 | _=>.stuck "comp ifs"
noncomputable def Zia (ih:Ih) (d:Nat) (sc:Scope) (x:Str) (ls0:List (Str × MV)) (elt:PySem.Expr) (ifs:List PySem.Expr) (n:Nat) (l:List Nat):St->Res Unit:=@List.rec Nat (λ_=>St->Res Unit) (λs=>.ret () s)
 (λc _ rec s=>(Zh9 Γ ih d sc elt ifs n { s with ls:=put x (.str [c]) ls0 }).bind λ_ s=>rec s) l
noncomputable def ZcG (sc:Scope) (x:Str):Bool:=match look x sc.names with
 | some .free=>true
 | _=>false
noncomputable def capt (sc:Scope) (ls:List (Str × MV)):List (Str × MV):=ls.filter λp=>ZcG sc p.1
noncomputable def ZbG (sc:Scope) (x:Str):Bool:=match look x sc.names with
 | some .cell=>true
 | _=>false
noncomputable def ZlE:ScopeKind->Bool
 | .function=>true
 | _=>false
noncomputable def Ziu (sc sc2:Scope) (ls:List (Str × MV)) (p:Str × NameKind):Bool:=match p.2 with
 | .cell=>false
 | .local=>Zah sc2 p.1
 | .free=>ZbG sc p.1&&ZcG sc2 p.1&&(match look p.1 ls with | some _=>true | none=>false)
 | _=>true
noncomputable def Zib (sc sc2:Scope) (ls:List (Str × MV)):Bool:=ZlE sc2.kind&&sc2.names.all (Ziu sc sc2 ls)
noncomputable def ZdK:NameKind->Bool
 | .free=>true
 | _=>false
noncomputable def Zl9 (sc:Scope) (p:Str × NameKind):Str × NameKind:=bif ZdK p.2&&ZbG sc p.1 then (p.1,.cell) else p
noncomputable def Zai (sc sc2:Scope):Scope:={ sc2 with names:=sc2.names.map (Zl9 sc) }
noncomputable def Zhv (ih:Ih) (d:Nat) (sc sc2:Scope) (elt:PySem.Expr) (ifs:List PySem.Expr) (x:Str) (lsC:List (Str × MV)) (v:MV) (s:St):Res MV:=match v with
 | .str y=>bif Zap y&&Nat.ble y.length 5000 then
  (Zia Γ ih d (Zai sc sc2) x lsC elt ifs (Γ.base.length+s.heap.length) y { s with heap:=s.heap++[.list []] }).bind λ_ t=>.ret (.ref (Γ.base.length+s.heap.length)) { t with ls:=s.ls }
  else .stuck "comp"
 | _=>.stuck "comp"
noncomputable def ZjN (ih:Ih) (d:Nat) (sc:Scope) (elt:PySem.Expr) (gs:List Comprehension) (sc2:Scope) (s:St):Res MV:=match gs with
 | [⟨t,i,ifs,0⟩]=>match Zbb t with
  | some x=>bif Zae i&&Zah sc2 x && !(seq x "__debug__")&&Zib sc sc2 s.ls then (ih.ev d sc i s).bind λv t=>Zhv Γ ih d sc sc2 elt ifs x (capt sc2 s.ls) v t else .stuck "comp"
  | none=>.stuck "comp"
 | _=>.stuck "comp"
noncomputable def ZgC (ih:Ih) (d:Nat) (sc:Scope) (e:PySem.Expr) (s:St):Res MV:=match e with
 | .Name x _=>Zbn Γ sc x s
 | .Constant c _ _=>Zhw c s
 | .Attribute v x _=>bif ZbK v then (ih.ev d sc v s).bind λv s=>Zdg Γ v x s else .stuck "attr form"
 | .BinOp l op r _=>ZnU Γ (ih.ev d sc) l op r s
 | .UnaryOp op x _=>(ih.ev d sc x s).bind λv s=>evUn op v s
 | .BoolOp op vs _=>Zpa (ih.ev d sc) op vs s
 | .IfExp t a b _=>evIf ih d sc t a b s
 | .Compare l ops rs _=>(ZiQ Γ (ih.ev d sc) l ops rs s).bind λb s=>.ret (.bool b) s
 | .Tuple es _ _=>(ZaF (ih.ev d sc) es s).bind (Zm6 Γ)
 | .List es _=>(ZaF (ih.ev d sc) es s).bind (Zm5 Γ)
 | .Subscript v i _=>(ih.ev d sc v s).bind (ZnY Γ (ih.ev d sc) i)
 | .Call f es kw pos=>match kw with | []=>ZjL Γ ih d sc f es pos s | _=>.stuck "kw"
 | .Dict ks vs _=>ZjO Γ (ih.ev d sc) ks vs s
 | .ListComp elt gs sc2 _=>ZjN Γ ih d sc elt gs sc2 s
 | _=>.stuck "expr"
noncomputable def ZhT (ih:Ih) (d:Nat) (sc:Scope) (e:PySem.Expr) (s:St):Res Bool:=match e with
 | .Compare l ops rs _=>ZiQ Γ (ih.ev d sc) l ops rs s
 | .BoolOp op vs _=>Zgs (ih.tst d sc) op vs s
 | .UnaryOp op x _=>match op with | .Not=>notR (ih.tst d sc x s) | _=>.stuck "test"
 | .IfExp _ _ _ _=>.stuck "test"
 | e=>(ih.ev d sc e s).bind λv s=>Zcz v s
noncomputable def Zd6:List ME->Nat->MV->Option (List ME)
 | .v x::r,k,w=>match k with | 0=>some (.v w::r) | k+1=>match Zd6 r k w with | some l=>some (.v x::l) | none=>none
 | _,_,_=>none
noncomputable def Zqu (n:Nat) (o:Option MO) (c:Option Int) (v:MV) (s:St):Res Fl:=match o,c with
 | some (.dictI kvs),some c=>bif Nat.ble kvs.length 1000 then (Za8 Γ n (.dictI (putI c v kvs)) s).bind λ_ s=>.ret .next s else .stuck "setitem"
 | some (.list xs),some (.ofNat k)=>match Zd6 xs k v with | some ys=>(Za8 Γ n (.list ys) s).bind λ_ s=>.ret .next s | none=>.stuck "setitem"
 | _,_=>.stuck "setitem"
noncomputable def Zht (ov iv v:MV) (s:St):Res Fl:=match ov with
 | .ref n=>match iv with
  | .int l=>Zqu Γ n (cell Γ s n) l.const? v s
  | _=>.stuck "setitem"
 | _=>.stuck "setitem"
noncomputable def Zla (sc:Scope) (ts:List PySem.Expr) (v:MV) (s:St):Res Fl:=match Zjd Γ s v with
 | some xs=>(Zao sc ts xs s).bind λ_ s=>.ret .next s
 | none=>.stuck "unpack"
noncomputable def Ziy:PySem.Expr->Bool
 | .ListComp _ _ _ _=>false
 | .SetComp _ _ _ _=>false
 | .DictComp _ _ _ _ _=>false
 | .Tuple _ _ _=>false
 | _=>true
noncomputable def ZfF:Nat->PySem.Expr->Bool
 | _,.Name x _=>!(seq x "__debug__")
 | _,.Attribute _ _ _=>true
 | _,.Call _ _ _ _=>true
 | n+1,.BinOp l _ r _=>ZfF n l||ZfF n r
 | n+1,.Subscript v _ _=>ZfF n v
 | _,_=>false
noncomputable def Zcu (ts es:List PySem.Expr):Bool:=!(Nat.beq ts.length 2||Nat.beq ts.length 3)||es.any (ZfF 3)
noncomputable def Zgj (ev:PySem.Expr->St->Res MV) (sc:Scope) (ts:List PySem.Expr) (e:PySem.Expr) (s:St):Res Fl:=match e with
 | .Tuple es _ _=>bif Zcu ts es&&Nat.ble ts.length 200 then (ZaF ev es s).bind λvs s=>(Zao sc ts (vs.map .v) s).bind λ_ s=>.ret .next s else .stuck "order of stores"
 | e=>bif Ziy e then (ev e s).bind (Zla Γ sc ts) else .stuck "rhs"
noncomputable def ZaQ (e:PySem.Expr):Bool:=match e with
 | .ListComp _ _ _ _=>false
 | .SetComp _ _ _ _=>false
 | .DictComp _ _ _ _ _=>false
 | _=>true
noncomputable def Zgi (ev:PySem.Expr->St->Res MV) (sc:Scope) (t e:PySem.Expr) (s:St):Res Fl:=match t with
 | .Name x _=>(ev e s).bind λv s=>(Zbk sc x v s).bind λ_ s=>.ret .next s
 | .Attribute o x _=>(ev e s).bind λv s=>(ev o s).bind λov s=>(ZeX Γ ov x v s).bind λ_ s=>.ret .next s
 | .Subscript o i _=>(ev e s).bind λv s=>(ev o s).bind λov s=>(ev i s).bind λiv s=>Zht Γ ov iv v s
 | .Tuple ts _ _=>Zgj Γ ev sc ts e s
 | _=>.stuck "assign"
noncomputable def stIf (ih:Ih) (d:Nat) (sc:Scope) (t:PySem.Expr) (a b:List Stmt) (s:St):Res Fl:=(ih.tst d sc t s).bind λc s=>bif c then ih.blk d sc a s else ih.blk d sc b s
noncomputable def ZpS (ev:PySem.Expr->St->Res MV) (e:Option PySem.Expr) (s:St):Res Fl:=match e with
 | none=>.ret (.ret .none) s
 | some e=>(ev e s).bind λv s=>.ret (.ret v) s
noncomputable def ZjA (sc:Scope) (t:PySem.Expr) (v:MV) (s:St):Res Unit:=match t with
 | .Name x _=>Zbk sc x v s
 | .Tuple ts _ _=>match Zjd Γ s v with | some xs=>Zao sc ts xs s | none=>.stuck "target"
 | _=>.stuck "target"
set_option genInjectivity false in
set_option genSizeOf false in
inductive It where
 | str (x:List Nat)
 | tup (n:Nat) (xs:List MV)
 | rng (a b:Int)
noncomputable def Zm0 (v:MV) (s:St):Option It:=match v with
 | .str x=>bif Zap x then some (.str x) else none
 | .ref n=>match cell Γ s n with
  | some (.tuple xs)=>(match Zd9 xs with | some l=>some (.tup n l) | none=>none)
  | some (.range a b)=>bif Nat.ble a.natAbs 1000&&Nat.ble b.natAbs 1000 then some (.rng a b) else none
  | _=>none
 | _=>none
noncomputable def Ze3 (a:Int):Nat->List MV
 | 0=>[]
 | n+1=>.int (.k a)::Ze3 (a+1) n
noncomputable def Zby:It->List MV
 | .str x=>x.map λc=>.str [c]
 | .tup _ xs=>xs
 | .rng a b=>Ze3 a (b-a).toNat
noncomputable def ZeZ (i:It) (s:St):Bool:=match i with
 | .tup n _=>match cell Γ s n with | some (.tuple _)=>true | _=>false
 | _=>true
noncomputable def Zhz (f:Fl) (k:St->Res Fl) (s:St):Res Fl:=match f with
 | .next=>k s
 | .cont=>k s
 | .brk=>.ret .next s
 | .ret v=>.ret (.ret v) s
noncomputable def ZiS (still:St->Bool) (bnd:MV->St->Res Unit) (blk:St->Res Fl) (l:List MV):St->Res Fl:=@List.rec MV (λ_=>St->Res Fl) (λs=>bif still s then .ret .next s else .stuck "for")
 (λv _ rec s=>bif still s then (bnd v s).bind λ_ s=>(blk s).bind λf s=>Zhz f rec s else .stuck "for") l
noncomputable def Zow (ih:Ih) (d:Nat) (sc:Scope) (t it:PySem.Expr) (b:List Stmt) (s:St):Res Fl:=(ih.ev d sc it s).bind λv s=>match Zm0 Γ v s with
 | some i=>ZiS (ZeZ Γ i) (ZjA Γ sc t) (ih.blk d sc b) (Zby i) s
 | none=>.stuck "for"
noncomputable def Zcn (ih:Ih) (d:Nat) (sc:Scope) (st:Stmt) (s:St):Res Fl:=match st with
 | .Return e _=>ZpS (ih.ev d sc) e s
 | .Expr e _=>bif ZaQ e then (ih.ev d sc e s).bind λ_ s=>.ret .next s else .stuck "rhs"
 | .Pass _=>.ret .next s
 | .Break _=>.ret .brk s
 | .If t a b _=>stIf ih d sc t a b s
 | .While t b o _=>match o with | []=>ih.whl d sc t b s | _=>.stuck "while else"
 | .For t it b o _=>match o with | []=>(bif Zae it then Zow Γ ih d sc t it b s else .stuck "for") | _=>.stuck "for else"
 | .Assign ts e _=>match ts with
  | [t]=>bif ZaQ e then Zgi Γ (ih.ev d sc) sc t e s else .stuck "rhs"
  | _=>.stuck "assign"
 | _=>.stuck "stmt"
noncomputable def ZgI:Fl->Bool
 | .next=>true
 | _=>false
noncomputable def Zli (st:Stmt->St->Res Fl) (l:List Stmt):St->Res Fl:=@List.rec Stmt (λ_=>St->Res Fl) (λs=>.ret .next s) (λa _ ih s=>(st a s).bind λf s=>bif ZgI f then ih s else .ret f s) l
noncomputable def ZfT (ih:Ih) (d:Nat) (f:Fn) (vs:List MV) (s:St):Res MV:=
 bif Zg0 vs.length f.ar then (ih.blk d f.sc f.body { s with ls:=f.params.zip (vs++f.dflts.drop (vs.length+f.dflts.length-f.params.length)) }).bind λfl s'=>match fl with
  | .ret v=>.ret v { s' with ls:=s.ls }
  | .next=>.ret .none { s' with ls:=s.ls }
  | _=>.stuck "loose break"
 else .stuck "args"
noncomputable def Zki (ih:Ih) (d:Nat) (a:Addr) (c:Cls) (vs:List MV) (s:St):Res MV:=(ih.call d (.glob (.ref c.init)) ((Za6 Γ s (.inst a [])).1::vs) (Za6 Γ s (.inst a [])).2).bind λr s'=>match r with
 | .none=>.ret (.ref (Γ.base.length+s.heap.length)) s'
 | _=>.stuck "init"
noncomputable def ZcZ (d:Nat) (a:Addr) (vs:List MV) (s:St):Option (Res MV):=bif Nat.ble 10 d then (match lookN a Γ.sums with | some f=>f vs s | none=>none) else none
noncomputable def Zen (ih:Ih) (d:Nat) (a:Addr) (vs:List MV) (s:St):Res MV:=match d with
 | 0=>.stuck "depth"
 | d+1=>match ZcZ Γ d a vs s with | some r=>r | none=>match lookN a Γ.fns with
  | some f=>ZfT ih d f vs s
  | none=>match lookN a Γ.cls with
   | some c=>Zki Γ ih d a c vs s
   | none=>.stuck "callee"
noncomputable def Zec (ih:Ih) (d:Nat) (fv:MV) (vs:List MV) (s:St):Res MV:=match fv with
 | .glob v=>match v with
  | .ref a=>Zen Γ ih d a vs s
  | .builtin id=>biOf Γ id vs s
  | .type id=>tyOf Γ id vs s
  | _=>.stuck "call"
 | _=>.stuck "call"
noncomputable def ZhW (ih:Ih) (d:Nat) (sc:Scope) (t:PySem.Expr) (b:List Stmt) (s:St):Res Fl:=(ih.tst d sc t s).bind λc s=>bif c then (ih.blk d sc b s).bind (λf s=>Zhz f (ih.whl d sc t b) s) else .ret .next s
noncomputable def ZmY (ih:Ih):Ih where
 ev:=ZgC Γ ih
 tst:=ZhT Γ ih
 blk:=λd sc b s=>Zli (Zcn Γ ih d sc) b s
 call:=Zec Γ ih
 whl:=ZhW ih
noncomputable def ih0:Ih:=⟨λ_ _ _ _=>.stuck "fuel",λ_ _ _ _=>.stuck "fuel",λ_ _ _ _=>.stuck "fuel",λ_ _ _ _=>.stuck "fuel",λ_ _ _ _ _=>.stuck "fuel"⟩
noncomputable def run (n:Nat):Ih:=Nat.rec ih0 (λ_ ih=>ZmY Γ ih) n
end
end
end Mine
end
section
namespace Mine
universe u v w
noncomputable def Fa {α:Sort u} (f g:α->Prop):Prop:=∀ w,f w->g w
theorem zF0:False->False:=id
theorem zF1 {α:Sort u}:α->False->False:=λ_=>id
theorem zF2 {α:Sort u} {β:Sort v}:α->β->False->False:=λ_ _=>id
theorem zB0:false=true->False:=nofun
theorem zB1 {α:Sort u}:α->false=true->False:=λ_=>zB0
theorem zB2 {α:Sort u} {β:Sort v}:α->β->false=true->False:=λ_ _=>zB0
theorem zN0 {γ:Type w} {a:γ}:none=some a->False:=nofun
theorem zN1 {α:Sort u} {γ:Type w} {a:γ}:α->none=some a->False:=λ_=>zN0
theorem zN2 {α:Sort u} {β:Sort v} {γ:Type w} {a:γ}:α->β->none=some a->False:=λ_ _=>zN0
theorem bifN {α:Type u} {b:Bool} {x y:α} (h:(bif b then some x else none)=some y):b=true∧x=y:=by
 cases b with
 | true=>exact ⟨rfl,Option.some.inj h⟩
 | false=>exact nomatch h
theorem nB {g:Prop} (h:false=true):g:=nomatch h
theorem nT {g:Prop} (h:true=false):g:=nomatch h
theorem nN {α:Type u} {a:α} {g:Prop} (h:none=some a):g:=nomatch h
theorem nS {α:Type u} {a:α} {g:Prop} (h:some a=none):g:=nomatch h
theorem Boo.on_false {f g:Bool->Prop} (k1:f (.true )->False) (g0:f (.false )->g (.false )):Fa f g:=by
 intro w h
 cases w with
 | false =>exact g0  h
 | true =>exact (k1  h).elim
theorem Boo.on_true {f g:Bool->Prop} (k0:f (.false )->False) (g1:f (.true )->g (.true )):Fa f g:=by
 intro w h
 cases w with
 | false =>exact (k0  h).elim
 | true =>exact g1  h
theorem Lis.on_cons {α:Type u} {f g:List α->Prop} (k0:f (.nil )->False) (g1:∀ a r,f (.cons a r)->g (.cons a r)):Fa f g:=by
 intro w h
 cases w with
 | nil =>exact (k0  h).elim
 | cons a r=>exact g1 a r h
theorem Lis.on_nil {α:Type u} {f g:List α->Prop} (k1:∀ a r,f (.cons a r)->False) (g0:f (.nil )->g (.nil )):Fa f g:=by
 intro w h
 cases w with
 | nil =>exact g0  h
 | cons a r=>exact (k1 a r h).elim
theorem ME.on_seg {f g:ME->Prop} (k0:∀ x,f (.v x)->False) (g1:∀ n,f (.seg n)->g (.seg n)):Fa f g:=by
 intro w h
 cases w with
 | v x=>exact (k0 x h).elim
 | seg n=>exact g1 n h
theorem ME.on_v {f g:ME->Prop} (k1:∀ n,f (.seg n)->False) (g0:∀ x,f (.v x)->g (.v x)):Fa f g:=by
 intro w h
 cases w with
 | v x=>exact g0 x h
 | seg n=>exact (k1 n h).elim
theorem MO.on_deck {f g:MO->Prop} (k0:∀ C t,f (.inst C t)->False) (k1:∀ xs,f (.list xs)->False) (k2:∀ xs,f (.tuple xs)->False) (k3:∀ k,f (.dictI k)->False) (k4:∀ k,f (.dictS k)->False) (k5:∀ a b,f (.range a b)->False) (g6:∀ n,f (.deck n)->g (.deck n)):Fa f g:=by
 intro w h
 cases w with
 | inst C t=>exact (k0 C t h).elim
 | list xs=>exact (k1 xs h).elim
 | tuple xs=>exact (k2 xs h).elim
 | dictI k=>exact (k3 k h).elim
 | dictS k=>exact (k4 k h).elim
 | range a b=>exact (k5 a b h).elim
 | deck n=>exact g6 n h
theorem MO.on_inst {f g:MO->Prop} (k1:∀ xs,f (.list xs)->False) (k2:∀ xs,f (.tuple xs)->False) (k3:∀ k,f (.dictI k)->False) (k4:∀ k,f (.dictS k)->False) (k5:∀ a b,f (.range a b)->False) (k6:∀ n,f (.deck n)->False) (g0:∀ C t,f (.inst C t)->g (.inst C t)):Fa f g:=by
 intro w h
 cases w with
 | inst C t=>exact g0 C t h
 | list xs=>exact (k1 xs h).elim
 | tuple xs=>exact (k2 xs h).elim
 | dictI k=>exact (k3 k h).elim
 | dictS k=>exact (k4 k h).elim
 | range a b=>exact (k5 a b h).elim
 | deck n=>exact (k6 n h).elim
theorem MO.on_list {f g:MO->Prop} (k0:∀ C t,f (.inst C t)->False) (k2:∀ xs,f (.tuple xs)->False) (k3:∀ k,f (.dictI k)->False) (k4:∀ k,f (.dictS k)->False) (k5:∀ a b,f (.range a b)->False) (k6:∀ n,f (.deck n)->False) (g1:∀ xs,f (.list xs)->g (.list xs)):Fa f g:=by
 intro w h
 cases w with
 | inst C t=>exact (k0 C t h).elim
 | list xs=>exact g1 xs h
 | tuple xs=>exact (k2 xs h).elim
 | dictI k=>exact (k3 k h).elim
 | dictS k=>exact (k4 k h).elim
 | range a b=>exact (k5 a b h).elim
 | deck n=>exact (k6 n h).elim
theorem MO.on_list_dictI {f g:MO->Prop} (k0:∀ C t,f (.inst C t)->False) (k2:∀ xs,f (.tuple xs)->False) (k4:∀ k,f (.dictS k)->False) (k5:∀ a b,f (.range a b)->False) (k6:∀ n,f (.deck n)->False) (g1:∀ xs,f (.list xs)->g (.list xs)) (g3:∀ k,f (.dictI k)->g (.dictI k)):Fa f g:=by
 intro w h
 cases w with
 | inst C t=>exact (k0 C t h).elim
 | list xs=>exact g1 xs h
 | tuple xs=>exact (k2 xs h).elim
 | dictI k=>exact g3 k h
 | dictS k=>exact (k4 k h).elim
 | range a b=>exact (k5 a b h).elim
 | deck n=>exact (k6 n h).elim
theorem MO.on_list_tuple {f g:MO->Prop} (k0:∀ C t,f (.inst C t)->False) (k3:∀ k,f (.dictI k)->False) (k4:∀ k,f (.dictS k)->False) (k5:∀ a b,f (.range a b)->False) (k6:∀ n,f (.deck n)->False) (g1:∀ xs,f (.list xs)->g (.list xs)) (g2:∀ xs,f (.tuple xs)->g (.tuple xs)):Fa f g:=by
 intro w h
 cases w with
 | inst C t=>exact (k0 C t h).elim
 | list xs=>exact g1 xs h
 | tuple xs=>exact g2 xs h
 | dictI k=>exact (k3 k h).elim
 | dictS k=>exact (k4 k h).elim
 | range a b=>exact (k5 a b h).elim
 | deck n=>exact (k6 n h).elim
theorem MO.on_list_tuple_dictS {f g:MO->Prop} (k0:∀ C t,f (.inst C t)->False) (k3:∀ k,f (.dictI k)->False) (k5:∀ a b,f (.range a b)->False) (k6:∀ n,f (.deck n)->False) (g1:∀ xs,f (.list xs)->g (.list xs)) (g2:∀ xs,f (.tuple xs)->g (.tuple xs)) (g4:∀ k,f (.dictS k)->g (.dictS k)):Fa f g:=by
 intro w h
 cases w with
 | inst C t=>exact (k0 C t h).elim
 | list xs=>exact g1 xs h
 | tuple xs=>exact g2 xs h
 | dictI k=>exact (k3 k h).elim
 | dictS k=>exact g4 k h
 | range a b=>exact (k5 a b h).elim
 | deck n=>exact (k6 n h).elim
theorem MO.on_tuple {f g:MO->Prop} (k0:∀ C t,f (.inst C t)->False) (k1:∀ xs,f (.list xs)->False) (k3:∀ k,f (.dictI k)->False) (k4:∀ k,f (.dictS k)->False) (k5:∀ a b,f (.range a b)->False) (k6:∀ n,f (.deck n)->False) (g2:∀ xs,f (.tuple xs)->g (.tuple xs)):Fa f g:=by
 intro w h
 cases w with
 | inst C t=>exact (k0 C t h).elim
 | list xs=>exact (k1 xs h).elim
 | tuple xs=>exact g2 xs h
 | dictI k=>exact (k3 k h).elim
 | dictS k=>exact (k4 k h).elim
 | range a b=>exact (k5 a b h).elim
 | deck n=>exact (k6 n h).elim
theorem MO.on_tuple_range {f g:MO->Prop} (k0:∀ C t,f (.inst C t)->False) (k1:∀ xs,f (.list xs)->False) (k3:∀ k,f (.dictI k)->False) (k4:∀ k,f (.dictS k)->False) (k6:∀ n,f (.deck n)->False) (g2:∀ xs,f (.tuple xs)->g (.tuple xs)) (g5:∀ a b,f (.range a b)->g (.range a b)):Fa f g:=by
 intro w h
 cases w with
 | inst C t=>exact (k0 C t h).elim
 | list xs=>exact (k1 xs h).elim
 | tuple xs=>exact g2 xs h
 | dictI k=>exact (k3 k h).elim
 | dictS k=>exact (k4 k h).elim
 | range a b=>exact g5 a b h
 | deck n=>exact (k6 n h).elim
theorem MV.on_bool {f g:MV->Prop} (k0:f (.none )->False) (k2:∀ l,f (.int l)->False) (k3:∀ s,f (.str s)->False) (k4:∀ n,f (.ref n)->False) (k5:∀ v,f (.glob v)->False) (k6:∀ n,f (.opq n)->False) (k7:∀ n,f (.unk n)->False) (k8:∀ n,f (.txt n)->False) (g1:∀ b,f (.bool b)->g (.bool b)):Fa f g:=by
 intro w h
 cases w with
 | none =>exact (k0  h).elim
 | bool b=>exact g1 b h
 | int l=>exact (k2 l h).elim
 | str s=>exact (k3 s h).elim
 | ref n=>exact (k4 n h).elim
 | glob v=>exact (k5 v h).elim
 | opq n=>exact (k6 n h).elim
 | unk n=>exact (k7 n h).elim
 | txt n=>exact (k8 n h).elim
theorem MV.on_glob {f g:MV->Prop} (k0:f (.none )->False) (k1:∀ b,f (.bool b)->False) (k2:∀ l,f (.int l)->False) (k3:∀ s,f (.str s)->False) (k4:∀ n,f (.ref n)->False) (k6:∀ n,f (.opq n)->False) (k7:∀ n,f (.unk n)->False) (k8:∀ n,f (.txt n)->False) (g5:∀ v,f (.glob v)->g (.glob v)):Fa f g:=by
 intro w h
 cases w with
 | none =>exact (k0  h).elim
 | bool b=>exact (k1 b h).elim
 | int l=>exact (k2 l h).elim
 | str s=>exact (k3 s h).elim
 | ref n=>exact (k4 n h).elim
 | glob v=>exact g5 v h
 | opq n=>exact (k6 n h).elim
 | unk n=>exact (k7 n h).elim
 | txt n=>exact (k8 n h).elim
theorem MV.on_int {f g:MV->Prop} (k0:f (.none )->False) (k1:∀ b,f (.bool b)->False) (k3:∀ s,f (.str s)->False) (k4:∀ n,f (.ref n)->False) (k5:∀ v,f (.glob v)->False) (k6:∀ n,f (.opq n)->False) (k7:∀ n,f (.unk n)->False) (k8:∀ n,f (.txt n)->False) (g2:∀ l,f (.int l)->g (.int l)):Fa f g:=by
 intro w h
 cases w with
 | none =>exact (k0  h).elim
 | bool b=>exact (k1 b h).elim
 | int l=>exact g2 l h
 | str s=>exact (k3 s h).elim
 | ref n=>exact (k4 n h).elim
 | glob v=>exact (k5 v h).elim
 | opq n=>exact (k6 n h).elim
 | unk n=>exact (k7 n h).elim
 | txt n=>exact (k8 n h).elim
theorem MV.on_int_ref {f g:MV->Prop} (k0:f (.none )->False) (k1:∀ b,f (.bool b)->False) (k3:∀ s,f (.str s)->False) (k5:∀ v,f (.glob v)->False) (k6:∀ n,f (.opq n)->False) (k7:∀ n,f (.unk n)->False) (k8:∀ n,f (.txt n)->False) (g2:∀ l,f (.int l)->g (.int l)) (g4:∀ n,f (.ref n)->g (.ref n)):Fa f g:=by
 intro w h
 cases w with
 | none =>exact (k0  h).elim
 | bool b=>exact (k1 b h).elim
 | int l=>exact g2 l h
 | str s=>exact (k3 s h).elim
 | ref n=>exact g4 n h
 | glob v=>exact (k5 v h).elim
 | opq n=>exact (k6 n h).elim
 | unk n=>exact (k7 n h).elim
 | txt n=>exact (k8 n h).elim
theorem MV.on_int_str_ref {f g:MV->Prop} (k0:f (.none )->False) (k1:∀ b,f (.bool b)->False) (k5:∀ v,f (.glob v)->False) (k6:∀ n,f (.opq n)->False) (k7:∀ n,f (.unk n)->False) (k8:∀ n,f (.txt n)->False) (g2:∀ l,f (.int l)->g (.int l)) (g3:∀ s,f (.str s)->g (.str s)) (g4:∀ n,f (.ref n)->g (.ref n)):Fa f g:=by
 intro w h
 cases w with
 | none =>exact (k0  h).elim
 | bool b=>exact (k1 b h).elim
 | int l=>exact g2 l h
 | str s=>exact g3 s h
 | ref n=>exact g4 n h
 | glob v=>exact (k5 v h).elim
 | opq n=>exact (k6 n h).elim
 | unk n=>exact (k7 n h).elim
 | txt n=>exact (k8 n h).elim
theorem MV.on_none {f g:MV->Prop} (k1:∀ b,f (.bool b)->False) (k2:∀ l,f (.int l)->False) (k3:∀ s,f (.str s)->False) (k4:∀ n,f (.ref n)->False) (k5:∀ v,f (.glob v)->False) (k6:∀ n,f (.opq n)->False) (k7:∀ n,f (.unk n)->False) (k8:∀ n,f (.txt n)->False) (g0:f (.none )->g (.none )):Fa f g:=by
 intro w h
 cases w with
 | none =>exact g0  h
 | bool b=>exact (k1 b h).elim
 | int l=>exact (k2 l h).elim
 | str s=>exact (k3 s h).elim
 | ref n=>exact (k4 n h).elim
 | glob v=>exact (k5 v h).elim
 | opq n=>exact (k6 n h).elim
 | unk n=>exact (k7 n h).elim
 | txt n=>exact (k8 n h).elim
theorem MV.on_ref {f g:MV->Prop} (k0:f (.none )->False) (k1:∀ b,f (.bool b)->False) (k2:∀ l,f (.int l)->False) (k3:∀ s,f (.str s)->False) (k5:∀ v,f (.glob v)->False) (k6:∀ n,f (.opq n)->False) (k7:∀ n,f (.unk n)->False) (k8:∀ n,f (.txt n)->False) (g4:∀ n,f (.ref n)->g (.ref n)):Fa f g:=by
 intro w h
 cases w with
 | none =>exact (k0  h).elim
 | bool b=>exact (k1 b h).elim
 | int l=>exact (k2 l h).elim
 | str s=>exact (k3 s h).elim
 | ref n=>exact g4 n h
 | glob v=>exact (k5 v h).elim
 | opq n=>exact (k6 n h).elim
 | unk n=>exact (k7 n h).elim
 | txt n=>exact (k8 n h).elim
theorem MV.on_ref_glob {f g:MV->Prop} (k0:f (.none )->False) (k1:∀ b,f (.bool b)->False) (k2:∀ l,f (.int l)->False) (k3:∀ s,f (.str s)->False) (k6:∀ n,f (.opq n)->False) (k7:∀ n,f (.unk n)->False) (k8:∀ n,f (.txt n)->False) (g4:∀ n,f (.ref n)->g (.ref n)) (g5:∀ v,f (.glob v)->g (.glob v)):Fa f g:=by
 intro w h
 cases w with
 | none =>exact (k0  h).elim
 | bool b=>exact (k1 b h).elim
 | int l=>exact (k2 l h).elim
 | str s=>exact (k3 s h).elim
 | ref n=>exact g4 n h
 | glob v=>exact g5 v h
 | opq n=>exact (k6 n h).elim
 | unk n=>exact (k7 n h).elim
 | txt n=>exact (k8 n h).elim
theorem MV.on_str {f g:MV->Prop} (k0:f (.none )->False) (k1:∀ b,f (.bool b)->False) (k2:∀ l,f (.int l)->False) (k4:∀ n,f (.ref n)->False) (k5:∀ v,f (.glob v)->False) (k6:∀ n,f (.opq n)->False) (k7:∀ n,f (.unk n)->False) (k8:∀ n,f (.txt n)->False) (g3:∀ s,f (.str s)->g (.str s)):Fa f g:=by
 intro w h
 cases w with
 | none =>exact (k0  h).elim
 | bool b=>exact (k1 b h).elim
 | int l=>exact (k2 l h).elim
 | str s=>exact g3 s h
 | ref n=>exact (k4 n h).elim
 | glob v=>exact (k5 v h).elim
 | opq n=>exact (k6 n h).elim
 | unk n=>exact (k7 n h).elim
 | txt n=>exact (k8 n h).elim
theorem MV.on_str_ref {f g:MV->Prop} (k0:f (.none )->False) (k1:∀ b,f (.bool b)->False) (k2:∀ l,f (.int l)->False) (k5:∀ v,f (.glob v)->False) (k6:∀ n,f (.opq n)->False) (k7:∀ n,f (.unk n)->False) (k8:∀ n,f (.txt n)->False) (g3:∀ s,f (.str s)->g (.str s)) (g4:∀ n,f (.ref n)->g (.ref n)):Fa f g:=by
 intro w h
 cases w with
 | none =>exact (k0  h).elim
 | bool b=>exact (k1 b h).elim
 | int l=>exact (k2 l h).elim
 | str s=>exact g3 s h
 | ref n=>exact g4 n h
 | glob v=>exact (k5 v h).elim
 | opq n=>exact (k6 n h).elim
 | unk n=>exact (k7 n h).elim
 | txt n=>exact (k8 n h).elim
theorem MV.on_str_ref_glob {f g:MV->Prop} (k0:f (.none )->False) (k1:∀ b,f (.bool b)->False) (k2:∀ l,f (.int l)->False) (k6:∀ n,f (.opq n)->False) (k7:∀ n,f (.unk n)->False) (k8:∀ n,f (.txt n)->False) (g3:∀ s,f (.str s)->g (.str s)) (g4:∀ n,f (.ref n)->g (.ref n)) (g5:∀ v,f (.glob v)->g (.glob v)):Fa f g:=by
 intro w h
 cases w with
 | none =>exact (k0  h).elim
 | bool b=>exact (k1 b h).elim
 | int l=>exact (k2 l h).elim
 | str s=>exact g3 s h
 | ref n=>exact g4 n h
 | glob v=>exact g5 v h
 | opq n=>exact (k6 n h).elim
 | unk n=>exact (k7 n h).elim
 | txt n=>exact (k8 n h).elim
theorem MV.on_str_ref_txt {f g:MV->Prop} (k0:f (.none )->False) (k1:∀ b,f (.bool b)->False) (k2:∀ l,f (.int l)->False) (k5:∀ v,f (.glob v)->False) (k6:∀ n,f (.opq n)->False) (k7:∀ n,f (.unk n)->False) (g3:∀ s,f (.str s)->g (.str s)) (g4:∀ n,f (.ref n)->g (.ref n)) (g8:∀ n,f (.txt n)->g (.txt n)):Fa f g:=by
 intro w h
 cases w with
 | none =>exact (k0  h).elim
 | bool b=>exact (k1 b h).elim
 | int l=>exact (k2 l h).elim
 | str s=>exact g3 s h
 | ref n=>exact g4 n h
 | glob v=>exact (k5 v h).elim
 | opq n=>exact (k6 n h).elim
 | unk n=>exact (k7 n h).elim
 | txt n=>exact g8 n h
theorem MV.on_txt {f g:MV->Prop} (k0:f (.none )->False) (k1:∀ b,f (.bool b)->False) (k2:∀ l,f (.int l)->False) (k3:∀ s,f (.str s)->False) (k4:∀ n,f (.ref n)->False) (k5:∀ v,f (.glob v)->False) (k6:∀ n,f (.opq n)->False) (k7:∀ n,f (.unk n)->False) (g8:∀ n,f (.txt n)->g (.txt n)):Fa f g:=by
 intro w h
 cases w with
 | none =>exact (k0  h).elim
 | bool b=>exact (k1 b h).elim
 | int l=>exact (k2 l h).elim
 | str s=>exact (k3 s h).elim
 | ref n=>exact (k4 n h).elim
 | glob v=>exact (k5 v h).elim
 | opq n=>exact (k6 n h).elim
 | unk n=>exact (k7 n h).elim
 | txt n=>exact g8 n h
theorem Opt.on_none {α:Type u} {f g:Option α->Prop} (k1:∀ a,f (.some a)->False) (g0:f (.none )->g (.none )):Fa f g:=by
 intro w h
 cases w with
 | none =>exact g0  h
 | some a=>exact (k1 a h).elim
theorem Opt.on_some {α:Type u} {f g:Option α->Prop} (k0:f (.none )->False) (g1:∀ a,f (.some a)->g (.some a)):Fa f g:=by
 intro w h
 cases w with
 | none =>exact (k0  h).elim
 | some a=>exact g1 a h
end Mine
end
section
namespace Mine
set_option genInjectivity false in
set_option genSizeOf false in
inductive SV where
 | none
 | bool (b:Bool)
 | int (i:Int)
 | str (s:List Nat)
 | ref (n:Nat)
 | glob (v:Value)
set_option genInjectivity false in
set_option genSizeOf false in
inductive SO where
 | inst (C:Addr) (at_:List (Str × SV))
 | list (xs:List SV)
 | tuple (xs:List SV)
 | dictI (kvs:List (Int × SV))
 | dictS (kvs:List (List Nat × SV))
 | range (a b:Int)
 | deck (n:Nat)
set_option genInjectivity false in
set_option genSizeOf false in
structure Vn where
 x:Nat->Int
 o:Nat->SV
 g:Nat->List SV
 r:Nat->Nat
 t:Nat->List Nat
noncomputable def ZbH:List SV->Int
 | []=>0
 | v::r=>(match v with | .int i=>i | _=>0)+ZbH r
set_option genInjectivity false in
set_option genSizeOf false in
structure Vn.ok (ν:Vn):Prop where
 len:∀ n,ν.x (2 * (n % 100)+1)=((ν.g n).length:Int)
 flat:∀ n,ν.o n = .none∨∃ i,ν.o n = .int i
 nums:∀ n,n<100->∀ v ∈ ν.g n,∃ i,v = .int i
 small:∀ n,(ν.g n).length≤4096
 sum:∀ n,n<100->ν.x (2 * n+500)=ZbH (ν.g n)
 tlen:∀ n,ν.x (2 * n+1000)=((ν.t n).length:Int)
 tsmall:∀ n,(ν.t n).length≤4096
noncomputable def tev (x:Nat->Int):List (Nat × Int)->Int
 | []=>0
 | p::r=>p.2 * x p.1+tev x r
noncomputable def Lin.ev (x:Nat->Int) (l:Lin):Int:=l.c+tev x l.t
noncomputable def MV.sem (ν:Vn):MV->SV
 | .none=>.none
 | .bool b=>.bool b
 | .int l=>.int (l.ev ν.x)
 | .str s=>.str s
 | .ref n=>.ref n
 | .glob v=>.glob v
 | .opq n=>ν.o n
 | .unk n=>.ref (ν.r n)
 | .txt n=>.str (ν.t n)
noncomputable def ME.sem (ν:Vn):ME->List SV
 | .v x=>[x.sem ν]
 | .seg n=>ν.g n
noncomputable def rowS (ν:Vn) (xs:List ME):List SV:=(xs.map (ME.sem ν)).flatten
noncomputable def MO.sem (ν:Vn):MO->SO
 | .inst C at_=>.inst C (at_.map λp=>(p.1,p.2.sem ν))
 | .list xs=>.list (rowS ν xs)
 | .tuple xs=>.tuple (rowS ν xs)
 | .dictI kvs=>.dictI (kvs.map λp=>(p.1,p.2.sem ν))
 | .dictS kvs=>.dictS (kvs.map λp=>(p.1,p.2.sem ν))
 | .range a b=>.range a b
 | .deck n=>.deck n
noncomputable def Cnd.holds (ν:Vn):Cnd->Prop
 | .pos l=>0<l.ev ν.x
 | .zer l=>l.ev ν.x=0
set_option tactic.hygienic true in
theorem iz_iff {i:Int}:iz i=true ↔ i=0:=by
 unfold iz;split
 ·simp
 ·rename_i h;constructor
  ·intro q;exact nB q
  ·intro q;exact absurd q (λe=>h (by rw [e];rfl))
set_option tactic.hygienic true in
theorem ipos_iff {i:Int}:ipos i=true ↔ 0<i:=by
 unfold ipos;split
 ·simp
 ·rename_i h;constructor
  ·intro q;exact nB q
  ·intro q
   cases i with
   | ofNat n=>cases n with
    | zero=>exact absurd q (by decide)
    | succ n=>exact absurd rfl (h n)
   | negSucc n=>exact absurd q (by simp [Int.negSucc_not_pos])
theorem ZkD (x:Nat->Int) (y:Nat) (k:Int):∀ l,tev x (putT y k l)=k * x y+tev x l
 | []=>by
  unfold putT
  cases h:iz k
  ·simp [tev]
  ·rw [iz_iff.mp h];simp [tev]
 | (z,j)::r=>by
  have ih:=ZkD x y k r
  unfold putT
  cases h:Nat.beq y z with
  | true=>
   have e:y=z:=Nat.eq_of_beq_eq_true h
   subst e
   cases h':iz (j+k) with
   | true=>
    have e2:=iz_iff.mp h'
    simp only [cond_true,tev]
    have:j * x y+k * x y=0:=by rw [←Int.add_mul,e2,Int.zero_mul]
    omega
   | false=>simp only [cond_true,cond_false,tev,Int.add_mul];omega
  | false=>
   cases h':Nat.blt y z with
   | true=>
    cases h2:iz k with
    | true=>rw [iz_iff.mp h2];simp [tev]
    | false=>simp only [cond_true,cond_false,tev]
   | false=>simp only [cond_false,tev,ih];omega
theorem Znr (x:Nat->Int) (a b:List (Nat × Int)):tev x (addT a b)=tev x a+tev x b:=by
 unfold addT
 induction a with
 | nil=>simp [tev]
 | cons p r ih=>simp only [List.foldr_cons,ZkD,ih,tev];omega
theorem Zkm (x:Nat->Int):∀ a,tev x (negT a) = - tev x a
 | []=>by simp [negT,tev]
 | (y,k)::r=>by simp only [negT,tev,Zkm x r,Int.neg_mul];omega
@[simp] theorem ev_k (x:Nat->Int) (c:Int):(Lin.k c).ev x=c:=by simp [Lin.k,Lin.ev,tev]
@[simp] theorem ev_x (x:Nat->Int) (n:Nat):(Lin.x n).ev x=x n:=by simp [Lin.x,Lin.ev,tev]
@[simp] theorem ZbE (x:Nat->Int) (a b:Lin):(a.add b).ev x=a.ev x+b.ev x:=by simp only [Lin.add,Lin.ev,Znr];omega
@[simp] theorem Zig (x:Nat->Int) (a:Lin):(a.neg).ev x = - a.ev x:=by simp only [Lin.neg,Lin.ev,Zkm];omega
@[simp] theorem Zb9 (x:Nat->Int) (a b:Lin):(a.sub b).ev x=a.ev x-b.ev x:=by simp only [Lin.sub,ZbE,Zig];omega
theorem ieq_iff {a b:Int}:ieq a b=true ↔ a=b:=by unfold ieq;rw [iz_iff];omega
theorem Znl:∀ {a b},teq a b=true->a=b
 | [],[],_=>rfl
 | (x,k)::r,(y,j)::s,h=>by
  have h:=Bool.and_eq_true_iff.mp h
  have h1:=Bool.and_eq_true_iff.mp h.1
  rw [Nat.eq_of_beq_eq_true h1.1,ieq_iff.mp h1.2,Znl h.2]
 | [],_::_,h=>by exact nB h
 | _::_,[],h=>by exact nB h
theorem Lin.eq_eq {a b:Lin} (h:a.eq b=true):a=b:=by
 have h:=Bool.and_eq_true_iff.mp h
 obtain ⟨c,t⟩:=a;obtain ⟨c',t'⟩:=b
 rw [show c=c' from ieq_iff.mp h.1,show t=t' from Znl h.2]
theorem Cnd.eq_eq {a b:Cnd} (h:a.eq b=true):a=b:=by
 cases a<;>cases b<;>first | (cases h;done) | rw [Lin.eq_eq h]
theorem Zar {a:Lin} {c:Int} (x:Nat->Int) (h:a.const? = some c):a.ev x=c:=by
 obtain ⟨d,t⟩:=a
 revert t;show Fa _ _;refine Lis.on_nil zN2 (λh=>?_)
 have h:some d=some c:=h;simp [Lin.ev,tev,Option.some.inj h]
@[simp] theorem ZlP {β:Type} (x:Str):look (β:=β) x []=none:=rfl
theorem Zab {β:Type} (x:Str) (p:Str × β) (r):look x (p::r)=bif seq x p.1 then some p.2 else look x r:=rfl
theorem seq_iff {a b:Str}:seq a b=true ↔ a=b:=PySem.W.Fast.sEq_iff
theorem Zaj {a b:Str} (h:seq a b=false):a ≠ b:=λe=>by rw [seq_iff.mpr e] at h;exact nT h
theorem Zaz {β:Type} (x:Str):∀ l:List (Str × β),look x l=l.lookup x
 | []=>rfl
 | (y,b)::r=>by
  rw [Zab,List.lookup_cons]
  cases h:seq x y with
  | true=>rw [seq_iff.mp h];simp
  | false=>
   have:=Zaj h
   simp only [cond_false,Zaz x r]
   rw [show (x==y)=false from by simpa using this]
@[simp] theorem Zpy {β:Type} (x:Nat):lookN (β:=β) x []=none:=rfl
theorem Zi3 {β:Type} (x:Nat) (p:Nat × β) (r):lookN x (p::r)=bif Nat.beq x p.1 then some p.2 else lookN x r:=rfl
theorem ZkE {β:Type} (x:Str) (b:β):put x b []=[(x,b)]:=rfl
theorem ZbX {β:Type} (x:Str) (b:β) (p r):put x b (p::r)=bif seq x p.1 then (p.1,b)::r else p::put x b r:=rfl
theorem ZaJ {β:Type} (x y:Str) (b:β):∀ l,look y (put x b l)=if y=x then some b else look y l
 | []=>by
  rw [ZkE,Zab]
  by_cases h:y=x
  ·rw [if_pos h,seq_iff.mpr h];rfl
  ·rw [if_neg h];cases q:seq y x with
   | true=>exact absurd (seq_iff.mp q) h
   | false=>rfl
 | p::r=>by
  rw [ZbX]
  have ih:=ZaJ x y b r
  cases h:seq x p.1 with
  | true=>
   have e:=seq_iff.mp h
   dsimp only [cond_true]
   rw [Zab,Zab]
   by_cases q:y=x
   ·rw [if_pos q,show seq y p.1=true from seq_iff.mpr (q.trans e)];rfl
   ·rw [if_neg q,show seq y p.1=false from by cases z:seq y p.1 with
     | true=>exact absurd ((seq_iff.mp z).trans e.symm) q
     | false=>rfl]
    rfl
  | false=>
   dsimp only [cond_false]
   rw [Zab,Zab,ih]
   cases q:seq y p.1 with
   | true=>
    dsimp only [cond_true]
    rw [if_neg]
    intro e
    exact Zaj h (e ▸ seq_iff.mp q)
   | false=>rfl
theorem Zat {α β:Type} (f:α->β) (x:Str):∀ l:List (Str × α),look x (l.map λp=>(p.1,f p.2))=(look x l).map f
 | []=>rfl
 | p::r=>by
  rw [List.map_cons,Zab,Zab,Zat f x r]
  cases seq x p.1<;>rfl
theorem ZeS {α β:Type} (f:α->β) (x:Str) (b:α):∀ l:List (Str × α),(put x b l).map (λp=>(p.1,f p.2))=put x (f b) (l.map λp=>(p.1,f p.2))
 | []=>rfl
 | p::r=>by
  rw [List.map_cons,ZbX,ZbX,←ZeS f x b r]
  cases seq x p.1<;>rfl
theorem Zon {α:Type} (n:Nat):nth (α:=α) [] n=none:=rfl
theorem ZlZ {α:Type} (a:α) (r n):nth (a::r) n=bif Nat.beq n 0 then some a else nth r (n-1):=rfl
theorem ZeK {α:Type}:∀ (l:List α) (n:Nat),nth l n=l[n]?
 | [],n=>by rw [Zon];rfl
 | a::r,0=>rfl
 | a::r,n+1=>by rw [ZlZ];show nth r n=_;rw [ZeK r n];rfl
theorem Zjg {α:Type} (n:Nat) (b:α):Zcm [] n b=[]:=rfl
theorem ZhN {α:Type} (a:α) (r n) (b:α):Zcm (a::r) n b=bif Nat.beq n 0 then b::r else a::Zcm r (n-1) b:=rfl
theorem ZdR {α:Type} (b:α):∀ (l:List α) (n:Nat),Zcm l n b=l.set n b
 | [],n=>by rw [Zjg];rfl
 | a::r,0=>rfl
 | a::r,n+1=>by rw [ZhN];show a::Zcm r n b=_;rw [ZdR b r n];rfl
noncomputable def Res.All (ν:Vn) {α:Type}:Res α->(α->St->Prop)->Prop
 | .stuck _,_=>False
 | .ret a s,P=>P a s
 | .fork c t f,P=>(c.holds ν->t.All ν P)∧(¬c.holds ν->f.All ν P)
 | .both t f,P=>t.All ν P∧f.All ν P
@[simp] theorem Zqb {ν:Vn} {α:Type} {a:α} {s:St} {P:α->St->Prop}:(Res.ret a s).All ν P=P a s:=rfl
@[simp] theorem Zo7 {ν:Vn} {α:Type} {w:String} {P:α->St->Prop}:(Res.stuck w:Res α).All ν P=False:=rfl
theorem all_bind {ν:Vn} {α β:Type} {k:α->St->Res β} {P:β->St->Prop}:∀ {r:Res α},(r.bind k).All ν P ↔ r.All ν λa s=>(k a s).All ν P
 | .stuck _=>Iff.rfl
 | .ret _ _=>Iff.rfl
 | .fork c t f=>by
  show ((c.holds ν->(t.bind k).All ν P)∧(¬c.holds ν->(f.bind k).All ν P)) ↔ _
  rw [all_bind (r:=t),all_bind (r:=f)];rfl
 | .both t f=>by
  show ((t.bind k).All ν P∧(f.bind k).All ν P) ↔ _
  rw [all_bind (r:=t),all_bind (r:=f)];rfl
theorem byP {A:Prop} (h:∀ X:Prop,(A->X)->X):A:=h A id
theorem Zak {ν:Vn} {α:Type} {b:Bool} {X:Res α} {w:String} {P:α->St->Prop} (h:(bif b then X else .stuck w).All ν P):b=true∧X.All ν P:=by
 revert b;show Fa _ _;refine Boo.on_true zF0 (λh=>?_)
 exact i0_2 rfl h
noncomputable def FxOk (ν:Vn) (l:List (Cnd × Bool)):Prop:=∀ p ∈ l,(p.2=true ↔ p.1.holds ν)
theorem Zem {ν:Vn} {c:Cnd} {s:St} {P:Bool->St->Prop} (h:(ask c s).All ν P) (hf:FxOk ν s.facts):
 ∃ b f,(b=true ↔ c.holds ν)∧FxOk ν f∧P b { s with facts:=f }:=by
 have key:∀ r:Res Bool,r=(match s.facts.find? (λp=>p.1.eq c) with
  | some p=>.ret p.2 s
  | none=>.fork c (.ret true { s with facts:=(c,true)::s.facts }) (.ret false { s with facts:=(c,false)::s.facts }))->r.All ν P->∃ b f,(b=true ↔ c.holds ν)∧FxOk ν f∧P b { s with facts:=f }:=by
  intro r e x
  subst e
  generalize q:s.facts.find? (λp=>p.1.eq c)=wo at x
  cases wo with
  | some p=>
   have m:=List.mem_of_find?_eq_some q
   have e:=Cnd.eq_eq (by simpa using List.find?_some (p:=λp:Cnd × Bool=>p.1.eq c) q)
   exact i2_3 (p.2) (s.facts) (by rw [←e];exact hf p m) hf x
  | none=>
   by_cases hc:c.holds ν
   ·exact i2_3 true _ (by simp [hc]) (λp hp=>by
     rcases List.mem_cons.mp hp with rfl | hp
     ·simp [hc]
     ·exact hf p hp) (x.1 hc)
   ·exact i2_3 false _ (by simp [hc]) (λp hp=>by
     rcases List.mem_cons.mp hp with rfl | hp
     ·simp [hc]
     ·exact hf p hp) (x.2 hc)
 unfold ask at h
 cases c with
 | pos l=>
  obtain ⟨c,t⟩:=l
  cases t with
  | nil=>exact i2_3 _ (s.facts) (by rw [ipos_iff];simp [Cnd.holds,Lin.ev,tev]) hf h
  | cons p r=>exact key _ rfl h
 | zer l=>
  obtain ⟨c,t⟩:=l
  cases t with
  | nil=>exact i2_3 _ (s.facts) (by rw [iz_iff];simp [Cnd.holds,Lin.ev,tev]) hf h
  | cons p r=>exact key _ rfl h
end Mine
end
section
namespace Mine
set_option genInjectivity false in
set_option genSizeOf false in
inductive V (ρ:List (Addr × Obj)):SV->Value->Prop
 | none:V ρ .none .none
 | bool (b:Bool):V ρ (.bool b) (.bool b)
 | int (i:Int) (t:Tok):V ρ (.int i) (.int i t)
 | str (s:List Nat) (t:Tok):V ρ (.str s) (.str ⟨s.toArray⟩ t)
 | ref {n:Nat} {a:Addr} {o:Obj}:ρ[n]? = some (a,o)->V ρ (.ref n) (.ref a)
 | glob (v:Value):handedIn v=true->V ρ (.glob v) v
set_option genInjectivity false in
set_option genSizeOf false in
inductive VL (ρ:List (Addr × Obj)):List SV->List Value->Prop
 | nil:VL ρ [] []
 | cons {v:SV} {rv:Value} {vs:List SV} {rvs:List Value}:V ρ v rv->VL ρ vs rvs->VL ρ (v::vs) (rv::rvs)
theorem V.mono {ρ ρ':List (Addr × Obj)} (h:ρ <+: ρ') {v:SV} {rv:Value} (x:V ρ v rv):V ρ' v rv:=by
 cases x with
 | none=>exact .none
 | bool b=>exact .bool b
 | int i t=>exact .int i t
 | str s t=>exact .str s t
 | @ref _ _ o e=>
  refine e1_1 h λl wq=>?_;clear h;subst wq
  refine .ref (o:=o) ?_
  rw [List.getElem?_append_left (List.getElem?_eq_some_iff.mp e).1];exact e
 | glob _ h=>exact .glob _ h
theorem VL.mono {ρ ρ':List (Addr × Obj)} (h:ρ <+: ρ') {vs:List SV} {rvs:List Value} (x:VL ρ vs rvs):VL ρ' vs rvs:=by
 induction x with
 | nil=>exact .nil
 | cons y _ ih=>exact .cons (y.mono h) ih
theorem VL.length {ρ:List (Addr × Obj)} {vs:List SV} {rvs:List Value} (x:VL ρ vs rvs):rvs.length=vs.length:=by
 induction x with
 | nil=>rfl
 | cons _ _ ih=>simp [ih]
theorem VL.append {ρ:List (Addr × Obj)} {vs ws:List SV} {rvs rws:List Value} (x:VL ρ vs rvs) (y:VL ρ ws rws):VL ρ (vs++ws) (rvs++rws):=by
 induction x with
 | nil=>exact y
 | cons a _ ih=>exact .cons a ih
theorem VL.get {ρ:List (Addr × Obj)} {vs:List SV} {rvs:List Value} (x:VL ρ vs rvs) {n:Nat} {v:SV} (h:vs[n]? = some v):∃ rv,rvs[n]? = some rv∧V ρ v rv:=by
 induction x generalizing n with
 | nil=>simp at h
 | cons a _ ih=>
  cases n with
  | zero=>simp at h;subst h;exact i1_2 _ rfl a
  | succ n=>exact ih (by simpa using h)
theorem VL.snoc {ρ:List (Addr × Obj)} {vs:List SV} {rvs:List Value} {v:SV} (x:VL ρ (vs++[v]) rvs):∃ rs rv,rvs=rs++[rv]∧VL ρ vs rs∧V ρ v rv:=by
 induction vs generalizing rvs with
 | nil=>cases x with | cons a b=>cases b;exact i2_3 ([]) _ rfl .nil a
 | cons u us ih=>
  cases x with
  | cons a b=>
   refine e2_3 (ih b) λrs rv wq h1 h2=>?_;subst wq
   exact i2_3 (_::rs) rv rfl (.cons a h1) h2
theorem V.handed {ρ:List (Addr × Obj)} {v:SV} {rv:Value} (x:V ρ v rv):handedIn rv=true:=by
 cases x<;>first | rfl | assumption
set_option genInjectivity false in
set_option genSizeOf false in
inductive AttrE (ρ:List (Addr × Obj)):List (Str × SV)->List DictEntry->Prop
 | nil:AttrE ρ [] []
 | cons {x:Str} {v:SV} {rv:Value} {h:Int} {t:Tok} {r:List (Str × SV)} {es:List DictEntry}:V ρ v rv->AttrE ρ r es->AttrE ρ ((x,v)::r) (⟨h,.str x t,rv⟩::es)
theorem AttrE.mono {ρ ρ':List (Addr × Obj)} (h:ρ <+: ρ') {at_:List (Str × SV)} {es:List DictEntry} (x:AttrE ρ at_ es):AttrE ρ' at_ es:=by
 induction x with
 | nil=>exact .nil
 | cons y _ ih=>exact .cons (y.mono h) ih
theorem ZgJ (x y:Str) (t:Tok):(Value.str x t).isStr y=seq y x:=by
 show (x==y)=_
 cases h:seq y x with
 | true=>rw [seq_iff.mp h];simp
 | false=>have:=Zaj h;simpa using λe=>this e.symm
theorem AttrE.noRef {ρ:List (Addr × Obj)} {at_:List (Str × SV)} {es:List DictEntry} (x:AttrE ρ at_ es):es.any (·.refKey)=false:=by
 induction x with
 | nil=>rfl
 | cons _ _ ih=>rw [List.any_cons,ih];rfl
set_option tactic.hygienic true in
theorem AttrE.find {ρ:List (Addr × Obj)} {at_:List (Str × SV)} {es:List DictEntry} (x:AttrE ρ at_ es) (n:Str):
 match look n at_ with
 | some v=>∃ e,es.find? (·.key.isStr n)=some e∧V ρ v e.val
 | none=>es.find? (·.key.isStr n)=none:=by
 induction x with
 | nil=>rfl
 | cons y _ ih=>
  rw [Zab,List.find?_cons]
  simp only [ZgJ]
  split
  ·rename_i v e
   revert e
   cases h:seq n _ with
   | true=>intro e;exact i1_2 _ rfl (by rw [cond_true] at e;have wq:=Option.some.inj e;clear e;subst wq;exact y)
   | false=>intro e;rw [cond_false] at e;rw [e] at ih;exact ih
  ·rename_i e
   revert e
   cases h:seq n _ with
   | true=>intro e;exact nS e
   | false=>intro e;rw [cond_false] at e;rw [e] at ih;exact ih
theorem AttrE.getL {ρ:List (Addr × Obj)} {at_:List (Str × SV)} {es:List DictEntry} (x:AttrE ρ at_ es) {n:Str} {v:SV} (h:look n at_=some v):∃ rv,PySem.W.getL n es=some (some rv)∧V ρ v rv:=by
 have:=x.find n
 rw [h] at this
 refine e1_2 this λe he hv=>?_;clear this
 exact i1_2 (e.val) (by unfold PySem.W.getL;rw [he]) hv
theorem AttrE.getL_none {ρ:List (Addr × Obj)} {at_:List (Str × SV)} {es:List DictEntry} (x:AttrE ρ at_ es) {n:Str} (h:look n at_=none):PySem.W.getL n es=some none:=by
 have:=x.find n
 rw [h] at this
 unfold PySem.W.getL;rw [this,x.noRef];rfl
theorem AttrE.getL_some {ρ:List (Addr × Obj)} {at_:List (Str × SV)} {es:List DictEntry} (x:AttrE ρ at_ es) (n:Str):(PySem.W.getL n es).isSome=true:=by
 cases h:look n at_ with
 | none=>rw [x.getL_none h];rfl
 | some v=>refine e1_2 (x.getL h) λrv e _=>?_;rw [e];rfl
theorem AttrE.put {ρ:List (Addr × Obj)} {at_:List (Str × SV)} {es:List DictEntry} (x:AttrE ρ at_ es) {n:Str} {v:SV} {rv:Value} {hs:Int} {t:Tok} (y:V ρ v rv):AttrE ρ (put n v at_) (putL n hs (.str n t) rv es):=by
 induction x with
 | nil=>exact .cons y .nil
 | @cons x v' rv' h' t' r es z w ih=>
  rw [ZbX]
  show AttrE ρ _ (if (Value.str x t').isStr n then _ else _)
  rw [ZgJ]
  cases h:seq n x with
  | true=>exact .cons y w
  | false=>exact .cons z ih
theorem AttrE.length {ρ:List (Addr × Obj)} {at_:List (Str × SV)} {es:List DictEntry} (x:AttrE ρ at_ es):es.length=at_.length:=by
 induction x with
 | nil=>rfl
 | cons _ _ ih=>simp [ih]
theorem ZfA {β:Type} (x:Str) (b:β):∀ l:List (Str × β),(put x b l).length≤l.length+1
 | []=>Nat.le_refl _
 | p::r=>by
  rw [ZbX]
  cases seq x p.1 with
  | true=>simp
  | false=>simp only [cond_false,List.length_cons];have:=ZfA x b r;omega
set_option genInjectivity false in
set_option genSizeOf false in
structure Gl where
 K:Frag
 p:Program
 loose:List Str
 mg:Str->Option Value
 mb:Str->Option Value
 prog:Program
 w:World
noncomputable abbrev Gl.M (G:Gl):Model:=model G.prog G.w
set_option genInjectivity false in
set_option genSizeOf false in
structure Bs where
 A:Around
 h₀:Heap
 L:Addr
 qu:Str
 sc:Scope
 fn:Option Addr
 fr:Option Addr
 cd:Value
 cl:List (Str × Addr)
 cs:List (Addr × Obj)
 gens:Array GenState
 drawn:Drawn
 os:OsState
noncomputable abbrev Bs.env (B:Bs):Env:={ scope:=B.sc,locals:=B.L,globals:=mainGlobals,cells:=B.cl,qual:=B.qu,func:=B.fn,code:=B.cd,frame:=B.fr,builtins:=builtinsNs }
set_option genInjectivity false in
set_option genSizeOf false in
structure Ok (G:Gl) (B:Bs) (d:Nat):Prop where
 kin:G.K.In B.h₀
 top:TopRead G.p G.loose G.mg G.mb B.h₀
 kind:B.sc.kind = .function
 hand:B.A.handled=none
 dep:B.A.depth+3 * d+3<recursionLimit
 uni:B.A.units+20 * d+100<cLine
set_option genInjectivity false in
set_option genSizeOf false in
structure AttrOk (K:Frag) (C:Addr) (x:Str):Prop where
 get:plainGet K C x=true
 dict:hasDictIn K C=true
 attr:∃ a,findIn K (.ref C) x=some a∧noGet K a=true
 seta:findIn K (.ref C) (Str.ofString "__setattr__")=some (some (.builtin "object.__setattr__"))
 over:plainOver K C=true
 taker:takerIn K C x=some none
set_option genInjectivity false in
set_option genSizeOf false in
inductive KVR (ρ:List (Addr × Obj)) {α β:Type} (f:α->β):List (α × SV)->List (β × Value)->Prop
 | nil:KVR ρ f [] []
 | cons {k:α} {v:SV} {rv:Value} {r:List (α × SV)} {rs:List (β × Value)}:V ρ v rv->KVR ρ f r rs->KVR ρ f ((k,v)::r) ((f k,rv)::rs)
theorem KVR.mono {ρ ρ':List (Addr × Obj)} (h:ρ <+: ρ') {α β:Type} {f:α->β} {l:List (α × SV)} {r:List (β × Value)} (x:KVR ρ f l r):KVR ρ' f l r:=by
 induction x with
 | nil=>exact .nil
 | cons y _ ih=>exact .cons (y.mono h) ih
theorem KVR.length {ρ:List (Addr × Obj)} {α β:Type} {f:α->β} {l:List (α × SV)} {r:List (β × Value)} (x:KVR ρ f l r):r.length=l.length:=by
 induction x with
 | nil=>rfl
 | cons _ _ ih=>simp [ih]
noncomputable def Zaa (l:List Nat):Str:=⟨l.toArray⟩
set_option genInjectivity false in
set_option genSizeOf false in
inductive OR (G:Gl) (ρ:List (Addr × Obj)):SO->Addr × Obj->List (Addr × Obj)->Prop
 | inst {C a d:Addr} {ob:Obj} {n:Nat} {at_:List (Str × SV)} {es:List DictEntry}:AttrE ρ at_ es->(∀ p ∈ at_,AttrOk G.K C p.1)->at_.length≤900->OR G ρ (.inst C at_) (a,ob) [(a,instObj C d),(d,dictOf es n)]
 | list {a:Addr} {ob:Obj} {n:Nat} {xs:List SV} {vs:List Value}:VL ρ xs vs->xs.length≤2 ^ 20->OR G ρ (.list xs) (a,ob) [(a,PySem.W.listOf vs.toArray n)]
 | tuple {a:Addr} {n:Nat} {xs:List SV} {vs:List Value}:VL ρ xs vs->xs.length≤2 ^ 20->OR G ρ (.tuple xs) (a,{ cls:=.type "tuple",data:=.seq vs.toArray n }) [(a,{ cls:=.type "tuple",data:=.seq vs.toArray n })]
 | dictI {a:Addr} {ob o:Obj} {kvs:List (Int × SV)} {rkvs:List (Int × Value)}:KVR ρ id kvs rkvs->o.IsDictOf (intKind G.prog G.w) rkvs->(a==sysModules)=false->kvs.length≤2 ^ 12->OR G ρ (.dictI kvs) (a,ob) [(a,o)]
 | dictS {a:Addr} {ob o:Obj} {kvs:List (List Nat × SV)} {rkvs:List (Str × Value)}:KVR ρ Zaa kvs rkvs->o.IsDictOf (PySem.strKind G.prog G.w) rkvs->(a==sysModules)=false->OR G ρ (.dictS kvs) (a,ob) [(a,o)]
 | range {a:Addr} {x y:Int} {t u v:Tok}:OR G ρ (.range x y) (a,{ cls:=.type "range",data:=.fields #[.int x t,.int y u,.int 1 v] }) [(a,{ cls:=.type "range",data:=.fields #[.int x t,.int y u,.int 1 v] })]
 | deck {a b:Addr} {ob:Obj} {n k l:Nat} {i j:Int} {t u:Tok} {vs:List Value} {ns:List Int}:IntsAre vs ns->vs.length≤64->0≤j->j≤n->0≤i->OR G ρ (.deck n) (a,ob) [(a,PySem.W.listOf #[.ref b,.int i t,.int j u] k),(b,PySem.W.listOf vs.toArray l)]
theorem VL.nil_inv {ρ:List (Addr × Obj)} {us:List Value} (h:VL ρ [] us):us=[]:=by cases h;rfl
theorem VL.cons_inv {ρ:List (Addr × Obj)} {v:SV} {vs:List SV} {us:List Value} (h:VL ρ (v::vs) us):∃ u r,us=u::r∧V ρ v u∧VL ρ vs r:=by
 cases h with
 | cons a b=>exact ⟨_,_,rfl,a,b⟩
theorem V.glob_inv {ρ:List (Addr × Obj)} {v u:Value} (h:V ρ (.glob v) u):u=v∧handedIn v=true:=by
 cases h with
 | glob _ h=>exact ⟨rfl,h⟩
theorem OR.list_inv {G:Gl} {ρ:List (Addr × Obj)} {xs:List SV} {a:Addr} {ob:Obj} {es:List (Addr × Obj)} (h:OR G ρ (.list xs) (a,ob) es):∃ n vs,es=[(a,PySem.W.listOf vs.toArray n)]∧VL ρ xs vs∧xs.length≤2 ^ 20:=by
 cases h with
 | list a b=>exact ⟨_,_,rfl,a,b⟩
theorem OR.tuple_inv {G:Gl} {ρ:List (Addr × Obj)} {xs:List SV} {a:Addr} {ob:Obj} {es:List (Addr × Obj)} (h:OR G ρ (.tuple xs) (a,ob) es):∃ n vs,ob = { cls:=.type "tuple",data:=.seq vs.toArray n }∧es=[(a,{ cls:=.type "tuple",data:=.seq vs.toArray n })]∧VL ρ xs vs∧xs.length≤2 ^ 20:=by
 cases h with
 | tuple a b=>exact ⟨_,_,rfl,rfl,a,b⟩
theorem OR.inst_inv {G:Gl} {ρ:List (Addr × Obj)} {C:Addr} {at_:List (Str × SV)} {a:Addr} {ob:Obj} {es:List (Addr × Obj)} (h:OR G ρ (.inst C at_) (a,ob) es):∃ d n l,es=[(a,instObj C d),(d,dictOf l n)]∧AttrE ρ at_ l∧(∀ p ∈ at_,AttrOk G.K C p.1)∧at_.length≤900:=by
 cases h with
 | inst a b c=>exact ⟨_,_,_,rfl,a,b,c⟩
theorem OR.dictI_inv {G:Gl} {ρ:List (Addr × Obj)} {kvs:List (Int × SV)} {a:Addr} {ob:Obj} {es:List (Addr × Obj)} (h:OR G ρ (.dictI kvs) (a,ob) es):∃ o rkvs,es=[(a,o)]∧KVR ρ id kvs rkvs∧o.IsDictOf (intKind G.prog G.w) rkvs∧(a==sysModules)=false∧kvs.length≤2 ^ 12:=by
 cases h with
 | dictI a b c d=>exact ⟨_,_,rfl,a,b,c,d⟩
theorem OR.dictS_inv {G:Gl} {ρ:List (Addr × Obj)} {kvs:List (List Nat × SV)} {a:Addr} {ob:Obj} {es:List (Addr × Obj)} (h:OR G ρ (.dictS kvs) (a,ob) es):∃ o rkvs,es=[(a,o)]∧KVR ρ Zaa kvs rkvs∧o.IsDictOf (PySem.strKind G.prog G.w) rkvs∧(a==sysModules)=false:=by
 cases h with
 | dictS a b c=>exact ⟨_,_,rfl,a,b,c⟩
theorem OR.range_inv {G:Gl} {ρ:List (Addr × Obj)} {x y:Int} {a:Addr} {ob:Obj} {es:List (Addr × Obj)} (h:OR G ρ (.range x y) (a,ob) es):∃ t u v,ob = { cls:=.type "range",data:=.fields #[.int x t,.int y u,.int 1 v] }∧es=[(a,{ cls:=.type "range",data:=.fields #[.int x t,.int y u,.int 1 v] })]:=by
 cases h with
 | range=>exact ⟨_,_,_,rfl,rfl⟩
theorem OR.deck_inv {G:Gl} {ρ:List (Addr × Obj)} {n:Nat} {a:Addr} {ob:Obj} {es:List (Addr × Obj)} (h:OR G ρ (.deck n) (a,ob) es):∃ b k l i j t u vs ns,es=[(a,PySem.W.listOf #[.ref b,.int i t,.int j u] k),(b,PySem.W.listOf vs.toArray l)]∧IntsAre vs ns∧vs.length≤64∧0≤j∧j≤n∧0≤i:=by
 cases h with
 | deck a b c d e=>exact ⟨_,_,_,_,_,_,_,_,_,rfl,a,b,c,d,e⟩
theorem OR.mono {G:Gl} {ρ ρ':List (Addr × Obj)} (h:ρ <+: ρ') {o:SO} {a:Addr × Obj} {es:List (Addr × Obj)} (x:OR G ρ o a es):OR G ρ' o a es:=by
 cases x with
 | inst y z w=>exact .inst (y.mono h) z w
 | list y z=>exact .list (y.mono h) z
 | tuple y z=>exact .tuple (y.mono h) z
 | dictI y z w l=>exact .dictI (y.mono h) z w l
 | dictS y z w=>exact .dictS (y.mono h) z w
 | range=>exact .range
 | deck a b c d e=>exact .deck a b c d e
set_option genInjectivity false in
set_option genSizeOf false in
structure Rl (G:Gl) (cs:List (Addr × Obj)) (ρ:List (Addr × Obj)) (σ:List SO) (led:List (List (Addr × Obj))):Prop where
 l1:ρ.length=σ.length
 l2:led.length=σ.length
 obj:∀ (n:Nat) (o:SO),σ[n]? = some o->∃ a es,ρ[n]? = some a∧led[n]? = some es∧OR G ρ o a es
 nd:((cs++led.flatten).map (·.1)).Nodup
set_option genInjectivity false in
set_option genSizeOf false in
structure Loc (B:Bs) (ρ:List (Addr × Obj)) (m:Str->Option Value) (ls:List (Str × SV)):Prop where
 at_:∀ x v,look x ls=some v->∃ rv,V ρ v rv∧((B.sc.names.lookup x=some .local∧m x=some rv)∨(B.sc.names.lookup x=some .cell∧∃ c o,B.cl.lookup x=some c∧(c,o) ∈ B.cs∧o.data = .cell (some rv)))
 dbg:look (Str.ofString "__debug__") ls=none
set_option genInjectivity false in
set_option genSizeOf false in
inductive HsEx (G:Gl) (B:Bs) (ρ:List (Addr × Obj)) (σ:List SO) (ls:List (Str × SV)) (hp:Heap):Prop
 | mk (m:Str->Option Value) (led:List (List (Addr × Obj))):Fr B.h₀ B.L hp m->News B.h₀ B.L hp (B.cs++led.flatten)->Rl G B.cs ρ σ led->Loc B ρ m ls->HsEx G B ρ σ ls hp
set_option genInjectivity false in
set_option genSizeOf false in
structure Hs (G:Gl) (B:Bs) (ρ:List (Addr × Obj)) (σ:List SO) (ls:List (Str × SV)) (rs:Shared):Prop where
 ex:HsEx G B ρ σ ls rs.heap
 gens:rs.gens=B.gens
 drawn:rs.drawn=B.drawn
 os:rs.os=B.os
theorem Loc.mono {B:Bs} {ρ ρ':List (Addr × Obj)} {m:Str->Option Value} {ls:List (Str × SV)} (x:Loc B ρ m ls) (h:ρ <+: ρ'):Loc B ρ' m ls:=
 ⟨λy v e=>by refine e1_2 (x.at_ y v e) λrv a b=>?_;exact ⟨rv,a.mono h,b⟩,x.dbg⟩
theorem Hs.toks {G:Gl} {B:Bs} {ρ:List (Addr × Obj)} {σ:List SO} {ls:List (Str × SV)} {rs:Shared} (x:Hs G B ρ σ ls rs) (t:Nat):Hs G B ρ σ ls { heap:=rs.heap,gens:=rs.gens,drawn:=rs.drawn,toks:=t,os:=rs.os }:=
 ⟨x.ex,x.gens,x.drawn,x.os⟩
theorem Rl.mem {G:Gl} {cs:List (Addr × Obj)} {ρ:List (Addr × Obj)} {σ:List SO} {led:List (List (Addr × Obj))} (_R:Rl G cs ρ σ led) {n:Nat} {es:List (Addr × Obj)} (h:led[n]? = some es) {q:Addr × Obj} (m:q ∈ es):q ∈ cs++led.flatten:=
 List.mem_append_right _ (List.mem_flatten.mpr ⟨es,List.mem_of_getElem? h,m⟩)
theorem Hs.inst {G:Gl} {B:Bs} {ρ:List (Addr × Obj)} {σ:List SO} {ls:List (Str × SV)} {rs:Shared} (x:Hs G B ρ σ ls rs) {n:Nat} {C:Addr} {at_:List (Str × SV)} {a:Addr} {ao:Obj} (h:σ[n]? = some (.inst C at_)) (ha:ρ[n]? = some (a,ao)):
 ∃ d es k,W.InstAt rs.heap a (instObj C d) C (some (dictOf es k))∧AttrE ρ at_ es∧(∀ p ∈ at_,AttrOk G.K C p.1)∧at_.length≤900:=by
 refine byP λXX kX=>?_
 obtain ⟨m,led,F,N,R,Lc⟩:=x.ex
 refine e2_3 (R.obj n _ h) λa' es e1 e2 o=>?_
 rw [ha] at e1
 have wq:=Option.some.inj e1;clear e1;subst wq
 refine e3_4 (o.inst_inv) λ_ _ _ wq y z w=>?_;clear o;subst wq
 refine kX ?_
 exact i3_4 _ _ _ (⟨(N _ (R.mem e2 (.head _))).1,rfl,rfl,(N _ (R.mem e2 (.tail _ (.head _)))).1⟩) y z w
variable {G:Gl} {B:Bs} {ρ:List (Addr × Obj)} {σ:List SO} {ls:List (Str × SV)} {rs:Shared} {E:Value->Shared->Prop} {d:Nat}
theorem Zdk {β:Type} {x:Str} {u:β}:∀ {l:List (Str × β)},look x l=some u->∃ p ∈ l,p.1=x
 | [],h=>by exact nN h
 | p::r,h=>by
  rw [Zab] at h
  cases q:seq x p.1 with
  | true=>exact i1_2 p (.head _) ((seq_iff.mp q).symm)
  | false=>rw [q,cond_false] at h;refine e1_2 (Zdk h) λp' hp e=>?_;exact i1_2 p' (.tail _ hp) e
theorem Hs.getAttr (O:Ok G B d) (x:Hs G B ρ σ ls rs) {n:Nat} {C:Addr} {at_:List (Str × SV)} {a:Addr} {ao:Obj} (h:σ[n]? = some (.inst C at_)) (ha:ρ[n]? = some (a,ao)) {y:Str} {v:SV} (hv:look y at_=some v) {b:Bool}:
 wpAny G.M B.A (PySem.getAttr (.ref a) y b) (λrv rs'=>V ρ v rv∧Hs G B ρ σ ls rs') E rs:=by
 refine byP λXX kX=>?_
 refine e3_4 (x.inst h ha) λdd es k I hA hO _=>?_
 refine e1_2 (hA.getL hv) λrv e hv'=>?_
 obtain ⟨m,led,F,N,R,Lc⟩:=x.ex
 have hm:∃ p ∈ at_,p.1=y:=Zdk hv
 refine e1_2 hm λp hp wq=>?_;clear hm;subst wq
 have q:=hO p hp
 refine e1_2 (q.attr) λat' f1 f2=>?_
 refine kX ?_
 exact get_own F O.kin I q.get q.dict f1 f2 e hv'.handed ⟨hv',x.toks _⟩
end Mine
end
section
namespace Mine
theorem ZeF {led:List (List (Addr × Obj))} {n:Nat} {es:List (Addr × Obj)} (h:led[n]? = some es):∃ l1 l2,led=l1++es::l2∧∀ e',led.set n e'=l1++e'::l2:=by
 induction led generalizing n with
 | nil=>simp at h
 | cons a r ih=>
  cases n with
  | zero=>simp at h;subst h;exact i2_2 ([]) r rfl (λ_=>rfl)
  | succ n=>
   refine e2_2 (ih (by simpa using h)) λl1 l2 e1 e2=>?_
   exact i2_2 (a::l1) l2 (by rw [e1];rfl) (λe'=>by rw [List.set_cons_succ,e2];rfl)
theorem ZbP {d:Addr} {o o':Obj}:∀ {pre post:List (Addr × Obj)},(∀ p ∈ pre,p.1 ≠ d)->(∀ p ∈ post,p.1 ≠ d)->Upd d o o' (pre++(d,o)::post) (pre++(d,o')::post)
 | [],_,_,h=>.head h
 | _::_,_,h1,h2=>.tail (h1 _ (.head _)) (ZbP (λp hp=>h1 p (.tail _ hp)) h2)
theorem Zg1 {pre post:List (Addr × Obj)} {d:Addr} {o:Obj} (h:((pre++(d,o)::post).map (·.1)).Nodup):(∀ p ∈ pre,p.1 ≠ d)∧∀ p ∈ post,p.1 ≠ d:=by
 rw [List.map_append,List.map_cons,List.nodup_append] at h
 refine e0_3 h λ_ h2 h3=>?_;clear h
 rw [List.nodup_cons] at h2
 refine i0_2 (λp hp e=>h3 _ (List.mem_map_of_mem hp) d (.head _) e) (λp hp e=>h2.1 (List.mem_map.mpr ⟨p,hp,e⟩))
section
variable {G:Gl} {cs:List (Addr × Obj)} {ρ:List (Addr × Obj)} {σ:List SO} {led:List (List (Addr × Obj))}
theorem Rl.upd (R:Rl G cs ρ σ led) {n:Nat} {o':SO} {a:Addr × Obj} {es es':List (Addr × Obj)} (ha:ρ[n]? = some a) (he:led[n]? = some es) (h:OR G ρ o' a es') (hm:es'.map (·.1)=es.map (·.1)):Rl G cs ρ (σ.set n o') (led.set n es'):=by
 have hn:n<led.length:=(List.getElem?_eq_some_iff.mp he).1
 refine ⟨by rw [List.length_set];exact R.l1,by rw [List.length_set,List.length_set];exact R.l2,λk u hu=>?_,?_⟩
 ·rw [List.getElem?_set] at hu
  by_cases e:n=k
  ·subst e
   rw [if_pos rfl,if_pos (by rw [←R.l2];exact hn)] at hu
   have wq:=Option.some.inj hu;clear hu;subst wq
   exact i2_3 a es' ha (by rw [List.getElem?_set_self hn]) h
  ·rw [if_neg e] at hu
   refine e2_3 (R.obj k u hu) λb fs h1 h2 h3=>?_
   exact i2_3 b fs h1 (by rw [List.getElem?_set_ne e];exact h2) h3
 ·refine e2_2 (ZeF he) λl1 l2 e1 e2=>?_
  rw [e2]
  have:=R.nd
  rw [e1] at this
  simp only [List.map_append,List.flatten_append,List.flatten_cons,hm] at this ⊢
  exact this
theorem Rl.push (R:Rl G cs ρ σ led) {o:SO} {a:Addr × Obj} {es:List (Addr × Obj)} (h:OR G (ρ++[a]) o a es) (hd:(es.map (·.1)).Nodup) (hn:∀ p ∈ es,∀ q ∈ cs++led.flatten,q.1 ≠ p.1):Rl G cs (ρ++[a]) (σ++[o]) (led++[es]):=by
 refine ⟨by simp [R.l1],by simp [R.l2],λk u hu=>?_,?_⟩
 ·rw [List.getElem?_append] at hu
  by_cases e:k<σ.length
  ·rw [if_pos e] at hu
   refine e2_3 (R.obj k u hu) λb fs h1 h2 h3=>?_
   exact i2_3 b fs (by rw [List.getElem?_append_left (by rw [R.l1];exact e)];exact h1) (by rw [List.getElem?_append_left (by rw [R.l2];exact e)];exact h2) (h3.mono (List.prefix_append _ _))
  ·rw [if_neg e] at hu
   have e2:k-σ.length=0:=by
    have:=(List.getElem?_eq_some_iff.mp hu).1
    simp at this;omega
   rw [e2] at hu
   have wq:=Option.some.inj hu;clear hu;subst wq
   have ek:k=σ.length:=by omega
   subst ek
   exact i2_3 a es (by rw [←R.l1];simp) (by rw [←R.l2];simp) h
 ·rw [List.flatten_append,←List.append_assoc,List.map_append,List.nodup_append]
  refine i0_3 (R.nd) (by simpa using hd) ?_
  intro x hx y hy e
  refine e1_2 (List.mem_map.mp hx) λq hq wq=>?_;subst wq
  refine e1_2 (List.mem_map.mp hy) λp hp wq=>?_;subst wq
  exact hn p (by simpa using hp) q hq e
end
variable {G:Gl} {B:Bs} {ρ:List (Addr × Obj)} {σ:List SO} {ls:List (Str × SV)} {rs:Shared} {E:Value->Shared->Prop} {d:Nat}
theorem Hs.setAttr0 (O:Ok G B d) (x:Hs G B ρ σ ls rs) {n:Nat} {C:Addr} {at_:List (Str × SV)} {a:Addr} {ao:Obj} (h:σ[n]? = some (.inst C at_)) (ha:ρ[n]? = some (a,ao)) {y:Str} {v:SV} {rv:Value} (hv:V ρ v rv)
 (ho:AttrOk G.K C y) (hl:at_.length≤900->(put y v at_).length≤900):
 wpAny G.M B.A (PySem.setAttr (.ref a) y rv) (λ_ rs'=>Hs G B ρ (σ.set n (.inst C (put y v at_))) ls rs') E rs:=by
 obtain ⟨m,led,F,N,R,Lc⟩:=x.ex
 refine e2_3 (R.obj n _ h) λa' es e1 e2 o=>?_
 rw [ha] at e1
 have wq:=Option.some.inj e1;clear e1;subst wq
 refine e3_4 (o.inst_inv) λdd k es wq yA z zl=>?_;clear o;subst wq
 refine e2_2 (ZeF e2) λl1 l2 f1 f2=>?_
 have I:W.InstAt rs.heap a (instObj C dd) C (some (dictOf es k)):=⟨(N _ (R.mem e2 (.head _))).1,rfl,rfl,(N _ (R.mem e2 (.tail _ (.head _)))).1⟩
 have hnd:=R.nd
 rw [f1] at hnd N
 have hs:B.cs++(l1++[(a,instObj C dd),(dd,dictOf es k)]::l2).flatten=(B.cs++(l1.flatten++[(a,instObj C dd)]))++(dd,dictOf es k)::l2.flatten:=by simp
 rw [hs] at hnd N
 refine e0_2 (Zg1 hnd) λn1 n2=>?_
 have hA:=yA.put (n:=y) (hs:=PyData.keyHash G.w.params y) (t:=rs.toks+1) hv
 refine set_dict F O.kin N I rfl ho.seta ho.over ho.taker ho.dict (yA.getL_some y) rfl (ZbP n1 n2) ?_ (λh' F' N'=>?_)
 ·rw [hA.length];exact Nat.le_trans (hl zl) (by decide)
 ·refine ⟨⟨m,led.set n [(a,instObj C dd),(dd,dictOf (putL y (PyData.keyHash G.w.params y) (.str y (rs.toks+1)) rv es) (putN y es k))],F',?_,?_,Lc⟩,x.gens,x.drawn,x.os⟩
  ·rw [f2]
   intro p hp
   exact N' p (by simpa using hp)
  ·refine R.upd ha e2 (.inst hA (λp hp=>?_) (hl zl)) rfl
   have:p.1=y∨∃ q ∈ at_,q.1=p.1:=by
    clear hA hl h z zl yA I N hnd hs n1 n2
    induction at_ with
    | nil=>rw [ZkE] at hp;simp at hp;exact .inl (by rw [hp])
    | cons q r ih=>
     rw [ZbX] at hp
     generalize hq:seq y q.1=wo at hp
     cases wo with
     | true=>
      rw [cond_true] at hp
      rcases List.mem_cons.mp hp with rfl | hp
      ·exact .inr ⟨q,.head _,rfl⟩
      ·exact .inr ⟨p,.tail _ hp,rfl⟩
     | false=>
      rw [cond_false] at hp
      rcases List.mem_cons.mp hp with rfl | hp
      ·exact .inr ⟨p,.head _,rfl⟩
      ·rcases ih hp with e | ⟨q',hq',e⟩
       ·exact .inl e
       ·exact .inr ⟨q',.tail _ hq',e⟩
   rcases this with e | ⟨q,hq,e⟩
   ·rw [e];exact ho
   ·rw [←e];exact z q hq
theorem Hs.setAttr (O:Ok G B d) (x:Hs G B ρ σ ls rs) {n:Nat} {C:Addr} {at_:List (Str × SV)} {a:Addr} {ao:Obj} (h:σ[n]? = some (.inst C at_)) (ha:ρ[n]? = some (a,ao)) {y:Str} {v:SV} {rv:Value} (hv:V ρ v rv)
 (ho:AttrOk G.K C y) (hl:at_.length<900):
 wpAny G.M B.A (PySem.setAttr (.ref a) y rv) (λ_ rs'=>Hs G B ρ (σ.set n (.inst C (put y v at_))) ls rs') E rs:=x.setAttr0 O h ha hv ho λ_=>by have:=ZfA y v at_;omega
theorem ZcL {β:Type} {x:Str} {b u:β}:∀ {l:List (Str × β)},look x l=some u->(put x b l).length=l.length
 | [],h=>by exact nN h
 | p::r,h=>by
  rw [Zab] at h
  rw [ZbX]
  cases q:seq x p.1 with
  | true=>simp
  | false=>rw [q,cond_false] at h;simp only [cond_false,List.length_cons,ZcL h]
theorem Hs.setAttrOld (O:Ok G B d) (x:Hs G B ρ σ ls rs) {n:Nat} {C:Addr} {at_:List (Str × SV)} {a:Addr} {ao:Obj} (h:σ[n]? = some (.inst C at_)) (ha:ρ[n]? = some (a,ao)) {y:Str} {v u:SV} {rv:Value} (hv:V ρ v rv)
 (hu:look y at_=some u):
 wpAny G.M B.A (PySem.setAttr (.ref a) y rv) (λ_ rs'=>Hs G B ρ (σ.set n (.inst C (put y v at_))) ls rs') E rs:=by
 refine byP λXX kX=>?_
 refine e3_4 (x.inst h ha) λ_ _ _ _ _ hO _=>?_
 refine e1_2 (Zdk hu) λp hp wq=>?_;subst wq
 refine kX ?_
 exact x.setAttr0 O h ha hv (hO p hp) λq=>by rw [ZcL hu];exact q
theorem ZaB {cs:List (Addr × Obj)} {led:List (List (Addr × Obj))} {es:List (Addr × Obj)} {p:Addr × Obj} (h:p ∈ cs++(led++[es]).flatten):p ∈ es++(cs++led.flatten):=by
 rw [List.flatten_append] at h
 simp only [List.mem_append,List.flatten_cons,List.flatten_nil,List.append_nil] at h ⊢
 rcases h with h | h | h
 ·exact .inr (.inl h)
 ·exact .inr (.inr h)
 ·exact .inl h
theorem News.lt {h₀ h:Heap} {L:Addr} {news:List (Addr × Obj)} (N:News h₀ L h news):∀ q ∈ news,q.1 ≠ h.objs.size:=λq hq=>Nat.ne_of_lt (Heap.lt_size (N q hq).1)
theorem Hs.newTuple (x:Hs G B ρ σ ls rs) {vs:List SV} {rvs:List Value} (hv:VL ρ vs rvs) (hl:vs.length≤2 ^ 20):
 wpAny G.M B.A (PySem.newTuple rvs) (λrv rs'=>∃ ρ',ρ <+: ρ'∧V ρ' (.ref σ.length) rv∧Hs G B ρ' (σ++[.tuple vs]) ls rs') E rs:=by
 obtain ⟨m,led,F,N,R,Lc⟩:=x.ex
 have hlen:=hv.length
 refine newTuple_N F N (λh' F' N'=>?_) (by rw [hlen,sizeLine_eq];omega)
 have hp:ρ <+: ρ++[(rs.heap.objs.size,{ cls:=.type "tuple",data:=.seq rvs.toArray })]:=List.prefix_append _ _
 refine i1_3 _ hp (.ref (by rw [←R.l1];simp;rfl)) (⟨⟨m,led++[[(rs.heap.objs.size,{ cls:=.type "tuple",data:=.seq rvs.toArray })]],F',?_,R.push (.tuple (hv.mono hp) (by omega)) (by simp) ?_,Lc.mono hp⟩,x.gens,x.drawn,x.os⟩)
 ·exact λp hp'=>N' p (ZaB hp')
 ·intro p hp' q hq
  simp only [List.mem_cons,List.not_mem_nil,or_false] at hp'
  subst hp'
  exact News.lt N q hq
theorem Hs.newList (x:Hs G B ρ σ ls rs) {vs:List SV} {rvs:List Value} (hv:VL ρ vs rvs) (hl:vs.length≤2 ^ 20):
 wpAny G.M B.A (PySem.newList rvs) (λrv rs'=>∃ ρ',ρ <+: ρ'∧V ρ' (.ref σ.length) rv∧Hs G B ρ' (σ++[.list vs]) ls rs') E rs:=by
 obtain ⟨m,led,F,N,R,Lc⟩:=x.ex
 have hlen:=hv.length
 refine newList_N F N (λh' F' N'=>?_) (by rw [hlen,sizeLine_eq];omega)
 have hp:ρ <+: ρ++[(rs.heap.objs.size,default)]:=List.prefix_append _ _
 refine i1_3 _ hp (.ref (by rw [←R.l1];simp;rfl)) (⟨⟨m,led++[[(rs.heap.objs.size,{ cls:=.type "list",data:=.seq rvs.toArray })]],F',?_,R.push (.list (hv.mono hp) (by omega)) (by simp) ?_,Lc.mono hp⟩,x.gens,x.drawn,x.os⟩)
 ·exact λp hp'=>N' p (ZaB hp')
 ·intro p hp' q hq
  simp only [List.mem_cons,List.not_mem_nil,or_false] at hp'
  subst hp'
  exact News.lt N q hq
end Mine
end
section
namespace Mine
structure FnOk (K:Frag) (a:Addr) (f:Fn):Prop where
 ex:∃ name qual params dV kV doc pm an cdv ct oc od osl,List.lookup a K=some ⟨oc,od,.func (PySem.W.fnOf name qual params f.body f.sc dV kV doc pm an cdv ct),osl⟩∧codeIn K cdv qual=true∧
  ∀ k ∈ f.ar,∃ ds,(∀ ν:Vn,VL [] ((f.dflts.drop (k+f.dflts.length-f.params.length)).map (MV.sem ν)) ds)∧k+ds.length=f.params.length∧
   ∀ (s:Shared) rvs,K.In s.heap->rvs.length=k->BindsTo s (PySem.W.fnOf name qual params f.body f.sc dV kV doc pm an cdv ct) ⟨rvs,[]⟩ (f.params.zip (rvs++ds))
 co:f.sc.isCoroutine=false
 gen:f.sc.isGenerator=false
 kind:f.sc.kind = .function
 cell:∀ x ∈ f.sc.names,x.2 ≠ .cell
 loc:∀ x ∈ f.params,f.sc.names.lookup x=some .local
 nd:f.params.Nodup
 dbg:∀ x ∈ f.params,x ≠ Str.ofString "__debug__"
 keep:keepIn K (.ref a)=true
noncomputable def Zh6 (B:Bs) (rs:Shared) (led:List (Addr × Obj)) (qual:Str) (sc:Scope) (a:Addr) (cd:Value) (cl:List (Str × Addr)) (cs:List (Addr × Obj)):Bs:=
 { A:=B.A.deeper (envX qual sc rs.heap.objs.size a cd cl),h₀:=hideAll rs.heap (led.map (·.1)),L:=rs.heap.objs.size,qu:=qual++".<locals>.",sc:=sc,fn:=some a,fr:=some rs.heap.objs.size,cd:=cd,cl:=cl,cs:=cs,gens:=B.gens,drawn:=B.drawn,os:=B.os }
theorem Zcx {h₀ h:Heap} {L:Addr} {m:Str->Option Value} {news:List (Addr × Obj)} (F:Fr h₀ L h m) (N:News h₀ L h news):∀ b o,h₀.get? b=some o->(hideAll h (news.map (·.1))).get? b=some o:=λb o e=>hideAll_get _ (F.keep b o e) λq=>by
 refine e1_2 (List.mem_map.mp q) λp hp wq=>?_;subst wq
 rw [(N p hp).2.2] at e;exact nN e
theorem Zgt {G:Gl} {B:Bs} {d:Nat} (O:Ok G B (d+1)) {rs:Shared} {led:List (Addr × Obj)} {m:Str->Option Value} (F:Fr B.h₀ B.L rs.heap m) (N:News B.h₀ B.L rs.heap led) {qual:Str} {sc:Scope} {a:Addr} {cd:Value} {cl:List (Str × Addr)} {cs:List (Addr × Obj)} (hk:sc.kind = .function):Ok G (Zh6 B rs led qual sc a cd cl cs) d:=by
 have st:=Zcx F N
 refine ⟨O.kin.keeps st,O.top.keeps st,hk,O.hand,?_,?_⟩
 ·have:=O.dep;show B.A.depth+1+3 * d+3<recursionLimit;omega
 ·have:=O.uni;show B.A.units+3+20 * d+100<cLine;omega
inductive FlR (ρ:List (Addr × Obj)):Flow->Option SV->Prop
 | ret {rv:Value} {v:SV}:V ρ v rv->FlR ρ (.ret rv) (some v)
 | next:FlR ρ .next none
theorem ZiI {ρ:List (Addr × Obj)}:∀ {ps:List Str} {vs:List SV} {rvs:List Value},VL ρ vs rvs->ps.Nodup->∀ x v,look x (ps.zip vs)=some v->∃ rv,V ρ v rv∧(ps.zip rvs).reverse.lookup x=some rv
 | [],_,_,_,_,x,v,h=>by simp at h
 | p::ps,_,_,.nil,_,x,v,h=>by simp at h
 | p::ps,_,_,.cons (v:=w) (rv:=rw') a b,nd,x,v,h=>by
  rw [List.zip_cons_cons,Zab] at h
  rw [List.zip_cons_cons,List.reverse_cons]
  rw [List.nodup_cons] at nd
  generalize q:seq x p=wo at h
  cases wo with
  | true=>
   rw [cond_true] at h
   have wq:=Option.some.inj h;clear h;subst wq
   have e:=seq_iff.mp q
   subst e
   refine i1_2 _ a ?_
   rw [List.lookup_append]
   rename_i us rus
   have:(ps.zip rus).reverse.lookup x=(none:Option Value):=by
    rw [List.lookup_eq_none_iff]
    intro p hp
    have:=List.of_mem_zip (List.mem_reverse.mp hp)
    have ne:x ≠ p.1:=λe=>nd.1 (e ▸ this.1)
    first | exact ne | simpa using ne
   rw [this];simp
  | false=>
   rw [cond_false] at h
   refine e1_2 (ZiI b nd.2 x v h) λrv h1 h2=>?_
   exact i1_2 rv h1 (by rw [List.lookup_append,h2];rfl)
theorem Zld:∀ {ps:List Str} {vs:List SV} (x:Str),(∀ p ∈ ps,p ≠ x)->look x (ps.zip vs)=none
 | [],_,_,_=>rfl
 | _::_,[],_,_=>rfl
 | p::ps,v::vs,x,h=>by
  rw [List.zip_cons_cons,Zab,Zld x λq hq=>h q (.tail _ hq)]
  cases q:seq x p with
  | true=>exact absurd (seq_iff.mp q).symm (h p (.head _))
  | false=>rfl
variable {G:Gl} {B:Bs} {ρ:List (Addr × Obj)} {σ:List SO} {ls:List (Str × SV)} {rs:Shared} {E:Value->Shared->Prop} {d:Nat}
theorem Hs.back {m:Str->Option Value} {led:List (List (Addr × Obj))} (F:Fr B.h₀ B.L rs.heap m) (N:News B.h₀ B.L rs.heap (B.cs++led.flatten)) (R:Rl G B.cs ρ σ led) (Lc:Loc B ρ m ls)
 {qual:Str} {sc:Scope} {a:Addr} {cd:Value} {ρ':List (Addr × Obj)} {σ':List SO} {ls':List (Str × SV)} {rs':Shared} {cl:List (Str × Addr)} {cs':List (Addr × Obj)} (hp:ρ <+: ρ')
 (y:Hs G (Zh6 B rs led.flatten qual sc a cd cl cs') ρ' σ' ls' rs'):Hs G B ρ' σ' ls rs':=by
 obtain ⟨m',led',F',N',R',_⟩:=y.ex
 replace F':Fr (hideAll rs.heap (led.flatten.map (·.1))) rs.heap.objs.size rs'.heap m':=F'
 replace N':News (hideAll rs.heap (led.flatten.map (·.1))) rs.heap.objs.size rs'.heap (cs'++led'.flatten):=N'
 have nm:∀ b,(∃ p ∈ B.cs,p.1=b)->b ∉ led.flatten.map (·.1):=by
  intro b wq;refine e1_2 wq λp hp wqb=>?_;clear wq;subst wqb;intro hq
  have:=R.nd
  rw [List.map_append,List.nodup_append] at this
  exact this.2.2 _ (List.mem_map_of_mem hp) _ hq rfl
 have Nl:News B.h₀ B.L rs.heap led.flatten:=λp hp=>N p (List.mem_append_right _ hp)
 have st:=Zcx F Nl
 refine byP λXX kX=>?_
 refine e3_4 (F.ns) λoL es ep hL hLd hLk hLf=>?_
 refine kX ?_
 have nL:B.L ∉ led.flatten.map (·.1):=λq=>by
  refine e1_2 (List.mem_map.mp q) λp hp e=>?_
  exact (Nl p hp).2.1 e
 have hLg:=hideAll_get (led.flatten.map (·.1)) hL nL
 refine ⟨⟨m,led',⟨⟨oL,es,ep,F'.keep _ _ hLg,hLd,hLk,hLf⟩,λb o e=>F'.keep b o (st b o e),F.above⟩,λp hp=>?_,⟨R'.l1,R'.l2,R'.obj,?_⟩,Lc.mono hp⟩,y.gens,y.drawn,y.os⟩
 ·rcases List.mem_append.mp hp with hp | hp
  ·have q:=N p (List.mem_append_left _ hp)
   exact i0_2 (F'.keep _ _ (hideAll_get _ q.1 (nm _ ⟨p,hp,rfl⟩))) (q.2)
  ·have q:=N' p (List.mem_append_right _ hp)
   refine i0_3 (q.1) (λe=>?_) ?_
   ·have:=q.2.2;rw [e,hLg] at this;exact nS this
   ·cases z:B.h₀.get? p.1 with
    | none=>rfl
    | some o=>
     have w:=q.2.2
     rw [st _ _ z] at w
     exact nS w
 ·rw [List.map_append,List.nodup_append]
  have n1:=R.nd
  have n2:=R'.nd
  rw [List.map_append,List.nodup_append] at n1 n2
  refine i0_3 (n1.1) (n2.2.1) (λx hx z hz e=>?_)
  refine e1_2 (List.mem_map.mp hx) λp hp wq=>?_;subst wq
  refine e1_2 (List.mem_map.mp hz) λq hq e2=>?_
  have w1:=N p (List.mem_append_left _ hp)
  have w2:=(N' q (List.mem_append_right _ hq)).2.2
  have w3:=hideAll_get (led.flatten.map (·.1)) w1.1 (nm _ ⟨p,hp,rfl⟩)
  rw [show q.1=p.1 from e2.trans e.symm,w3] at w2
  exact nS w2
theorem Hs.callK (O:Ok G B (d+1)) (x:Hs G B ρ σ ls rs) {a:Addr} {f:Fn} (hf:FnOk G.K a f) {vs:List SV} {rvs:List Value} (hv:VL ρ vs rvs) (hk:vs.length ∈ f.ar) {ν:Vn} {P:Option SV->List (Addr × Obj)->List SO->Prop}
 (body:∀ (B':Bs) rs1,Ok G B' d->B'.sc=f.sc->(∀ b o,(B.h₀.get? b=some o∨(b,o) ∈ B.cs)->B'.h₀.get? b=some o)->Hs G B' ρ σ (f.params.zip (vs++(f.dflts.drop (vs.length+f.dflts.length-f.params.length)).map (MV.sem ν))) rs1->
  wpAny G.M B'.A (execs f.body B'.env) (λfl rs'=>∃ ρ' v σ' ls',ρ <+: ρ'∧FlR ρ' fl v∧P v ρ' σ'∧Hs G B' ρ' σ' ls' rs') (λ_ _=>False) rs1):
 codeAny G.M B.A (.call (.ref a) ⟨rvs,[]⟩) (λr rs'=>∃ rv,r = .ok (.ret rv)∧∃ ρ' v σ',ρ <+: ρ'∧V ρ' (v.getD .none) rv∧P v ρ' σ'∧Hs G B ρ' σ' ls rs') rs:=by
 refine byP λXX kX=>?_
 obtain ⟨m,led,F,N,R,Lc⟩:=x.ex
 refine e13_3 (hf.ex) λname qual params dV kV doc pm an cdv ct oc od osl ho hcd hb=>?_
 refine e1_3 (hb _ hk) λds hds hlen hbind=>?_
 refine kX ?_
 have Nl:News B.h₀ B.L rs.heap led.flatten:=λp hp=>N p (List.mem_append_right _ hp)
 have X:G.K.In rs.heap:=O.kin.keeps F.keep
 have hrl:=hv.length
 refine codeAny_call_def (fd:=PySem.W.fnOf name qual params f.body f.sc dV kV doc pm an cdv ct) (body:=f.body) (binds:=f.params.zip (rvs++ds)) (by have:=O.dep;omega) (X _ _ ho) rfl (O.top.nolimit.keeps F.keep) (codeRec_of X hcd) rfl (hbind rs rvs X hrl) hf.cell
  (λy hy=>hf.loc _ (List.of_mem_zip hy).1) (λh₁ hns hk₁=>?_) hf.co hf.gen hf.kind
 have F₁:Fr (hideAll rs.heap (led.flatten.map (·.1))) rs.heap.objs.size h₁ (λy=>(f.params.zip (rvs++ds)).reverse.lookup y):=⟨hns,λb o e=>hk₁ b o (of_hideAll _ e),Nat.le_of_eq (hideAll_size _ _)⟩
 have N₁:News (hideAll rs.heap (led.flatten.map (·.1))) rs.heap.objs.size h₁ led.flatten:=λp hp=>⟨hk₁ _ _ (Nl p hp).1,Nat.ne_of_lt (Heap.lt_size (Nl p hp).1),hideAll_none _ (List.mem_map_of_mem hp)⟩
 have O₁:=Zgt O F Nl (qual:=qual) (a:=a) (cd:=cdv) (cl:=[]) (cs:=[]) hf.kind
 have hvd:VL ρ (vs++(f.dflts.drop (vs.length+f.dflts.length-f.params.length)).map (MV.sem ν)) (rvs++ds):=hv.append ((hds ν).mono (List.nil_prefix))
 have x₁:Hs G (Zh6 B rs led.flatten qual f.sc a cdv [] []) ρ σ (f.params.zip (vs++(f.dflts.drop (vs.length+f.dflts.length-f.params.length)).map (MV.sem ν))) { heap:=h₁,gens:=rs.gens,drawn:=rs.drawn,toks:=rs.toks+(f.params.zip (rvs++ds)).length,os:=rs.os }:=by
  refine ⟨⟨_,led,F₁,N₁,⟨R.l1,R.l2,R.obj,?_⟩,⟨λy v e=>?_,Zld _ hf.dbg⟩⟩,x.gens,x.drawn,x.os⟩
  ·have:=R.nd;rw [List.map_append,List.nodup_append] at this;exact this.2.1
  ·refine e1_2 (ZiI hvd hf.nd y v e) λrv h1 h2=>?_
   have hy:y ∈ f.params:=by
    rw [Zaz] at e
    have:=List.lookup_eq_some_iff.mp e
    refine e2_2 this λl1 l2 e2 _=>?_;clear this
    have:(y,v) ∈ f.params.zip (vs++(f.dflts.drop (vs.length+f.dflts.length-f.params.length)).map (MV.sem ν)):=by rw [e2];simp
    exact (List.of_mem_zip this).1
   exact i1_2 rv h1 (.inl ⟨hf.loc y hy,h2⟩)
 refine wpAny_mono (body _ _ O₁ rfl (λb o h=>h.elim (Zcx F Nl b o) λhm=>hideAll_get _ (N _ (List.mem_append_left _ hm)).1 λq=>?_) x₁) (λfl rs' q=>?_) λ_ _ q=>q.elim
 ·refine e1_2 (List.mem_map.mp q) λp hp e=>?_
  have:=R.nd
  rw [List.map_append,List.nodup_append] at this
  exact this.2.2 _ (List.mem_map_of_mem hm) _ (List.mem_map_of_mem hp) e.symm
 refine e4_4 q λρ' v σ' ls' hp hfl hP y=>?_;clear q
 have z:=Hs.back (G:=G) F N R Lc hp y
 cases hfl with
 | ret w=>exact i1_2 _ rfl (⟨ρ',some _,σ',hp,w,hP,z⟩)
 | next=>exact i1_2 _ rfl (⟨ρ',none,σ',hp,.none,hP,z⟩)
theorem Hs.callC (O:Ok G B (d+1)) (x:Hs G B ρ σ ls rs) {a:Addr} {f:Fn} (hf:FnOk G.K a f) {vs:List SV} {rvs:List Value} (hv:VL ρ vs rvs) (hk:vs.length ∈ f.ar) {ν:Vn} {P:Option SV->List SO->Prop}
 (body:∀ (B':Bs) rs1,Ok G B' d->B'.sc=f.sc->Hs G B' ρ σ (f.params.zip (vs++(f.dflts.drop (vs.length+f.dflts.length-f.params.length)).map (MV.sem ν))) rs1->
  wpAny G.M B'.A (execs f.body B'.env) (λfl rs'=>∃ ρ' v σ' ls',ρ <+: ρ'∧FlR ρ' fl v∧P v σ'∧Hs G B' ρ' σ' ls' rs') (λ_ _=>False) rs1):
 codeAny G.M B.A (.call (.ref a) ⟨rvs,[]⟩) (λr rs'=>∃ rv,r = .ok (.ret rv)∧∃ ρ' v σ',ρ <+: ρ'∧V ρ' (v.getD .none) rv∧P v σ'∧Hs G B ρ' σ' ls rs') rs:=
 x.callK (P:=λv _ σ'=>P v σ') O hf hv hk λB' rs1 O' e _ y=>body B' rs1 O' e y
structure ClsOk (K:Frag) (C:Addr) (init:Addr):Prop where
 makes:makesIn K C=true
 find:findIn K (.ref C) (Str.ofString "__init__")=some (some (.ref init))
 fn:typeIn K (.ref init)=some (.type "function")
 keep:keepIn K (.ref C)=true
noncomputable abbrev Bs.at (B:Bs) (A:Around):Bs:={ B with A:=A }
theorem Hs.at (x:Hs G B ρ σ ls rs) (A:Around):Hs G (B.at A) ρ σ ls rs:=⟨let ⟨m,led,F,N,R,Lc⟩:=x.ex;⟨m,led,F,N,R,⟨Lc.at_,Lc.dbg⟩⟩,x.gens,x.drawn,x.os⟩
theorem Hs.un {A:Around} (x:Hs G (B.at A) ρ σ ls rs):Hs G B ρ σ ls rs:=⟨let ⟨m,led,F,N,R,Lc⟩:=x.ex;⟨m,led,F,N,R,⟨Lc.at_,Lc.dbg⟩⟩,x.gens,x.drawn,x.os⟩
theorem Zjo (A:Around) (args:Args):(A.under (.builtin "type.__call__" args)).units≤A.units+3:=by
 exact Nat.add_le_add_left (Nat.le_of_ble_eq_true rfl) _
end Mine
end
section
namespace Mine
noncomputable def semH (Γ:Tab) (ν:Vn) (s:St):List SO:=(Γ.base++s.heap).map (MO.sem ν)
noncomputable def semL (ν:Vn) (ls:List (Str × MV)):List (Str × SV):=ls.map λp=>(p.1,p.2.sem ν)
structure Gd (G:Gl) (B:Bs) (Γ:Tab) (ν:Vn) (ρ:List (Addr × Obj)) (s:St) (rs:Shared):Prop where
 fx:FxOk ν s.facts
 hs:Hs G B ρ (semH Γ ν s) (semL ν s.ls) rs
section
variable (G:Gl) (B:Bs) (Γ:Tab) (ν:Vn) (ρ:List (Addr × Obj))
inductive RV (P:MV->St->Prop) (rv:Value) (rs:Shared):Prop
 | mk (ρ':List (Addr × Obj)) (v:MV) (s:St):ρ <+: ρ'->P v s->V ρ' (v.sem ν) rv->Gd G B Γ ν ρ' s rs->RV P rv rs
inductive RB (P:Bool->St->Prop) (b:Bool) (rs:Shared):Prop
 | mk (ρ':List (Addr × Obj)) (s:St):ρ <+: ρ'->P b s->Gd G B Γ ν ρ' s rs->RB P b rs
inductive RU (P:Unit->St->Prop) (u:Unit) (rs:Shared):Prop
 | mk (ρ':List (Addr × Obj)) (s:St):ρ <+: ρ'->P () s->Gd G B Γ ν ρ' s rs->RU P u rs
end
variable {G:Gl} {B:Bs} {Γ:Tab} {ν:Vn} {ρ:List (Addr × Obj)} {s:St} {rs:Shared} {E:Value->Shared->Prop} {d:Nat}
theorem Gd.toks (x:Gd G B Γ ν ρ s rs) (t:Nat):Gd G B Γ ν ρ s { heap:=rs.heap,gens:=rs.gens,drawn:=rs.drawn,toks:=t,os:=rs.os }:=⟨x.fx,x.hs.toks t⟩
theorem RV.here {P:MV->St->Prop} {v:MV} {rv:Value} (h:P v s) (hv:V ρ (v.sem ν) rv) (x:Gd G B Γ ν ρ s rs):RV G B Γ ν ρ P rv rs:=⟨ρ,v,s,List.prefix_refl _,h,hv,x⟩
theorem RB.here {P:Bool->St->Prop} {b:Bool} (h:P b s) (x:Gd G B Γ ν ρ s rs):RB G B Γ ν ρ P b rs:=⟨ρ,s,List.prefix_refl _,h,x⟩
theorem RV.wide {ρ':List (Addr × Obj)} {P:MV->St->Prop} {rv:Value} (h:ρ <+: ρ') (x:RV G B Γ ν ρ' P rv rs):RV G B Γ ν ρ P rv rs:=by
 obtain ⟨ρ2,v,s,a,b,c,e⟩:=x;exact ⟨ρ2,v,s,h.trans a,b,c,e⟩
theorem RB.wide {ρ':List (Addr × Obj)} {P:Bool->St->Prop} {b:Bool} (h:ρ <+: ρ') (x:RB G B Γ ν ρ' P b rs):RB G B Γ ν ρ P b rs:=by
 obtain ⟨ρ2,s,a,b,c⟩:=x;exact ⟨ρ2,s,h.trans a,b,c⟩
theorem RU.wide {ρ':List (Addr × Obj)} {P:Unit->St->Prop} {u:Unit} (h:ρ <+: ρ') (x:RU G B Γ ν ρ' P u rs):RU G B Γ ν ρ P u rs:=by
 obtain ⟨ρ2,s,a,b,c⟩:=x;exact ⟨ρ2,s,h.trans a,b,c⟩
theorem Zac {n:Nat} {o:MO} (h:cell Γ s n=some o):(semH Γ ν s)[n]? = some (o.sem ν):=by
 unfold cell at h
 unfold semH
 rw [List.getElem?_map]
 generalize q:Nat.blt n Γ.base.length=wo at h
 cases wo with
 | true=>
  rw [cond_true,ZeK] at h
  rw [List.getElem?_append_left (List.getElem?_eq_some_iff.mp h).1,h];rfl
 | false=>
  rw [cond_false,ZeK] at h
  have:¬n<Γ.base.length:=λl=>by
   have:Nat.blt n Γ.base.length=true:=Nat.ble_eq_true_of_le l
   rw [q] at this;exact nB this
  rw [List.getElem?_append_right (Nat.le_of_not_lt this),h];rfl
theorem ZaX {n:Nat} {o:MO} {P:Unit->St->Prop} (h:(Za8 Γ n o s).All ν P):∃ s',P () s'∧s'.ls=s.ls∧s'.facts=s.facts∧semH Γ ν s'=(semH Γ ν s).set n (o.sem ν):=by
 unfold Za8 upd at h
 generalize q:Nat.blt n Γ.base.length=wo at h
 revert q;revert wo;show Fa _ _;refine Boo.on_false zF0 (λh=>?_);intro q
 have:¬n<Γ.base.length:=λl=>by
  have:Nat.blt n Γ.base.length=true:=Nat.ble_eq_true_of_le l
  rw [q] at this;exact nB this
 refine i1_4 _ h rfl rfl ?_
 unfold semH
 rw [ZdR,←List.map_set,List.set_append_right _ _ (Nat.le_of_not_lt this)]
theorem Zaw (o:MO):semH Γ ν (Za6 Γ s o).2=semH Γ ν s++[o.sem ν]:=by
 unfold Za6 semH
 simp only [←List.append_assoc,List.map_append,List.map_cons,List.map_nil]
theorem Zav (o:MO):((Za6 Γ s o).1).sem ν = .ref (semH Γ ν s).length:=by
 unfold Za6 semH MV.sem
 simp
theorem ZeW {x:Str} {ls:List (Str × MV)} {v:MV} (h:look x ls=some v):look x (semL ν ls)=some (v.sem ν):=by
 unfold semL;rw [Zat (MV.sem ν),h];rfl
theorem Zeh (xs:List ME) (hν:ν.ok):((rowS ν xs).length:Int)=(lenL xs).ev ν.x:=by
 induction xs with
 | nil=>simp [rowS,lenL]
 | cons e r ih=>
  have:rowS ν (e::r)=e.sem ν++rowS ν r:=rfl
  rw [this,List.length_append]
  cases e with
  | v x=>simp only [lenL,ZbE,ev_k,←ih,ME.sem];simp;omega
  | seg n=>simp only [lenL,ZbE,ev_x,←ih,ME.sem,hν.len n];simp;omega
theorem ZaC {xs:List ME} (hν:ν.ok) (h:Zck xs=true):(rowS ν xs).length≤2 ^ 20:=by
 have hl:xs.length≤200:=Nat.le_of_ble_eq_true h
 have:(rowS ν xs).length≤xs.length * 4096:=by
  clear h hl
  induction xs with
  | nil=>simp [rowS]
  | cons e r ih=>
   have:rowS ν (e::r)=e.sem ν++rowS ν r:=rfl
   rw [this,List.length_append,List.length_cons]
   have he:(e.sem ν).length≤4096:=by
    cases e with
    | v x=>simp [ME.sem]
    | seg n=>exact hν.small n
   omega
 omega
theorem ZaL (xs ys:List ME):rowS ν (xs++ys)=rowS ν xs++rowS ν ys:=by simp [rowS]
theorem Zd4 (vs:List MV):rowS ν (vs.map ME.v)=vs.map (MV.sem ν):=by
 induction vs with
 | nil=>rfl
 | cons v r ih=>show v.sem ν::rowS ν (r.map ME.v)=_;rw [ih];rfl
theorem Zit {xs:List ME} {rvs:List Value} {P:MV->St->Prop} (hν:ν.ok) (h:(Zdm Γ xs s).All ν P) (x:Gd G B Γ ν ρ s rs) (hv:VL ρ (rowS ν xs) rvs):wpAny G.M B.A (PySem.newTuple rvs) (RV G B Γ ν ρ P) E rs:=by
 unfold Zdm at h
 generalize q:Zck xs=wo at h
 revert q;revert wo;show Fa _ _;refine Boo.on_true zF0 (λh=>?_);intro q
 refine wpAny_mono (x.hs.newTuple hv (ZaC hν q)) (λrv rs' y=>?_) λ_ _ e=>e
 refine e1_3 y λρ' hp hr y=>?_
 exact ⟨ρ',_,_,hp,h,by rw [Zav];exact hr,x.fx,by rw [Zaw];exact y⟩
theorem ZlV {xs:List ME} {rvs:List Value} {P:MV->St->Prop} (hν:ν.ok) (h:(ZcP Γ xs s).All ν P) (x:Gd G B Γ ν ρ s rs) (hv:VL ρ (rowS ν xs) rvs):wpAny G.M B.A (PySem.newList rvs) (RV G B Γ ν ρ P) E rs:=by
 unfold ZcP at h
 generalize q:Zck xs=wo at h
 revert q;revert wo;show Fa _ _;refine Boo.on_true zF0 (λh=>?_);intro q
 refine wpAny_mono (x.hs.newList hv (ZaC hν q)) (λrv rs' y=>?_) λ_ _ e=>e
 refine e1_3 y λρ' hp hr y=>?_
 exact ⟨ρ',_,_,hp,h,by rw [Zav];exact hr,x.fx,by rw [Zaw];exact y⟩
theorem Hs.list {ls:List (Str × SV)} {σ:List SO} (x:Hs G B ρ σ ls rs) {n:Nat} {xs:List SV} {a:Addr} {ao:Obj} (h:σ[n]? = some (.list xs)) (ha:ρ[n]? = some (a,ao)):
 ∃ vs k,rs.heap.get? a=some (PySem.W.listOf vs.toArray k)∧VL ρ xs vs∧xs.length≤2 ^ 20:=by
 refine byP λXX kX=>?_
 obtain ⟨m,led,F,N,R,Lc⟩:=x.ex
 refine e2_3 (R.obj n _ h) λp es e1 e2 o=>?_
 rw [ha] at e1
 have wq:=Option.some.inj e1;clear e1;subst wq
 refine e2_3 (o.list_inv) λ_ _ wq y z=>?_;clear o;subst wq
 refine kX ?_
 exact i2_3 _ _ ((N _ (R.mem e2 (.head _))).1) y z
theorem Hs.tuple {ls:List (Str × SV)} {σ:List SO} (x:Hs G B ρ σ ls rs) {n:Nat} {xs:List SV} {a:Addr} {ao:Obj} (h:σ[n]? = some (.tuple xs)) (ha:ρ[n]? = some (a,ao)):
 ∃ vs k,rs.heap.get? a=some { cls:=.type "tuple",data:=.seq vs.toArray k }∧VL ρ xs vs∧xs.length≤2 ^ 20:=by
 refine byP λXX kX=>?_
 obtain ⟨m,led,F,N,R,Lc⟩:=x.ex
 refine e2_3 (R.obj n _ h) λp es e1 e2 o=>?_
 rw [ha] at e1
 have wq:=Option.some.inj e1;clear e1;subst wq
 refine e2_4 (o.tuple_inv) λ_ _ wq wq y z=>?_;clear o;subst wq wq
 refine kX ?_
 exact i2_3 _ _ ((N _ (R.mem e2 (.head _))).1) y z
theorem Zan {h:Heap} {a:Addr} {vs:List Value} {k:Nat} (e:h.get? a=some (PySem.W.listOf vs.toArray k)):h.IsList a vs.toArray:=⟨_,e,rfl,k,rfl⟩
theorem Zam {h:Heap} {a:Addr} {vs:List Value} {k:Nat} (e:h.get? a=some { cls:=.type "tuple",data:=.seq vs.toArray k }):IsTup h a vs.toArray:=by
 first | exact ⟨_,e,rfl,k,rfl⟩ | exact ⟨_,e,rfl,rfl⟩ | exact ⟨e⟩
end Mine
end
section
namespace Mine
set_option genInjectivity false in
set_option genSizeOf false in
structure MethOk (K:Frag) (C:Addr) (x:Str) (f:Addr):Prop where
 get:plainGet K C x=true
 find:findIn K (.ref C) x=some (some (.ref f))
 fn:isFn K (.ref f)=true
 keep:keepIn K (.ref f)=true
set_option genInjectivity false in
set_option genSizeOf false in
structure TOk (G:Gl) (Γ:Tab):Prop where
 names:∀ x v,look x Γ.names=some v->x ≠ Str.ofString "__debug__"∧∃ rv,(∀ ν:Vn,V [] (v.sem ν) rv)∧(nsIn G.K mainGlobals x=some (some rv)∨(nsIn G.K mainGlobals x=some none∧bootBuiltins x=some rv∧x ≠ Str.ofString "__name__"))
 fns:∀ a f,lookN a Γ.fns=some f->FnOk G.K a f
 cls:∀ C c,lookN C Γ.cls=some c->ClsOk G.K C c.init∧(∀ x f,look x c.meths=some f->MethOk G.K C x f)∧(∀ x u,look x c.attrs=some u->AttrOk G.K C x)
 tups:∀ a l,lookN a Γ.tups=some l->∃ vs n,List.lookup a G.K=some { cls:=.type "tuple",data:=.seq vs.toArray n }∧VL [] (l.map SV.str) vs
variable {G:Gl} {B:Bs} {Γ:Tab} {ν:Vn} {ρ:List (Addr × Obj)} {s:St} {rs:Shared} {E:Value->Shared->Prop} {d:Nat}
theorem vref {n:Nat} {rv:Value} (h:V ρ (.ref n) rv):∃ a o,rv = .ref a∧ρ[n]? = some (a,o):=by
 cases h with | ref e=>exact i2_2 _ _ rfl e
theorem ZiW {v:MV} {y:Str} {rv:Value} {b:Bool} {P:MV->St->Prop} (O:Ok G B d) (h:(Zdg Γ v y s).All ν P) (x:Gd G B Γ ν ρ s rs) (hv:V ρ (v.sem ν) rv):wpAny G.M B.A (PySem.getAttr rv y b) (RV G B Γ ν ρ P) E rs:=by
 revert v;show Fa _ _;refine MV.on_ref zF0 zF1 zF1 zF1 zF1 zF1 zF1 zF1 (λn h=>?_);intro hv
 refine byP λXX kX=>?_
 refine e2_2 (vref hv) λa o wq ha=>?_;subst wq
 (unfold Zdg at h;try dsimp only at h)
 generalize hc:cell Γ s n=wo at h
 revert hc;revert wo;show Fa _ _;refine Opt.on_some zF0 (λob h=>?_);intro hc
 revert ob;show Fa _ _;refine MO.on_inst zF1 zF1 zF1 zF1 zF2 zF1 (λC at_ h=>?_);intro hc
 cases hl:look y at_ with
 | none=>simp only [hl] at h;exact h.elim
 | some w=>
  simp only [hl] at h
  have e:=Zac (ν:=ν) hc
  refine kX ?_
  refine wpAny_mono (x.hs.getAttr O (at_:=at_.map λp=>(p.1,p.2.sem ν)) e ha (v:=w.sem ν) (by rw [Zat (MV.sem ν),hl];rfl)) (λrv rs' y=>?_) λ_ _ e=>e
  exact RV.here h y.1 ⟨x.fx,y.2⟩
theorem Zjf {v w:MV} {y:Str} {rv rw':Value} {P:Unit->St->Prop} (O:Ok G B d) (T:TOk G Γ) (h:(ZeX Γ v y w s).All ν P) (x:Gd G B Γ ν ρ s rs) (hv:V ρ (v.sem ν) rv) (hw:V ρ (w.sem ν) rw'):wpAny G.M B.A (PySem.setAttr rv y rw') (RU G B Γ ν ρ P) E rs:=by
 revert v;show Fa _ _;refine MV.on_ref zF0 zF1 zF1 zF1 zF1 zF1 zF1 zF1 (λn h=>?_);intro hv
 refine byP λXX kX=>?_
 refine e2_2 (vref hv) λa o wq ha=>?_;subst wq
 (unfold ZeX at h;try dsimp only at h)
 generalize hc:cell Γ s n=wo at h
 revert hc;revert wo;show Fa _ _;refine Opt.on_some zF0 (λob h=>?_);intro hc
 revert ob;show Fa _ _;refine MO.on_inst zF1 zF1 zF1 zF1 zF2 zF1 (λC at_ h=>?_);intro hc
 cases hf:ZfO Γ C y at_ with
 | false=>simp only [hf] at h;exact h.elim
 | true=>
  simp only [hf,cond_true] at h
  refine e1_4 (ZaX h) λs' hP h1 h2 h3=>?_
  have e:=Zac (ν:=ν) hc
  refine kX ?_
  have key:AttrOk G.K C y∧at_.length<900∨(∃ u,look y at_=some u):=by
   unfold ZfO at hf
   cases hl:look y at_ with
   | some u=>exact .inr ⟨u,rfl⟩
   | none=>
    rw [hl] at hf
    cases hC:lookN C Γ.cls with
    | none=>rw [hC] at hf;exact nB hf
    | some c=>
     simp only [hC] at hf
     generalize hx:look y c.attrs=wo at hf
     revert hx;revert wo;show Fa _ _;refine Opt.on_some zB0 (λu hf=>?_);intro hx
     exact .inl ⟨(T.cls C c hC).2.2 y u hx,Nat.le_of_ble_eq_true hf⟩
  have done:∀ rs',Hs G B ρ ((semH Γ ν s).set n (.inst C (put y (w.sem ν) (at_.map λp=>(p.1,p.2.sem ν))))) (semL ν s.ls) rs'->RU G B Γ ν ρ P () rs':=λrs' q=>by
   refine ⟨ρ,s',List.prefix_refl _,hP,⟨by rw [h2];exact x.fx,?_⟩⟩
   rw [h3,h1]
   show Hs G B ρ ((semH Γ ν s).set n (.inst C ((put y w at_).map λp=>(p.1,p.2.sem ν)))) _ _
   rw [ZeS];exact q
  refine byP λXX kX=>?_
  rcases key with ⟨k1,k2⟩ | ⟨u,hu⟩
  ·refine kX ?_
   exact wpAny_mono (x.hs.setAttr O e ha hw k1 (by simpa using k2)) (λ_ rs' q=>done rs' q) λ_ _ e=>e
  ·refine kX ?_
   exact wpAny_mono (x.hs.setAttrOld O e ha hw (by rw [Zat (MV.sem ν),hu];rfl)) (λ_ rs' q=>done rs' q) λ_ _ e=>e
end Mine
end
section
namespace Mine
noncomputable def rdS:SV->PyData
 | .bool b=>.bool b
 | .int i=>.int i
 | .str s=>.str (Zaa s)
 | _=>.none
inductive Flat:SV->Prop
 | none:Flat .none
 | bool (b:Bool):Flat (.bool b)
 | int (i:Int):Flat (.int i)
 | str {s:List Nat}:Zap s=true->Flat (.str s)
theorem Flat.reads {ρ:List (Addr × Obj)} {v:SV} {rv:Value} (h:Flat v) (x:V ρ v rv) (hp:Heap):Reads hp rv (rdS v) []:=by
 cases h with
 | none=>cases x;exact Reads.none
 | bool b=>cases x;exact Reads.bool b
 | int i=>cases x;exact Reads.int i _
 | str _=>cases x;exact Reads.str _ _
theorem ZfN:∀ {s:List Nat},Zap s=true->∀ c ∈ s,c<128
 | c::r,h,x,hx=>by
  simp only [Zap,Bool.and_eq_true] at h
  rcases List.mem_cons.mp hx with rfl | hx
  ·exact Nat.le_of_ble_eq_true h.1
  ·exact ZfN h.2 x hx
theorem Flat.lay {v:SV} (h:Flat v):(rdS v).canLay0=true∧(rdS v).depth=0:=by
 cases h with
 | str h=>
  refine i0_2 ?_ (by simp [rdS,PyData.depth])
  dsimp only [rdS,PyData.canLay0,PyData.strOk,Zaa]
  rw [Array.all_eq_true']
  intro c hc
  have:=ZfN h c (by simpa using hc)
  exact decide_eq_true (by omega)
 | _=>exact i0_2 (by simp [rdS,PyData.canLay0]) (by simp [rdS,PyData.depth])
theorem Flat.eqv {v:SV} (h:Flat v):PyData.eqv (rdS v) (rdS v)=true:=by
 cases h<;>simp [rdS,PyData.eqv]
theorem Flat.readsAll {ρ:List (Addr × Obj)} (hp:Heap) {vs:List SV} {rvs:List Value} (h:∀ v ∈ vs,Flat v) (x:VL ρ vs rvs):ReadsAll hp rvs (vs.map rdS) []:=by
 induction x with
 | nil=>exact .nil
 | cons a _ ih=>exact ReadsAll.cons ((h _ (.head _)).reads a hp) (ih λv hv=>h v (.tail _ hv))
theorem Zm1 {ds:List PyData} (n:Nat) (h:∀ d ∈ ds,d.canLay0=true∧d.depth≤n):PyData.canLayAll0 ds=true∧PyData.depthAll ds≤n:=by
 induction ds with
 | nil=>simp [PyData.canLayAll0,PyData.depthAll]
 | cons d r ih=>
  have h1:=h d (.head _)
  have h2:=ih λe he=>h e (.tail _ he)
  simp only [PyData.canLayAll0,PyData.depthAll,h1.1,h2.1,Bool.and_self,true_and]
  have:=h1.2;have:=h2.2
  omega
theorem Zet {ds:List PyData} (h:∀ d ∈ ds,PyData.eqv d d=true):PyData.eqvAll ds ds=true:=by
 induction ds with
 | nil=>simp [PyData.eqvAll]
 | cons d r ih=>simp only [PyData.eqvAll,h d (.head _),ih λe he=>h e (.tail _ he),Bool.and_self]
variable {G:Gl} {B:Bs} {Γ:Tab} {ν:Vn} {ρ:List (Addr × Obj)} {s:St} {rs:Shared} {E:Value->Shared->Prop} {d:Nat}
set_option tactic.hygienic true in
theorem ZaY {a b:MV} (hν:ν.ok) (h:Zcw a b=true):a.sem ν=b.sem ν∧Flat (a.sem ν):=by
 cases a<;>cases b<;>first | (cases h;done) | skip
 ·exact i0_2 rfl .none
 ·rename_i x y
  have e:x=y:=by have h:(x==y)=true:=h;simpa using h
  rw [e];exact i0_2 rfl (.bool _)
 ·rw [Lin.eq_eq h];exact i0_2 rfl (.int _)
 ·have h:=Bool.and_eq_true_iff.mp h
  have e:∀ {x y:List Nat},leq x y=true->x=y:=by
   intro x
   induction x with
   | nil=>intro y q;cases y with | nil=>rfl | cons _ _=>exact nB q
   | cons c r ih=>
    intro y q
    revert y;show Fa _ _;refine Lis.on_cons zB0 (λd t q=>?_)
    have q:=Bool.and_eq_true_iff.mp q;rw [Nat.eq_of_beq_eq_true q.1,ih q.2]
  rw [←e h.1];exact i0_2 rfl (.str h.2)
 ·rw [Nat.eq_of_beq_eq_true h]
  refine i0_2 rfl ?_
  rename_i n
  show Flat (ν.o n)
  rcases hν.flat n with q | ⟨i,q⟩<;>rw [q]<;>constructor
theorem Zgf (hν:ν.ok) {n:Nat} (hn:Nat.blt n 100=true):∀ v ∈ ν.g n,Flat v:=λv hv=>by
 refine e1_1 (hν.nums n (Nat.le_of_ble_eq_true hn) v hv) λi wq=>?_;subst wq;exact .int i
theorem Zcl (hν:ν.ok):∀ {xs ys:List ME},ZbY Zcw xs ys=true->rowS ν xs=rowS ν ys∧∀ v ∈ rowS ν xs,Flat v
 | [],[],_=>⟨rfl,λ_ h=>nomatch h⟩
 | .v x::r,.v y::q,h=>by
  have h:=Bool.and_eq_true_iff.mp h
  refine e0_2 (ZaY hν h.1) λh1 h2=>?_
  refine e0_2 (Zcl hν h.2) λh3 h4=>?_
  refine i0_2 (by show x.sem ν::rowS ν r=y.sem ν::rowS ν q;rw [h1,h3]) (λv hv=>?_)
  rcases List.mem_cons.mp (show v ∈ x.sem ν::rowS ν r from hv) with rfl | hv
  ·exact h2
  ·exact h4 v hv
 | .seg n::r,.seg k::q,h=>by
  have h:=Bool.and_eq_true_iff.mp h
  have h:(Nat.beq n k=true∧Nat.blt n 100=true)∧_:=⟨Bool.and_eq_true_iff.mp h.1,h.2⟩
  refine e0_2 (Zcl hν h.2) λh3 h4=>?_
  have hn:=h.1.2
  rw [Nat.eq_of_beq_eq_true h.1.1] at hn ⊢
  refine i0_2 (by show ν.g k++rowS ν r=ν.g k++rowS ν q;rw [h3]) (λv hv=>?_)
  rcases List.mem_append.mp (show v ∈ ν.g k++rowS ν r from hv) with hv | hv
  ·exact Zgf hν hn v hv
  ·exact h4 v hv
 | [],.v _::_,h=>by exact nB h
 | [],.seg _::_,h=>by exact nB h
 | .v _::_,[],h=>by exact nB h
 | .seg _::_,[],h=>by exact nB h
 | .v _::_,.seg _::_,h=>by exact nB h
 | .seg _::_,.v _::_,h=>by exact nB h
theorem ZdI (hν:ν.ok):∀ {xs:List ME},Zev xs=true->∀ v ∈ rowS ν xs,Flat v
 | [],_,_,h=>nomatch h
 | .v x::r,h,v,hv=>by
  have h:=Bool.and_eq_true_iff.mp h
  rcases List.mem_cons.mp (show v ∈ x.sem ν::rowS ν r from hv) with rfl | hv
  ·exact (ZaY hν h.1).2
  ·exact ZdI hν h.2 v hv
 | .seg n::r,h,v,hv=>by
  have h:=Bool.and_eq_true_iff.mp h
  rcases List.mem_append.mp (show v ∈ ν.g n++rowS ν r from hv) with hv | hv
  ·exact Zgf hν h.1 v hv
  ·exact ZdI hν h.2 v hv
theorem ZbR:∀ {xs:List ME} {b:Bool},ZaI xs=some b->(b=true ↔ rowS ν xs=[])
 | [],b,h=>by have wq:=Option.some.inj h;clear h;subst wq;simp [rowS]
 | .v x::r,b,h=>by have wq:=Option.some.inj h;clear h;subst wq;simp [rowS,ME.sem]
 | .seg n::r,b,h=>by
  dsimp only [ZaI] at h
  cases q:ZaI r with
  | none=>rw [q] at h;exact nN h
  | some c=>
   cases c with
   | true=>rw [q] at h;exact nN h
   | false=>
    rw [q] at h
    have wq:=Option.some.inj h;clear h;subst wq
    have:=ZbR q
    constructor
    ·intro e;exact nB e
    ·intro e
     have e2:ν.g n++rowS ν r=[]:=e
     rw [List.append_eq_nil_iff] at e2
     exact absurd (this.mpr e2.2) (by simp)
theorem ZbM {ds:List PyData} {n:Nat} (h:∀ d ∈ ds,d.canLay0=true∧d.depth≤n) (hn:n≤40):SeqAt.shaped (.tuple ds)=true∧SeqAt.shaped (.list ds)=true:=by
 refine e0_2 (Zm1 n h) λh1 h2=>?_
 constructor<;>(unfold SeqAt.shaped;simp only [PyData.canLay0,PyData.depth,h1,Bool.true_and];exact decide_eq_true (by omega))
end Mine
end
section
namespace Mine
noncomputable def RC (G:Gl) (B:Bs) (Γ:Tab) (ν:Vn) (ρ:List (Addr × Obj)) (P:Bool->St->Prop) (rv:Value) (rs:Shared):Prop:=∃ b,rv = .bool b∧RB G B Γ ν ρ P b rs
variable {G:Gl} {B:Bs} {Γ:Tab} {ν:Vn} {ρ:List (Addr × Obj)} {s:St} {rs:Shared} {E:Value->Shared->Prop} {d:Nat}
theorem RC.here {P:Bool->St->Prop} {b:Bool} (h:P b s) (x:Gd G B Γ ν ρ s rs):RC G B Γ ν ρ P (.bool b) rs:=⟨b,rfl,RB.here h x⟩
theorem Gd.facts {f:List (Cnd × Bool)} (x:Gd G B Γ ν ρ s rs) (h:FxOk ν f):Gd G B Γ ν ρ { s with facts:=f } rs:=⟨h,x.hs⟩
theorem Gd.kin (O:Ok G B d) (x:Gd G B Γ ν ρ s rs):G.K.In rs.heap:=by
 obtain ⟨m,led,F,_⟩:=x.hs.ex
 exact O.kin.keeps F.keep
theorem ZfC (O:Ok G B d) (T:TOk G Γ) (x:Gd G B Γ ν ρ s rs) {a:MV} {xs:List ME} {ra:Value} (h:rowT Γ s a=some xs) (ha:V ρ (a.sem ν) ra) (hf:∀ v ∈ rowS ν xs,Flat v):Reads rs.heap ra (.tuple ((rowS ν xs).map rdS)) []:=by
 revert a;show Fa _ _;refine MV.on_ref_glob zN0 zN1 zN1 zN1 zN1 zN1 zN1 (λn h=>?_) (λv h=>?_)<;>intro ha
 ·refine byP λXX kX=>?_
  refine e2_2 (vref ha) λb o wq hb=>?_;subst wq
  (unfold rowT at h;try dsimp only at h)
  generalize hc:cell Γ s n=wo at h
  revert hc;revert wo;show Fa _ _;refine Opt.on_some zN0 (λob h=>?_);intro hc
  revert ob;show Fa _ _;refine MO.on_tuple zN2 zN1 zN1 zN1 zN2 zN1 (λys h=>?_);intro hc
  cases h
  refine e2_3 (x.hs.tuple (xs:=rowS ν xs) (Zac (ν:=ν) hc) hb) λvs k e hv _=>?_
  refine kX ?_
  exact reads_tuple_at e rfl rfl (by simpa using Flat.readsAll rs.heap hf hv)
 ·refine byP λXX kX=>?_
  refine e0_2 (V.glob_inv ha) λwq _=>?_;clear ha;subst wq
  cases ra with
  | ref b=>
   (unfold rowT at h;try dsimp only at h)
   cases hc:lookN b Γ.tups with
   | none=>rw [hc] at h;exact nN h
   | some l=>
    cases l with
    | nil=>
     rw [hc] at h
     have wq:=Option.some.inj h;clear h;subst wq
     refine e2_2 (T.tups b _ hc) λvs n e hv=>?_
     have wq:=VL.nil_inv hv;clear hv;subst wq
     refine kX ?_
     exact reads_tuple_at (x.kin O _ _ e) rfl rfl (by simpa [rowS] using ReadsAll.nil)
    | cons _ _=>rw [hc] at h;exact nN h
  | _=>exact nN h
theorem ZkL (O:Ok G B d) (T:TOk G Γ) (hν:ν.ok) (x:Gd G B Γ ν ρ s rs) {a b:MV} {ra rb:Value} (h:Zd5 Γ s a b=true) (ha:V ρ (a.sem ν) ra) (hb:V ρ (b.sem ν) rb):
 ∃ d,Reads rs.heap ra d []∧Reads rs.heap rb d []∧d.canLay0=true∧d.depth≤1∧PyData.eqv d d=true:=by
 unfold Zd5 at h
 cases h1:rowT Γ s a with
 | some xs=>
  cases h2:rowT Γ s b with
  | some ys=>
   rw [h1,h2] at h
   refine byP λXX kX=>?_
   refine e0_2 (Zcl hν h) λe hf=>?_
   refine e0_2 (Zm1 (ds:=(rowS ν xs).map rdS) 0 λd hd=>by
    obtain ⟨v,hv,rfl⟩:=List.mem_map.mp hd
    have:=(hf v hv).lay
    exact ⟨this.1,Nat.le_of_eq this.2⟩) λl1 l2=>?_
   refine kX ?_
   refine i1_5 (.tuple ((rowS ν xs).map rdS)) (ZfC O T x h1 ha hf) ?_ (by simpa only [PyData.canLay0] using l1) (by dsimp only [PyData.depth];omega) ?_
   ·rw [e] at hf ⊢;exact ZfC O T x h2 hb hf
   ·dsimp only [PyData.eqv]
    exact Zet λd hd=>by
     refine e1_2 (List.mem_map.mp hd) λv hv wq=>?_;subst wq
     exact (hf v hv).eqv
  | none=>rw [h1,h2] at h;exact nB h
 | none=>
  rw [h1] at h
  refine e0_2 (ZaY hν h) λe f=>?_
  exact i1_5 (rdS (a.sem ν)) (f.reads ha _) (by rw [e] at f ⊢;exact f.reads hb _) (f.lay.1) (by rw [f.lay.2];omega) (f.eqv)
theorem Zd3 {hp:Heap} {l:List SV} {us ws:List Value} {ds:List PyData} {as:List Addr} (hf:∀ v ∈ l,Flat v) (a:VL ρ l us) (b:ReadsAll hp ws ds as):ReadsAll hp (us++ws) (l.map rdS++ds) as:=by
 induction a with
 | nil=>exact b
 | cons x _ ih=>exact ReadsAll.cons ((hf _ (.head _)).reads x hp) (ih λv hv=>hf v (.tail _ hv))
theorem ZiG {l1 l2:List SV} {us:List Value} (h:VL ρ (l1++l2) us):∃ u1 u2,us=u1++u2∧VL ρ l1 u1∧VL ρ l2 u2:=by
 induction l1 generalizing us with
 | nil=>exact i2_3 ([]) us rfl .nil h
 | cons v l ih=>
  refine e2_3 (VL.cons_inv (show VL ρ (v::(l++l2)) us from h)) λu r e h1 h2=>?_
  refine e2_3 (ih h2) λu1 u2 e2 k1 k2=>?_
  exact i2_3 (u::u1) u2 (by rw [e,e2];rfl) (.cons h1 k1) k2
theorem Zje (O:Ok G B d) (T:TOk G Γ) (hν:ν.ok) (x:Gd G B Γ ν ρ s rs):∀ {xs ys:List ME} {vs ws:List Value},ZbY (Zd5 Γ s) xs ys=true->VL ρ (rowS ν xs) vs->VL ρ (rowS ν ys) ws->
 ∃ ds,ReadsAll rs.heap vs ds []∧ReadsAll rs.heap ws ds []∧∀ d ∈ ds,(d.canLay0=true∧d.depth≤1)∧PyData.eqv d d=true:=by
 intro xs
 induction xs with
 | nil=>
  intro ys vs ws
  revert ys;show Fa _ _;refine Lis.on_nil zB2 (λ_ a b=>?_)
  rw [VL.nil_inv a,VL.nil_inv b]
  exact i1_3 ([]) .nil .nil (λ_ h=>nomatch h)
 | cons e r ih=>
  cases e with
  | v p=>
   intro ys vs ws
   revert ys;show Fa _ _;refine Lis.on_cons zB0 (λe2 t h=>?_)
   revert h;revert e2;show Fa _ _;refine ME.on_v zB1 (λq h a b=>?_)
   replace h:=Bool.and_eq_true_iff.mp (show (Zd5 Γ s p q&&ZbY (Zd5 Γ s) r t)=true from h)
   refine e2_3 (VL.cons_inv (show VL ρ (p.sem ν::rowS ν r) vs from a)) λv1 v2 ea a1 a2=>?_
   refine e2_3 (VL.cons_inv (show VL ρ (q.sem ν::rowS ν t) ws from b)) λw1 w2 eb b1 b2=>?_
   refine e1_5 (ZkL O T hν x h.1 a1 b1) λd h1 h2 h3 h4 h5=>?_
   refine e1_3 (ih h.2 a2 b2) λds k1 k2 k3=>?_
   rw [ea,eb]
   exact i1_3 (d::ds) (ReadsAll.cons h1 k1) (ReadsAll.cons h2 k2) (List.forall_mem_cons.mpr ⟨⟨⟨h3,h4⟩,h5⟩,k3⟩)
  | seg n=>
   intro ys vs ws
   revert ys;show Fa _ _;refine Lis.on_cons zB0 (λe2 t h=>?_)
   revert h;revert e2;show Fa _ _;refine ME.on_seg zB1 (λk h a b=>?_)
   replace h:=Bool.and_eq_true_iff.mp (show ((Nat.beq n k&&Nat.blt n 100)&&ZbY (Zd5 Γ s) r t)=true from h)
   have h1:=Bool.and_eq_true_iff.mp h.1
   have e:=Nat.eq_of_beq_eq_true h1.1
   subst e
   refine e2_3 (ZiG (show VL ρ (ν.g n++rowS ν r) vs from a)) λu1 u2 ea a1 a2=>?_
   refine e2_3 (ZiG (show VL ρ (ν.g n++rowS ν t) ws from b)) λw1 w2 eb b1 b2=>?_
   refine e1_3 (ih h.2 a2 b2) λds k1 k2 k3=>?_
   have hf:=Zgf hν h1.2
   rw [ea,eb]
   refine i1_3 ((ν.g n).map rdS++ds) (Zd3 hf a1 k1) (Zd3 hf b1 k2) (λe he=>?_)
   refine Or.elim (List.mem_append.mp he) (λhe=>?_) (λhe=>k3 e he)
   refine e1_2 (List.mem_map.mp he) λv hv wq6=>?_
   rw [←wq6]
   exact ⟨⟨(hf v hv).lay.1,(hf v hv).lay.2 ▸ Nat.zero_le _⟩,(hf v hv).eqv⟩
theorem Zie (O:Ok G B d) (T:TOk G Γ) (hν:ν.ok) (x:Gd G B Γ ν ρ s rs) {n k:Nat} {ra rb:Value} {P:Bool->St->Prop} (h:(ZnT Γ n k s).All ν P) (ha:V ρ (.ref n) ra) (hb:V ρ (.ref k) rb):
 ∃ b da db as bs,P b s∧Reads rs.heap ra da as∧Reads rs.heap rb db bs∧SeqAt.shaped da=true∧SeqAt.shaped db=true∧PyData.eqv da db=b:=by
 refine byP λXX kX=>?_
 refine e2_2 (vref ha) λa ao wq ha'=>?_;subst wq
 refine e2_2 (vref hb) λb bo wq hb'=>?_;subst wq
 unfold ZnT at h
 cases hc:cell Γ s n with
 | none=>rw [hc] at h;exact h.elim
 | some ob=>
  cases hd:cell Γ s k with
  | none=>refine kX ?_;rw [hc,hd] at h;cases ob<;>exact h.elim
  | some oc=>
   rw [hc,hd] at h
   refine kX ?_
   have nilcase:∀ {xs:List ME},(ZjK s xs).All ν P->∃ b,P b s∧(∀ v ∈ rowS ν xs,Flat v)∧(b=true ↔ rowS ν xs=[]):=by
    intro xs q
    unfold ZjK at q
    generalize f:Zev xs=wo at q
    revert f;revert wo;show Fa _ _;refine Boo.on_true zF0 (λq=>?_);intro f
    rw [cond_true] at q
    generalize em:ZaI xs=wo at q
    revert em;revert wo;show Fa _ _;refine Opt.on_some zF0 (λb q=>?_);intro em
    exact i1_3 b q (ZdI hν f) (ZbR em)
   refine byP λXX kX=>?_
   have flatlay:∀ {l:List SV},(∀ v ∈ l,Flat v)->∀ d ∈ l.map rdS,d.canLay0=true∧d.depth≤0:=λhf d hd=>by
    refine e1_2 (List.mem_map.mp hd) λv hv wq=>?_;subst wq
    exact i0_2 ((hf v hv).lay.1) (Nat.le_of_eq (hf v hv).lay.2)
   revert hc;revert ob;show Fa _ _;refine MO.on_list_tuple zF2 zF1 zF1 zF2 zF1 (λxs h=>?_) (λxs h=>?_)<;>intro hc
   ·revert hd;revert oc;show Fa _ _;refine MO.on_list zF2 zF1 zF1 zF1 zF2 zF1 (λys h=>?_);intro hd
    revert ys;show Fa _ _;refine Lis.on_nil zF2 (λh=>?_);intro hd
    refine e1_3 (nilcase h) λt hP hf ht=>?_
    refine e2_3 (x.hs.list (xs:=rowS ν xs) (Zac (ν:=ν) hc) ha') λvs i e1 hv _=>?_
    refine e2_3 (x.hs.list (xs:=[]) (Zac (ν:=ν) hd) hb') λws j e2 hw _=>?_
    have wq:=VL.nil_inv hw;clear hw;subst wq
    refine kX ?_
    refine i5_6 t _ _ _ _ hP (reads_list_at e1 rfl rfl (by simpa using Flat.readsAll rs.heap hf hv)) (reads_list_at e2 rfl rfl (by simpa using ReadsAll.nil)) ((ZbM (flatlay hf) (by omega)).2) ((ZbM (n:=0) (ds:=[]) (by simp) (by omega)).2) ?_
    generalize hq:rowS ν xs=wo at ht
    cases wo with
    | nil=>dsimp only [List.map_nil,PyData.eqv,PyData.eqvAll];exact (ht.mpr rfl).symm
    | cons v r=>
     dsimp only [List.map_cons,PyData.eqv,PyData.eqvAll]
     cases t with
     | true=>exact absurd (ht.mp rfl) (by simp)
     | false=>rfl
   ·revert hd;revert oc;show Fa _ _;refine MO.on_tuple zF2 zF1 zF1 zF1 zF2 zF1 (λys h=>?_);intro hd
    refine e2_3 (x.hs.tuple (xs:=rowS ν xs) (Zac (ν:=ν) hc) ha') λvs i e1 hv _=>?_
    refine e2_3 (x.hs.tuple (xs:=rowS ν ys) (Zac (ν:=ν) hd) hb') λws j e2 hw _=>?_
    have h':(ZmT Γ s xs ys).All ν P:=h
    cases ys with
    | nil=>
     refine e1_3 (nilcase (show (ZjK s xs).All ν P from h')) λt hP hf ht=>?_
     have hw':VL ρ [] ws:=hw
     have wq:=VL.nil_inv hw';clear hw';subst wq
     refine kX ?_
     refine i5_6 t _ _ _ _ hP (reads_tuple_at e1 rfl rfl (by simpa using Flat.readsAll rs.heap hf hv)) (reads_tuple_at e2 rfl rfl (by simpa using ReadsAll.nil)) ((ZbM (flatlay hf) (by omega)).1) ((ZbM (n:=0) (ds:=[]) (by simp) (by omega)).1) ?_
     generalize hq:rowS ν xs=wo at ht
     cases wo with
     | nil=>dsimp only [List.map_nil,PyData.eqv,PyData.eqvAll];exact (ht.mpr rfl).symm
     | cons v r=>
      dsimp only [List.map_cons,PyData.eqv,PyData.eqvAll]
      cases t with
      | true=>exact absurd (ht.mp rfl) (by simp)
      | false=>rfl
    | cons y r=>
     have h2:(bif ZbY (Zd5 Γ s) xs (y::r) then (Res.ret true s:Res Bool) else .stuck "eq tuple").All ν P:=h'
     refine e0_2 (Zak h2) λq h2=>?_
     refine e1_3 (Zje O T hν x q hv hw) λds k1 k2 k3=>?_
     refine kX ?_
     refine i5_6 true (.tuple ds) (.tuple ds) _ _ h2 (reads_tuple_at e1 rfl rfl (by simpa using k1)) (reads_tuple_at e2 rfl rfl (by simpa using k2)) ((ZbM (λd hd=>(k3 d hd).1) (by omega)).1) ((ZbM (λd hd=>(k3 d hd).1) (by omega)).1) ?_
     dsimp only [PyData.eqv]
     exact Zet λd hd=>(k3 d hd).2
end Mine
end
section
namespace Mine
variable {G:Gl} {B:Bs} {Γ:Tab} {ν:Vn} {ρ:List (Addr × Obj)} {s:St} {rs:Shared} {E:Value->Shared->Prop} {d:Nat}
theorem leq_eq:∀ {x y:List Nat},leq x y=true ↔ x=y
 | [],[]=>⟨λ_=>rfl,λ_=>rfl⟩
 | [],_::_=>⟨λh=>nB h,λh=>nomatch h⟩
 | _::_,[]=>⟨λh=>nB h,λh=>nomatch h⟩
 | a::r,b::t=>by
  refine ⟨λh=>?_,λh=>?_⟩
  ·have h1:=Bool.and_eq_true_iff.mp (show (Nat.beq a b&&leq r t)=true from h)
   rw [Nat.eq_of_beq_eq_true h1.1,leq_eq.mp h1.2]
  ·rw [(List.cons.inj h).1,(List.cons.inj h).2]
   exact Bool.and_eq_true_iff.mpr ⟨Nat.beq_refl _,leq_eq.mpr rfl⟩
theorem natIn_iff {n:Nat}:∀ {l:List Nat},Zg0 n l=true ↔ n ∈ l
 | []=>by simp [Zg0]
 | k::r=>by
  simp only [Zg0,Bool.or_eq_true,natIn_iff (l:=r),List.mem_cons]
  constructor
  ·rintro (h | h)
   ·exact .inl (Nat.eq_of_beq_eq_true h)
   ·exact .inr h
  ·rintro (rfl | h)
   ·exact .inl (Nat.beq_refl _)
   ·exact .inr h
theorem ZdB (x y:List Nat):(Zaa x==Zaa y)=leq x y:=by
 cases h:leq x y with
 | true=>rw [leq_eq.mp h];simp
 | false=>
  have:x ≠ y:=λe=>by rw [leq_eq.mpr e] at h;exact nT h
  simp only [beq_eq_false_iff_ne,ne_eq,Zaa,Str.mk.injEq]
  intro e
  exact this (by simpa using congrArg Array.toList e)
theorem Ok.units (O:Ok G B d):B.A.units+64<cLine:=by have:=O.uni;omega
theorem vint {l:Int} {rv:Value} (h:V ρ (.int l) rv):∃ t,rv = .int l t:=by cases h;exact i1_1 _ rfl
theorem vstr {x:List Nat} {rv:Value} (h:V ρ (.str x) rv):∃ t,rv = .str (Zaa x) t:=by cases h;exact i1_1 _ rfl
theorem Zfe {b:Bool} {rv:Value} (h:V ρ (.bool b) rv):rv = .bool b:=by cases h;rfl
theorem Zo0 {rv:Value} (h:V ρ .none rv):rv = .none:=by cases h;rfl
set_option tactic.hygienic true in
theorem Zqe (O:Ok G B d) (T:TOk G Γ) (hν:ν.ok) {a b:MV} {ra rb:Value} {P:Bool->St->Prop} (h:(eqOf Γ a b s).All ν P) (x:Gd G B Γ ν ρ s rs) (ha:V ρ (a.sem ν) ra) (hb:V ρ (b.sem ν) rb):
 wpAny G.M B.A (compareOp .Eq ra rb) (RC G B Γ ν ρ P) E rs:=by
 cases a<;>cases b<;>(unfold eqOf at h;try dsimp only at h)<;>first | exact h.elim | skip
 ·rw [Zfe ha,Zfe hb];exact eq_bool (RC.here h x)
 ·refine e1_1 (vint ha) λt wq=>?_;subst wq
  refine e1_1 (vint hb) λu wq=>?_;subst wq
  refine e2_3 (Zem h x.fx) λc f hc hf hP=>?_
  refine eq_int ⟨_,rfl,ρ,_,List.prefix_refl _,?_,x.facts hf⟩
  rename_i l1 l2
  have:(l1.ev ν.x==l2.ev ν.x)=c:=by
   cases c with
   | true=>have:=hc.mp rfl;simp only [Cnd.holds,Zb9] at this;simp;omega
   | false=>
    have:¬(Cnd.zer (l1.sub l2)).holds ν:=λq=>by have:=hc.mpr q;exact nB this
    simp only [Cnd.holds,Zb9] at this;simp;omega
  rw [this];exact hP
 ·refine e1_1 (vstr ha) λt wq=>?_;subst wq
  refine e1_1 (vstr hb) λu wq=>?_;subst wq
  exact eq_str (by rw [ZdB];exact RC.here h x)
 ·refine e5_6 (Zie O T hν x h ha hb) λt da db as bs hP h1 h2 h3 h4 h5=>?_
  exact eq_dataH h1 h2 h3 h4 O.units (by rw [h5];exact RC.here hP x)
set_option tactic.hygienic true in
theorem Zql (O:Ok G B d) (T:TOk G Γ) (hν:ν.ok) {a b:MV} {ra rb:Value} {P:Bool->St->Prop} (h:(notR (eqOf Γ a b s)).All ν P) (x:Gd G B Γ ν ρ s rs) (ha:V ρ (a.sem ν) ra) (hb:V ρ (b.sem ν) rb):
 wpAny G.M B.A (compareOp .NotEq ra rb) (RC G B Γ ν ρ P) E rs:=by
 unfold notR at h
 rw [all_bind] at h
 cases a<;>cases b<;>(try exact False.elim h)<;>(unfold eqOf at h;try dsimp only at h)
 ·rw [Zfe ha,Zfe hb]
  rename_i p q
  refine ne_dataH (Reads.bool _) (Reads.bool _) (by simp [SeqAt.shaped,PyData.canLay0,PyData.depth]) (by simp [SeqAt.shaped,PyData.canLay0,PyData.depth]) O.units ?_
  have:(PyData.eqv (.bool p) (.bool q))=(p==q):=by simp [PyData.eqv]
  rw [this];exact RC.here h x
 ·refine e1_1 (vint ha) λt wq=>?_;subst wq
  refine e1_1 (vint hb) λu wq=>?_;subst wq
  refine e2_3 (Zem h x.fx) λc f hc hf hP=>?_
  refine ne_int ⟨_,rfl,ρ,_,List.prefix_refl _,?_,x.facts hf⟩
  rename_i l1 l2
  have:(l1.ev ν.x != l2.ev ν.x) = !c:=by
   cases c with
   | true=>have:=hc.mp rfl;simp only [Cnd.holds,Zb9] at this;simp;omega
   | false=>
    have:¬(Cnd.zer (l1.sub l2)).holds ν:=λq=>by have:=hc.mpr q;exact nB this
    simp only [Cnd.holds,Zb9] at this;simp;omega
  rw [this];exact hP
 ·refine e1_1 (vstr ha) λt wq=>?_;subst wq
  refine e1_1 (vstr hb) λu wq=>?_;subst wq
  refine ne_str ?_
  rename_i p q
  have:(Zaa p != Zaa q) = !leq p q:=by rw [←ZdB];rfl
  rw [this]
  exact RC.here h x
 ·refine e5_6 (Zie O T hν x h ha hb) λt da db as bs hP h1 h2 h3 h4 h5=>?_
  exact ne_dataH h1 h2 h3 h4 O.units (by rw [h5];exact RC.here hP x)
theorem Ziq {a b:MV} {P:Bool->St->Prop} (h:(ltOf a b s).All ν P) (hf:FxOk ν s.facts):∃ p q c f,a = .int p∧b = .int q∧(c=true ↔ p.ev ν.x<q.ev ν.x)∧FxOk ν f∧P c { s with facts:=f }:=by
 revert a;show Fa _ _;refine MV.on_int zF0 zF1 zF1 zF1 zF1 zF1 zF1 zF1 (λ_ h=>?_)<;>(unfold ltOf at h;try dsimp only at h)
 revert b;show Fa _ _;refine MV.on_int zF0 zF1 zF1 zF1 zF1 zF1 zF1 zF1 (λ_ h=>?_)<;>(try dsimp only at h)
 refine e2_3 (Zem h hf) λc f hc hf' hP=>?_
 refine i4_5 _ _ c f rfl rfl ?_ hf' hP
 rw [hc];simp only [Cnd.holds,Zb9];omega
theorem ZhB (c:Nat) (z:List Nat):(!(Builtin.Str.occurrences (Zaa z) (Zaa [c]) 0 (Zaa z).length 1).isEmpty)=Zg0 c z:=by
 have e:=StrLaws.found_one (Zaa z) c
 refine (show _=_ from e).trans ?_
 cases q:Zg0 c z with
 | true=>exact decide_eq_true (by simpa [Zaa] using natIn_iff.mp q)
 | false=>
  refine decide_eq_false λw=>?_
  have:=natIn_iff.mpr (show c ∈ z by simpa [Zaa] using w)
  rw [q] at this;exact nB this
theorem ZiV {z y:List Nat} (hl:z.length<y.length):(!(Builtin.Str.occurrences (Zaa z) (Zaa y) 0 (Zaa z).length 1).isEmpty)=false:=by
 cases w:(!(Builtin.Str.occurrences (Zaa z) (Zaa y) 0 (Zaa z).length 1).isEmpty) with
 | false=>rfl
 | true=>
  refine e1_2 ((StrLaws.found_iff _ _).mp w) λi hi _=>?_
  have l1:(Zaa z).length=z.length:=by simp [Zaa,Str.length]
  have l2:(Zaa y).length=y.length:=by simp [Zaa,Str.length]
  omega
theorem ZgG {y z:List Nat} {P:Bool->St->Prop} (h:(ZlC y z s).All ν P):P (!(Builtin.Str.occurrences (Zaa z) (Zaa y) 0 (Zaa z).length 1).isEmpty) s:=by
 cases y with
 | nil=>
  (unfold ZlC at h;try dsimp only at h)
  cases q:Nat.blt z.length ([]:List Nat).length with
  | true=>exact absurd (Nat.le_of_ble_eq_true q) (by simp)
  | false=>rw [q] at h;exact h.elim
 | cons c r=>
  cases r with
  | nil=>rw [ZhB];exact h
  | cons c2 r=>
   (unfold ZlC at h;try dsimp only at h)
   cases q:Nat.blt z.length (c::c2::r).length with
   | false=>rw [q] at h;exact h.elim
   | true=>rw [q] at h;rw [ZiV (Nat.le_of_ble_eq_true q)];exact h
theorem Zfh:∀ {xs:List ME} {l:List (List Nat)},ZbB xs=some l->rowS ν xs=l.map SV.str
 | [],l,h=>by have wq:=Option.some.inj h;clear h;subst wq;rfl
 | .seg _::_,l,h=>by exact nN h
 | .v w::r,l,h=>by
  cases w<;>dsimp only [ZbB] at h<;>first | cases h;done | skip
  generalize q:ZbB r=wo at h
  revert q;revert wo;show Fa _ _;refine Opt.on_some zN0 (λl' h=>?_);intro q
  have wq:=Option.some.inj h;clear h;subst wq
  show SV.str _::rowS ν r=_
  rw [Zfh q];rfl
set_option tactic.hygienic true in
theorem Zqg (O:Ok G B d) (T:TOk G Γ) {a b:MV} {ra rb:Value} {P:Bool->St->Prop} (h:(inOf Γ a b s).All ν P) (x:Gd G B Γ ν ρ s rs) (ha:V ρ (a.sem ν) ra) (hb:V ρ (b.sem ν) rb):
 wpAny G.M B.A (compareOp .In ra rb) (RC G B Γ ν ρ P) E rs:=by
 have anyOk:∀ {y:List Nat} {l:List (List Nat)},((l.map Zaa).any λz=>z==Zaa y)=anyL y l:=by
  intro y l
  induction l with
  | nil=>rfl
  | cons z r ih=>simp only [List.map_cons,List.any_cons,anyL,ZdB,ih]
 have sts:∀ {l:List (List Nat)} {vs:List Value} {ρ:List (Addr × Obj)},VL ρ (l.map SV.str) vs->StrsAre vs (l.map Zaa):=by
  intro l
  induction l with
  | nil=>intro vs ρ h;have wq:=VL.nil_inv h;clear h;subst wq;exact .nil
  | cons z r ih=>
   intro vs ρ h
   refine e2_3 (VL.cons_inv h) λ_ _ wq h1 h2=>?_;clear h;subst wq
   refine e1_1 (vstr h1) λt wq=>?_;subst wq;exact .cons _ _ (ih h2)
 revert a;show Fa _ _;refine MV.on_str zF0 zF1 zF1 zF1 zF1 zF1 zF1 zF1 (λ_ h=>?_)<;>intro ha<;>(unfold inOf at h;try dsimp only at h)
 refine e1_1 (vstr ha) λt wq=>?_;subst wq
 rename_i y
 revert hb;revert b;show Fa _ _;refine MV.on_str_ref_glob zF0 zF1 zF1 zF1 zF1 zF1 (λ_ h=>?_) (λ_ h=>?_) (λ_ h=>?_)<;>intro hb<;>(try dsimp only at h)
 ·refine e1_1 (vstr hb) λu wq=>?_;subst wq
  rename_i z
  exact in_str (RC.here (ZgG h) x)
 ·refine e2_2 (vref hb) λb o wq hb'=>?_;subst wq
  rename_i n
  generalize hc:cell Γ s n=wo at h
  revert hc;revert wo;show Fa _ _;refine Opt.on_some zF0 (λob h=>?_);intro hc
  revert ob;show Fa _ _;refine MO.on_tuple zF2 zF1 zF1 zF1 zF2 zF1 (λ_ h=>?_)<;>intro hc<;>(try dsimp only at h)
  rename_i xs
  generalize hl:ZbB xs=wo at h
  revert hl;revert wo;show Fa _ _;refine Opt.on_some zF0 (λl h=>?_);intro hl
  refine byP λXX kX=>?_
  refine e2_3 (x.hs.tuple (xs:=rowS ν xs) (Zac (ν:=ν) hc) hb') λvs k e hv _=>?_
  refine kX ?_
  have hr:rowS ν xs=l.map SV.str:=Zfh hl
  rw [hr] at hv
  exact in_tuple_strs (Zam e) (by simpa using sts hv) (by rw [anyOk];exact RC.here h x)
 ·refine e0_2 (V.glob_inv hb) λwq _=>?_;clear hb;subst wq
  cases rb<;>(try exact False.elim h)<;>(try dsimp only at h)
  rename_i b _
  generalize hl:lookN b Γ.tups=wo at h
  revert hl;revert wo;show Fa _ _;refine Opt.on_some zF0 (λl h=>?_);intro hl
  refine byP λXX kX=>?_
  refine e2_2 (T.tups b _ hl) λvs n e hv=>?_
  refine kX ?_
  exact in_tuple_strs (Zam (x.kin O _ _ e)) (by simpa using sts hv) (by rw [anyOk];exact RC.here h x)
theorem ZlY {a b:MV} {ra rb:Value} {P:Bool->St->Prop} {z:List Nat} (hz:b = .str z) (h:(notR (inOf Γ a b s)).All ν P) (x:Gd G B Γ ν ρ s rs) (ha:V ρ (a.sem ν) ra) (hb:V ρ (b.sem ν) rb):
 wpAny G.M B.A (compareOp .NotIn ra rb) (RC G B Γ ν ρ P) E rs:=by
 subst hz
 unfold notR at h
 rw [all_bind] at h
 revert ha;revert a;show Fa _ _;refine MV.on_str zF0 zF1 zF1 zF1 zF1 zF1 zF1 zF1 (λ_ h=>?_)<;>intro ha<;>(unfold inOf at h;try dsimp only at h)
 refine e1_1 (vstr ha) λt wq=>?_;subst wq
 refine e1_1 (vstr hb) λu wq=>?_;subst wq
 rename_i y
 exact notIn_str (RC.here (ZgG h) x)
theorem Zfo (O:Ok G B d) (T:TOk G Γ) (hν:ν.ok) {op:CmpOp} {a b:MV} {ra rb:Value} {P:Bool->St->Prop} (h:(ZdG Γ op a b s).All ν P) (x:Gd G B Γ ν ρ s rs) (ha:V ρ (a.sem ν) ra) (hb:V ρ (b.sem ν) rb):
 wpAny G.M B.A (compareOp op ra rb) (RC G B Γ ν ρ P) E rs:=by
 have isCase:∀ {t:Bool},(isOf t a b s).All ν P->rb = .none∧∃ r,P (r==t) s∧(ra==Value.none)=r:=by
  intro t q
  cases b<;>dsimp only [isOf] at q<;>first | exact q.elim | skip
  refine i0_2 (Zo0 hb) ?_
  cases a<;>dsimp only [Zj4] at q<;>first | exact q.elim | skip
  ·exact i1_2 true q (by rw [Zo0 ha];rfl)
  ·exact i1_2 false q (by rw [Zfe ha];rfl)
  ·refine e1_1 (vint ha) λ_ wq=>?_;subst wq;exact i1_2 false q rfl
  ·refine e1_1 (vstr ha) λ_ wq=>?_;subst wq;exact i1_2 false q rfl
  ·refine e2_2 (vref ha) λ_ _ wq _=>?_;subst wq;exact i1_2 false q rfl
  ·refine e2_2 (vref ha) λ_ _ wq _=>?_;subst wq;exact i1_2 false q rfl
  ·refine e1_1 (vstr ha) λ_ wq=>?_;subst wq;exact i1_2 false q rfl
 cases op<;>(unfold ZdG at h;try dsimp only at h)
 ·exact Zqe O T hν h x ha hb
 ·exact Zql O T hν h x ha hb
 ·refine e4_5 (Ziq h x.fx) λp q c f wq wqb hc hf hP=>?_;subst wq;subst wqb
  refine e1_1 (vint ha) λt wq=>?_;subst wq
  refine e1_1 (vint hb) λu wq=>?_;subst wq
  refine lt_int ⟨_,rfl,ρ,_,List.prefix_refl _,?_,x.facts hf⟩
  rw [show decide (p.ev ν.x<q.ev ν.x)=c from by cases c<;>simp_all];exact hP
 ·unfold notR at h
  rw [all_bind] at h
  refine e4_5 (Ziq h x.fx) λp q c f wq wqb hc hf hP=>?_;subst wq;subst wqb
  refine e1_1 (vint ha) λt wq=>?_;subst wq
  refine e1_1 (vint hb) λu wq=>?_;subst wq
  refine le_int ⟨_,rfl,ρ,_,List.prefix_refl _,?_,x.facts hf⟩
  rw [show decide (q.ev ν.x≤p.ev ν.x) = !c from by
   cases c with
   | true=>have:=hc.mp rfl;simp;omega
   | false=>have:¬p.ev ν.x<q.ev ν.x:=λw=>by have:=hc.mpr w;exact nB this
            simp;omega]
  exact hP
 ·refine e4_5 (Ziq h x.fx) λp q c f wq wqb hc hf hP=>?_;subst wq;subst wqb
  refine e1_1 (vint ha) λt wq=>?_;subst wq
  refine e1_1 (vint hb) λu wq=>?_;subst wq
  refine gt_int ⟨_,rfl,ρ,_,List.prefix_refl _,?_,x.facts hf⟩
  rw [show decide (p.ev ν.x<q.ev ν.x)=c from by cases c<;>simp_all];exact hP
 ·unfold notR at h
  rw [all_bind] at h
  refine e4_5 (Ziq h x.fx) λp q c f wq wqb hc hf hP=>?_;subst wq;subst wqb
  refine e1_1 (vint ha) λt wq=>?_;subst wq
  refine e1_1 (vint hb) λu wq=>?_;subst wq
  refine ge_int ⟨_,rfl,ρ,_,List.prefix_refl _,?_,x.facts hf⟩
  rw [show decide (q.ev ν.x≤p.ev ν.x) = !c from by
   cases c with
   | true=>have:=hc.mp rfl;simp;omega
   | false=>have:¬p.ev ν.x<q.ev ν.x:=λw=>by have:=hc.mpr w;exact nB this
            simp;omega]
  exact hP
 ·refine e0_2 (isCase h) λwq wqb=>?_;subst wq;obtain ⟨r,hP,e⟩:=wqb
  exact is_none (by rw [e];cases r<;>exact RC.here hP x)
 ·refine e0_2 (isCase h) λwq wqb=>?_;subst wq;obtain ⟨r,hP,e⟩:=wqb
  exact isNot_none (by rw [e];cases r<;>exact RC.here hP x)
 ·exact Zqg O T h x ha hb
 ·cases b<;>(try dsimp only at h)<;>first | exact h.elim | exact ZlY rfl h x ha hb
end Mine
end
section
namespace Mine
variable {G:Gl} {B:Bs} {Γ:Tab} {ν:Vn} {ρ:List (Addr × Obj)} {s:St} {rs:Shared} {E:Value->Shared->Prop} {d:Nat}
theorem Zco (x y:List Nat):Zaa (x++y)=Zaa x++Zaa y:=by
 apply Str.ext'
 simp [Zaa,Str.cps_append]
theorem Zal (x:List Nat):(Zaa x).length=x.length:=by simp [Zaa,Str.length]
theorem Zjs (hν:ν.ok) {n k:Nat} {ra rb:Value} {P:MV->St->Prop} (h:(Zjr Γ n k s).All ν P) (x:Gd G B Γ ν ρ s rs) (ha:V ρ (.ref n) ra) (hb:V ρ (.ref k) rb):
 wpAny G.M B.A (binaryOp .Add ra rb) (RV G B Γ ν ρ P) E rs:=by
 refine byP λXX kX=>?_
 refine e2_2 (vref ha) λa ao wq ha'=>?_;subst wq
 refine e2_2 (vref hb) λb bo wq hb'=>?_;subst wq
 unfold Zjr at h
 cases hc:cell Γ s n with
 | none=>rw [hc] at h;exact h.elim
 | some ob=>
  cases hd:cell Γ s k with
  | none=>refine kX ?_;rw [hc,hd] at h;cases ob<;>exact h.elim
  | some oc=>
   rw [hc,hd] at h
   obtain ⟨m,led,F,N,R,Lc⟩:=x.hs.ex
   revert hc;revert ob;show Fa _ _;refine MO.on_list_tuple zF2 zF1 zF1 zF2 zF1 (λxs h=>?_) (λxs h=>?_)<;>intro hc
   ·revert hd;revert oc;show Fa _ _;refine MO.on_list zF2 zF1 zF1 zF1 zF2 zF1 (λys h=>?_);intro hd
    refine e2_3 (x.hs.list (xs:=rowS ν xs) (Zac (ν:=ν) hc) ha') λvs i e1 hv _=>?_
    refine e2_3 (x.hs.list (xs:=rowS ν ys) (Zac (ν:=ν) hd) hb') λws j e2 hw _=>?_
    refine kX ?_
    have hvw:VL ρ (rowS ν (xs++ys)) (vs++ws):=by rw [ZaL];exact hv.append hw
    have h2:(ZcP Γ (xs++ys) s).All ν P:=h
    unfold ZcP at h2
    refine e0_2 (Zak h2) λq h2=>?_
    have hs:=ZaC hν q
    have hl:=hvw.length
    refine add_arrays F N (Zan e1) (Zan e2) (λh' F' N'=>?_) (by
     simp only [List.size_toArray];rw [←List.length_append,hl,sizeLine_eq];omega)
    have hp:ρ <+: ρ++[(rs.heap.objs.size,(default:Obj))]:=List.prefix_append _ _
    refine ⟨_,_,_,hp,h2,by rw [Zav,←List.length_map (f:=id)];exact .ref (o:=default) (by simp [←R.l1]),x.fx,?_⟩
    rw [Zaw]
    refine ⟨⟨m,led++[[(rs.heap.objs.size,{ cls:=.type "list",data:=.seq (vs++ws).toArray })]],F',?_,R.push (.list (hvw.mono hp) hs) (by simp) ?_,Lc.mono hp⟩,x.hs.gens,x.hs.drawn,x.hs.os⟩
    ·exact λp hp'=>N' p (by simpa using ZaB hp')
    ·intro p hp' q hq
     simp only [List.mem_cons,List.not_mem_nil,or_false] at hp'
     subst hp'
     exact News.lt N q hq
   ·revert hd;revert oc;show Fa _ _;refine MO.on_tuple zF2 zF1 zF1 zF1 zF2 zF1 (λys h=>?_);intro hd
    refine e2_3 (x.hs.tuple (xs:=rowS ν xs) (Zac (ν:=ν) hc) ha') λvs i e1 hv _=>?_
    refine e2_3 (x.hs.tuple (xs:=rowS ν ys) (Zac (ν:=ν) hd) hb') λws j e2 hw _=>?_
    refine kX ?_
    have hvw:VL ρ (rowS ν (xs++ys)) (vs++ws):=by rw [ZaL];exact hv.append hw
    have hl1:=hv.length
    have hl2:=hw.length
    have h3:(match ZaI xs with
     | some true=>(Res.ret (.ref k) s:Res MV)
     | some false=>(match ZaI ys with
      | some true=>.ret (.ref n) s
      | some false=>Zdm Γ (xs++ys) s
      | none=>.stuck "add tuple")
     | none=>.stuck "add tuple").All ν P:=h
    have hsz:vs.length+ws.length≤sizeLine:=by rw [hl1,hl2,sizeLine_eq];omega
    cases ex:ZaI xs with
    | none=>rw [ex] at h3;exact h3.elim
    | some bx=>
     have hx:=ZbR (ν:=ν) ex
     cases bx with
     | true=>
      rw [ex] at h3
      have:vs=[]:=List.eq_nil_of_length_eq_zero (by rw [hl1,hx.mp rfl];rfl)
      exact add_tuples F N (Zam e1) (Zam e2) (λ_=>RV.here h3 hb x) (λq=>absurd this q) (λq=>absurd this q) hsz
     | false=>
      rw [ex] at h3
      refine byP λXX kX=>?_
      have nx:vs ≠ []:=λq=>by
       have:rowS ν xs=[]:=List.eq_nil_of_length_eq_zero (by rw [←hl1,q];rfl)
       have:=hx.mpr this;exact nB this
      cases ey:ZaI ys with
      | none=>rw [ey] at h3;exact h3.elim
      | some by_=>
       have hy:=ZbR (ν:=ν) ey
       cases by_ with
       | true=>
        rw [ey] at h3
        have:ws=[]:=List.eq_nil_of_length_eq_zero (by rw [hl2,hy.mp rfl];rfl)
        refine kX ?_
        exact add_tuples F N (Zam e1) (Zam e2) (λq=>absurd q nx) (λ_ _=>RV.here h3 ha x) (λ_ q=>absurd this q) hsz
       | false=>
        rw [ey] at h3
        have ny:ws ≠ []:=λq=>by
         have:rowS ν ys=[]:=List.eq_nil_of_length_eq_zero (by rw [←hl2,q];rfl)
         have:=hy.mpr this;exact nB this
        have h2:(Zdm Γ (xs++ys) s).All ν P:=h3
        unfold Zdm at h2
        refine e0_2 (Zak h2) λq h2=>?_
        have hs:=ZaC hν q
        refine kX ?_
        refine add_tuples F N (Zam e1) (Zam e2) (λq=>absurd q nx) (λ_ q=>absurd q ny) (λ_ _ h' F' N'=>?_) hsz
        have hp:ρ <+: ρ++[(rs.heap.objs.size,({ cls:=.type "tuple",data:=.seq (vs++ws).toArray }:Obj))]:=List.prefix_append _ _
        refine ⟨_,_,_,hp,h2,by rw [Zav];exact .ref (o:={ cls:=.type "tuple",data:=.seq (vs++ws).toArray }) (by simp [←R.l1]),x.fx,?_⟩
        rw [Zaw]
        refine ⟨⟨m,led++[[(rs.heap.objs.size,{ cls:=.type "tuple",data:=.seq (vs++ws).toArray })]],F',?_,R.push (.tuple (hvw.mono hp) hs) (by simp) ?_,Lc.mono hp⟩,x.hs.gens,x.hs.drawn,x.hs.os⟩
        ·exact λp hp'=>N' p (ZaB hp')
        ·intro p hp' q hq
         simp only [List.mem_cons,List.not_mem_nil,or_false] at hp'
         subst hp'
         exact News.lt N q hq
end Mine
end
section
namespace Mine
variable {G:Gl} {B:Bs} {Γ:Tab} {ν:Vn} {ρ:List (Addr × Obj)} {s:St} {rs:Shared} {E:Value->Shared->Prop} {d:Nat}
theorem Zo5 (hν:ν.ok) {a b:MV} {ra rb:Value} {P:MV->St->Prop} (h:(Znq Γ a b s).All ν P) (x:Gd G B Γ ν ρ s rs) (ha:V ρ (a.sem ν) ra) (hb:V ρ (b.sem ν) rb):
 wpAny G.M B.A (binaryOp .Add ra rb) (RV G B Γ ν ρ P) E rs:=by
 revert a;show Fa _ _;refine MV.on_int_str_ref zF0 zF1 zF1 zF1 zF1 zF1 (λ_ h=>?_) (λ_ h=>?_) (λ_ h=>?_)<;>intro ha<;>(unfold Znq at h;try dsimp only at h)
 ·revert hb;revert b;show Fa _ _;refine MV.on_int zF0 zF1 zF1 zF1 zF1 zF1 zF1 zF1 (λ_ h=>?_)<;>intro hb<;>(try dsimp only at h)
  refine e1_1 (vint ha) λt wq=>?_;subst wq
  refine e1_1 (vint hb) λu wq=>?_;subst wq
  exact add_int (RV.here h (by simp only [MV.sem,ZbE];exact .int _ _) (x.toks _))
 ·revert hb;revert b;show Fa _ _;refine MV.on_str zF0 zF1 zF1 zF1 zF1 zF1 zF1 zF1 (λ_ h=>?_)<;>intro hb<;>(try dsimp only at h)
  refine e1_1 (vstr ha) λt wq=>?_;subst wq
  refine e1_1 (vstr hb) λu wq=>?_;subst wq
  rename_i p q
  refine e0_2 (Zak h) λhl h=>?_
  have:=Nat.le_of_ble_eq_true hl
  refine add_str (λt' tk=>RV.here h ?_ (x.toks _)) (by rw [Zal,Zal,sizeLine_eq];omega)
  rw [←Zco];exact .str _ _
 ·revert hb;revert b;show Fa _ _;refine MV.on_ref zF0 zF1 zF1 zF1 zF1 zF1 zF1 zF1 (λ_ h=>?_)<;>intro hb<;>(try dsimp only at h)
  exact Zjs hν h x ha hb
theorem ZpW {a b:MV} {ra rb:Value} {P:MV->St->Prop} (h:(ZoJ a b s).All ν P) (x:Gd G B Γ ν ρ s rs) (ha:V ρ (a.sem ν) ra) (hb:V ρ (b.sem ν) rb):
 wpAny G.M B.A (binaryOp .Sub ra rb) (RV G B Γ ν ρ P) E rs:=by
 revert a;show Fa _ _;refine MV.on_int zF0 zF1 zF1 zF1 zF1 zF1 zF1 zF1 (λ_ h=>?_)<;>intro ha<;>(unfold ZoJ at h;try dsimp only at h)
 revert hb;revert b;show Fa _ _;refine MV.on_int zF0 zF1 zF1 zF1 zF1 zF1 zF1 zF1 (λ_ h=>?_)<;>intro hb<;>(try dsimp only at h)
 refine e1_1 (vint ha) λt wq=>?_;subst wq
 refine e1_1 (vint hb) λu wq=>?_;subst wq
 exact sub_int (RV.here h (by simp only [MV.sem,Zb9];exact .int _ _) (x.toks _))
noncomputable def OpOk (ν:Vn) (e:Operator × Lin × Lin × Nat):Prop:=match e.1 with
 | .Mult=>IntMulOk (e.2.1.ev ν.x) (e.2.2.1.ev ν.x)∧ν.x e.2.2.2=e.2.1.ev ν.x * e.2.2.1.ev ν.x
 | .FloorDiv=>(e.2.2.1.ev ν.x ≠ 0∧Builtin.divisionGoesByPylong (e.2.1.ev ν.x) (e.2.2.1.ev ν.x)=false)∧ν.x e.2.2.2=(e.2.1.ev ν.x).fdiv (e.2.2.1.ev ν.x)
 | .Mod=>e.2.2.1.ev ν.x ≠ 0∧ν.x e.2.2.2=(e.2.1.ev ν.x).fmod (e.2.2.1.ev ν.x)
 | _=>True
noncomputable def ZdE (Γ:Tab) (ν:Vn):Prop:=∀ e ∈ Γ.ops,OpOk ν e
theorem Zha {op:Operator} {a b:Lin} {k:Nat}:∀ {l:List (Operator × Lin × Lin × Nat)},Zkv op a b l=some k->∃ o,opEq op o=true∧(o,a,b,k) ∈ l
 | [],h=>by exact nN h
 | e::r,h=>by
  unfold Zkv at h
  generalize q:(opEq op e.1&&(a.eq e.2.1&&b.eq e.2.2.1))=wo at h
  cases wo with
  | true=>
   refine e0_2 (Bool.and_eq_true_iff.mp q) λq1 q2=>?_
   refine e0_2 (Bool.and_eq_true_iff.mp q2) λq2 q3=>?_
   have wq:=Option.some.inj h;clear h;subst wq
   refine i1_2 (e.1) q1 ?_
   rw [Lin.eq_eq q2,Lin.eq_eq q3]
   exact .head _
  | false=>
   refine e1_2 (Zha h) λo h1 h2=>?_
   exact i1_2 o h1 (.tail _ h2)
theorem Zi8 {op o:Operator} (h:opEq op o=true):o=op∧(op = .Mult∨op = .Mod∨op = .FloorDiv):=by
 have h1:=Bool.and_eq_true_iff.mp h
 exact ⟨(of_decide_eq_true h1.1).symm,(Bool.or_eq_true_iff.mp h1.2).imp of_decide_eq_true λh2=>(Bool.or_eq_true_iff.mp h2).imp of_decide_eq_true of_decide_eq_true⟩
theorem Zef (ho:ZdE Γ ν) {op:Operator} {a b:Lin} {t u:Tok} {P:MV->St->Prop} (h:(Zkr Γ op a b s).All ν P) (x:Gd G B Γ ν ρ s rs):wpAny G.M B.A (binaryOp op (.int (a.ev ν.x) t) (.int (b.ev ν.x) u)) (RV G B Γ ν ρ P) E rs:=by
 unfold Zkr at h
 generalize q:Zkv op a b Γ.ops=wo at h
 revert q;revert wo;show Fa _ _;refine Opt.on_some zF0 (λk h=>?_);intro q
 refine e1_2 (Zha q) λo h1 h2=>?_
 have w:=ho _ h2
 have z:∀ {i:Int} {t:Tok},ν.x k=i->V ρ ((MV.int (.x k)).sem ν) (.int i t):=λe=>by rw [←e];simp only [MV.sem,ev_x];exact .int _ _
 refine e0_2 (Zi8 h1) λwq h3=>?_;subst wq
 rcases h3 with rfl | rfl | rfl
 ·exact mul_int (RV.here h (z w.2) (x.toks _)) w.1
 ·exact mod_int' w.1 (RV.here h (z w.2) (x.toks _))
 ·exact floordiv_int w.1.1 (RV.here h (z w.2) (x.toks _)) (.inl w.1.2)
theorem Zn1 (ho:ZdE Γ ν) {a b:MV} {ra rb:Value} {P:MV->St->Prop} (h:(ZjT Γ a b s).All ν P) (x:Gd G B Γ ν ρ s rs) (ha:V ρ (a.sem ν) ra) (hb:V ρ (b.sem ν) rb):
 wpAny G.M B.A (binaryOp .FloorDiv ra rb) (RV G B Γ ν ρ P) E rs:=by
 revert a;show Fa _ _;refine MV.on_int zF0 zF1 zF1 zF1 zF1 zF1 zF1 zF1 (λ_ h=>?_)<;>intro ha<;>(unfold ZjT at h;try dsimp only at h)
 revert hb;revert b;show Fa _ _;refine MV.on_int zF0 zF1 zF1 zF1 zF1 zF1 zF1 zF1 (λ_ h=>?_)<;>intro hb<;>(try dsimp only at h)
 refine e1_1 (vint ha) λt wq=>?_;subst wq
 refine e1_1 (vint hb) λu wq=>?_;subst wq
 exact Zef ho h x
theorem ZpB (ho:ZdE Γ ν) {a b:MV} {ra rb:Value} {P:MV->St->Prop} (h:(Zoj Γ a b s).All ν P) (x:Gd G B Γ ν ρ s rs) (ha:V ρ (a.sem ν) ra) (hb:V ρ (b.sem ν) rb):
 wpAny G.M B.A (binaryOp .Mod ra rb) (RV G B Γ ν ρ P) E rs:=by
 revert a;show Fa _ _;refine MV.on_int zF0 zF1 zF1 zF1 zF1 zF1 zF1 zF1 (λ_ h=>?_)<;>intro ha<;>(unfold Zoj at h;try dsimp only at h)
 revert hb;revert b;show Fa _ _;refine MV.on_int zF0 zF1 zF1 zF1 zF1 zF1 zF1 zF1 (λ_ h=>?_)<;>intro hb<;>(try dsimp only at h)
 refine e1_1 (vint ha) λt wq=>?_;subst wq
 refine e1_1 (vint hb) λu wq=>?_;subst wq
 rename_i p q
 cases e1:p.const? with
 | none=>rw [e1] at h;exact Zef ho h x
 | some i=>
  cases e2:q.const? with
  | none=>rw [e1,e2] at h;exact Zef ho h x
  | some j=>
   rw [e1,e2] at h
   have h':(bif ipos j then (Res.ret (.int (.k (Int.fmod i j))) s:Res MV) else .stuck "mod").All ν P:=h
   refine e0_2 (Zak h') λhj h'=>?_
   have hp:=ipos_iff.mp hj
   rw [Zar ν.x e1,Zar ν.x e2]
   exact mod_int' (by omega) (RV.here h' (by simp only [MV.sem,ev_k];exact .int _ _) (x.toks _))
theorem ZiB (xs:List ME):∀ c,rowS ν (ZeT xs c)=(List.replicate c (rowS ν xs)).flatten
 | 0=>rfl
 | c+1=>by simp only [ZeT,ZaL,ZiB xs c,List.replicate_succ,List.flatten_cons]
theorem VL.rep {ρ:List (Addr × Obj)} {xs:List SV} {vs:List Value} (h:VL ρ xs vs):∀ c,VL ρ (List.replicate c xs).flatten (List.replicate c vs).flatten
 | 0=>.nil
 | c+1=>by dsimp only [List.replicate_succ,List.flatten_cons];exact h.append (h.rep c)
theorem ZgE (vs:List Value):∀ (c:Nat) (acc:List Value),(List.foldl (λ(x1 x2:Array Value)=>x1++x2) acc.toArray (List.replicate c vs.toArray))=(acc++(List.replicate c vs).flatten).toArray
 | 0,acc=>by simp
 | c+1,acc=>by
  rw [List.replicate_succ,List.foldl_cons,List.replicate_succ,List.flatten_cons,←List.append_assoc]
  rw [show acc.toArray++vs.toArray=(acc++vs).toArray from by simp]
  exact ZgE vs c (acc++vs)
set_option tactic.hygienic true in
theorem ZpC (ho:ZdE Γ ν) (hν:ν.ok) {a b:MV} {ra rb:Value} {P:MV->St->Prop} (h:(Zol Γ a b s).All ν P) (x:Gd G B Γ ν ρ s rs) (ha:V ρ (a.sem ν) ra) (hb:V ρ (b.sem ν) rb):
 wpAny G.M B.A (binaryOp .Mult ra rb) (RV G B Γ ν ρ P) E rs:=by
 revert a;show Fa _ _;refine MV.on_int_ref zF0 zF1 zF1 zF1 zF1 zF1 zF1 (λ_ h=>?_) (λ_ h=>?_)<;>intro ha<;>(unfold Zol at h;try dsimp only at h)
 ·revert hb;revert b;show Fa _ _;refine MV.on_int zF0 zF1 zF1 zF1 zF1 zF1 zF1 zF1 (λ_ h=>?_)<;>intro hb<;>(try dsimp only at h)
  refine e1_1 (vint ha) λt wq=>?_;subst wq
  refine e1_1 (vint hb) λu wq=>?_;subst wq
  exact Zef ho h x
 revert hb;revert b;show Fa _ _;refine MV.on_int zF0 zF1 zF1 zF1 zF1 zF1 zF1 zF1 (λ_ h=>?_)<;>intro hb<;>(try dsimp only at h)
 refine e2_2 (vref ha) λl o wq ha'=>?_;subst wq
 refine e1_1 (vint hb) λu wq=>?_;subst wq
 rename_i n p
 cases hc:cell Γ s n with
 | none=>rw [hc] at h;exact h.elim
 | some ob=>
  cases ob<;>rw [hc] at h<;>(try exact False.elim h)<;>(try dsimp only at h)
  rename_i xs
  cases e1:p.const? with
  | none=>rw [e1] at h;exact h.elim
  | some i=>
   rw [e1] at h
   cases i with
   | negSucc _=>exact h.elim
   | ofNat c=>
    have h':(bif Nat.ble c 100 then ZcP Γ (ZeT xs c) s else .stuck "mul").All ν P:=h
    refine e0_2 (Zak h') λhj h'=>?_
    have h2:(ZcP Γ (ZeT xs c) s).All ν P:=h'
    have hc100:=Nat.le_of_ble_eq_true hj
    unfold ZcP at h2
    refine e0_2 (Zak h2) λq h2=>?_
    have hs:=ZaC hν q
    refine byP λXX kX=>?_
    refine e2_3 (x.hs.list (xs:=rowS ν xs) (Zac (ν:=ν) hc) ha') λvs k e2 hv hlen=>?_
    obtain ⟨m,led,F,N,R,Lc⟩:=x.hs.ex
    refine kX ?_
    have hvw:VL ρ (rowS ν (ZeT xs c)) (List.replicate c vs).flatten:=by rw [ZiB];exact hv.rep c
    have hl:=hvw.length
    have ev:=Zar ν.x e1
    have hl':=hv.length
    have hz:((List.replicate c vs).flatten).length=vs.length * c:=by simp [Nat.mul_comm]
    rw [ev]
    refine mul_list F N e2 (by show -2 ^ 63≤(c:Int);omega) (by show (c:Int)<2 ^ 63;omega) ?_ (λh' F' N'=>?_)
    ·show vs.toArray.size * (Int.ofNat c).toNat≤2 ^ 24
     rw [List.size_toArray,show (Int.ofNat c).toNat=c from rfl,←hz,hl];omega
    ·have e3:(List.foldl (λ(x1 x2:Array Value)=>x1++x2) #[] (List.replicate (if vs.toArray.isEmpty=true then 0 else (Int.ofNat c).toNat) vs.toArray))=((List.replicate c vs).flatten).toArray:=by
      cases vs with
      | nil=>
       have:(List.replicate c ([]:List Value)).flatten=[]:=by simp
       rw [this];rfl
      | cons v r=>
       have:=ZgE (v::r) c []
       simpa using this
     have hp:ρ <+: ρ++[(rs.heap.objs.size,(default:Obj))]:=List.prefix_append _ _
     refine ⟨_,_,_,hp,h2,by rw [Zav];exact .ref (o:=default) (by simp [←R.l1]),x.fx,?_⟩
     rw [Zaw]
     refine ⟨⟨m,led++[[(rs.heap.objs.size,{ cls:=.type "list",data:=.seq ((List.replicate c vs).flatten).toArray })]],F',?_,R.push (.list (hvw.mono hp) hs) (by simp) ?_,Lc.mono hp⟩,x.hs.gens,x.hs.drawn,x.hs.os⟩
     ·intro p hp'
      have:=N' p
      rw [e3] at this
      exact this (ZaB hp')
     ·intro p hp' q hq
      simp only [List.mem_cons,List.not_mem_nil,or_false] at hp'
      subst hp'
      exact News.lt N q hq
theorem ZpP {a b:MV} {ra rb:Value} {P:MV->St->Prop} (h:(Zos a b s).All ν P) (x:Gd G B Γ ν ρ s rs) (ha:V ρ (a.sem ν) ra) (hb:V ρ (b.sem ν) rb):
 wpAny G.M B.A (binaryOp .Pow ra rb) (RV G B Γ ν ρ P) E rs:=by
 revert a;show Fa _ _;refine MV.on_int zF0 zF1 zF1 zF1 zF1 zF1 zF1 zF1 (λx0 h=>?_)<;>intro ha<;>(unfold Zos at h;try dsimp only at h)
 revert hb;revert b;show Fa _ _;refine MV.on_int zF0 zF1 zF1 zF1 zF1 zF1 zF1 zF1 (λy0 h=>?_)<;>intro hb<;>(try dsimp only at h)
 refine e1_1 (vint ha) λt wq=>?_;subst wq
 refine e1_1 (vint hb) λu wq=>?_;subst wq
 generalize e1:x0.const? = wo at h
 generalize e2:y0.const? = wp at h
 revert e1;revert wo;show Fa _ _;refine Opt.on_some zF0 (λi h=>?_);intro e1
 cases i with
 | negSucc _=>exact h.elim
 | ofNat i=>
  revert e2;revert wp;show Fa _ _;refine Opt.on_some zF0 (λj h=>?_);intro e2
  cases j with
  | negSucc _=>exact h.elim
  | ofNat j=>
   dsimp only at h
   refine e0_2 (Zak h) λq h=>?_
   rw [Bool.and_eq_true] at q
   have q1:=Nat.le_of_ble_eq_true q.1
   have q2:=Nat.le_of_ble_eq_true q.2
   rw [Zar ν.x e1,Zar ν.x e2]
   refine pow_int_small (Int.natCast_nonneg _) (by show (j:Int)≤1000000;omega) (by show i<2 ^ 64;omega) (RV.here h ?_ (x.toks _))
   have:(Int.ofNat i) ^ (Int.ofNat j).toNat=Int.ofNat (i ^ j):=by
    show (i:Int) ^ j=((i ^ j:Nat):Int)
    exact (Int.natCast_pow i j).symm
   rw [this]
   dsimp only [MV.sem,ev_k];exact .int _ _
theorem Zo9 (ho:ZdE Γ ν) (hν:ν.ok) {op:Operator} {a b:MV} {ra rb:Value} {P:MV->St->Prop} (h:(ZnE Γ op a b s).All ν P) (x:Gd G B Γ ν ρ s rs) (ha:V ρ (a.sem ν) ra) (hb:V ρ (b.sem ν) rb):
 wpAny G.M B.A (binaryOp op ra rb) (RV G B Γ ν ρ P) E rs:=by
 cases op<;>(unfold ZnE at h;try dsimp only at h)<;>first | exact h.elim | exact Zo5 hν h x ha hb | exact ZpW h x ha hb | exact ZpC ho hν h x ha hb | exact ZpB ho h x ha hb | exact Zn1 ho h x ha hb | exact ZpP h x ha hb
theorem ZdD {v:MV} {rv:Value} {P:Bool->St->Prop} (h:(Zcz v s).All ν P) (x:Gd G B Γ ν ρ s rs) (hv:V ρ (v.sem ν) rv):wpAny G.M B.A (truthy rv) (RB G B Γ ν ρ P) E rs:=by
 revert v;show Fa _ _;refine MV.on_bool zF0 zF1 zF1 zF1 zF1 zF1 zF1 zF1 (λ_ h=>?_)<;>intro hv<;>(unfold Zcz at h;try dsimp only at h)
 rw [Zfe hv];exact wpAny_truthy_bool (RB.here h x)
theorem ZqA {op:UnaryOp} {v:MV} {rv:Value} {P:MV->St->Prop} (h:(evUn op v s).All ν P) (x:Gd G B Γ ν ρ s rs) (hv:V ρ (v.sem ν) rv):wpAny G.M B.A (unaryOp op rv) (RV G B Γ ν ρ P) E rs:=by
 cases op<;>(try exact False.elim h)<;>(unfold evUn at h;try dsimp only at h)
 ·rw [all_bind] at h
  refine not_value (wpAny_mono (ZdD h x hv) (λb rs' q=>?_) λ_ _ e=>e)
  obtain ⟨ρ',s',hp,hP,y⟩:=q
  exact ⟨ρ',_,s',hp,hP,.bool _,y⟩
 ·revert hv;revert v;show Fa _ _;refine MV.on_int zF0 zF1 zF1 zF1 zF1 zF1 zF1 zF1 (λ_ h=>?_)<;>intro hv<;>(try dsimp only at h)
  refine e1_1 (vint hv) λt wq=>?_;subst wq
  exact neg_int (RV.here h (by simp only [MV.sem,Zig];exact .int _ _) (x.toks _))
end Mine
end
section
namespace Mine
variable {G:Gl} {B:Bs} {Γ:Tab} {ν:Vn} {ρ:List (Addr × Obj)} {s:St} {rs:Shared} {E:Value->Shared->Prop} {d:Nat}
theorem Zge {xs:List ME} (hν:ν.ok) (h:ZkG xs=true):(rowS ν xs).length≤16384:=by
 have hl:xs.length≤4:=Nat.le_of_ble_eq_true h
 have:(rowS ν xs).length≤xs.length * 4096:=by
  clear h hl
  induction xs with
  | nil=>simp [rowS]
  | cons e r ih=>
   have:rowS ν (e::r)=e.sem ν++rowS ν r:=rfl
   rw [this,List.length_append,List.length_cons]
   have he:(e.sem ν).length≤4096:=by
    cases e with
    | v x=>simp [ME.sem]
    | seg n=>exact hν.small n
   omega
 omega
theorem Zpx (hν:ν.ok) {vs:List MV} {rvs:List Value} {P:MV->St->Prop} (h:(ZnA Γ vs s).All ν P) (x:Gd G B Γ ν ρ s rs) (hv:VL ρ (vs.map (MV.sem ν)) rvs):wpAny G.M B.A (call (.builtin "len") rvs) (RV G B Γ ν ρ P) E rs:=by
 revert vs;show Fa _ _;refine Lis.on_cons zF0 (λa r h=>?_);intro hv
 cases r with
 | cons _ _=>cases a<;>exact h.elim
 | nil=>
  refine e2_3 (VL.cons_inv hv) λ_ _ wq ha hn=>?_;clear hv;subst wq
  have wq:=VL.nil_inv hn;clear hn;subst wq
  revert a;show Fa _ _;refine MV.on_str_ref_txt zF0 zF1 zF1 zF1 zF1 zF1 (λ_ h=>?_) (λ_ h=>?_) (λ_ h=>?_)<;>intro ha
  ·refine e1_1 (vstr ha) λt wq=>?_;subst wq
   rename_i y
   have h':(bif Nat.ble y.length 5000 then (Res.ret (.int (.k y.length)) s:Res MV) else .stuck "len").All ν P:=h
   refine e0_2 (Zak h') λhl h'=>?_
   have:=Nat.le_of_ble_eq_true hl
   refine len_str (by rw [Zal];omega) (RV.here h' ?_ (x.toks _))
   rw [Zal];dsimp only [MV.sem,ev_k];exact .int _ _
  ·refine e2_2 (vref ha) λa ao wq ha'=>?_;subst wq
   rename_i n
   (unfold ZnA at h;try dsimp only at h)
   generalize hc:cell Γ s n=wo at h
   revert hc;revert wo;show Fa _ _;refine Opt.on_some zF0 (λob h=>?_);intro hc
   revert ob;show Fa _ _;refine MO.on_list_tuple zF2 zF1 zF1 zF2 zF1 (λ_ h=>?_) (λ_ h=>?_)<;>intro hc<;>(try dsimp only at h)
   ·refine e2_3 (x.hs.list (Zac (ν:=ν) hc) ha') λvs i e1 hv hz=>?_
    have hl:=hv.length
    refine len_list (Zan e1) (by simp only [List.size_toArray];omega) (RV.here h ?_ (x.toks _))
    simp only [MV.sem,←Zeh _ hν,List.size_toArray,hl];exact .int _ _
   ·refine e2_3 (x.hs.tuple (Zac (ν:=ν) hc) ha') λvs i e1 hv hz=>?_
    have hl:=hv.length
    refine len_tuple (Zam e1) (by simp only [List.size_toArray];omega) (RV.here h ?_ (x.toks _))
    simp only [MV.sem,←Zeh _ hν,List.size_toArray,hl];exact .int _ _
  ·refine e1_1 (vstr ha) λt wq=>?_;subst wq
   rename_i n
   have hs:=hν.tsmall n
   refine len_str (by rw [Zal];omega) (RV.here (show P (.int (.x (2 * n+1000))) s from h) ?_ (x.toks _))
   rw [Zal];simp only [MV.sem,ev_x,hν.tlen];exact .int _ _
theorem Zo4 {vs:List MV} {rvs:List Value} {P:MV->St->Prop} (h:(Znx vs s).All ν P) (x:Gd G B Γ ν ρ s rs) (hv:VL ρ (vs.map (MV.sem ν)) rvs):wpAny G.M B.A (call (.builtin "abs") rvs) (RV G B Γ ν ρ P) E rs:=by
 unfold Znx at h
 revert vs;show Fa _ _;refine Lis.on_cons zF0 (λ_ _ h=>?_)<;>intro hv
 rename_i v r
 revert v;show Fa _ _;refine MV.on_int zF0 zF1 zF1 zF1 zF1 zF1 zF1 zF1 (λ_ h=>?_)<;>intro hv
 rename_i p
 revert r;show Fa _ _;refine Lis.on_nil zF2 (λh=>?_)<;>intro hv
 dsimp only at h
 refine e2_3 (VL.cons_inv hv) λ_ _ wq ha hn=>?_;clear hv;subst wq
 refine byP λXX kX=>?_
 have wq:=VL.nil_inv hn;clear hn;subst wq
 refine e1_1 (vint ha) λt wq=>?_;subst wq
 rw [all_bind] at h
 refine e2_3 (Zem h x.fx) λc f hc hf hP=>?_
 refine kX ?_
 refine call_abs_int λu tk=>⟨ρ,_,_,List.prefix_refl _,hP,?_,hf,(x.hs.toks tk)⟩
 simp only [Cnd.holds,Zig] at hc
 cases c with
 | true=>
  have:p.ev ν.x<0:=by have:=hc.mp rfl;omega
  simp only [this,if_true,cond_true,MV.sem,Zig];exact .int _ _
 | false=>
  have:¬p.ev ν.x<0:=λw=>by have:=hc.mpr (by omega);exact nB this
  simp only [this,if_false,cond_false,MV.sem];exact .int _ _
theorem Zno {ρ:List (Addr × Obj)}:∀ {l:List SV} {vs:List Value},VL ρ l vs->(∀ v ∈ l,∃ i,v = .int i)->∃ ns,IntsAre vs ns∧ns.sum=ZbH l
 | [],_,.nil,_=>⟨[],.nil,rfl⟩
 | v::r,_,.cons a b,h=>by
  refine e1_2 (Zno b λw hw=>h w (.tail _ hw)) λns h1 h2=>?_
  refine e1_1 (h v (.head _)) λi wq=>?_;subst wq
  refine e1_1 (vint a) λt wq=>?_;subst wq
  exact i1_2 (i::ns) (.cons _ _ h1) (by rw [List.sum_cons,h2];rfl)
theorem ZpX (O:Ok G B d) (hν:ν.ok) {vs:List MV} {rvs:List Value} {P:MV->St->Prop} (h:(ZnD Γ vs s).All ν P) (x:Gd G B Γ ν ρ s rs) (hv:VL ρ (vs.map (MV.sem ν)) rvs):wpAny G.M B.A (call (.builtin "sum") rvs) (RV G B Γ ν ρ P) E rs:=by
 unfold ZnD at h
 revert vs;show Fa _ _;refine Lis.on_cons zF0 (λ_ _ h=>?_)<;>intro hv
 rename_i v r
 revert v;show Fa _ _;refine MV.on_ref zF0 zF1 zF1 zF1 zF1 zF1 zF1 zF1 (λ_ h=>?_)<;>intro hv
 rename_i n
 revert r;show Fa _ _;refine Lis.on_nil zF2 (λh=>?_)<;>intro hv
 dsimp only at h
 refine e2_3 (VL.cons_inv hv) λ_ _ wq ha hn=>?_;clear hv;subst wq
 refine byP λXX kX=>?_
 have wq:=VL.nil_inv hn;clear hn;subst wq
 refine e2_2 (vref ha) λa ao wq ha'=>?_;subst wq
 generalize hc:cell Γ s n=wo at h
 revert hc;revert wo;show Fa _ _;refine Opt.on_some zF0 (λo h=>?_)
 revert o;show Fa _ _;refine MO.on_list zF2 zF1 zF1 zF1 zF2 zF1 (λxs h=>?_)
 revert xs;show Fa _ _;refine Lis.on_cons zF0 (λe xs h=>?_)
 revert e;show Fa _ _;refine ME.on_seg zF1 (λk h=>?_)
 revert xs;show Fa _ _;refine Lis.on_nil zF2 (λh=>?_)
 intro hc
 dsimp only at h
 refine e0_2 (Zak h) λq h=>?_
 have hk:k<100:=by simpa [Nat.blt_eq] using q
 refine e2_3 (x.hs.list (xs:=rowS ν [.seg k]) (Zac (ν:=ν) hc) ha') λus i e1 hu hz=>?_
 refine kX ?_
 have hrow:rowS ν [.seg k]=ν.g k:=by show ν.g k++[]=_;rw [List.append_nil]
 rw [hrow] at hu
 refine byP λXX kX=>?_
 refine e1_2 (Zno hu (hν.nums k hk)) λns h1 h2=>?_
 obtain ⟨m,led,F,N,R,Lc⟩:=x.hs.ex
 refine kX ?_
 refine LSm.sum_ints F N O.hand ⟨_,e1,rfl,_,rfl⟩ h1 λh' tk t' F' N'=>?_
 refine ⟨ρ,_,_,List.prefix_refl _,h,?_,x.fx,⟨⟨m,led,F',N',R,Lc⟩,x.hs.gens,x.hs.drawn,x.hs.os⟩⟩
 rw [h2,←hν.sum k hk]
 simp only [MV.sem,ev_x];exact .int _ _
theorem ZpA (O:Ok G B d) {vs:List MV} {rvs:List Value} {P:MV->St->Prop} (h:(ZnB vs s).All ν P) (x:Gd G B Γ ν ρ s rs) (hv:VL ρ (vs.map (MV.sem ν)) rvs):wpAny G.M B.A (call (.builtin "min") rvs) (RV G B Γ ν ρ P) E rs:=by
 unfold ZnB at h
 revert vs;show Fa _ _;refine Lis.on_cons zF0 (λ_ _ h=>?_)<;>intro hv
 rename_i v r
 revert v;show Fa _ _;refine MV.on_int zF0 zF1 zF1 zF1 zF1 zF1 zF1 zF1 (λ_ h=>?_)<;>intro hv
 rename_i p
 revert r;show Fa _ _;refine Lis.on_cons zF0 (λ_ _ h=>?_)<;>intro hv
 rename_i v r
 revert v;show Fa _ _;refine MV.on_int zF0 zF1 zF1 zF1 zF1 zF1 zF1 zF1 (λ_ h=>?_)<;>intro hv
 rename_i q
 revert r;show Fa _ _;refine Lis.on_nil zF2 (λh=>?_)<;>intro hv
 dsimp only at h
 refine e2_3 (VL.cons_inv hv) λ_ _ wq ha hn=>?_;clear hv;subst wq
 cases hn with
 | cons hb hn=>
  have wq:=VL.nil_inv hn;clear hn;subst wq
  refine e1_1 (vint ha) λt wq=>?_;subst wq
  refine e1_1 (vint hb) λu wq=>?_;subst wq
  rw [all_bind] at h
  refine byP λXX kX=>?_
  refine e2_3 (Zem h x.fx) λc f hc hf hP=>?_
  obtain ⟨m,led,F,N,R,Lc⟩:=x.hs.ex
  refine kX ?_
  refine min_two_N O.hand F N λh' tk F' N'=>⟨ρ,_,_,List.prefix_refl _,hP,?_,hf,⟨⟨m,led,F',N',R,Lc⟩,x.hs.gens,x.hs.drawn,x.hs.os⟩⟩
  simp only [Cnd.holds,Zb9] at hc
  cases c with
  | true=>
   have:q.ev ν.x<p.ev ν.x:=by have:=hc.mp rfl;omega
   simp only [this,if_true,cond_true,MV.sem];exact .int _ _
  | false=>
   have:¬q.ev ν.x<p.ev ν.x:=λw=>by have:=hc.mpr (by omega);exact nB this
   simp only [this,if_false,cond_false,MV.sem];exact .int _ _
theorem ZpK {vs:List MV} {rvs:List Value} {P:MV->St->Prop} (h:(ZnC vs s).All ν P) (x:Gd G B Γ ν ρ s rs) (hv:VL ρ (vs.map (MV.sem ν)) rvs):wpAny G.M B.A (call (.builtin "ord") rvs) (RV G B Γ ν ρ P) E rs:=by
 unfold ZnC at h
 revert vs;show Fa _ _;refine Lis.on_cons zF0 (λ_ _ h=>?_)<;>intro hv
 rename_i v r
 revert v;show Fa _ _;refine MV.on_str zF0 zF1 zF1 zF1 zF1 zF1 zF1 zF1 (λ_ h=>?_)<;>intro hv
 rename_i y
 revert r;show Fa _ _;refine Lis.on_nil zF2 (λh=>?_)<;>intro hv
 dsimp only at h
 refine e2_3 (VL.cons_inv hv) λ_ _ wq ha hn=>?_;clear hv;subst wq
 have wq:=VL.nil_inv hn;clear hn;subst wq
 refine e1_1 (vstr ha) λt wq=>?_;subst wq
 revert y;show Fa _ _;refine Lis.on_cons zF0 (λc r h=>?_);intro ha
 revert r;show Fa _ _;refine Lis.on_nil zF2 (λh=>?_);intro ha
 exact ord_of_one (by simp [Zaa,Str.length]) (RV.here h (by dsimp only [MV.sem,ev_k,Zaa];exact .int _ _) (x.toks _))
theorem Zpt {vs:List MV} {rvs:List Value} {P:MV->St->Prop} (h:(Znz vs s).All ν P) (x:Gd G B Γ ν ρ s rs) (hv:VL ρ (vs.map (MV.sem ν)) rvs):wpAny G.M B.A (call (.type "int") rvs) (RV G B Γ ν ρ P) E rs:=by
 unfold Znz at h
 revert vs;show Fa _ _;refine Lis.on_cons zF0 (λ_ _ h=>?_)<;>intro hv
 rename_i v r
 revert v;show Fa _ _;refine MV.on_bool zF0 zF1 zF1 zF1 zF1 zF1 zF1 zF1 (λ_ h=>?_)<;>intro hv
 rename_i b
 revert r;show Fa _ _;refine Lis.on_nil zF2 (λh=>?_)<;>intro hv
 dsimp only at h
 refine e2_3 (VL.cons_inv hv) λ_ _ wq ha hn=>?_;clear hv;subst wq
 have wq:=VL.nil_inv hn;clear hn;subst wq
 rw [Zfe ha]
 refine call_int_bool (RV.here h ?_ (x.toks _))
 cases b<;>(dsimp only [MV.sem,ev_k,cond_true,cond_false];exact .int _ _)
theorem ZcO (hν:ν.ok) {xs:List ME} {vs:List Value} {a:Addr} {P:MV->St->Prop} (h:(ZcP Γ xs s).All ν P) (x:Gd G B Γ ν ρ s rs) (hv:VL ρ (rowS ν xs) vs) (hl:rs.heap.IsList a vs.toArray∨IsTup rs.heap a vs.toArray):
 wpAny G.M B.A (call (.type "list") [.ref a]) (RV G B Γ ν ρ P) E rs:=by
 unfold ZcP at h
 refine byP λXX kX=>?_
 refine e0_2 (Zak h) λq h=>?_
 have hs:=ZaC hν q
 have hz:=hv.length
 obtain ⟨m,led,F,N,R,Lc⟩:=x.hs.ex
 have fin:∀ (D:Addr) (c:Nat) (h':Heap),Fr B.h₀ B.L h' m->News B.h₀ B.L h' ((D,PySem.W.listOf vs.toArray c)::(B.cs++led.flatten))->(∀ (q:Addr × Obj),q ∈ (B.cs++led.flatten)->q.fst<D)->RV G B Γ ν ρ P (.ref D) { heap:=h',gens:=rs.gens,drawn:=rs.drawn,toks:=rs.toks,os:=rs.os }:=by
  intro D c h' F' N' lt
  have hp:ρ <+: ρ++[(D,(default:Obj))]:=List.prefix_append _ _
  refine ⟨_,_,_,hp,h,by rw [Zav];exact .ref (o:=default) (by simp [←R.l1]),x.fx,?_⟩
  rw [Zaw]
  refine ⟨⟨m,led++[[(D,PySem.W.listOf vs.toArray c)]],F',λp hp'=>N' p (ZaB hp'),R.push (.list (hv.mono hp) hs) (by simp) ?_,Lc.mono hp⟩,x.hs.gens,x.hs.drawn,x.hs.os⟩
  intro p hp' q hq
  simp only [List.mem_cons,List.not_mem_nil,or_false] at hp'
  subst hp'
  exact Nat.ne_of_lt (lt q hq)
 rcases hl with hl | hl
 ·refine kX ?_
  exact list_copyK F N hl (λD c h' F' N' lt=>fin D c h' F' N' lt) (by simp only [List.size_toArray];rw [hz,sizeLine_eq];omega)
 ·refine kX ?_
  exact list_copyKT F N hl (λD c h' F' N' lt=>fin D c h' F' N' lt) (by simp only [List.size_toArray];rw [hz,sizeLine_eq];omega)
set_option tactic.hygienic true in
theorem Zoe (O:Ok G B d) (T:TOk G Γ) (hν:ν.ok) {vs:List MV} {rvs:List Value} {P:MV->St->Prop} (h:(Zh4 Γ vs s).All ν P) (x:Gd G B Γ ν ρ s rs) (hv:VL ρ (vs.map (MV.sem ν)) rvs):wpAny G.M B.A (call (.type "list") rvs) (RV G B Γ ν ρ P) E rs:=by
 revert vs;show Fa _ _;refine Lis.on_cons zF0 (λv0 vs h=>?_)
 revert v0;show Fa _ _;refine MV.on_ref_glob zF0 zF1 zF1 zF1 zF1 zF1 zF1 (λn h=>?_) (λv1 h=>?_)
 ·revert vs;show Fa _ _;refine Lis.on_nil zF2 (λh=>?_)
  intro hv
  unfold Zh4 at h
  dsimp only at h
  refine byP λXX kX=>?_
  refine e2_3 (VL.cons_inv hv) λ_ _ wq ha hn=>?_;clear hv;subst wq
  have wq:=VL.nil_inv hn;clear hn;subst wq
  refine e2_2 (vref ha) λa ao wq ha'=>?_;subst wq
  generalize hc:cell Γ s n=wo at h
  revert hc;revert wo;show Fa _ _;refine Opt.on_some zF0 (λob h=>?_);intro hc
  refine kX ?_
  revert ob;show Fa _ _;refine MO.on_list_tuple zF2 zF1 zF1 zF2 zF1 (λ_ h=>?_) (λ_ h=>?_)<;>intro hc<;>(try dsimp only at h)
  ·refine e2_3 (x.hs.list (Zac (ν:=ν) hc) ha') λus i e1 hu hz=>?_
   exact ZcO hν h x hu (.inl (Zan e1))
  ·refine e2_3 (x.hs.tuple (Zac (ν:=ν) hc) ha') λus i e1 hu hz=>?_
   exact ZcO hν h x hu (.inr (Zam e1))
 ·cases v1<;>try exact h.elim
  rename_i b
  revert vs;show Fa _ _;refine Lis.on_nil zF2 (λh=>?_)
  intro hv
  unfold Zh4 at h
  dsimp only at h
  refine byP λXX kX=>?_
  refine e2_3 (VL.cons_inv hv) λ_ _ wq ha hn=>?_;clear hv;subst wq
  have wq:=VL.nil_inv hn;clear hn;subst wq
  refine e0_2 (V.glob_inv ha) λwq _=>?_;clear ha;subst wq
  generalize hl:lookN b Γ.tups=wo at h
  revert hl;revert wo;show Fa _ _;refine Opt.on_some zF0 (λl h=>?_);intro hl
  refine e2_2 (T.tups b _ hl) λus n e hu=>?_
  have hr:rowS ν (l.map λx=>ME.v (.str x))=l.map SV.str:=by
   have:=Zd4 (ν:=ν) (l.map MV.str)
   rw [List.map_map,List.map_map] at this
   exact this
  refine kX ?_
  exact ZcO (vs:=us) hν h x (by rw [hr];exact hu.mono List.nil_prefix) (.inr (Zam (x.kin O _ _ e)))
theorem ZmI (hν:ν.ok) {vs:List MV} {rvs:List Value} {P:MV->St->Prop} (h:(Zhp Γ vs s).All ν P) (x:Gd G B Γ ν ρ s rs) (hv:VL ρ (vs.map (MV.sem ν)) rvs):wpAny G.M B.A (call (.type "tuple") rvs) (RV G B Γ ν ρ P) E rs:=by
 revert vs;show Fa _ _;refine Lis.on_cons zF0 (λv0 vs h=>?_)
 revert v0;show Fa _ _;refine MV.on_ref zF0 zF1 zF1 zF1 zF1 zF1 zF1 zF1 (λn h=>?_)
 revert vs;show Fa _ _;refine Lis.on_nil zF2 (λh=>?_)
 intro hv
 unfold Zhp at h
 dsimp only at h
 refine byP λXX kX=>?_
 refine e2_3 (VL.cons_inv hv) λ_ _ wq ha hn=>?_;clear hv;subst wq
 have wq:=VL.nil_inv hn;clear hn;subst wq
 refine e2_2 (vref ha) λa ao wq ha'=>?_;subst wq
 generalize hc:cell Γ s n=wo at h
 revert hc;revert wo;show Fa _ _;refine Opt.on_some zF0 (λob h=>?_);intro hc
 refine kX ?_
 revert ob;show Fa _ _;refine MO.on_list zF2 zF1 zF1 zF1 zF2 zF1 (λ_ h=>?_)<;>intro hc<;>(try dsimp only at h)
 rename_i xs
 refine byP λXX kX=>?_
 refine e0_2 (Zak h) λht h=>?_
 unfold Zdm at h
 refine e0_2 (Zak h) λq h=>?_
 refine e2_3 (x.hs.list (xs:=rowS ν xs) (Zac (ν:=ν) hc) ha') λus i e1 hu hz=>?_
 obtain ⟨m,led,F,N,R,Lc⟩:=x.hs.ex
 have hl:=hu.length
 have tiny:=Zge hν ht
 refine kX ?_
 refine PySem.W.kde_tupleOf (zs:=us) F N (Zan e1) (by simp only [List.size_toArray];omega) (by simp) (λD h' F' N' lt=>?_)
 have hp:ρ <+: ρ++[(D,({ cls:=.type "tuple",data:=.seq us.toArray }:Obj))]:=List.prefix_append _ _
 refine ⟨_,_,_,hp,h,by rw [Zav];exact .ref (o:={ cls:=.type "tuple",data:=.seq us.toArray }) (by simp [←R.l1]),x.fx,?_⟩
 rw [Zaw]
 refine ⟨⟨m,led++[[(D,({ cls:=.type "tuple",data:=.seq us.toArray }:Obj))]],F',λp hp'=>N' p (by have:=ZaB hp';exact this),R.push (.tuple (hu.mono hp) (ZaC hν q)) (by simp) ?_,Lc.mono hp⟩,x.hs.gens,x.hs.drawn,x.hs.os⟩
 intro p hp' q hq
 simp only [List.mem_cons,List.not_mem_nil,or_false] at hp'
 subst hp'
 exact Nat.ne_of_lt (lt q hq)
end Mine
end
section
namespace Mine
variable {G:Gl} {B:Bs} {Γ:Tab} {ν:Vn} {ρ:List (Addr × Obj)} {s:St} {rs:Shared} {E:Value->Shared->Prop} {d:Nat}
theorem Rl.one {σ:List SO} {led:List (List (Addr × Obj))} (R:Rl G B.cs ρ σ led) {n:Nat} {p:Addr × Obj} (he:led[n]? = some [p]):∃ l1 l2,led.flatten=l1++p::l2∧(∀ q,(led.set n [q]).flatten=l1++q::l2)∧(∀ q ∈ B.cs++l1,q.1 ≠ p.1)∧∀ q ∈ l2,q.1 ≠ p.1:=by
 refine e2_2 (ZeF he) λa b e1 e2=>?_
 refine i2_3 (a.flatten) (b.flatten) (by rw [e1];simp) (λq=>by rw [e2];simp) ?_
 have:=R.nd
 rw [e1] at this
 have hs:B.cs++(a++[p]::b).flatten=(B.cs++a.flatten)++(p.1,p.2)::b.flatten:=by simp
 rw [hs] at this
 exact Zg1 this
theorem Zju (hν:ν.ok) {n:Nat} {xs:List ME} {vs:List MV} {ra:Value} {rvs:List Value} {P:MV->St->Prop} (hc:cell Γ s n=some (.list xs)) (h:(ZhE Γ n xs vs s).All ν P) (x:Gd G B Γ ν ρ s rs) (ha:V ρ (.ref n) ra) (hv:VL ρ (vs.map (MV.sem ν)) rvs):
 wpAny G.M B.A (call (.builtin "list.append") (ra::rvs)) (RV G B Γ ν ρ P) E rs:=by
 revert vs;show Fa _ _;refine Lis.on_cons zF0 (λw vs h=>?_)
 revert vs;show Fa _ _;refine Lis.on_nil zF2 (λh=>?_)
 intro hv
 unfold ZhE at h
 dsimp only at h
 refine byP λXX kX=>?_
 cases hv with
 | @cons _ rw0 _ _ hw hn=>
  have wq:=VL.nil_inv hn;clear hn;subst wq
  refine e2_2 (vref ha) λa ao wq ha'=>?_;subst wq
  generalize q:Zck xs=wo at h
  revert q;revert wo;show Fa _ _;refine Boo.on_true zF0 (λh=>?_);intro q
  rw [cond_true,all_bind] at h
  refine e1_4 (ZaX h) λs' hP f1 f2 f3=>?_
  obtain ⟨m,led,F,N,R,Lc⟩:=x.hs.ex
  refine e2_3 (R.obj n _ (Zac (ν:=ν) hc)) λp es e1 e2 o=>?_
  rw [ha'] at e1
  have wq:=Option.some.inj e1;clear e1;subst wq
  refine e2_3 (o.list_inv) λk us wq y z=>?_;clear o;subst wq
  refine e2_4 (R.one e2) λl1 l2 g1 g2 n1 n2=>?_
  have N0:=N
  rw [g1,←List.append_assoc] at N
  have hl:=y.length
  have hs:=ZaC hν q
  refine kX ?_
  refine append_K (its:=us.toArray) F N (ZbP n1 n2) (λh' F' N'=>?_) (by simp only [List.size_toArray];rw [hl,sizeLine_eq];omega)
  have hy:VL ρ (rowS ν (xs++[.v w])) (us++[rw0]):=by rw [ZaL];exact y.append (.cons hw .nil)
  have hsz:(rowS ν (xs++[.v w])).length≤2 ^ 20:=by
   rw [ZaL,List.length_append]
   have hl200:xs.length≤200:=Nat.le_of_ble_eq_true q
   have:(rowS ν xs).length≤200 * 4096:=by
    have:(rowS ν xs).length≤xs.length * 4096:=by
     clear hc q h f3 e2 y z hl hs hy hP
     induction xs with
     | nil=>simp [rowS]
     | cons e r ih=>
      have e0:rowS ν (e::r)=e.sem ν++rowS ν r:=rfl
      rw [e0,List.length_append,List.length_cons]
      have he:(e.sem ν).length≤4096:=by
       cases e with
       | v x=>simp [ME.sem]
       | seg n=>exact hν.small n
      have:=ih (by simp at hl200;omega)
      omega
    omega
   have:(rowS ν [ME.v w]).length=1:=rfl
   omega
  refine ⟨ρ,.none,s',List.prefix_refl _,hP,.none,by rw [f2];exact x.fx,?_⟩
  rw [f3,f1]
  refine ⟨⟨m,led.set n [(a,PySem.W.listOf (us.toArray.push rw0) (k+1))],F',?_,R.upd ha' e2 ?_ rfl,Lc⟩,x.hs.gens,x.hs.drawn,x.hs.os⟩
  ·rw [g2,←List.append_assoc];exact N'
  ·have:us.toArray.push rw0=(us++[rw0]).toArray:=by simp
   rw [this]
   exact .list hy hsz
theorem ZbI:∀ {xs:List ME} {p:List ME × MV},Zbu xs=some p->rowS ν xs=rowS ν p.1++[p.2.sem ν]∧p.1.length≤xs.length
 | [],p,h=>by exact nN h
 | .v w::r,p,h=>by
  cases r with
  | nil=>have wq:=Option.some.inj h;clear h;subst wq;exact i0_2 rfl (by simp)
  | cons e r=>
   have h':(match Zbu (e::r) with | some p=>some (ME.v w::p.1,p.2) | none=>none)=some p:=h
   generalize q:Zbu (e::r)=wo at h'
   revert q;revert wo;show Fa _ _;refine Opt.on_some zN0 (λp' h'=>?_);intro q
   have wq:=Option.some.inj h';clear h';subst wq
   refine e0_2 (ZbI q) λi1 i2=>?_
   exact i0_2 (by show w.sem ν::rowS ν (e::r)=_;rw [i1];rfl) (by simp at i2 ⊢;omega)
 | .seg n::r,p,h=>by
  have h':(match Zbu r with | some p=>some (ME.seg n::p.1,p.2) | none=>none)=some p:=h
  generalize q:Zbu r=wo at h'
  revert q;revert wo;show Fa _ _;refine Opt.on_some zN0 (λp' h'=>?_);intro q
  have wq:=Option.some.inj h';clear h';subst wq
  refine e0_2 (ZbI q) λi1 i2=>?_
  refine i0_2 ?_ (by simp;omega)
  show ν.g n++rowS ν r=(ν.g n++rowS ν p'.1)++_
  rw [i1,List.append_assoc]
theorem ZgW (v:Value):∀ l:List Value,PySem.W.kl_last (l++[v])=some (l,v):=by
 intro l
 induction l with
 | nil=>rfl
 | cons a r ih=>
  cases r with
  | nil=>rfl
  | cons b r=>
   first
    | (show (PySem.W.kl_last ((b::r)++[v])).map _=_;rw [ih];rfl)
    | (simp only [List.cons_append] at ih ⊢;unfold PySem.W.kl_last;rw [ih])
    | (simp only [List.cons_append] at ih ⊢;simp only [PySem.W.kl_last] at ih ⊢;rw [ih];rfl)
theorem ZpO {n:Nat} {xs:List ME} {vs:List MV} {ra:Value} {rvs:List Value} {P:MV->St->Prop} (hc:cell Γ s n=some (.list xs)) (h:(mPop Γ n xs vs s).All ν P) (x:Gd G B Γ ν ρ s rs) (ha:V ρ (.ref n) ra) (hv:VL ρ (vs.map (MV.sem ν)) rvs):
 wpAny G.M B.A (call (.builtin "list.pop") (ra::rvs)) (RV G B Γ ν ρ P) E rs:=by
 refine byP λXX kX=>?_
 refine e2_2 (vref ha) λa ao wq ha'=>?_;subst wq
 obtain ⟨m,led,F,N,R,Lc⟩:=x.hs.ex
 refine e2_3 (R.obj n _ (Zac (ν:=ν) hc)) λp0 es e1 e2 o=>?_
 rw [ha'] at e1
 have wq:=Option.some.inj e1;clear e1;subst wq
 refine e2_3 (o.list_inv) λk us wq y z=>?_;clear o;subst wq
 refine e2_4 (R.one e2) λl1 l2 g1 g2 n1 n2=>?_
 rw [g1,←List.append_assoc] at N
 have hl:=y.length
 refine kX ?_
 have hle:us.length≤sizeLine:=by
  have:(rowS ν xs).length≤2 ^ 20:=z
  rw [hl,sizeLine_eq];omega
 have fin:∀ {p:List ME × MV} {h':Heap} {ws:List Value} {w:Value},(Zl6 Γ n (some p) s).All ν P->ws.length≤us.length->VL ρ (rowS ν p.1) ws->V ρ (p.2.sem ν) w->Fr B.h₀ B.L h' m->News B.h₀ B.L h' (B.cs++l1++(a,PySem.W.listOf ws.toArray (k+1))::l2)->RV G B Γ ν ρ P w { rs with heap:=h' }:=by
  intro p h' ws w hh hlen y1 y2 F' N'
  have h':((Za8 Γ n (.list p.1) s).bind λ_ s=>.ret p.2 s).All ν P:=hh
  rw [all_bind] at h'
  refine e1_4 (ZaX h') λs' hP f1 f2 f3=>?_
  refine ⟨ρ,p.2,s',List.prefix_refl _,hP,y2,by rw [f2];exact x.fx,?_⟩
  rw [f3,f1]
  refine ⟨⟨m,led.set n [(a,PySem.W.listOf ws.toArray (k+1))],F',?_,R.upd ha' e2 (.list y1 ?_) rfl,Lc⟩,x.hs.gens,x.hs.drawn,x.hs.os⟩
  ·rw [g2,←List.append_assoc];exact N'
  ·have:(rowS ν xs).length≤2 ^ 20:=z
   have:=y1.length
   omega
 cases vs with
 | nil=>
  unfold mPop at h
  dsimp only at h
  refine byP λXX kX=>?_
  have wq:=VL.nil_inv hv;clear hv;subst wq
  generalize q:Zbu xs=wo at h
  revert q;revert wo;show Fa _ _;refine Opt.on_some zF0 (λp h=>?_);intro q
  refine e0_2 (ZbI (ν:=ν) q) λi1 i2=>?_
  rw [i1] at y
  refine e2_3 (y.snoc) λws w wq y1 y2=>?_;subst wq
  refine kX ?_
  exact PySem.W.kl_pop (its:=(ws++[w]).toArray) (p:=ws) (y:=w) F N (by simpa using ZgW w ws) (ZbP n1 n2) (by simpa using hle) λh' F' N'=>fin h (by simp) y1 y2 F' N'
 | cons v0 vs=>
  revert v0;show Fa _ _;refine MV.on_int zF0 zF1 zF1 zF1 zF1 zF1 zF1 zF1 (λl h=>?_)
  revert vs;show Fa _ _;refine Lis.on_nil zF2 (λh=>?_)
  intro hv
  unfold mPop at h
  dsimp only at h
  refine byP λXX kX=>?_
  refine e2_3 (VL.cons_inv hv) λ_ _ wq hi hn=>?_;clear hv;subst wq
  have wq:=VL.nil_inv hn;clear hn;subst wq
  refine e1_1 (vint hi) λt wq=>?_;subst wq
  generalize q0:l.const? = wo at h
  revert q0;revert wo;show Fa _ _;refine Opt.on_some zF0 (λc h=>?_);intro q0
  have h0:c = .ofNat 0∧(Zl6 Γ n (cut0 xs) s).All ν P:=by
   cases c with
   | negSucc _=>exact h.elim
   | ofNat c=>cases c with
    | zero=>exact ⟨rfl,h⟩
    | succ _=>exact h.elim
  have wq:=h0.1;replace h:=h0.2;clear h0;subst wq
  refine kX ?_
  rw [Zar ν.x q0]
  revert hc y z hl;revert xs;show Fa _ _;refine Lis.on_cons zF0 (λe r h=>?_);intro hc y z hl
  revert e;show Fa _ _;refine ME.on_v zF1 (λw0 h=>?_);intro hc y z hl
  have y:VL ρ (w0.sem ν::rowS ν r) us:=y
  cases y with
  | @cons _ w _ ws y2 y1=>
   exact PySem.W.kl_popAt (its:=(w::ws).toArray) (k:=0) (p:=[]) (y:=w) (q:=ws) F N rfl (by simp [seqIndex?]) (by rfl) (ZbP n1 n2) (by simpa using hle) λh' F' N'=>fin (p:=(r,w0)) h (by simp) y1 y2 F' N'
end Mine
end
section
namespace Mine
variable {G:Gl} {B:Bs} {Γ:Tab} {ν:Vn} {ρ:List (Addr × Obj)} {s:St} {rs:Shared} {E:Value->Shared->Prop} {d:Nat}
theorem Zi0 {β:Type} (x:Int) (p:Int × β) (r:List (Int × β)):Zkg x (p::r)=bif ieq x p.1 then some p.2 else Zkg x r:=rfl
theorem Zoa {kvs:List (Int × MV)} {rkvs:List (Int × Value)} (h:KVR ρ id (kvs.map λp=>(p.1,p.2.sem ν)) rkvs) (c:Int):
 match Zkg c kvs with
 | some v=>∃ rv,valueAt rkvs c=some rv∧V ρ (v.sem ν) rv
 | none=>valueAt rkvs c=none:=by
 induction kvs generalizing rkvs with
 | nil=>cases h;rfl
 | cons p r ih=>
  cases h with
  | @cons _ _ rv _ rs h1 h2=>
   have:=ih h2
   rw [Zi0]
   cases q:ieq c p.1 with
   | true=>
    rw [cond_true]
    refine i1_2 rv ?_ h1
    unfold valueAt
    rw [List.find?_cons]
    rw [show decide (id p.1=c)=true from decide_eq_true (ieq_iff.mp q).symm]
    rfl
   | false=>
    rw [cond_false]
    have ne:¬(id p.1=c):=λe=>by have:=ieq_iff.mpr e.symm;rw [show ieq c (id p.1)=ieq c p.1 from rfl,q] at this;exact nB this
    have e:valueAt ((id p.1,rv)::rs) c=valueAt rs c:=by
     unfold valueAt
     rw [List.find?_cons,show decide (id p.1=c)=false from decide_eq_false ne]
    rw [e];exact this
theorem Zpr {n:Nat} {kvs:List (Int × MV)} {vs:List MV} {ra:Value} {rvs:List Value} {P:MV->St->Prop} (hc:cell Γ s n=some (.dictI kvs)) (h:(mGet kvs vs s).All ν P) (x:Gd G B Γ ν ρ s rs) (ha:V ρ (.ref n) ra) (hv:VL ρ (vs.map (MV.sem ν)) rvs):
 wpAny G.M B.A (call (.builtin "dict.get") (ra::rvs)) (RV G B Γ ν ρ P) E rs:=by
 revert vs;show Fa _ _;refine Lis.on_cons zF0 (λv0 vs h=>?_)
 revert v0;show Fa _ _;refine MV.on_int zF0 zF1 zF1 zF1 zF1 zF1 zF1 zF1 (λl h=>?_)
 revert vs;show Fa _ _;refine Lis.on_cons zF0 (λw vs h=>?_)
 revert vs;show Fa _ _;refine Lis.on_nil zF2 (λh=>?_)
 intro hv
 unfold mGet at h
 dsimp only at h
 refine byP λXX kX=>?_
 cases hv with
 | cons hk hv=>
  cases hv with
  | cons hw hn=>
   have wq:=VL.nil_inv hn;clear hn;subst wq
   refine e2_2 (vref ha) λa ao wq ha'=>?_;subst wq
   refine e1_1 (vint hk) λt wq=>?_;subst wq
   generalize e1:l.const? = wo at h
   revert e1;revert wo;show Fa _ _;refine Opt.on_some zF0 (λc h=>?_);intro e1
   obtain ⟨m,led,F,N,R,Lc⟩:=x.hs.ex
   refine e2_3 (R.obj n _ (Zac (ν:=ν) hc)) λp0 es f1 f2 o=>?_
   rw [ha'] at f1
   have wq:=Option.some.inj f1;clear f1;subst wq
   refine e2_5 (o.dictI_inv) λ_ _ wq y z lo _=>?_;clear o;subst wq
   have g:=Zoa y c
   refine kX ?_
   rw [Zar ν.x e1]
   refine kdg_get2 N (R.mem f2 (.head _)) z lo (by first | rfl | exact decide_eq_true rfl | simp [intKind,Value.isInt]) _ rfl ?_
   generalize q:Zkg c kvs=wo at g
   cases wo with
   | some u=>
    simp only [q] at h
    refine e1_2 g λrv g1 g2=>?_;clear g
    rw [g1]
    exact RV.here h g2 (x.toks _)
   | none=>
    simp only [q] at h
    rw [g]
    exact RV.here h hw (x.toks _)
theorem ZdL (hν:ν.ok) {i:Lin}:∀ {xs:List ME} {o:Lin} {w:MV},ZeD i xs o=some w->0≤o.ev ν.x->∃ k:Nat,(rowS ν xs)[k]? = some (w.sem ν)∧i.ev ν.x=o.ev ν.x+k
 | [],_,_,h,_=>by exact nN h
 | .v y::r,o,w,h,ho=>by
  dsimp only [ZeD] at h
  generalize q:i.eq o=wo at h
  cases wo with
  | true=>have wq:=Option.some.inj h;clear h;subst wq;exact i1_2 (0) rfl (by rw [Lin.eq_eq q];omega)
  | false=>
   rw [cond_false] at h
   refine e1_2 (ZdL hν h (by rw [ZbE,ev_k];omega)) λk h1 h2=>?_
   exact i1_2 (k+1) h1 (by rw [h2,ZbE,ev_k];omega)
 | .seg n::r,o,w,h,ho=>by
  dsimp only [ZeD] at h
  refine e1_2 (ZdL hν h (by rw [ZbE,ev_x,hν.len];omega)) λk h1 h2=>?_
  refine i1_2 ((ν.g n).length+k) ?_ (by rw [h2,ZbE,ev_x,hν.len];omega)
  show (ν.g n++rowS ν r)[(ν.g n).length+k]? = _
  rw [List.getElem?_append_right (by omega),Nat.add_sub_cancel_left];exact h1
set_option tactic.hygienic true in
theorem Zfw (hν:ν.ok) {l:Lin} {xs:List ME} {P:MV->St->Prop} (h:(Zim l xs s).All ν P):∃ (w:MV) (k:Nat),P w s∧(rowS ν xs)[k]? = some (w.sem ν)∧(l.ev ν.x=k∨(l.ev ν.x<0∧l.ev ν.x+(rowS ν xs).length=k)):=by
 unfold Zim at h
 cases q:ZeD (Zn5 l xs) xs (.k 0) with
 | none=>rw [q] at h;exact h.elim
 | some w=>
  rw [q] at h
  refine e1_2 (ZdL hν q (by simp)) λk h1 h2=>?_
  refine i2_3 w k h h1 ?_
  rw [ev_k,Int.zero_add] at h2
  unfold Zn5 at h2
  refine byP λXX kX=>?_
  split at h2
  ·rename_i j e
   rw [ZbE,ev_k,←Zeh xs hν] at h2
   have:=Zar ν.x e
   refine kX ?_
   right
   rw [this]
   exact i0_2 (Int.negSucc_lt_zero _) h2
  ·refine kX ?_
   left;exact h2
theorem Zi2 {β:Type} (x:List Nat) (p:List Nat × β) (r:List (List Nat × β)):Zi1 x (p::r)=bif leq x p.1 then some p.2 else Zi1 x r:=rfl
theorem ZlH {kvs:List (List Nat × MV)} {rkvs:List (Str × Value)} (h:KVR ρ Zaa (kvs.map λp=>(p.1,p.2.sem ν)) rkvs) (c:List Nat) {v:MV} (hl:Zi1 c kvs=some v):∃ rv,valueAt rkvs (Zaa c)=some rv∧V ρ (v.sem ν) rv:=by
 induction kvs generalizing rkvs with
 | nil=>exact nN hl
 | cons p r ih=>
  cases h with
  | @cons _ _ rv _ rs h1 h2=>
   rw [Zi2] at hl
   generalize q:leq c p.1=wo at hl
   cases wo with
   | true=>
    rw [cond_true] at hl
    have wq:=Option.some.inj hl;clear hl;subst wq
    refine i1_2 rv ?_ h1
    unfold valueAt
    rw [List.find?_cons,show decide (Zaa p.1=Zaa c)=true from decide_eq_true (by rw [leq_eq.mp q])]
    rfl
   | false=>
    rw [cond_false] at hl
    refine e1_2 (ih h2 hl) λrv' e1 e2=>?_
    refine i1_2 rv' ?_ e2
    have ne:¬(Zaa p.1=Zaa c):=λe=>by
     have:(Zaa c==Zaa p.1)=true:=by rw [e];simp
     rw [ZdB,q] at this;exact nB this
    unfold valueAt at e1 ⊢
    rw [List.find?_cons,show decide (Zaa p.1=Zaa c)=false from decide_eq_false ne]
    exact e1
theorem ZkU {slice:PySem.Expr} (hs:∀ lo hi st p,slice ≠ .Slice lo hi st p) (o i:Value):PySem.subscripted slice false o i=PySem.operate [o,i] (PySem.getItem o i):=by
 cases slice<;>first | rfl | exact absurd rfl (hs _ _ _ _)
theorem Zn7 (hν:ν.ok) {value slice:PySem.Expr} (hs:∀ lo hi st p,slice ≠ .Slice lo hi st p) {v i:MV} {rv ri:Value} {P:MV->St->Prop} (h:(ZoI Γ v i s).All ν P) (x:Gd G B Γ ν ρ s rs) (hv:V ρ (v.sem ν) rv) (hi:V ρ (i.sem ν) ri):
 wpAny G.M B.A (subscriptTail value slice rv ri) (RV G B Γ ν ρ P) E rs:=by
 revert v;show Fa _ _;refine MV.on_str_ref zF0 zF1 zF1 zF1 zF1 zF1 zF1 (λ_ h=>?_) (λ_ h=>?_)<;>intro hv<;>(unfold ZoI at h;try dsimp only at h)
 ·refine e1_1 (vstr hv) λt wq=>?_;subst wq
  revert hi;revert i;show Fa _ _;refine MV.on_int zF0 zF1 zF1 zF1 zF1 zF1 zF1 zF1 (λ_ h=>?_)<;>intro hi<;>(try dsimp only at h)
  refine e1_1 (vint hi) λu wq=>?_;subst wq
  rename_i y l
  unfold ZkQ at h
  generalize e1:l.const? = wo at h
  revert e1;revert wo;show Fa _ _;refine Opt.on_some zF0 (λc h=>?_);intro e1
  cases c with
  | negSucc _=>exact h.elim
  | ofNat k=>
   have h0:(bif Nat.ble k 5000 then (match nth y k with | some c=>(Res.ret (.str [c]) s:Res MV) | none=>.stuck "str item") else .stuck "str item").All ν P:=h
   have hk5:Nat.ble k 5000=true:=by
    cases q:Nat.ble k 5000 with
    | true=>rfl
    | false=>rw [q] at h0;exact h0.elim
   rw [hk5,cond_true] at h0
   have hk63:=Nat.le_of_ble_eq_true hk5
   have h':=h0
   rw [Zar ν.x e1]
   generalize q:nth y k=wo at h'
   cases wo with
   | none=>exact h'.elim
   | some c=>
    rw [ZeK] at q
    have hk:=(List.getElem?_eq_some_iff.mp q).1
    refine tail_any (by first | exact .str _ _ | exact rfl | trivial) slot_str_getitem.lookup (getItem_str (c:=c) ?_ ?_ (RV.here h' (.str _ _) (x.toks _))) (ZkU hs _ _)
    ·simp only [Bool.or_eq_false_iff,decide_eq_false_iff_not]
     constructor<;>simp only [Int.ofNat_eq_natCast]<;>omega
    ·have:seqIndex? (Int.ofNat k) (Zaa y).length=some k:=by
      unfold seqIndex?
      have h0:¬(Int.ofNat k<0):=by simp only [Int.ofNat_eq_natCast];omega
      rw [Zal]
      simp only [h0,if_false]
      rw [if_pos (by simp only [Bool.and_eq_true,decide_eq_true_eq,Int.ofNat_eq_natCast];omega)]
      rfl
     rw [this]
     simpa [Zaa] using q
 ·refine e2_2 (vref hv) λa ao wq ha'=>?_;subst wq
  rename_i n
  generalize hc:cell Γ s n=wo at h
  revert hc;revert wo;show Fa _ _;refine Opt.on_some zF0 (λob h=>?_);intro hc
  revert ob;show Fa _ _;refine MO.on_list_tuple_dictS zF2 zF1 zF2 zF1 (λ_ h=>?_) (λ_ h=>?_) (λ_ h=>?_)<;>intro hc<;>(unfold Znj at h;try dsimp only at h)
  ·revert hi;revert i;show Fa _ _;refine MV.on_int zF0 zF1 zF1 zF1 zF1 zF1 zF1 zF1 (λ_ h=>?_)<;>intro hi<;>(try dsimp only at h)
   refine e1_1 (vint hi) λu wq=>?_;subst wq
   refine e2_3 (Zfw hν h) λw k hP h1 h2=>?_
   refine e2_3 (x.hs.list (Zac (ν:=ν) hc) ha') λvs j e1 hy hz=>?_
   refine e1_2 (hy.get h1) λrw' g1 g2=>?_
   have hl:=hy.length
   have hk:=(List.getElem?_eq_some_iff.mp g1).1
   refine tail_any (Zan e1).typeIs slot_list_getitem.lookup ?_ (ZkU hs _ _)
   rcases h2 with h2 | ⟨h2,h3⟩
   ·rw [h2]
    exact wpAny_getItem_list (Zan e1) (by omega) (by omega) (by simpa using g1) (RV.here hP g2 x)
   ·exact wpAny_getItem_list_neg (Zan e1) h2 (by rw [List.size_toArray,hl];omega) (by omega) (by rw [List.size_toArray,hl,h3];simpa using g1) (RV.here hP g2 x)
  ·revert hi;revert i;show Fa _ _;refine MV.on_int zF0 zF1 zF1 zF1 zF1 zF1 zF1 zF1 (λ_ h=>?_)<;>intro hi<;>(try dsimp only at h)
   refine e1_1 (vint hi) λu wq=>?_;subst wq
   refine e2_3 (Zfw hν h) λw k hP h1 h2=>?_
   refine e2_3 (x.hs.tuple (Zac (ν:=ν) hc) ha') λvs j e1 hy hz=>?_
   refine e1_2 (hy.get h1) λrw' g1 g2=>?_
   have hl:=hy.length
   have hk:=(List.getElem?_eq_some_iff.mp g1).1
   refine tail_any (Zam e1).typeIs slot_tuple_getitem.lookup (getItem_tuple (Zam e1) (j:=k) (by omega) (by omega) ?_ (by simpa using g1) (RV.here hP g2 x)) (ZkU hs _ _)
   unfold seqIndex?
   rw [List.size_toArray]
   rcases h2 with h2 | ⟨h2,h3⟩
   ·rw [h2]
    simp only [show ¬((k:Int)<0) from by omega,if_false]
    rw [if_pos (by simp only [Bool.and_eq_true,decide_eq_true_eq];omega)];simp
   ·simp only [h2,if_true]
    rw [hl,h3]
    rw [if_pos (by simp only [Bool.and_eq_true,decide_eq_true_eq];omega)];simp
  ·revert hi;revert i;show Fa _ _;refine MV.on_str zF0 zF1 zF1 zF1 zF1 zF1 zF1 zF1 (λ_ h=>?_)<;>intro hi<;>(try dsimp only at h)
   refine e1_1 (vstr hi) λu wq=>?_;subst wq
   rename_i kvs y
   generalize q:Zi1 y kvs=wo at h
   revert q;revert wo;show Fa _ _;refine Opt.on_some zF0 (λw h=>?_);intro q
   refine byP λXX kX=>?_
   obtain ⟨m,led,F,N,R,Lc⟩:=x.hs.ex
   refine e2_3 (R.obj n _ (Zac (ν:=ν) hc)) λp0 es f1 f2 o=>?_
   refine kX ?_
   rw [ha'] at f1
   have wq:=Option.some.inj f1;clear f1;subst wq
   refine e2_4 (o.dictS_inv) λ_ _ wq y z lo=>?_;clear o;subst wq
   refine e1_2 (ZlH y _ q) λrv g1 g2=>?_
   have hD:=kda_dict N (R.mem f2 (.head _)) z
   exact tail_any hD.typeIs slot_dict_getitem.lookup (wpAny_getItem_of (strKind_is _ _ _ _) hD.mapOf g1 (RV.here h g2 (x.toks _))) (ZkU hs _ _)
end Mine
end
section
namespace Mine
variable {G:Gl} {B:Bs} {Γ:Tab} {ν:Vn} {ρ:List (Addr × Obj)} {s:St} {rs:Shared} {E:Value->Shared->Prop} {d:Nat}
theorem Zay {sc:Scope} {x:Str} (h:Zah sc x=true):sc.names.lookup x=some .local:=by
 unfold Zah at h
 rw [Zaz] at h
 refine byP λXX kX=>?_
 split at h
 ·refine kX ?_
  assumption
 ·exact nB h
theorem ZdA {d:Nat} (O:Ok G B d) {x:Str} {v:MV} {rv:Value} {P:Unit->St->Prop} (h:(Zbk B.sc x v s).All ν P) (g:Gd G B Γ ν ρ s rs) (hv:V ρ (v.sem ν) rv):wpAny G.M B.A (storeName B.env x rv) (RU G B Γ ν ρ P) E rs:=by
 unfold Zbk at h
 refine e0_2 (Zak h) λq h=>?_
 simp only [Bool.and_eq_true,Bool.not_eq_true'] at q
 have hl:=Zay q.1
 obtain ⟨m,led,F,N,R,Lc⟩:=g.hs.ex
 refine wpAny_storeName_local (env:=B.env) hl F.ns (λh' hn hs=>?_) (by show (B.sc.kind == .class||(B.sc.kind == .module&&B.L != mainGlobals))=false;rw [O.kind];rfl)
 have F':=F.set hn hs
 have N':=N.set hs
 refine ⟨ρ,_,List.prefix_refl _,h,g.fx,⟨⟨_,led,F',N',R,⟨λy w e=>?_,?_⟩⟩,g.hs.gens,g.hs.drawn,g.hs.os⟩⟩
 ·have e':look y (put x (v.sem ν) (semL ν s.ls))=some w:=by
   have:=ZeS (MV.sem ν) x v s.ls
   unfold semL at e ⊢;rw [←this];exact e
  rw [ZaJ] at e'
  by_cases hy:y=x
  ·rw [if_pos hy] at e'
   have wq:=Option.some.inj e';clear e';subst wq
   exact i1_2 rv hv (.inl ⟨by rw [hy];exact hl,by rw [if_pos hy]⟩)
  ·rw [if_neg hy] at e'
   refine e1_2 (Lc.at_ y w e') λrw' h1 h2=>?_
   exact i1_2 rw' h1 (h2.imp (λz=>⟨z.1,by rw [if_neg hy];exact z.2⟩) id)
 ·show look _ (semL ν (put x v s.ls))=none
  unfold semL
  rw [ZeS,ZaJ,if_neg (λe=>Zaj q.2 e.symm)]
  exact Lc.dbg
theorem ZeI {t:PySem.Expr} {x:Str} (h:Zbb t=some x):∃ p,t = .Name x p:=by
 cases t<;>first | cases h;exact ⟨_,rfl⟩ | exact nN h
theorem ZaM (O:Ok G B d):∀ {ρ:List (Addr × Obj)} {ts:List PySem.Expr} {xs:List ME} {rvs:List Value} {s:St} {rs:Shared} {P:Unit->St->Prop},(Zao B.sc ts xs s).All ν P->Gd G B Γ ν ρ s rs->VL ρ (rowS ν xs) rvs->
 (assignEach ts B.env).length=rvs.length∧(assignEach ts B.env).findIdx? (·.1)=none∧wpAny G.M B.A (assignInOrder ((assignEach ts B.env).map (·.2)) rvs) (RU G B Γ ν ρ P) E rs
 | ρ,[],xs,rvs,s,rs,P,h,g,hv=>by
  revert xs;show Fa _ _;refine Lis.on_nil zF2 (λh=>?_);intro hv
  have wq:=VL.nil_inv hv;clear hv;subst wq
  refine i0_3 rfl rfl (assignInOrder_nil ⟨ρ,s,List.prefix_refl _,h,g⟩)
 | ρ,t::ts,xs,rvs,s,rs,P,h,g,hv=>by
  revert xs;show Fa _ _;refine Lis.on_cons zF0 (λe xs h=>?_);intro hv
  revert e;show Fa _ _;refine ME.on_v zF1 (λw h=>?_);intro hv
  have h':(match Zbb t with
   | some x=>(Zbk B.sc x w s).bind λ_ s=>Zao B.sc ts xs s
   | none=>.stuck "unpack").All ν P:=h
  cases q:Zbb t with
  | none=>rw [q] at h';exact h'.elim
  | some x=>
   refine byP λXX kX=>?_
   refine e1_1 (ZeI q) λp wq=>?_;subst wq
   rw [q] at h'
   have h2:=all_bind.mp h'
   have hv':VL ρ (w.sem ν::rowS ν xs) rvs:=hv
   cases hv' with
   | @cons _ rv _ rr h3 h4=>
    have e0:assignEach (.Name x p::ts) B.env=(false,λv=>assign (.Name x p) B.env v)::assignEach ts B.env:=rfl
    have len0:(assignEach ts B.env).length=rr.length∧(assignEach ts B.env).findIdx? (·.1)=none:=Za5 h2 h4
    refine kX ?_
    refine i0_3 (by rw [e0,List.length_cons,List.length_cons,len0.1]) (by rw [e0,List.findIdx?_cons];simp [len0.2]) ?_
    rw [e0]
    refine assignInOrder_cons (assign_Name (wpAny_mono (ZdA O h2 g h3) (λ_ rs1 y=>?_) λ_ _ e=>e))
    obtain ⟨ρ1,s1,hp,hP,g1⟩:=y
    exact wpAny_mono (ZaM O hP g1 (h4.mono hp)).2.2 (λ_ rs2 y=>RU.wide hp y) λ_ _ e=>e
where
 Za5 {ρ:List (Addr × Obj)} {ts:List PySem.Expr} {xs:List ME} {rr:List Value} {x:Str} {w:MV} {s:St} {P:Unit->St->Prop} (h:(Zbk B.sc x w s).All ν λ_ s=>(Zao B.sc ts xs s).All ν P) (hv:VL ρ (rowS ν xs) rr):
  (assignEach ts B.env).length=rr.length∧(assignEach ts B.env).findIdx? (·.1)=none:=by
  unfold Zbk at h
  refine e0_2 (Zak h) λq h=>?_
  exact go h hv
 go:∀ {ρ:List (Addr × Obj)} {ts:List PySem.Expr} {xs:List ME} {rr:List Value} {s:St} {P:Unit->St->Prop},(Zao B.sc ts xs s).All ν P->VL ρ (rowS ν xs) rr->(assignEach ts B.env).length=rr.length∧(assignEach ts B.env).findIdx? (·.1)=none
  | ρ,[],xs,rr,s,P,h,hv=>by
   revert xs;show Fa _ _;refine Lis.on_nil zF2 (λh=>?_);intro hv
   have wq:=VL.nil_inv hv;clear hv;subst wq;exact i0_2 rfl rfl
  | ρ,t::ts,xs,rr,s,P,h,hv=>by
   revert xs;show Fa _ _;refine Lis.on_cons zF0 (λe xs h=>?_);intro hv
   revert e;show Fa _ _;refine ME.on_v zF1 (λw h=>?_);intro hv
   have h':(match Zbb t with
    | some x=>(Zbk B.sc x w s).bind λ_ s=>Zao B.sc ts xs s
    | none=>.stuck "unpack").All ν P:=h
   cases q:Zbb t with
   | none=>rw [q] at h';exact h'.elim
   | some x=>
    refine byP λXX kX=>?_
    refine e1_1 (ZeI q) λp wq=>?_;subst wq
    rw [q] at h'
    have h2:=all_bind.mp h'
    have hv':VL ρ (w.sem ν::rowS ν xs) rr:=hv
    refine e2_3 (VL.cons_inv hv') λ_ _ wq h3 h4=>?_;clear hv';subst wq
    have e0:assignEach (.Name x p::ts) B.env=(false,λv=>assign (.Name x p) B.env v)::assignEach ts B.env:=rfl
    unfold Zbk at h2
    refine e0_2 (Zak h2) λq h2=>?_
    have:=go h2 h4
    refine kX ?_
    exact i0_2 (by rw [e0,List.length_cons,List.length_cons,this.1]) (by rw [e0,List.findIdx?_cons];simp [this.2])
set_option tactic.hygienic true in
theorem Zhf (x:Gd G B Γ ν ρ s rs) {v:MV} {xs:List ME} {rv:Value} (h:Zjd Γ s v=some xs) (hv:V ρ (v.sem ν) rv):∃ a vs,rv = .ref a∧IsTup rs.heap a vs.toArray∧VL ρ (rowS ν xs) vs:=by
 cases v<;>(unfold Zjd at h;try dsimp only at h)<;>(try cases h)
 refine byP λXX kX=>?_
 refine e2_2 (vref hv) λa ao wq ha'=>?_;subst wq
 rename_i n
 generalize hc:cell Γ s n=wo at h
 revert hc;revert wo;show Fa _ _;refine Opt.on_some zN0 (λob h=>?_);intro hc
 refine kX ?_
 cases ob<;>(try simp only at h)<;>(try cases h)
 refine e2_3 (x.hs.tuple (Zac (ν:=ν) hc) ha') λvs j e1 hy hz=>?_
 exact i2_3 a vs rfl (Zam e1) hy
set_option tactic.hygienic true in
theorem Zlg (O:Ok G B d) {t:PySem.Expr} {v:MV} {rv:Value} {P:Unit->St->Prop} (h:(ZjA Γ B.sc t v s).All ν P) (g:Gd G B Γ ν ρ s rs) (hv:V ρ (v.sem ν) rv):wpAny G.M B.A (assign t B.env rv) (RU G B Γ ν ρ P) E rs:=by
 cases t<;>(unfold ZjA at h;try dsimp only at h)<;>(try exact h.elim)
 ·rename_i x p
  exact assign_Name (ZdA O h g hv)
 ·rename_i ts k p
  generalize q:Zjd Γ s v=wo at h
  revert q;revert wo;show Fa _ _;refine Opt.on_some zF0 (λxs h=>?_);intro q
  refine byP λXX kX=>?_
  refine e2_3 (Zhf g q hv) λa vs wq ht hy=>?_;subst wq
  obtain ⟨m,led,F,N,R,Lc⟩:=g.hs.ex
  refine e0_3 (ZaM (E:=E) O h g hy) λl1 l2 _=>?_
  refine kX ?_
  refine unpackN_ F N ht O.hand (by simpa using l1) l2 (λh' F' N'=>?_)
  have g':Gd G B Γ ν ρ s { heap:=h',gens:=rs.gens,drawn:=rs.drawn,toks:=rs.toks,os:=rs.os }:=⟨g.fx,⟨⟨m,led,F',N',R,Lc⟩,g.hs.gens,g.hs.drawn,g.hs.os⟩⟩
  exact (ZaM O h g' hy).2.2
end Mine
end
section
namespace Mine
inductive FL (ν:Vn) (ρ:List (Addr × Obj)):Fl->Flow->Prop
 | next:FL ν ρ .next .next
 | brk:FL ν ρ .brk .brk
 | cont:FL ν ρ .cont .cont
 | ret {v:MV} {rv:Value}:V ρ (v.sem ν) rv->FL ν ρ (.ret v) (.ret rv)
section
variable (G:Gl) (B:Bs) (Γ:Tab) (ν:Vn) (ρ:List (Addr × Obj))
inductive RF (P:Fl->St->Prop) (f:Flow) (rs:Shared):Prop
 | mk (ρ':List (Addr × Obj)) (fl:Fl) (s:St):ρ <+: ρ'->P fl s->FL ν ρ' fl f->Gd G B Γ ν ρ' s rs->RF P f rs
inductive RL (P:List MV->St->Prop) (vs:List Value) (rs:Shared):Prop
 | mk (ρ':List (Addr × Obj)) (l:List MV) (s:St):ρ <+: ρ'->P l s->VL ρ' (l.map (MV.sem ν)) vs->Gd G B Γ ν ρ' s rs->RL P vs rs
end
noncomputable def NoE:Value->Shared->Prop:=λ_ _=>False
noncomputable def RR (G:Gl) (B:Bs) (Γ:Tab) (ν:Vn) (ρ:List (Addr × Obj)) (P:MV->St->Prop) (r:Result) (rs:Shared):Prop:=∃ rv,r = .ok (.ret rv)∧RV G B Γ ν ρ P rv rs
noncomputable def RW (G:Gl) (B:Bs) (Γ:Tab) (ν:Vn) (ρ:List (Addr × Obj)) (P:Fl->St->Prop) (r:Result) (rs:Shared):Prop:=∃ f,r = .ok f∧RF G B Γ ν ρ P f rs
structure IhOk (G:Gl) (Γ:Tab) (ν:Vn) (ih:Ih):Prop where
 ev:∀ {B:Bs} {ρ:List (Addr × Obj)} {s:St} {rs:Shared} {d:Nat} {e:PySem.Expr} {P:MV->St->Prop},Ok G B d->Gd G B Γ ν ρ s rs->(ih.ev d B.sc e s).All ν P->wpAny G.M B.A (eval e B.env) (RV G B Γ ν ρ P) NoE rs
 tst:∀ {B:Bs} {ρ:List (Addr × Obj)} {s:St} {rs:Shared} {d:Nat} {e:PySem.Expr} {P:Bool->St->Prop},Ok G B d->Gd G B Γ ν ρ s rs->(ih.tst d B.sc e s).All ν P->wpAny G.M B.A (isTrue e B.env (eval e B.env)) (RB G B Γ ν ρ P) NoE rs
 blk:∀ {B:Bs} {ρ:List (Addr × Obj)} {s:St} {rs:Shared} {d:Nat} {b:List Stmt} {P:Fl->St->Prop},Ok G B d->Gd G B Γ ν ρ s rs->(ih.blk d B.sc b s).All ν P->wpAny G.M B.A (execs b B.env) (RF G B Γ ν ρ P) NoE rs
 call:∀ {B:Bs} {ρ:List (Addr × Obj)} {s:St} {rs:Shared} {d:Nat} {v:Value} {vs:List MV} {rvs:List Value} {P:MV->St->Prop},Ok G B d->Gd G B Γ ν ρ s rs->VL ρ (vs.map (MV.sem ν)) rvs->(ih.call d (.glob v) vs s).All ν P->wpAny G.M B.A (PySem.call v rvs) (RV G B Γ ν ρ P) NoE rs
 callR:∀ {B:Bs} {ρ:List (Addr × Obj)} {s:St} {rs:Shared} {d:Nat} {a:Addr} {vs:List MV} {rvs:List Value} {P:MV->St->Prop},Ok G B d->Gd G B Γ ν ρ s rs->VL ρ (vs.map (MV.sem ν)) rvs->(ih.call d (.glob (.ref a)) vs s).All ν P->codeAny G.M B.A (.call (.ref a) ⟨rvs,[]⟩) (RR G B Γ ν ρ P) rs
 callG:∀ {d:Nat} {v:MV} {vs:List MV} {s:St} {P:MV->St->Prop},(ih.call d v vs s).All ν P->∃ w,v = .glob w∧(keepIn G.K w=true∨∀ a,w ≠ .ref a)
 whl:∀ {B:Bs} {ρ:List (Addr × Obj)} {s:St} {rs:Shared} {d:Nat} {t:PySem.Expr} {b:List Stmt} {P:Fl->St->Prop},Ok G B d->Gd G B Γ ν ρ s rs->(ih.whl d B.sc t b s).All ν P->codeAny G.M B.A (.whileLoop t b [] B.env) (RW G B Γ ν ρ P) rs
variable {G:Gl} {B:Bs} {Γ:Tab} {ν:Vn} {ρ:List (Addr × Obj)} {s:St} {rs:Shared} {d:Nat}
theorem RF.wide {ρ':List (Addr × Obj)} {P:Fl->St->Prop} {f:Flow} (h:ρ <+: ρ') (x:RF G B Γ ν ρ' P f rs):RF G B Γ ν ρ P f rs:=by
 obtain ⟨ρ2,v,s,a,b,c,e⟩:=x;exact ⟨ρ2,v,s,h.trans a,b,c,e⟩
theorem RC.wide {ρ':List (Addr × Obj)} {P:Bool->St->Prop} {rv:Value} (h:ρ <+: ρ') (x:RC G B Γ ν ρ' P rv rs):RC G B Γ ν ρ P rv rs:=by
 refine e1_2 x λb e y=>?_;clear x;exact i1_2 b e (y.wide h)
theorem ZdO (O:Ok G B d) (T:TOk G Γ) {x:Str} {p:Pos} {P:MV->St->Prop} (g:Gd G B Γ ν ρ s rs) (h:(Zbn Γ B.sc x s).All ν P):wpAny G.M B.A (eval (.Name x p) B.env) (RV G B Γ ν ρ P) NoE rs:=by
 unfold Zbn at h
 refine byP λXX kX=>?_
 obtain ⟨m,led,F,N,R,Lc⟩:=g.hs.ex
 generalize q:look x s.ls=wo at h
 cases wo with
 | some v=>
  have hd:(x==("__debug__":Str))=false:=by
   cases z:(x==("__debug__":Str)) with
   | false=>rfl
   | true=>
    have e:x=Str.ofString "__debug__":=by simpa using z
    have:=Lc.dbg
    rw [←e,ZeW q] at this;exact nS this
  refine e1_2 (Lc.at_ x _ (ZeW (ν:=ν) q)) λrv hv hm=>?_
  rcases hm with ⟨k1,k2⟩ | ⟨k1,c,o,k2,k3,k4⟩
  ·refine kX ?_
   exact wpAny_Name (wpAny_loadName_local O.kind k1 F.ns k2 (RV.here h hv g)) hd
  ·refine kX ?_
   exact wpAny_Name (wpAny_loadName_cell O.kind k1 k2 ⟨o,N.get (List.mem_append_left _ k3),k4⟩ (RV.here h hv g)) hd
 | none=>
  dsimp only at h
  generalize k:look x B.sc.names=wo at h
  revert k;revert wo;show Fa _ _;refine Opt.on_some zF0 (λkd h=>?_);intro k
  refine kX ?_
  cases kd<;>try exact h.elim
  cases nm:look x Γ.names with
  | none=>simp only [nm] at h;exact h.elim
  | some v=>
   simp only [nm] at h
   refine byP λXX kX=>?_
   refine e0_2 (T.names x v nm) λhd wq=>?_;obtain ⟨rv,hv,hm⟩:=wq
   have hd':(x==("__debug__":Str))=false:=by simpa using hd
   rw [Zaz] at k
   have hv':V ρ (v.sem ν) rv:=(hv ν).mono List.nil_prefix
   rcases hm with hm | ⟨hm,hb,hn⟩
   ·refine kX ?_
    exact Name_function_global O.kind k (loadGlobal_global (env:=B.env) (O.top.g.keeps F.keep) (mg_of O.kin O.top.g hm) (RV.here h hv' g)) hd'
   ·refine kX ?_
    exact Name_function_global O.kind k (loadGlobal_builtin (env:=B.env) (O.top.g.keeps F.keep) (mg_none_of O.kin O.top.g hm) (O.top.b.keeps F.keep) ((O.top.builtins x hn).trans hb) (RV.here h hv' g)) hd'
set_option tactic.hygienic true in
theorem Zll {c:Const} {k:Nat} {p:Pos} {P:MV->St->Prop} (g:Gd G B Γ ν ρ s rs) (h:(Zhw c s).All ν P):wpAny G.M B.A (eval (.Constant c k p) B.env) (RV G B Γ ν ρ P) NoE rs:=by
 cases c<;>(unfold Zhw at h;try dsimp only at h)<;>try exact h.elim
 ·exact wpAny_Constant_none (RV.here h .none g)
 ·exact wpAny_Constant_bool (RV.here h (.bool _) g)
 ·exact wpAny_Constant_int (RV.here h (by simp only [MV.sem,ev_k];exact .int _ _) (g.toks _))
 ·rename_i x
  refine wpAny_Constant_str (RV.here h ?_ (g.toks _))
  have:V ρ (.str x.cps.toList) (.str ⟨x.cps.toList.toArray⟩ rs.toks):=.str _ _
  simpa [MV.sem] using this
theorem ZbW {e:PySem.Expr} (h:Zae e=true) (es:List PySem.Expr) (env:Env):starEach (e::es) env=(false,eval e env)::starEach es env:=by
 cases e<;>first | rfl | exact nB h
theorem Za1 {e:PySem.Expr} (h:Zae e=true) (op:CmpOp):behindInMarks op e=false:=by
 cases e<;>first | rfl | exact nB h
theorem ZbQ {ih:Ih} (H:IhOk G Γ ν ih) (O:Ok G B d) {pos:Pos}:∀ {es:List PySem.Expr} {ρ:List (Addr × Obj)} {s:St} {rs:Shared} {P:List MV->St->Prop},Gd G B Γ ν ρ s rs->(ZaF (ih.ev d B.sc) es s).All ν P->
 wpAny G.M B.A (spliced (backTo pos (starEach es B.env))) (RL G B Γ ν ρ P) NoE rs
 | [],ρ,s,rs,P,g,h=>wpAny_items_nil ⟨ρ,[],s,List.prefix_refl _,h,.nil,g⟩
 | e::es,ρ,s,rs,P,g,h=>by
  have h':(bif !(Zae e) then (Res.stuck "arg":Res (List MV)) else (ih.ev d B.sc e s).bind λv s=>(ZaF (ih.ev d B.sc) es s).bind λvs s=>.ret (v::vs) s).All ν P:=h
  cases q:Zae e with
  | false=>rw [q] at h';exact h'.elim
  | true=>
   rw [q] at h'
   have h2:=all_bind.mp h'
   refine wpAny_items_cons (wpAny_mono (H.ev O g h2) (λv rs1 y=>?_) λ_ _ e=>e) (ZbW q _ _)
   obtain ⟨ρ1,w,s1,hp,h3,hv,g1⟩:=y
   refine wpAny_mono (ZbQ H O g1 (all_bind.mp h3)) (λvs rs2 y=>?_) λ_ _ e=>e
   obtain ⟨ρ2,ws,s2,hp2,h4,hvs,g2⟩:=y
   exact ⟨ρ2,w::ws,s2,hp.trans hp2,h4,.cons (hv.mono hp2) hvs,g2⟩
theorem Zdw:∀ {es:List PySem.Expr},(es.all Zae)=true->∀ (pos:Pos) (env:Env),(backTo pos (starEach es env)).any (·.1)=false
 | [],_,_,_=>rfl
 | e::es,h,pos,env=>by
  rw [List.all_cons,Bool.and_eq_true] at h
  rw [ZbW h.1]
  show (false||(backTo pos (starEach es env)).any (·.1))=false
  rw [Zdw h.2];rfl
theorem Zbm {α:Type} {P:α->St->Prop}:∀ {r:Res α},r.All ν P->∃ a s,P a s
 | .stuck _,h=>h.elim
 | .ret a s,h=>⟨a,s,h⟩
 | .fork c t f,h=>by
  by_cases q:c.holds ν
  ·exact Zbm (h.1 q)
  ·exact Zbm (h.2 q)
 | .both t f,h=>Zbm h.1
theorem ZbC {ev:PySem.Expr->St->Res MV}:∀ {es:List PySem.Expr} {s:St} {P:List MV->St->Prop},(ZaF ev es s).All ν P->es.all Zae=true
 | [],_,_,_=>rfl
 | e::es,s,P,h=>by
  have h':(bif !(Zae e) then (Res.stuck "arg":Res (List MV)) else (ev e s).bind λv s=>(ZaF ev es s).bind λvs s=>.ret (v::vs) s).All ν P:=h
  generalize q:Zae e=wo at h'
  revert q;revert wo;show Fa _ _;refine Boo.on_true zF0 (λh'=>?_);intro q
  refine e2_1 (Zbm (all_bind.mp h')) λa s1 h2=>?_
  rw [List.all_cons,q,ZbC (all_bind.mp h2)];rfl
theorem ZgS {v:Value} (h:keepIn G.K v=true∨∀ a,v ≠ .ref a) (hp:Heap) (X:G.K.In hp):∃ k,(k=Keeper.frame∨k=Keeper.machine∨k=Keeper.boundFrame)∧Looks G.M hp (keeperOf v) k:=by
 rcases h with h | h
 ·exact keeps_K h hp X
 ·refine i1_2 .machine (.inr (.inl rfl)) ?_
  have:keeperOf v=pure .machine:=by cases v<;>first | rfl | exact absurd rfl (h _)
  exact Looks.of_pure this
theorem ZbS {f:Value} {M:Model} {A:Around} {E:Value->Shared->Prop} {args:List (Bool × Sem Value)} {Q:Args->Shared->Prop} {s:Shared} (hp:args.any (·.1)=false)
 (h:wpAny M A (spliced args) (λvs s'=>Q ⟨vs,[]⟩ s') E s):wpAny M A (evalArgs f true args []) Q E s:=by
 cases args with
 | nil=>
  unfold evalArgs
  show wpAny M A (spliced [] >>= _) Q E s
  refine wpAny_bind (wpAny_mono h (λvs s' h'=>?_) λ_ _ x=>x)
  refine wpAny_bind (wpAny_pure ?_)
  refine wpAny_holding ?_
  exact wpAny_bind (wpAny_pure (wpAny_bind (wpAny_pure (wpAny_pure h'))))
 | cons p r=>
  obtain ⟨b,x⟩:=p
  cases b with
  | true=>simp at hp
  | false=>exact Calls.evalArgs_plain h
theorem Zeo {ih:Ih} (H:IhOk G Γ ν ih) (O:Ok G B d) {pos:Pos} {w:Value} {es:List PySem.Expr} {first:List MV} {rfirst:List Value} {P:MV->St->Prop} (hf:VL ρ (first.map (MV.sem ν)) rfirst) (g:Gd G B Γ ν ρ s rs)
 (h:(ZaF (ih.ev d B.sc) es s).All ν λvs s=>(ih.call d (.glob w) (first++vs) s).All ν P):
 wpAny G.M B.A (callWith pos w rfirst (backTo pos (starEach es B.env)) []) (RV G B Γ ν ρ P) NoE rs:=by
 have hp:=Zdw (ZbC h) pos B.env
 refine callWith_of (P:=λhp=>∃ k,(k=Keeper.frame∨k=Keeper.machine∨k=Keeper.boundFrame)∧Looks G.M hp (keeperOf w) k) (by rw [hp];rfl) (λ_ q=>q) (ZbS hp ?_)
 refine wpAny_mono (ZbQ H O g h) (λvs rs1 y=>?_) λ_ _ e=>e
 refine byP λXX kX=>?_
 obtain ⟨ρ1,ws,s1,hp1,h1,hv,g1⟩:=y
 refine e1_2 (H.callG h1) λw' e hk=>?_
 cases e
 refine kX ?_
 refine i0_2 (ZgS hk _ (g1.kin O)) (wpAny_mono (H.call O g1 (vs:=first++ws) (by rw [List.map_append];exact (hf.mono hp1).append hv) h1) (λrv rs2 y=>y.wide hp1) λ_ _ e=>e)
end Mine
end
section
namespace Mine
variable {G:Gl} {B:Bs} {Γ:Tab} {ν:Vn} {ρ:List (Addr × Obj)} {s:St} {rs:Shared} {d:Nat}
theorem Zc5 {p:Nat->Bool}:∀ l:List Nat,l.dropWhile p=l.drop (l.takeWhile p).length
 | []=>rfl
 | a::r=>by
  rw [List.dropWhile_cons,List.takeWhile_cons]
  cases p a with
  | true=>simp [Zc5 r]
  | false=>simp
theorem ZhQ (y:List Nat) (k:Nat):Builtin.Str.strSub (Zaa y) 0 k=Zaa (y.take k):=by
 unfold Builtin.Str.strSub Zaa
 simp
theorem ZkI (c:Nat) (y:List Nat):Txt.rstripChars (Zaa y) (Zaa [c])=Zaa (ZeV c y):=by
 have hg:((Zaa [c]).cps.contains:Nat->Bool)=Nat.beq c:=by
  funext x
  have h1:(Zaa [c]).cps.contains x=([c].contains x):=by simp [Zaa]
  rw [h1]
  show (x==c||false)=Nat.beq c x
  rw [Bool.or_false]
  cases h:Nat.beq c x with
  | true=>rw [Nat.eq_of_beq_eq_true h];simp
  | false=>simp only [beq_eq_false_iff_ne];intro e;subst e;rw [Nat.beq_refl] at h;exact nT h
 have hk:ZeV c y=y.take (y.length-(y.reverse.takeWhile (Nat.beq c)).length):=by
  unfold ZeV
  rw [Zc5,List.reverse_drop]
  simp
 unfold Txt.rstripChars Txt.stripBy
 rw [hg]
 unfold PySem.stripSame PySem.stripped
 have hhi:stripHi (Nat.beq c) true (Zaa y) (stripLo (Nat.beq c) false (Zaa y))=y.length-(y.reverse.takeWhile (Nat.beq c)).length:=by
  unfold stripHi stripLo
  simp only [Zal,if_true,Bool.false_eq_true,if_false,List.drop_zero]
  simp [Zaa]
 rw [hhi]
 have hlo:stripLo (Nat.beq c) false (Zaa y)=0:=rfl
 rw [hlo,ZhQ,←hk]
 split
 ·rename_i h
  simp only [Bool.and_eq_true,beq_iff_eq] at h
  rw [hk,h.2,Zal,List.take_of_length_le (Nat.le_refl _)]
 ·rfl
theorem ZkJ {y:List Nat} {vs:List MV} {ra:Value} {rvs:List Value} {P:MV->St->Prop} (h:(ZhF y vs s).All ν P) (x:Gd G B Γ ν ρ s rs) (ha:V ρ (.str y) ra) (hv:VL ρ (vs.map (MV.sem ν)) rvs):
 wpAny G.M B.A (call (.builtin "str.rstrip") (ra::rvs)) (RV G B Γ ν ρ P) NoE rs:=by
 revert vs;show Fa _ _;refine Lis.on_cons zF0 (λv0 vs h=>?_)
 revert v0;show Fa _ _;refine MV.on_str zF0 zF1 zF1 zF1 zF1 zF1 zF1 zF1 (λz h=>?_)
 revert vs;show Fa _ _;refine Lis.on_nil zF2 (λh=>?_)
 intro hv
 unfold ZhF at h
 dsimp only at h
 refine e2_3 (VL.cons_inv hv) λ_ _ wq hz hn=>?_;clear hv;subst wq
 have wq:=VL.nil_inv hn;clear hn;subst wq
 refine e1_1 (vstr ha) λt wq=>?_;subst wq
 refine e1_1 (vstr hz) λu wq=>?_;subst wq
 revert z;show Fa _ _;refine Lis.on_cons zF0 (λc r h=>?_);intro hz
 revert r;show Fa _ _;refine Lis.on_nil zF2 (λh=>?_);intro hz
 have h':(bif Nat.ble y.length 5000 then (Res.ret (.str (ZeV c y)) s:Res MV) else .stuck "long str").All ν P:=h
 cases hl:Nat.ble y.length 5000 with
 | false=>rw [hl] at h';exact h'.elim
 | true=>
 rw [hl] at h'
 replace h:=h'
 have hy:=Nat.le_of_ble_eq_true hl
 refine SC.rstripChars (λt' k=>RV.here h ?_ (x.toks _)) (by rw [Zal,sizeLine_eq];omega)
 rw [ZkI];exact .str _ _
set_option tactic.hygienic true in
theorem Zlc {xs:List ME} {l:List (List Nat)} {vs:List Value} (h:ZbB xs=some l) (hv:VL ρ (rowS ν xs) vs):∃ ts:List (Str × Tok),vs=PySem.strValues ts∧ts.map (·.1)=l.map Zaa:=by
 induction xs generalizing l vs with
 | nil=>have wq:=Option.some.inj h;clear h;subst wq;have wqb:=VL.nil_inv hv;clear hv;subst wqb;exact i1_2 ([]) rfl rfl
 | cons e r ih=>
  revert e;show Fa _ _;refine ME.on_v zN1 (λx h=>?_);intro hv
  cases x<;>(try cases h;done)
  rename_i z
  have h':(match ZbB r with | some l=>some (z::l) | none=>none)=some l:=h
  generalize q:ZbB r=wo at h'
  revert q;revert wo;show Fa _ _;refine Opt.on_some zN0 (λl' h'=>?_);intro q
  have wq:=Option.some.inj h';clear h';subst wq
  have hv':VL ρ (.str z::rowS ν r) vs:=hv
  refine e2_3 (VL.cons_inv hv') λ_ _ wq a b=>?_;clear hv';subst wq
  refine e1_2 (ih q b) λts wq e=>?_;subst wq
  refine e1_1 (vstr a) λt wq=>?_;subst wq
  exact i1_2 ((Zaa z,t)::ts) rfl (by simp [e])
theorem ZfZ:∀ {l:List (List Nat)} {y:List Nat},y ∈ l->y.length≤l.flatten.length
 | a::r,y,h=>by
  rw [List.flatten_cons,List.length_append]
  rcases List.mem_cons.mp h with rfl | h
  ·omega
  ·have:=ZfZ h;omega
theorem ZgP:∀ l:List (List Nat),Txt.join (Zaa []) (l.map Zaa)=Zaa l.flatten:=by
 intro l
 unfold Txt.join
 rw [StrLaws.glued_eq_join]
 induction l with
 | nil=>rfl
 | cons a r ih=>
  cases r with
  | nil=>simp [Str.join]
  | cons b r=>
   show Zaa a++Zaa []++Str.join (Zaa []) ((b::r).map Zaa)=_
   rw [ih,←Zco,←Zco,List.append_nil];rfl
theorem Zn9 {y:List Nat} {vs:List MV} {ra:Value} {rvs:List Value} {P:MV->St->Prop} (h:(Zof Γ y vs s).All ν P) (x:Gd G B Γ ν ρ s rs) (ha:V ρ (.str y) ra) (hv:VL ρ (vs.map (MV.sem ν)) rvs):
 wpAny G.M B.A (call (.builtin "str.join") (ra::rvs)) (RV G B Γ ν ρ P) NoE rs:=by
 revert vs;show Fa _ _;refine Lis.on_cons zF0 (λv0 vs h=>?_)
 revert v0;show Fa _ _;refine MV.on_ref zF0 zF1 zF1 zF1 zF1 zF1 zF1 zF1 (λn h=>?_)
 revert vs;show Fa _ _;refine Lis.on_nil zF2 (λh=>?_)
 intro hv
 unfold Zof at h
 dsimp only at h
 refine e2_3 (VL.cons_inv hv) λ_ _ wq hz hn=>?_;clear hv;subst wq
 have wq:=VL.nil_inv hn;clear hn;subst wq
 refine e1_1 (vstr ha) λt wq=>?_;subst wq
 refine e2_2 (vref hz) λa ao wq ha'=>?_;subst wq
 revert y;show Fa _ _;refine Lis.on_nil zF2 (λh=>?_);intro ha
 dsimp only at h
 generalize hc:cell Γ s n=wo at h
 revert hc;revert wo;show Fa _ _;refine Opt.on_some zF0 (λob h=>?_);intro hc
 revert ob;show Fa _ _;refine MO.on_list zF2 zF1 zF1 zF1 zF2 zF1 (λ_ h=>?_)<;>intro hc
 rename_i xs
 dsimp only at h
 generalize q:ZbB xs=wo at h
 revert q;revert wo;show Fa _ _;refine Opt.on_some zF0 (λl h=>?_);intro q
 have h':(bif Nat.ble l.length 500&&Nat.ble l.flatten.length 5000 then (Res.ret (.str l.flatten) s:Res MV) else .stuck "long join").All ν P:=h
 refine e0_2 (Zak h') λhl h'=>?_
 rw [Bool.and_eq_true] at hl
 have h1:=Nat.le_of_ble_eq_true hl.1
 have h2:=Nat.le_of_ble_eq_true hl.2
 refine byP λXX kX=>?_
 refine e2_3 (x.hs.list (xs:=rowS ν xs) (Zac (ν:=ν) hc) ha') λus i e1 hu hz=>?_
 refine e1_2 (Zlc q hu) λts wq e2=>?_;subst wq
 refine kX ?_
 refine SC.join (Zan e1) e2 ?_ (λt' k=>RV.here h' ?_ (x.toks _))
 ·unfold JoinOk
  rw [Bool.not_eq_true']
  refine StrLaws.joinFits (B:=5000) (λz hz=>?_) ?_
  ·refine e1_2 (List.mem_map.mp hz) λz' hz' wq=>?_;subst wq
   rw [Zal]
   exact Nat.le_trans (ZfZ hz') h2
  ·rw [List.length_map,Zal]
   have:l.length * 5000≤500 * 5000:=Nat.mul_le_mul_right _ h1
   simp;omega
 ·rw [ZgP];exact .str _ _
end Mine
end
section
namespace Mine
variable {G:Gl} {B:Bs} {Γ:Tab} {ν:Vn} {ρ:List (Addr × Obj)} {s:St} {rs:Shared} {d:Nat}
theorem Zgn:∀ {xs:List ME} {l:List MV},Zd9 xs=some l->xs=l.map ME.v
 | [],l,h=>by have wq:=Option.some.inj h;clear h;subst wq;rfl
 | .seg _::_,l,h=>by exact nN h
 | .v x::r,l,h=>by
  have h':(match Zd9 r with | some l=>some (x::l) | none=>none)=some l:=h
  generalize q:Zd9 r=wo at h'
  revert q;revert wo;show Fa _ _;refine Opt.on_some zN0 (λl' h'=>?_);intro q
  have wq:=Option.some.inj h';clear h';subst wq;rw [Zgn q];rfl
set_option tactic.hygienic true in
theorem ZmO {l:List MV} {b:Bool} {vs:List Value} (h:allB l=some b) (hv:VL ρ (l.map (MV.sem ν)) vs):∃ bs,LSm.BoolsAre vs bs∧bs.all id=b:=by
 induction l generalizing b vs with
 | nil=>have wq:=Option.some.inj h;clear h;subst wq;have wqb:=VL.nil_inv hv;clear hv;subst wqb;exact i1_2 ([]) (by first | exact .nil | trivial | rfl) rfl
 | cons x r ih=>
  cases x<;>(try cases h;done)
  rename_i c
  have h':(match allB r with | some t=>some (c&&t) | none=>none)=some b:=h
  generalize q:allB r=wo at h'
  revert q;revert wo;show Fa _ _;refine Opt.on_some zN0 (λt h'=>?_);intro q
  have wq:=Option.some.inj h';clear h';subst wq
  refine e2_3 (VL.cons_inv hv) λ_ _ wq a e=>?_;clear hv;subst wq
  refine e1_2 (ih q e) λbs h1 h2=>?_
  cases Zfe a
  exact i1_2 (c::bs) (by first | exact .cons _ h1 | exact ⟨rfl,h1⟩ | simpa [LSm.BoolsAre] using h1) (by simp [h2])
theorem Zo6 (O:Ok G B d) {vs:List MV} {rvs:List Value} {P:MV->St->Prop} (h:(Zny Γ vs s).All ν P) (x:Gd G B Γ ν ρ s rs) (hv:VL ρ (vs.map (MV.sem ν)) rvs):wpAny G.M B.A (call (.builtin "all") rvs) (RV G B Γ ν ρ P) NoE rs:=by
 revert vs;show Fa _ _;refine Lis.on_cons zF0 (λv0 vs h=>?_)
 revert v0;show Fa _ _;refine MV.on_ref zF0 zF1 zF1 zF1 zF1 zF1 zF1 zF1 (λn h=>?_)
 revert vs;show Fa _ _;refine Lis.on_nil zF2 (λh=>?_)
 intro hv
 unfold Zny at h
 dsimp only at h
 refine byP λXX kX=>?_
 refine e2_3 (VL.cons_inv hv) λ_ _ wq ha hn=>?_;clear hv;subst wq
 have wq:=VL.nil_inv hn;clear hn;subst wq
 refine e2_2 (vref ha) λa ao wq ha'=>?_;subst wq
 generalize hc:cell Γ s n=wo at h
 revert hc;revert wo;show Fa _ _;refine Opt.on_some zF0 (λob h=>?_);intro hc
 refine kX ?_
 revert ob;show Fa _ _;refine MO.on_list zF2 zF1 zF1 zF1 zF2 zF1 (λ_ h=>?_)<;>intro hc
 rename_i xs
 dsimp only at h
 generalize q:Zd9 xs=wo at h
 revert q;revert wo;show Fa _ _;refine Opt.on_some zF0 (λl h=>?_);intro q
 dsimp only at h
 generalize q2:allB l=wo at h
 revert q2;revert wo;show Fa _ _;refine Opt.on_some zF0 (λb h=>?_);intro q2
 have e:=Zgn q
 refine byP λXX kX=>?_
 subst e
 refine e2_3 (x.hs.list (xs:=rowS ν (l.map ME.v)) (Zac (ν:=ν) hc) ha') λus i e1 hu hz=>?_
 rw [Zd4] at hu
 refine e1_2 (ZmO q2 hu) λbs h1 h2=>?_
 obtain ⟨m,led,F,N,R,Lc⟩:=x.hs.ex
 refine kX ?_
 refine LSm.all_bools F N O.hand (Zan e1) h1 (λh' tk F' N'=>?_)
 rw [h2]
 exact ⟨ρ,_,s,List.prefix_refl _,h,.bool _,x.fx,⟨m,led,F',N',R,Lc⟩,x.hs.gens,x.hs.drawn,x.hs.os⟩
theorem Zl7 {vs:List MV} {rvs:List Value} {P:MV->St->Prop} (h:(Zho Γ vs s).All ν P) (x:Gd G B Γ ν ρ s rs) (hv:VL ρ (vs.map (MV.sem ν)) rvs):wpAny G.M B.A (call (.type "range") rvs) (RV G B Γ ν ρ P) NoE rs:=by
 revert vs;show Fa _ _;refine Lis.on_cons zF0 (λv0 vs h=>?_)
 revert v0;show Fa _ _;refine MV.on_int zF0 zF1 zF1 zF1 zF1 zF1 zF1 zF1 (λp h=>?_)
 revert vs;show Fa _ _;refine Lis.on_cons zF0 (λv0 vs h=>?_)
 revert v0;show Fa _ _;refine MV.on_int zF0 zF1 zF1 zF1 zF1 zF1 zF1 zF1 (λq h=>?_)
 revert vs;show Fa _ _;refine Lis.on_nil zF2 (λh=>?_)
 intro hv
 unfold Zho at h
 dsimp only at h
 refine byP λXX kX=>?_
 refine e2_3 (VL.cons_inv hv) λ_ _ wq ha hn=>?_;clear hv;subst wq
 cases hn with
 | cons hb hn=>
  have wq:=VL.nil_inv hn;clear hn;subst wq
  refine e1_1 (vint ha) λt wq=>?_;subst wq
  refine e1_1 (vint hb) λu wq=>?_;subst wq
  cases e1:p.const? with
  | none=>rw [e1] at h;exact h.elim
  | some i=>
   cases e2:q.const? with
   | none=>rw [e1,e2] at h;exact h.elim
   | some j=>
    rw [e1,e2] at h
    have h':(bif ieq i i&&Nat.ble i.natAbs 1000&&Nat.ble j.natAbs 1000 then (Res.ret (Za6 Γ s (.range i j)).1 (Za6 Γ s (.range i j)).2:Res MV) else .stuck "range").All ν P:=h
    refine e0_2 (Zak h') λhl h'=>?_
    have hP:=h'
    refine kX ?_
    rw [Zar ν.x e1,Zar ν.x e2]
    obtain ⟨m,led,F,N,R,Lc⟩:=x.hs.ex
    refine range2_rows F N (λh' tk t₁ u₁ v₁ hr F' N' hk=>?_)
    have hp:ρ <+: ρ++[(rs.heap.objs.size,({ cls:=.type "range",data:=.fields #[.int i t₁,.int j u₁,.int 1 v₁] }:Obj))]:=List.prefix_append _ _
    refine ⟨_,_,_,hp,hP,by rw [Zav];exact .ref (o:={ cls:=.type "range",data:=.fields #[.int i t₁,.int j u₁,.int 1 v₁] }) (by simp [←R.l1]),x.fx,?_⟩
    rw [Zaw]
    refine ⟨⟨m,led++[[(rs.heap.objs.size,({ cls:=.type "range",data:=.fields #[.int i t₁,.int j u₁,.int 1 v₁] }:Obj))]],F',?_,R.push .range (by simp) ?_,Lc.mono hp⟩,x.hs.gens,x.hs.drawn,x.hs.os⟩
    ·intro p hp'
     have hp2:=ZaB hp'
     refine byP λXX kX=>?_
     rcases List.mem_append.mp hp2 with hp2 | hp2
     ·simp only [List.mem_cons,List.not_mem_nil,or_false] at hp2
      subst hp2
      refine kX ?_
      refine i0_3 hr ?_ ?_
      ·refine e3_2 (F.ns) λoL _ _ hL _=>?_
       exact Nat.ne_of_gt (Heap.lt_size hL)
      ·cases hq:B.h₀.get? rs.heap.objs.size with
       | none=>rfl
       | some o'=>exact absurd (Heap.lt_size (F.keep _ _ hq)) (Nat.lt_irrefl _)
     ·refine kX ?_
      exact N' p hp2
    ·intro p hp' q hq
     simp only [List.mem_cons,List.not_mem_nil,or_false] at hp'
     subst hp'
     exact News.lt N q hq
theorem seqS {a b:String} (h:seq (Str.ofString a) (Str.ofString b)=true):a=b:=by
 have e:=seq_iff.mp h
 rw [Str.ofString_eq_toList,Str.ofString_eq_toList] at e
 have e2:(a.toList.map Char.toNat)=(b.toList.map Char.toNat):=by simpa using congrArg (λx=>x.cps.toList) e
 have inj:∀ x y:Char,x.toNat=y.toNat->x=y:=λx y q=>by
  apply Char.ext
  exact UInt32.toNat_inj.mp q
 have e3:∀ l m:List Char,l.map Char.toNat=m.map Char.toNat->l=m:=by
  intro l
  induction l with
  | nil=>intro m q;cases m with | nil=>rfl | cons _ _=>simp at q
  | cons x r ih=>
   intro m q
   cases m with
   | nil=>simp at q
   | cons y t=>simp only [List.map_cons,List.cons.injEq] at q;rw [inj x y q.1,ih t q.2]
 exact String.toList_inj.mp (e3 _ _ e2)
theorem Zqc (O:Ok G B d) (hν:ν.ok) {id:String} {vs:List MV} {rvs:List Value} {P:MV->St->Prop} (h:(biOf Γ id vs s).All ν P) (x:Gd G B Γ ν ρ s rs) (hv:VL ρ (vs.map (MV.sem ν)) rvs):wpAny G.M B.A (call (.builtin id) rvs) (RV G B Γ ν ρ P) NoE rs:=by
 unfold biOf at h
 generalize q1:seq (Str.ofString id) (Str.ofString "len")=wo at h
 cases wo with
 | true=>rw [seqS q1];exact Zpx hν h x hv
 | false=>
 rw [cond_false] at h
 generalize q2:seq (Str.ofString id) (Str.ofString "min")=wo at h
 cases wo with
 | true=>rw [seqS q2];exact ZpA O h x hv
 | false=>
 rw [cond_false] at h
 generalize q3:seq (Str.ofString id) (Str.ofString "ord")=wo at h
 cases wo with
 | true=>rw [seqS q3];exact ZpK h x hv
 | false=>
 rw [cond_false] at h
 generalize q4:seq (Str.ofString id) (Str.ofString "all")=wo at h
 cases wo with
 | true=>rw [seqS q4];exact Zo6 O h x hv
 | false=>
 rw [cond_false] at h
 generalize q5:seq (Str.ofString id) (Str.ofString "abs")=wo at h
 cases wo with
 | true=>rw [seqS q5];exact Zo4 h x hv
 | false=>
 rw [cond_false] at h
 generalize q6:seq (Str.ofString id) (Str.ofString "sum")=wo at h
 cases wo with
 | true=>rw [seqS q6];exact ZpX O hν h x hv
 | false=>rw [cond_false] at h;exact h.elim
theorem Zqz (O:Ok G B d) (T:TOk G Γ) (hν:ν.ok) {id:String} {vs:List MV} {rvs:List Value} {P:MV->St->Prop} (h:(tyOf Γ id vs s).All ν P) (x:Gd G B Γ ν ρ s rs) (hv:VL ρ (vs.map (MV.sem ν)) rvs):wpAny G.M B.A (call (.type id) rvs) (RV G B Γ ν ρ P) NoE rs:=by
 unfold tyOf at h
 generalize q1:seq (Str.ofString id) (Str.ofString "list")=wo at h
 cases wo with
 | true=>rw [seqS q1];exact Zoe O T hν h x hv
 | false=>
 rw [cond_false] at h
 generalize q2:seq (Str.ofString id) (Str.ofString "tuple")=wo at h
 cases wo with
 | true=>rw [seqS q2];exact ZmI hν h x hv
 | false=>
 rw [cond_false] at h
 generalize q3:seq (Str.ofString id) (Str.ofString "int")=wo at h
 cases wo with
 | true=>rw [seqS q3];exact Zpt h x hv
 | false=>
 rw [cond_false] at h
 generalize q4:seq (Str.ofString id) (Str.ofString "range")=wo at h
 cases wo with
 | true=>rw [seqS q4];exact Zl7 h x hv
 | false=>rw [cond_false] at h;exact h.elim
structure SumOk (G:Gl) (Γ:Tab) (ν:Vn):Prop where
 ops:ZdE Γ ν
 keep:∀ {d a vs s r},ZcZ Γ d a vs s=some r->keepIn G.K (.ref a)=true
 run:∀ {B:Bs} {ρ:List (Addr × Obj)} {s:St} {rs:Shared} {d:Nat} {a:Addr} {vs:List MV} {rvs:List Value} {r:Res MV} {P:MV->St->Prop},10≤d->Ok G B (d+1)->Gd G B Γ ν ρ s rs->VL ρ (vs.map (MV.sem ν)) rvs->
  ZcZ Γ d a vs s=some r->r.All ν P->codeAny G.M B.A (.call (.ref a) ⟨rvs,[]⟩) (RR G B Γ ν ρ P) rs
theorem ZmC {a:Addr} {vs:List MV} {r:Res MV} (h:ZcZ Γ d a vs s=some r):10≤d:=by
 unfold ZcZ at h
 cases q:Nat.ble 10 d with
 | true=>exact Nat.le_of_ble_eq_true q
 | false=>rw [q] at h;exact nN h
theorem ZhZ (ps:List Str) (vs:List MV):semL ν (ps.zip vs)=ps.zip (vs.map (MV.sem ν)):=by
 unfold semL
 induction ps generalizing vs with
 | nil=>rfl
 | cons p r ih=>cases vs with
  | nil=>rfl
  | cons v t=>simp [ih]
theorem Zfr {ih:Ih} (H:IhOk G Γ ν ih) {f:Fn} {vs:List MV} {s:St} {ρ:List (Addr × Obj)} {P:MV->St->Prop} (g:FxOk ν s.facts)
 (h:(ZfT ih d f vs s).All ν P):vs.length ∈ f.ar∧∀ (B':Bs) rs1,Ok G B' d->B'.sc=f.sc->Hs G B' ρ (semH Γ ν s) (f.params.zip (vs.map (MV.sem ν)++(f.dflts.drop ((vs.map (MV.sem ν)).length+f.dflts.length-f.params.length)).map (MV.sem ν))) rs1->
  wpAny G.M B'.A (execs f.body B'.env) (λfl rs'=>∃ ρ' v σ' ls',ρ <+: ρ'∧FlR ρ' fl v∧(∃ w s',v.getD .none=w.sem ν∧P w { s' with ls:=s.ls }∧σ'=semH Γ ν s'∧FxOk ν s'.facts)∧Hs G B' ρ' σ' ls' rs') (λ_ _=>False) rs1:=by
 unfold ZfT at h
 refine e0_2 (Zak h) λq h=>?_
 refine i0_2 (natIn_iff.mp q) (λB' rs1 O1 e1 x1=>?_)
 rw [all_bind,←e1] at h
 have g1:Gd G B' Γ ν ρ { s with ls:=f.params.zip (vs++f.dflts.drop (vs.length+f.dflts.length-f.params.length)) } rs1:=by
  refine ⟨g,?_⟩
  show Hs G B' ρ (semH Γ ν s) (semL ν (f.params.zip (vs++f.dflts.drop (vs.length+f.dflts.length-f.params.length)))) rs1
  rw [ZhZ,List.map_append]
  simpa using x1
 refine wpAny_mono (H.blk O1 g1 h) (λfl rs' y=>?_) λ_ _ e=>e
 obtain ⟨ρ',fl',s',hp,hP,hf,g2⟩:=y
 cases hf with
 | next=>exact i4_4 (ρ') none _ _ hp .next (⟨.none,s',rfl,hP,rfl,g2.fx⟩) (g2.hs)
 | brk=>exact hP.elim
 | cont=>exact hP.elim
 | ret hv=>exact i4_4 (ρ') (some _) _ _ hp (.ret hv) (⟨_,s',rfl,hP,rfl,g2.fx⟩) (g2.hs)
theorem Zlt {ih:Ih} (H:IhOk G Γ ν ih) (O:Ok G B (d+1)) {a:Addr} {f:Fn} (hf:FnOk G.K a f) {vs:List MV} {rvs:List Value} {P:MV->St->Prop} (x:Gd G B Γ ν ρ s rs) (hv:VL ρ (vs.map (MV.sem ν)) rvs)
 (h:(ZfT ih d f vs s).All ν P):codeAny G.M B.A (.call (.ref a) ⟨rvs,[]⟩) (RR G B Γ ν ρ P) rs:=by
 refine e0_2 (Zfr (ρ:=ρ) H x.fx h) λhk body=>?_
 refine codeAny_mono (x.hs.callC O hf hv (by simpa using hk) (ν:=ν) (P:=λv σ'=>∃ w s',v.getD .none=w.sem ν∧P w { s' with ls:=s.ls }∧σ'=semH Γ ν s'∧FxOk ν s'.facts) body) λr rs' y=>?_
 refine byP λXX kX=>?_
 refine e1_2 y λrv e wq=>?_;clear y;obtain ⟨ρ',v,σ',hp,hv',⟨w,s',e1,hP,e2,hf'⟩,y⟩:=wq
 subst e2
 refine kX ?_
 exact i1_2 rv e (⟨ρ',w,_,hp,hP,e1 ▸ hv',hf',y⟩)
end Mine
end
section
namespace Mine
variable {G:Gl} {B:Bs} {Γ:Tab} {ν:Vn} {ρ:List (Addr × Obj)} {s:St} {rs:Shared} {d:Nat}
theorem Gd.at (x:Gd G B Γ ν ρ s rs) (A:Around):Gd G (B.at A) Γ ν ρ s rs:=⟨x.fx,x.hs.at A⟩
theorem Zog {ih:Ih} (H:IhOk G Γ ν ih) (O:Ok G B (d+1)) {C:Addr} {c:Cls} (hC:ClsOk G.K C c.init) {vs:List MV} {rvs:List Value} {P:MV->St->Prop} (x:Gd G B Γ ν ρ s rs) (hv:VL ρ (vs.map (MV.sem ν)) rvs)
 (h:(Zki Γ ih d C c vs s).All ν P):codeAny G.M B.A (.call (.ref C) ⟨rvs,[]⟩) (RR G B Γ ν ρ P) rs:=by
 unfold Zki at h
 rw [all_bind] at h
 obtain ⟨m,led,F,N,R,Lc⟩:=x.hs.ex
 refine codeAny_mono (R:=λr s'=>match r with | .ok (.ret v)=>RV G B Γ ν ρ P v s' | .ok _=>False | .error e=>False) (W.make_K F N (O.kin.keeps F.keep) hC.makes hC.find hC.fn λa da h' F' N' l1 l2=>?_) (λr rs' y=>?_)
 ·have hp:ρ <+: ρ++[(a,(default:Obj))]:=List.prefix_append _ _
  have hσ:(semH Γ ν s).length=ρ.length:=R.l1.symm
  have x0:Gd G B Γ ν (ρ++[(a,(default:Obj))]) (Za6 Γ s (.inst C [])).2 { heap:=h',gens:=rs.gens,drawn:=rs.drawn,toks:=rs.toks,os:=rs.os }:=by
   refine ⟨x.fx,?_⟩
   rw [Zaw]
   refine ⟨⟨m,led++[[(a,instObj C da),(da,emptyDict)]],F',?_,R.push (.inst (n:=0) .nil (by simp) (by simp)) ?_ ?_,Lc.mono hp⟩,x.hs.gens,x.hs.drawn,x.hs.os⟩
   ·exact λp hp'=>N' p (ZaB hp')
   ·simp only [List.map_cons,List.map_nil,List.nodup_cons,List.mem_cons,List.not_mem_nil,or_false,not_false_eq_true,List.nodup_nil,and_true]
    exact Nat.ne_of_gt l2
   ·intro p hp' q hq
    have:=l1 q hq
    simp only [List.mem_cons,List.not_mem_nil,or_false] at hp'
    rcases hp' with rfl | rfl
    ·exact Nat.ne_of_lt (Nat.lt_trans this l2)
    ·exact Nat.ne_of_lt this
  have x1:=x0.at (B.A.under (.builtin "type.__call__" ⟨.ref C::rvs,[]⟩))
  have hu:=Zjo B.A ⟨.ref C::rvs,[]⟩
  have O1:Ok G (B.at (B.A.under (.builtin "type.__call__" ⟨.ref C::rvs,[]⟩))) d:=by
   refine ⟨O.kin,O.top,O.kind,O.hand,?_,?_⟩
   ·have:=O.dep;rw [depth_under_kw];omega
   ·have:=O.uni;show (B.A.under (.builtin "type.__call__" ⟨.ref C::rvs,[]⟩)).units+_+_<_;omega
  have hra:(ρ++[(a,(default:Obj))])[(semH Γ ν s).length]? = some (a,default):=by rw [hσ];simp
  have hself:V (ρ++[(a,(default:Obj))]) ((Za6 Γ s (.inst C [])).1.sem ν) (.ref a):=by rw [Zav];exact .ref hra
  refine codeAny_mono (H.callR O1 x1 (vs:=(Za6 Γ s (.inst C [])).1::vs) (rvs:=.ref a::rvs) (.cons hself (hv.mono hp)) h) λr rs' y=>?_
  refine e1_2 y λrv wq wqb=>?_;clear y;subst wq;obtain ⟨ρ',w,s',hp',hP,hw,g⟩:=wqb
  have hp2:=hp.trans hp'
  revert w;show Fa _ _;refine MV.on_none zF1 zF1 zF1 zF1 zF1 zF1 zF1 zF1 (λhP=>?_)<;>intro hw
  have wq:=Zo0 hw;clear hw;subst wq
  refine i0_2 rfl (⟨ρ',_,s',hp2,hP,?_,g.fx,g.hs.un⟩)
  have e:(Γ.base.length+s.heap.length)=(semH Γ ν s).length:=by simp [semH]
  show V ρ' (.ref (Γ.base.length+s.heap.length)) (.ref a)
  rw [e]
  exact (V.ref hra).mono hp'
 ·cases r with
  | error e=>exact y.elim
  | ok f=>cases f<;>first | exact y.elim | exact i1_2 _ rfl y
theorem ZdU {ih:Ih} (H:IhOk G Γ ν ih) (T:TOk G Γ) (S:SumOk G Γ ν) (O:Ok G B d) {a:Addr} {vs:List MV} {rvs:List Value} {P:MV->St->Prop} (x:Gd G B Γ ν ρ s rs) (hv:VL ρ (vs.map (MV.sem ν)) rvs)
 (h:(Zec Γ ih d (.glob (.ref a)) vs s).All ν P):codeAny G.M B.A (.call (.ref a) ⟨rvs,[]⟩) (RR G B Γ ν ρ P) rs:=by
 have h':(Zen Γ ih d a vs s).All ν P:=h
 cases d with
 | zero=>exact h'.elim
 | succ d=>
  (unfold Zen at h';try dsimp only at h')
  generalize q:ZcZ Γ d a vs s=wo at h'
  cases wo with
  | some r=>exact S.run (ZmC q) O x hv q h'
  | none=>
   dsimp only at h'
   generalize q1:lookN a Γ.fns=wo at h'
   cases wo with
   | some f=>exact Zlt H O (T.fns a f q1) x hv h'
   | none=>
    dsimp only at h'
    generalize q2:lookN a Γ.cls=wo at h'
    cases wo with
    | some c=>exact Zog H O (T.cls a c q2).1 x hv h'
    | none=>exact h'.elim
theorem ZfP {ih:Ih} (T:TOk G Γ) (S:SumOk G Γ ν) {v:MV} {vs:List MV} {P:MV->St->Prop} (h:(Zec Γ ih d v vs s).All ν P):∃ w,v = .glob w∧(keepIn G.K w=true∨∀ a,w ≠ .ref a):=by
 revert v;show Fa _ _;refine MV.on_glob zF0 zF1 zF1 zF1 zF1 zF1 zF1 zF1 (λ_ h=>?_)
 rename_i w
 refine i1_2 w rfl ?_
 cases w with
 | ref a=>
  left
  have h':(Zen Γ ih d a vs s).All ν P:=h
  cases d with
  | zero=>exact h'.elim
  | succ d=>
   (unfold Zen at h';try dsimp only at h')
   cases q:ZcZ Γ d a vs s with
   | some r=>exact S.keep q
   | none=>
    rw [q] at h'
    dsimp only at h'
    cases q1:lookN a Γ.fns with
    | some f=>exact (T.fns a f q1).keep
    | none=>
     rw [q1] at h'
     dsimp only at h'
     cases q2:lookN a Γ.cls with
     | some c=>exact (T.cls a c q2).1.keep
     | none=>rw [q2] at h';exact h'.elim
 | _=>exact .inr λa e=>by cases e
theorem Zhr {ih:Ih} (H:IhOk G Γ ν ih) (T:TOk G Γ) (S:SumOk G Γ ν) (hν:ν.ok) (O:Ok G B d) {v:Value} {vs:List MV} {rvs:List Value} {P:MV->St->Prop} (x:Gd G B Γ ν ρ s rs) (hv:VL ρ (vs.map (MV.sem ν)) rvs)
 (h:(Zec Γ ih d (.glob v) vs s).All ν P):wpAny G.M B.A (PySem.call v rvs) (RV G B Γ ν ρ P) NoE rs:=by
 cases v with
 | ref a=>
  refine wpAny_call (codeAny_mono (ZdU H T S O x hv h) λr rs' y=>?_)
  obtain ⟨rv,rfl,y⟩:=y
  exact y
 | builtin i=>exact Zqc O hν h x hv
 | type i=>exact Zqz O T hν h x hv
 | _=>exact h.elim
end Mine
end
section
namespace Mine
variable {G:Gl} {B:Bs} {Γ:Tab} {ν:Vn} {ρ:List (Addr × Obj)} {s:St} {rs:Shared} {d:Nat}
theorem Zhc:∀ {es:List PySem.Expr},(es.all Zae)=true->∀ (pos:Pos) (env:Env),(backTo pos (starEach es env)).all (λx=>!x.1)=true
 | [],_,_,_=>rfl
 | e::es,h,pos,env=>by
  rw [List.all_cons,Bool.and_eq_true] at h
  rw [ZbW h.1]
  show (true&&(backTo pos (starEach es env)).all (λx=>!x.1))=true
  rw [Zhc h.2];rfl
theorem ZiJ {o:PySem.Expr} (h:ZbK o=true) (x:Str) (env:Env) (w:Sem Value):attributeBase o x env w=w:=by
 cases o<;>first | rfl | exact nB h
theorem Zep {M:Model} {A:Around} {E:Value->Shared->Prop} {o:PySem.Expr} {x:Str} {apos pos:Pos} {es:List PySem.Expr} {env:Env} {Q:Value->Shared->Prop} (hb:Zdv o es apos pos=true)
 (h:wpAny M A (eval o env) (λov s₁=>∀ pl,wpAny M A (getMethod ov x pl) (λfx s₂=>wpAny M A (callWith pos fx.1 fx.2 (backTo pos (starEach es env)) []) Q E s₂) E s₁) E rs):wpAny M A (eval (.Call (.Attribute o x apos) es [] pos) env) Q E rs:=by
 unfold Zdv at hb
 simp only [Bool.and_eq_true] at hb
 refine byP λXX kX=>?_
 refine e0_2 hb λwq h4=>?_;clear hb;obtain ⟨⟨h1,h2⟩,h3⟩:=wq
 refine kX ?_
 have hl:=Nat.eq_of_beq_eq_true h2
 have hn:es.length<20:=Nat.le_of_ble_eq_true h3
 rw [arm_eval_Call,ZiJ h1]
 refine wpAny_bind (wpAny_mono h (λov s₁ h₁=>?_) λ_ _ e=>e)
 refine wpAny_bind (wpAny_standAt ?_)
 have hform:methodCallForm (es.length+([]:List Keyword).length) (backTo pos (starEach es env)) (backToKw pos (keywordEach [] env))=true:=by
  unfold methodCallForm
  have e1:(backTo pos (starEach es env)).all (λx=>!x.1)=true:=Zhc h4 pos env
  rw [e1]
  show (true&&true&&decide (es.length+0+0<30))=true
  simp;omega
 have hpos:methodCallPos true o env apos pos=pure pos:=by unfold methodCallPos;simp [hl]
 unfold methodCall
 rw [hform]
 refine wpAny_bind (wpAny_holding ?_)
 unfold calleeOf
 rw [if_pos rfl]
 refine wpAny_mono (h₁ _) (λfx s₂ h₂=>?_) λ_ _ e=>e
 exact wpAny_bind (wpAny_of_eq hpos h₂)
theorem Zkl (O:Ok G B d) (T:TOk G Γ) {n:Nat} {C f:Addr} {at_:List (Str × MV)} {y:Str} {ra:Value} {pl:Sem Bool} {Q:Value × List Value->Shared->Prop} (g:Gd G B Γ ν ρ s rs) (hc:cell Γ s n=some (.inst C at_)) (hm:Zir Γ C y at_=some f)
 (ha:V ρ (.ref n) ra) (h:Q (.ref f,[ra]) rs):wpAny G.M B.A (getMethod ra y pl) Q NoE rs:=by
 refine byP λXX kX=>?_
 refine e2_2 (vref ha) λa ao wq ha'=>?_;subst wq
 refine e3_4 (g.hs.inst (at_:=at_.map λp=>(p.1,p.2.sem ν)) (Zac (ν:=ν) hc) ha') λdd es k I hA hO _=>?_
 obtain ⟨m,led,F,N,R,Lc⟩:=g.hs.ex
 unfold Zir at hm
 generalize q:look y at_=wo at hm
 revert q;revert wo;show Fa _ _;refine Opt.on_none zN1 (λhm=>?_);intro q
 generalize q2:lookN C Γ.cls=wo at hm
 revert q2;revert wo;show Fa _ _;refine Opt.on_some zN0 (λc hm=>?_);intro q2
 have M:=(T.cls C c q2).2.1 y f hm
 refine kX ?_
 exact method_inst F O.kin I M.get M.find M.fn (hA.getL_none (by rw [Zat (MV.sem ν),q];rfl)) h
theorem listM_case {y:Str} {k:MK} (h:ZlO y=some k):(y=Str.ofString "append"∧k = .append)∨(y=Str.ofString "pop"∧k = .pop):=by
 unfold ZlO at h
 generalize q:seq y (Str.ofString "append")=wo at h
 cases wo with
 | true=>have wq:=Option.some.inj h;clear h;subst wq;exact .inl ⟨seq_iff.mp q,rfl⟩
 | false=>
  rw [cond_false] at h
  generalize q2:seq y (Str.ofString "pop")=wo at h
  revert q2;revert wo;show Fa _ _;refine Boo.on_true zN0 (λh=>?_);intro q2
  have wq:=Option.some.inj h;clear h;subst wq;exact .inr ⟨seq_iff.mp q2,rfl⟩
theorem strM_case {y:Str} {k:MK} (h:strM y=some k):(y=Str.ofString "rstrip"∧k = .rstrip)∨(y=Str.ofString "join"∧k = .join):=by
 unfold strM at h
 generalize q:seq y (Str.ofString "rstrip")=wo at h
 cases wo with
 | true=>have wq:=Option.some.inj h;clear h;subst wq;exact .inl ⟨seq_iff.mp q,rfl⟩
 | false=>
  rw [cond_false] at h
  generalize q2:seq y (Str.ofString "join")=wo at h
  revert q2;revert wo;show Fa _ _;refine Boo.on_true zN0 (λh=>?_);intro q2
  have wq:=Option.some.inj h;clear h;subst wq;exact .inr ⟨seq_iff.mp q2,rfl⟩
noncomputable def kId:MK->String
 | .append=>"list.append"
 | .pop=>"list.pop"
 | .get=>"dict.get"
 | .rstrip=>"str.rstrip"
 | .join=>"str.join"
theorem Zis {v:MV} {y:Str} {k:MK} {ra:Value} {pl:Sem Bool} {Q:Value × List Value->Shared->Prop} (g:Gd G B Γ ν ρ s rs) (hm:Zf1 Γ v y s=some k) (ha:V ρ (v.sem ν) ra) (h:Q (.builtin (kId k),[ra]) rs):wpAny G.M B.A (getMethod ra y pl) Q NoE rs:=by
 refine byP λXX kX=>?_
 revert v;show Fa _ _;refine MV.on_str_ref zN0 zN1 zN1 zN1 zN1 zN1 zN1 (λy0 hm=>?_) (λn hm=>?_)<;>intro ha
 ·replace hm:strM y=some k:=hm
  refine e1_1 (vstr ha) λt wq=>?_;subst wq
  rcases strM_case hm with ⟨rfl,rfl⟩ | ⟨rfl,rfl⟩
  ·refine kX ?_
   exact GM.rstrip h
  ·refine kX ?_
   exact GM.join h
 ·refine e2_2 (vref ha) λa ao wq ha'=>?_;subst wq
  unfold Zf1 at hm
  dsimp only at hm
  generalize hc:cell Γ s n=wo at hm
  revert hc;revert wo;show Fa _ _;refine Opt.on_some zN0 (λob hm=>?_)
  revert ob;show Fa _ _;refine MO.on_list_dictI zN2 zN1 zN1 zN2 zN1 (λxs hm=>?_) (λkvs hm=>?_)<;>intro hc
  ·replace hm:ZlO y=some k:=hm
   obtain ⟨m,led,F,N,R,Lc⟩:=g.hs.ex
   refine e2_3 (R.obj n _ (Zac (ν:=ν) hc)) λp es e1 e2 o=>?_
   rw [ha'] at e1
   have wq:=Option.some.inj e1;clear e1;subst wq
   refine e2_3 (o.list_inv) λ_ _ wq _ _=>?_;clear o;subst wq
   rcases listM_case hm with ⟨rfl,rfl⟩ | ⟨rfl,rfl⟩
   ·refine kX ?_
    exact getMethod_list_append (N _ (R.mem e2 (.head _))).1 rfl rfl h
   ·refine kX ?_
    exact kl_method N (R.mem e2 (.head _)) PySem.F.slot_list_pop PySem.F.type_list_pop h
  ·replace hm:(bif seq y (Str.ofString "get") then some MK.get else none)=some k:=hm
   obtain ⟨m,led,F,N,R,Lc⟩:=g.hs.ex
   refine e2_3 (R.obj n _ (Zac (ν:=ν) hc)) λp es e1 e2 o=>?_
   rw [ha'] at e1
   have wq:=Option.some.inj e1;clear e1;subst wq
   generalize q:seq y (Str.ofString "get")=wo at hm
   revert q;revert wo;show Fa _ _;refine Boo.on_true zN0 (λhm=>?_);intro q
   have wq:=Option.some.inj hm;clear hm;subst wq
   refine kX ?_
   rw [seq_iff.mp q]
   refine e2_5 (o.dictI_inv) λ_ _ wq y z lo _=>?_;clear o;subst wq
   exact kdg_method N (R.mem e2 (.head _)) z h
theorem ZlU (hν:ν.ok) {k:MK} {v:MV} {vs:List MV} {ra:Value} {rvs:List Value} {P:MV->St->Prop} (g:Gd G B Γ ν ρ s rs) (h:(ZhI Γ k v vs s).All ν P) (ha:V ρ (v.sem ν) ra) (hv:VL ρ (vs.map (MV.sem ν)) rvs):
 wpAny G.M B.A (call (.builtin (kId k)) (ra::rvs)) (RV G B Γ ν ρ P) NoE rs:=by
 revert v;show Fa _ _;refine MV.on_str_ref zF0 zF1 zF1 zF1 zF1 zF1 zF1 (λ_ h=>?_) (λ_ h=>?_)<;>intro ha<;>(unfold ZhI at h;try dsimp only at h)
 ·cases k<;>(unfold Znf at h;try dsimp only at h)<;>(try exact h.elim)
  ·exact ZkJ h g ha hv
  ·exact Zn9 h g ha hv
 ·rename_i n
  unfold Zne at h
  generalize hc:cell Γ s n=wo at h
  revert hc;revert wo;show Fa _ _;refine Opt.on_some zF0 (λob h=>?_);intro hc
  revert ob;show Fa _ _;refine MO.on_list_dictI zF2 zF1 zF1 zF2 zF1 (λ_ h=>?_) (λ_ h=>?_)<;>intro hc
  ·cases k<;>(try exact h.elim)
   ·exact Zju hν hc h g ha hv
   ·exact ZpO hc h g ha hv
  ·cases k<;>(try exact h.elim)
   exact Zpr hc h g ha hv
set_option tactic.hygienic true in
theorem ZjQ {ih:Ih} (H:IhOk G Γ ν ih) (O:Ok G B d) (T:TOk G Γ) (hν:ν.ok) {y:Str} {es:List PySem.Expr} {pos:Pos} {v:MV} {ra:Value} {P:MV->St->Prop} {pl:Sem Bool} (g:Gd G B Γ ν ρ s rs) (hv:V ρ (v.sem ν) ra)
 (h:(ZjP Γ ih d B.sc y es v s).All ν P):wpAny G.M B.A (getMethod ra y pl) (λfx s₂=>wpAny G.M B.A (callWith pos fx.1 fx.2 (backTo pos (starEach es B.env)) []) (RV G B Γ ν ρ P) NoE s₂) NoE rs:=by
 have two:(ZfU Γ ih d B.sc y es v s).All ν P->wpAny G.M B.A (getMethod ra y pl) (λfx s₂=>wpAny G.M B.A (callWith pos fx.1 fx.2 (backTo pos (starEach es B.env)) []) (RV G B Γ ν ρ P) NoE s₂) NoE rs:=by
  intro h
  unfold ZfU at h
  generalize q:Zf1 Γ v y s=wo at h
  revert q;revert wo;show Fa _ _;refine Opt.on_some zF0 (λk h=>?_);intro q
  simp only at h
  rw [all_bind] at h
  refine Zis g q hv ?_
  have hp:=Zdw (ZbC h) pos B.env
  refine Calls.callWith_builtin hp (ZbS hp ?_)
  refine wpAny_mono (ZbQ H O g h) (λvs rs1 y=>?_) λ_ _ e=>e
  obtain ⟨ρ1,ws,s1,hp1,h1,hw,g1⟩:=y
  exact wpAny_mono (ZlU hν g1 h1 (hv.mono hp1) hw) (λrv rs2 y=>y.wide hp1) λ_ _ e=>e
 unfold ZjP at h
 refine byP λXX kX=>?_
 split at h
 ·rename_i n
  split at h
  ·rename_i C at_ hc
   generalize q:Zir Γ C y at_=wo at h
   revert q;revert wo;show Fa _ _;refine Opt.on_some zF0 (λf h=>?_);intro q
   simp only at h
   rw [all_bind] at h
   refine kX ?_
   exact Zkl O T g hc q hv (Zeo H O (first:=[.ref n]) (.cons hv .nil) g h)
  ·refine kX ?_
   exact two h
 ·refine kX ?_
  exact two h
set_option tactic.hygienic true in
theorem ZjM {ih:Ih} (H:IhOk G Γ ν ih) (O:Ok G B d) (T:TOk G Γ) (hν:ν.ok) {f:PySem.Expr} {es:List PySem.Expr} {pos:Pos} {P:MV->St->Prop} (g:Gd G B Γ ν ρ s rs)
 (h:(ZjL Γ ih d B.sc f es pos s).All ν P):wpAny G.M B.A (eval (.Call f es [] pos) B.env) (RV G B Γ ν ρ P) NoE rs:=by
 cases f<;>(unfold ZjL at h;try dsimp only at h)<;>(try exact h.elim)
 ·rename_i o y apos
  refine e0_2 (Zak h) λq h=>?_
  rw [all_bind] at h
  refine Zep q (wpAny_mono (H.ev O g h) (λov rs1 y=>?_) λ_ _ e=>e)
  obtain ⟨ρ1,w,s1,hp1,h1,hw,g1⟩:=y
  intro pl
  exact wpAny_mono (ZjQ H O T hν g1 hw h1) (λfx rs2 z=>wpAny_mono z (λ_ _ z=>z.wide hp1) λ_ _ e=>e) λ_ _ e=>e
 ·rename_i y p
  rw [all_bind] at h
  refine wpAny_Call_NameR (wpAny_mono (ZdO O T g h) (λfv rs1 y=>?_) λ_ _ e=>e)
  refine byP λXX kX=>?_
  obtain ⟨ρ1,w,s1,hp1,h1,hw,g1⟩:=y
  rw [all_bind] at h1
  refine e2_1 (Zbm h1) λvs s2 h2=>?_
  refine e1_2 (H.callG h2) λw' e _=>?_
  subst e
  refine e0_2 (V.glob_inv hw) λwq _=>?_;clear hw;subst wq
  refine kX ?_
  exact wpAny_mono (Zeo H O (first:=[]) .nil g1 h1) (λ_ _ z=>z.wide hp1) λ_ _ e=>e
end Mine
end
section
namespace Mine
variable {G:Gl} {B:Bs} {Γ:Tab} {ν:Vn} {ρ:List (Addr × Obj)} {s:St} {rs:Shared} {d:Nat}
section
variable {prog:Program} {w:World} {A:Around} {E:Value->Shared->Prop} {s:Shared} {h₀:Heap} {L:Addr} {m:Str->Option Value} {news:List (Addr × Obj)}
theorem Zhk (n:Nat) (hn:1≤n):Builtin.Slice.sliceAdjust none (some (-1)) 1 (n:Int)=(0,((n-1:Nat):Int)):=by
 unfold Builtin.Slice.sliceAdjust
 have h1:¬((1:Int)<0):=by omega
 have h2:((-1:Int)<0):=by omega
 simp only [h1,h2,if_false,if_true]
 congr 1
 omega
theorem Zgr:Builtin.Slice.sliceAdjust none (some (-1)) 1 ((0:Nat):Int)=(0,0):=by decide
theorem ZhM (n:Nat):Builtin.Slice.slicePlaces 0 (n:Int) 1=n:=by
 unfold Builtin.Slice.slicePlaces
 have h1:(1:Int) > 0:=by omega
 simp only [h1,if_true,Int.ediv_one]
 split<;>omega
theorem ZdS {sl:Addr} {n:Nat} {u:Tok} {Q:Int × Int × Nat->Shared->Prop} (hs:s.heap.IsSliceOf sl .none (.int (-1) u) .none) (h:Q (0,1,n-1) s):
 wpAny (model prog w) A (Builtin.Slice.sliceApplied (.ref sl) (pure (n:Int))) Q E s:=by
 refine e1_3 (id hs) λos hos hcs hds=>?_
 unfold Builtin.Slice.sliceApplied Builtin.Slice.sliceFields
 refine wpAny_bind (wpAny_bind (wpAny_field hos hds (x:=.none) rfl (wpAny_bind (wpAny_field hos hds (x:=.int (-1) u) rfl (wpAny_bind (wpAny_field hos hds (x:=.none) rfl (wpAny_pure ?_)))))))
 refine wpAny_bind (slicePart_none ?_)
 show wpAny _ _ (if ((1:Int)==0)=true then _ else _) _ _ s
 rw [if_neg (by decide)]
 refine wpAny_bind (slicePart_none (wpAny_bind (slicePart_int (wpAny_bind (wpAny_pure ?_)))))
 show wpAny _ _ (match Builtin.Slice.sliceAdjust none (some (-1:Int)) 1 (n:Int) with | (lo,hi)=>pure (lo,(1:Int),Builtin.Slice.slicePlaces lo hi 1)) _ _ s
 rcases Nat.eq_zero_or_pos n with e | e
 ·subst e
  rw [Zgr]
  exact wpAny_pure h
 ·rw [Zhk n e]
  show wpAny _ _ (pure ((0:Int),(1:Int),Builtin.Slice.slicePlaces 0 ((n-1:Nat):Int) 1)) _ _ s
  rw [ZhM]
  exact wpAny_pure h
theorem Zkx (xs:Array Value) (b:Nat):((List.range b).filterMap λ(k:Nat)=>xs[((0:Int)+(k:Int) * 1).toNat]?).toArray=(xs.toList.take b).toArray:=by
 have e:(λ(k:Nat)=>xs[((0:Int)+(k:Int) * 1).toNat]?)=λk=>xs[0+k]?:=by
  funext k
  have:((0:Int)+(k:Int) * 1).toNat=0+k:=by omega
  rw [this]
 rw [e]
 have:=pick_run xs 0 b
 rw [List.filterMap_map] at this
 have e2:((λx=>xs[x]?) ∘ λx=>0+x)=λk=>xs[0+k]?:=rfl
 rw [e2] at this
 rw [this,List.drop_zero]
theorem Zdh {t sl:Addr} {items:Array Value} {u:Tok} {Q:Value->Shared->Prop} (ht:IsTup s.heap t items) (hs:s.heap.IsSliceOf sl .none (.int (-1) u) .none)
 (h0:items.size=0->Q (.ref t) s)
 (h:items.size ≠ 0->Q (.ref s.heap.objs.size) { s with heap:=s.heap.push { cls:=.type "tuple",data:=.seq (items.toList.take (items.size-1)).toArray } })
 (hsz:items.size≤sizeLine):wpAny (model prog w) A (getItem (.ref t) (.ref sl)) Q E s:=by
 have htake:sizeOk (.seq (items.toList.take (items.size-1)).toArray):=by
  show (items.toList.take (items.size-1)).toArray.size≤sizeLine
  rw [List.size_toArray,List.length_take,Array.length_toList]
  omega
 refine e1_3 (id hs) λos hos hcs hds=>?_
 have hTs:s.TypeIs (.ref sl) "slice":=⟨os,hos,hcs⟩
 unfold getItem
 try with_reducible refine wpAny_holding ?_
 first | refine wpAny_bind (wpAny_pure ?_) | skip
 refine wpAny_bind (wpAny_sequenceKey ht.typeIs (by decide) ?_)
 refine wpAny_bind (wpAny_callSpecial?_slot (name:=Str.ofString "__getitem__") ht.typeIs slot_tuple_getitem
  (wpAny_call_entry slot_tuple_getitem ht.typeIs entry_tuple_getitem ?_ (args_tuple_getitem _ _)))
 show wpAny _ _ (Builtin.Tuple.tupleItemsOf (.ref t) >>= _) _ _ s
 refine wpAny_bind (tupleItemsOf_ ht ?_)
 refine wpAny_bind (wpAny_typeOf hTs ?_)
 rw [if_pos (by decide)]
 refine wpAny_bind (ZdS hs ?_)
 show wpAny _ _ (if ((0:Int)==0&&(1:Int)==1&&(items.size-1)==items.size)=true then _ else _) _ _ s
 by_cases hz:items.size=0
 ·rw [if_pos (by rw [hz];rfl)]
  refine wpAny_bind (m:=Builtin.Tuple.tupleIsExact _) ?_
  unfold Builtin.Tuple.tupleIsExact
  refine wpAny_bind (wpAny_typeOf ht.typeIs ?_)
  refine wpAny_pure ?_
  rw [if_pos (by decide)]
  exact wpAny_bind (wpAny_rule (wpAny_pure ⟨_,rfl,wpAny_pure (h0 hz)⟩))
 ·rw [if_neg (by simp only [Bool.and_eq_true,beq_iff_eq,not_and];intro _;omega),Zkx items]
  have h:=h hz
  first
   | exact wpAny_bind (m:=Builtin.Tuple.tupleExact _) (wpAny_newObj_type (wpAny_pure ⟨_,rfl,wpAny_pure h⟩) htake)
   | exact wpAny_bind (m:=Builtin.Tuple.tupleExact _) (wpAny_newObj_type (wpAny_bind (wpAny_pure (wpAny_pure ⟨_,rfl,wpAny_pure h⟩))) htake)
   | exact wpAny_bind (wpAny_bind (m:=Builtin.Tuple.tupleExact _) (wpAny_newObj_type (wpAny_pure (wpAny_pure ⟨_,rfl,wpAny_pure h⟩)) htake))
   | exact wpAny_bind (wpAny_bind (m:=Builtin.Tuple.tupleExact _) (wpAny_newObj_type (wpAny_pure ⟨_,rfl,wpAny_pure h⟩) htake))
end
theorem Zji (y:List Nat) (c:Nat):Txt.slice (Zaa y) none (some (c:Int))=Zaa (y.take c):=by
 have e:Txt.slice (Zaa y) none (some (c:Int))=StrLaws.sliceText (Zaa y) (some ((0:Nat):Int)) (some ((min c y.length:Nat):Int)):=by
  unfold Txt.slice StrLaws.sliceText
  have:Builtin.Str.strSliceIndices none (some (c:Int)) 1 (Zaa y).length=Builtin.Str.strSliceIndices (some ((0:Nat):Int)) (some ((min c y.length:Nat):Int)) 1 (Zaa y).length:=by
   unfold Builtin.Str.strSliceIndices
   simp only [show (1:Int) > 0 by decide,if_true,Zal,if_neg (show ¬((c:Int)<0) by omega),if_neg (show ¬(((0:Nat):Int)<0) by omega),if_neg (show ¬(((min c y.length:Nat):Int)<0) by omega)]
   congr 1<;>omega
  rw [this]
 rw [e,StrLaws.sliceText_nat _ (Nat.zero_le _) (by rw [Zal];omega)]
 unfold Zaa
 simp only [List.drop_zero,Nat.sub_zero,Str.mk.injEq]
 rcases Nat.le_total c y.length with q | q
 ·rw [Nat.min_eq_left q]
 ·rw [Nat.min_eq_right q,List.take_of_length_le (Nat.le_refl _),List.take_of_length_le q]
theorem Zjh (y:List Nat) (c:Nat):Txt.slice (Zaa y) (some (c:Int)) none=Zaa (y.drop c):=by
 have e:Txt.slice (Zaa y) (some (c:Int)) none=StrLaws.sliceText (Zaa y) (some ((min c y.length:Nat):Int)) (some ((y.length:Nat):Int)):=by
  unfold Txt.slice StrLaws.sliceText
  have:Builtin.Str.strSliceIndices (some (c:Int)) none 1 (Zaa y).length=Builtin.Str.strSliceIndices (some ((min c y.length:Nat):Int)) (some ((y.length:Nat):Int)) 1 (Zaa y).length:=by
   unfold Builtin.Str.strSliceIndices
   simp only [show (1:Int) > 0 by decide,if_true,Zal,if_neg (show ¬((c:Int)<0) by omega),if_neg (show ¬(((y.length:Nat):Int)<0) by omega),if_neg (show ¬(((min c y.length:Nat):Int)<0) by omega)]
   congr 1<;>omega
  rw [this]
 rw [e,StrLaws.sliceText_nat _ (by omega) (by rw [Zal];omega)]
 unfold Zaa
 dsimp only [Str.mk.injEq]
 rcases Nat.le_total c y.length with q | q
 ·rw [Nat.min_eq_left q,List.take_of_length_le (by simp)]
 ·rw [Nat.min_eq_right q,List.drop_of_length_le q,List.drop_of_length_le (Nat.le_refl _),List.take_nil]
end Mine
end
section
namespace Mine
variable {G:Gl} {B:Bs} {Γ:Tab} {ν:Vn} {ρ:List (Addr × Obj)} {s:St} {rs:Shared} {d:Nat}
theorem Znw {ih:Ih} (H:IhOk G Γ ν ih) (O:Ok G B d) {v:PySem.Expr} {x:Str} {p:Pos} {P:MV->St->Prop} (g:Gd G B Γ ν ρ s rs)
 (hb:ZbK v=true) (h:((ih.ev d B.sc v s).bind λv s=>Zdg Γ v x s).All ν P):wpAny G.M B.A (eval (.Attribute v x p) B.env) (RV G B Γ ν ρ P) NoE rs:=by
 rw [all_bind] at h
 refine Attribute_any_ (wpAny_mono (H.ev O g h) (λrv rs1 y=>?_) λ_ _ e=>e) ?_
 ·obtain ⟨ρ1,w,s1,hp,h1,hv,g1⟩:=y
  exact wpAny_mono (ZiW O h1 g1 hv) (λ_ _ z=>z.wide hp) λ_ _ e=>e
 ·cases v<;>first | rfl | exact nB hb
theorem Zlu {ih:Ih} (ho:ZdE Γ ν) (H:IhOk G Γ ν ih) (O:Ok G B d) (hν:ν.ok) {l r:PySem.Expr} {op:Operator} {p:Pos} {P:MV->St->Prop} (g:Gd G B Γ ν ρ s rs)
 (h:(ZnU Γ (ih.ev d B.sc) l op r s).All ν P):wpAny G.M B.A (eval (.BinOp l op r p) B.env) (RV G B Γ ν ρ P) NoE rs:=by
 unfold ZnU at h
 rw [all_bind] at h
 refine wpAny_BinOp (wpAny_mono (H.ev O g h) (λrv rs1 y=>?_) λ_ _ e=>e)
 obtain ⟨ρ1,w,s1,hp,h1,hv,g1⟩:=y
 rw [all_bind] at h1
 refine wpAny_mono (H.ev O g1 h1) (λrv2 rs2 y=>?_) λ_ _ e=>e
 obtain ⟨ρ2,w2,s2,hp2,h2,hv2,g2⟩:=y
 exact wpAny_mono (Zo9 ho hν h2 g2 (hv.mono hp2) hv2) (λ_ _ z=>(z.wide hp2).wide hp) λ_ _ e=>e
theorem ZnZ {ih:Ih} (H:IhOk G Γ ν ih) (O:Ok G B d) {x:PySem.Expr} {op:UnaryOp} {p:Pos} {P:MV->St->Prop} (g:Gd G B Γ ν ρ s rs)
 (h:((ih.ev d B.sc x s).bind λv s=>evUn op v s).All ν P):wpAny G.M B.A (eval (.UnaryOp op x p) B.env) (RV G B Γ ν ρ P) NoE rs:=by
 rw [all_bind] at h
 refine UnaryOp_ (wpAny_mono (H.ev O g h) (λrv rs1 y=>?_) λ_ _ e=>e)
 obtain ⟨ρ1,w,s1,hp,h1,hv,g1⟩:=y
 exact wpAny_mono (ZqA h1 g1 hv) (λ_ _ z=>z.wide hp) λ_ _ e=>e
theorem Zlj {ih:Ih} (H:IhOk G Γ ν ih) (O:Ok G B d) {vs:List PySem.Expr} {op:BoolOp} {p:Pos} {P:MV->St->Prop} (g:Gd G B Γ ν ρ s rs)
 (h:(Zpa (ih.ev d B.sc) op vs s).All ν P):wpAny G.M B.A (eval (.BoolOp op vs p) B.env) (RV G B Γ ν ρ P) NoE rs:=by
 revert vs;show Fa _ _;refine Lis.on_cons zF0 (λx vs h=>?_)
 revert vs;show Fa _ _;refine Lis.on_cons zF0 (λy vs h=>?_)
 revert vs;show Fa _ _;refine Lis.on_nil zF2 (λh=>?_)
 replace h:((ih.ev d B.sc x s).bind (Zh5 (ih.ev d B.sc) op y)).All ν P:=h
 rw [all_bind] at h
 cases op with
 | And=>
  refine BoolOp_and (wpAny_mono (H.ev O g h) (λrv rs1 z=>?_) λ_ _ e=>e)
  obtain ⟨ρ1,w,s1,hp,h1,hv,g1⟩:=z
  unfold Zh5 at h1
  rw [all_bind] at h1
  refine wpAny_mono (ZdD h1 g1 hv) (λb rs2 z=>?_) λ_ _ e=>e
  obtain ⟨ρ2,s2,hp2,h2,g2⟩:=z
  cases b with
  | true=>exact wpAny_mono (BoolOp_one (H.ev O g2 h2)) (λ_ _ z=>(z.wide hp2).wide hp) λ_ _ e=>e
  | false=>exact ⟨ρ2,w,s2,hp.trans hp2,h2,hv.mono hp2,g2⟩
 | Or=>
  refine BoolOp_or (wpAny_mono (H.ev O g h) (λrv rs1 z=>?_) λ_ _ e=>e)
  obtain ⟨ρ1,w,s1,hp,h1,hv,g1⟩:=z
  unfold Zh5 at h1
  rw [all_bind] at h1
  refine wpAny_mono (ZdD h1 g1 hv) (λb rs2 z=>?_) λ_ _ e=>e
  obtain ⟨ρ2,s2,hp2,h2,g2⟩:=z
  cases b with
  | true=>exact ⟨ρ2,w,s2,hp.trans hp2,h2,hv.mono hp2,g2⟩
  | false=>exact wpAny_mono (BoolOp_one (H.ev O g2 h2)) (λ_ _ z=>(z.wide hp2).wide hp) λ_ _ e=>e
theorem ZnV {ih:Ih} (H:IhOk G Γ ν ih) (O:Ok G B d) {t a b:PySem.Expr} {p:Pos} {P:MV->St->Prop} (g:Gd G B Γ ν ρ s rs)
 (h:(evIf ih d B.sc t a b s).All ν P):wpAny G.M B.A (eval (.IfExp t a b p) B.env) (RV G B Γ ν ρ P) NoE rs:=by
 unfold evIf at h
 rw [all_bind] at h
 refine IfExp_ (wpAny_mono (H.tst O g h) (λc rs1 z=>?_) λ_ _ e=>e)
 obtain ⟨ρ1,s1,hp,h1,g1⟩:=z
 cases c with
 | true=>exact wpAny_mono (H.ev O g1 h1) (λ_ _ z=>z.wide hp) λ_ _ e=>e
 | false=>exact wpAny_mono (H.ev O g1 h1) (λ_ _ z=>z.wide hp) λ_ _ e=>e
theorem Zgw {ev:PySem.Expr->St->Res MV} {a:MV} {ops:List CmpOp} {es:List PySem.Expr} {P:Bool->St->Prop} (h:(Zpc Γ ev a ops es s).All ν P):
 (∃ op e,ops=[op]∧es=[e]∧Zae e=true)∨∃ op op2 e e2,ops=[op,op2]∧es=[e,e2]∧Zae e2=true:=by
 revert ops;show Fa _ _;refine Lis.on_cons zF0 (λop ops h=>?_)
 cases ops with
 | nil=>
  revert es;show Fa _ _;refine Lis.on_cons zF0 (λe es h=>?_)
  revert es;show Fa _ _;refine Lis.on_nil zF2 (λh=>?_)
  exact .inl ⟨op,e,rfl,rfl,(Zak h).1⟩
 | cons op2 ops=>
  revert ops;show Fa _ _;refine Lis.on_nil zF2 (λh=>?_)
  revert es;show Fa _ _;refine Lis.on_cons zF0 (λe es h=>?_)
  revert es;show Fa _ _;refine Lis.on_cons zF0 (λe2 es h=>?_)
  revert es;show Fa _ _;refine Lis.on_nil zF2 (λh=>?_)
  refine .inr ⟨op,op2,e,e2,rfl,rfl,?_⟩
  cases q:Zae e2 with
  | true=>rfl
  | false=>
   replace h:(bif !(Zae e2) then Res.stuck "chain" else (ev e s).bind λb s=>(ZdG Γ op a b s).bind λt s=>bif t then (ev e2 s).bind λc s=>ZdG Γ op2 b c s else .ret false s).All ν P:=h
   rw [q] at h;exact h.elim
theorem Zlv {ih:Ih} (H:IhOk G Γ ν ih) (O:Ok G B d) (T:TOk G Γ) (hν:ν.ok) {l:PySem.Expr} {ops:List CmpOp} {es:List PySem.Expr} {p:Pos} {P:Bool->St->Prop} (g:Gd G B Γ ν ρ s rs)
 (h:(ZiQ Γ (ih.ev d B.sc) l ops es s).All ν P):wpAny G.M B.A (eval (.Compare l ops es p) B.env) (RC G B Γ ν ρ P) NoE rs:=by
 unfold ZiQ at h
 rw [all_bind] at h
 refine byP λXX kX=>?_
 refine e2_1 (Zbm h) λa0 s0 hx=>?_
 refine Or.elim (Zgw hx) (λz=>?_) (λz=>?_)
 ·refine e2_3 z λop e wq wqb q=>?_;clear z hx;subst wq wqb
  refine kX ?_
  refine wpAny_Compare1 (wpAny_mono (H.ev O g h) (λrv rs1 z=>?_) λ_ _ e=>e) (Za1 q _)
  obtain ⟨ρ1,w,s1,hp,h1,hv,g1⟩:=z
  replace h1:(bif Zae e then (ih.ev d B.sc e s1).bind (λb s=>ZdG Γ op w b s) else .stuck "chain").All ν P:=h1
  rw [q,cond_true,all_bind] at h1
  refine wpAny_mono (H.ev O g1 h1) (λrv2 rs2 z=>?_) λ_ _ e=>e
  obtain ⟨ρ2,w2,s2,hp2,h2,hv2,g2⟩:=z
  exact wpAny_mono (Zfo O T hν h2 g2 (hv.mono hp2) hv2) (λ_ _ z=>(z.wide hp2).wide hp) λ_ _ e=>e
 ·refine e4_3 z λop op2 e e2 wq wqb q=>?_;clear z hx;subst wq wqb
  refine kX ?_
  refine Compare_chain (rs:=[]) (ops:=[]) (wpAny_mono (H.ev O g h) (λrv rs1 z=>?_) λ_ _ e=>e) (by show behindInMarks _ _=false;exact Za1 q _)
  obtain ⟨ρ1,w,s1,hp,h1,hv,g1⟩:=z
  replace h1:(bif !(Zae e2) then Res.stuck "chain" else (ih.ev d B.sc e s1).bind λb s=>(ZdG Γ op w b s).bind λt s=>bif t then (ih.ev d B.sc e2 s).bind λc s=>ZdG Γ op2 b c s else .ret false s).All ν P:=h1
  rw [q,Bool.not_true,cond_false,all_bind] at h1
  refine chain_link (wpAny_mono (H.ev O g1 h1) (λrv2 rs2 z=>?_) λ_ _ e=>e)
  obtain ⟨ρ2,w2,s2,hp2,h2,hv2,g2⟩:=z
  rw [all_bind] at h2
  refine wpAny_mono (Zfo O T hν h2 g2 (hv.mono hp2) hv2) (λrc rs3 z=>?_) λ_ _ e=>e
  refine e1_2 z λc wq wqb=>?_;clear z;subst wq;obtain ⟨ρ3,s3,hp3,h3,g3⟩:=wqb
  refine wpAny_truthy_bool ?_
  cases c with
  | true=>
   simp only [if_true,cond_true,all_bind] at h3 ⊢
   refine chain_last (wpAny_mono (H.ev O g3 h3) (λrv4 rs4 z=>?_) λ_ _ e=>e)
   obtain ⟨ρ4,w4,s4,hp4,h4,hv4,g4⟩:=z
   exact wpAny_mono (Zfo O T hν h4 g4 ((hv2.mono hp3).mono hp4) hv4) (λ_ _ z=>(((z.wide hp4).wide hp3).wide hp2).wide hp) λ_ _ e=>e
  | false=>exact i1_2 false rfl (⟨ρ3,s3,(hp.trans hp2).trans hp3,h3,g3⟩)
theorem ZkY {M:Model} {A:Around} {E:Value->Shared->Prop} {P:Bool->St->Prop} {rv:Value} (z:RC G B Γ ν ρ P rv rs):wpAny M A (truthy rv) (RB G B Γ ν ρ P) E rs:=by
 refine e1_2 z λc wq y=>?_;clear z;subst wq
 exact wpAny_truthy_bool y
theorem ZkZ {ih:Ih} (H:IhOk G Γ ν ih) (O:Ok G B d) (T:TOk G Γ) (hν:ν.ok) {l:PySem.Expr} {ops:List CmpOp} {es:List PySem.Expr} {p:Pos} {P:Bool->St->Prop} (g:Gd G B Γ ν ρ s rs) {whole:Sem Value}
 (h:(ZiQ Γ (ih.ev d B.sc) l ops es s).All ν P):wpAny G.M B.A (isTrue (.Compare l ops es p) B.env whole) (RB G B Γ ν ρ P) NoE rs:=by
 unfold ZiQ at h
 rw [all_bind] at h
 refine byP λXX kX=>?_
 refine e2_1 (Zbm h) λa0 s0 hx=>?_
 refine Or.elim (Zgw hx) (λz=>?_) (λz=>?_)
 ·refine e2_3 z λop e wq wqb q=>?_;clear z hx;subst wq wqb
  refine kX ?_
  refine wpAny_isTrue_Compare1 (wpAny_mono (H.ev O g h) (λrv rs1 z=>?_) λ_ _ e=>e) (Za1 q _)
  obtain ⟨ρ1,w,s1,hp,h1,hv,g1⟩:=z
  replace h1:(bif Zae e then (ih.ev d B.sc e s1).bind (λb s=>ZdG Γ op w b s) else .stuck "chain").All ν P:=h1
  rw [q,cond_true,all_bind] at h1
  refine wpAny_mono (H.ev O g1 h1) (λrv2 rs2 z=>?_) λ_ _ e=>e
  obtain ⟨ρ2,w2,s2,hp2,h2,hv2,g2⟩:=z
  exact wpAny_mono (Zfo O T hν h2 g2 (hv.mono hp2) hv2) (λ_ _ z=>ZkY ((z.wide hp2).wide hp)) λ_ _ e=>e
 ·refine e4_3 z λop op2 e e2 wq wqb q=>?_;clear z hx;subst wq wqb
  refine kX ?_
  refine isTrue_chain (rs:=[]) (ops:=[]) (wpAny_mono (H.ev O g h) (λrv rs1 z=>?_) λ_ _ e=>e) (by show behindInMarks _ _=false;exact Za1 q _)
  obtain ⟨ρ1,w,s1,hp,h1,hv,g1⟩:=z
  replace h1:(bif !(Zae e2) then Res.stuck "chain" else (ih.ev d B.sc e s1).bind λb s=>(ZdG Γ op w b s).bind λt s=>bif t then (ih.ev d B.sc e2 s).bind λc s=>ZdG Γ op2 b c s else .ret false s).All ν P:=h1
  rw [q,Bool.not_true,cond_false,all_bind] at h1
  refine test_link (wpAny_mono (H.ev O g1 h1) (λrv2 rs2 z=>?_) λ_ _ e=>e)
  obtain ⟨ρ2,w2,s2,hp2,h2,hv2,g2⟩:=z
  rw [all_bind] at h2
  refine wpAny_mono (Zfo O T hν h2 g2 (hv.mono hp2) hv2) (λrc rs3 z=>?_) λ_ _ e=>e
  refine e1_2 z λc wq wqb=>?_;clear z;subst wq;obtain ⟨ρ3,s3,hp3,h3,g3⟩:=wqb
  refine wpAny_truthy_bool ?_
  cases c with
  | true=>
   simp only [if_true,cond_true,all_bind] at h3 ⊢
   refine test_last (wpAny_mono (H.ev O g3 h3) (λrv4 rs4 z=>?_) λ_ _ e=>e)
   obtain ⟨ρ4,w4,s4,hp4,h4,hv4,g4⟩:=z
   exact wpAny_mono (Zfo O T hν h4 g4 ((hv2.mono hp3).mono hp4) hv4) (λ_ _ z=>ZkY ((((z.wide hp4).wide hp3).wide hp2).wide hp)) λ_ _ e=>e
  | false=>exact ⟨ρ3,s3,(hp.trans hp2).trans hp3,h3,g3⟩
end Mine
end
section
namespace Mine
variable {G:Gl} {B:Bs} {Γ:Tab} {ν:Vn} {ρ:List (Addr × Obj)} {s:St} {rs:Shared} {d:Nat}
theorem ZpZ {ih:Ih} (H:IhOk G Γ ν ih) (O:Ok G B d) (hν:ν.ok) {es:List PySem.Expr} {k:Nat} {p:Pos} {P:MV->St->Prop} (g:Gd G B Γ ν ρ s rs)
 (h:((ZaF (ih.ev d B.sc) es s).bind (Zm6 Γ)).All ν P):wpAny G.M B.A (eval (.Tuple es k p) B.env) (RV G B Γ ν ρ P) NoE rs:=by
 rw [all_bind] at h
 refine Tuple_ (wpAny_mono (ZbQ H O g h) (λvs rs1 z=>?_) λ_ _ e=>e)
 obtain ⟨ρ1,ws,s1,hp,h1,hv,g1⟩:=z
 exact wpAny_mono (Zit hν h1 g1 (by rw [Zd4];exact hv)) (λ_ _ z=>z.wide hp) λ_ _ e=>e
theorem Zpz {ih:Ih} (H:IhOk G Γ ν ih) (O:Ok G B d) (hν:ν.ok) {es:List PySem.Expr} {p:Pos} {P:MV->St->Prop} (g:Gd G B Γ ν ρ s rs)
 (h:((ZaF (ih.ev d B.sc) es s).bind (Zm5 Γ)).All ν P):wpAny G.M B.A (eval (.List es p) B.env) (RV G B Γ ν ρ P) NoE rs:=by
 rw [all_bind] at h
 refine List_ (wpAny_mono (ZbQ H O g h) (λvs rs1 z=>?_) λ_ _ e=>e)
 obtain ⟨ρ1,ws,s1,hp,h1,hv,g1⟩:=z
 exact wpAny_mono (ZlV hν h1 g1 (by rw [Zd4];exact hv)) (λ_ _ z=>z.wide hp) λ_ _ e=>e
set_option genInjectivity false in
set_option genSizeOf false in
inductive PartV (ν:Vn) (ρ:List (Addr × Obj)):Option MV->Value->Prop
 | none:PartV ν ρ none .none
 | some {v:MV} {rv:Value}:V ρ (v.sem ν) rv->PartV ν ρ (some v) rv
theorem Zna {ih:Ih} (H:IhOk G Γ ν ih) (O:Ok G B d) {o:Option PySem.Expr} {P:Option MV->St->Prop} (g:Gd G B Γ ν ρ s rs) (h:(Zor (ih.ev d B.sc) o s).All ν P):
 wpAny G.M B.A (evalPart o B.env) (λrv rs'=>∃ ρ' v s',ρ <+: ρ'∧P v s'∧PartV ν ρ' v rv∧Gd G B Γ ν ρ' s' rs') NoE rs:=by
 cases o with
 | none=>rw [evalPart_none];exact wpAny_pure ⟨ρ,none,s,List.prefix_refl _,h,.none,g⟩
 | some e=>
  rw [evalPart_some]
  have h':((ih.ev d B.sc e s).bind λv s=>.ret (some v) s).All ν P:=h
  rw [all_bind] at h'
  refine wpAny_mono (H.ev O g h') (λrv rs1 z=>?_) λ_ _ e=>e
  obtain ⟨ρ1,w,s1,hp,h1,hv,g1⟩:=z
  exact i3_4 (ρ1) (some w) s1 hp h1 (.some hv) g1
theorem PartV.mono {ρ':List (Addr × Obj)} (h:ρ <+: ρ') {o:Option MV} {rv:Value} (x:PartV ν ρ o rv):PartV ν ρ' o rv:=by
 cases x with
 | none=>exact .none
 | some v=>exact .some (v.mono h)
theorem Gd.push (x:Gd G B Γ ν ρ s rs) (o:Obj):Gd G B Γ ν ρ s { heap:=rs.heap.push o,gens:=rs.gens,drawn:=rs.drawn,toks:=rs.toks,os:=rs.os }:=by
 obtain ⟨m,led,F,N,R,Lc⟩:=x.hs.ex
 exact ⟨x.fx,⟨⟨m,led,F.push o,λp hp=>⟨Heap.get?_push_of_some _ (N p hp).1,(N p hp).2⟩,R,Lc⟩,x.hs.gens,x.hs.drawn,x.hs.os⟩⟩
theorem subS (lo hi:Option PySem.Expr) (p:Pos) (o i:Value):subscripted (.Slice lo hi none p) false o i=operate [i,o] (getItem o i):=rfl
noncomputable def GdH (G:Gl) (B:Bs) (Γ:Tab) (ν:Vn) (ρ:List (Addr × Obj)) (s:St) (rs:Shared) (h:Heap):Prop:=Gd G B Γ ν ρ s { heap:=h,gens:=rs.gens,drawn:=rs.drawn,toks:=rs.toks,os:=rs.os }
theorem GdH.kept:KeptH (GdH G B Γ ν ρ s rs):=λ_ ob x=>Gd.push x ob
theorem Zmg (hν:ν.ok) {value:PySem.Expr} {elo ehi:Option PySem.Expr} {p:Pos} {v:MV} {lo hi:Option MV} {rv vl vu:Value} {P:MV->St->Prop} (h:(ZhO Γ v lo hi s).All ν P) (g:Gd G B Γ ν ρ s rs) (hv:V ρ (v.sem ν) rv) (hlo:PartV ν ρ lo vl) (hhi:PartV ν ρ hi vu):
 wpAny G.M B.A (subscriptTail value (.Slice elo ehi none p) rv (.ref rs.heap.objs.size)) (RV G B Γ ν ρ P) NoE { rs with heap:=rs.heap.push { cls:=.type "slice",data:=.fields #[vl,vu,.none] } }:=by
 revert v;show Fa _ _;refine MV.on_str_ref zF0 zF1 zF1 zF1 zF1 zF1 zF1 (λ_ h=>?_) (λ_ h=>?_)<;>intro hv<;>(unfold ZhO at h;try dsimp only at h)
 ·refine byP λXX kX=>?_
  refine e1_1 (vstr hv) λt wq=>?_;subst wq
  rename_i y
  generalize hl:Nat.ble y.length 5000=wo at h
  revert hl;revert wo;show Fa _ _;refine Boo.on_true zF0 (λh=>?_);intro hl
  rw [cond_true] at h
  have hy:=Nat.le_of_ble_eq_true hl
  refine kX ?_
  have hsz:(Zaa y).length≤sizeLine:=by rw [Zal,sizeLine_eq];omega
  refine byP λXX kX=>?_
  cases lo with
  | none=>
   revert hhi;revert hi;show Fa _ _;refine Opt.on_some zF0 (λv1 h=>?_)
   revert v1;show Fa _ _;refine MV.on_int zF0 zF1 zF1 zF1 zF1 zF1 zF1 zF1 (λl h=>?_)
   intro hhi
   unfold Zgg at h
   dsimp only at h
   cases hlo
   cases hhi with
   | some hw=>
    refine e1_1 (vint hw) λu wq=>?_;subst wq
    generalize e1:l.const? = wo at h
    revert e1;revert wo;show Fa _ _;refine Opt.on_some zF0 (λc h=>?_);intro e1
    cases c with
    | negSucc _=>exact h.elim
    | ofNat c=>
     refine kX ?_
     rw [Zar ν.x e1]
     refine e2_3 (SBH.sliceItem_ns (prog:=G.prog) (w:=G.w) (A:=B.A) (E:=NoE) (s:=rs) (x:=Zaa y) (t:=t) (j:=Int.ofNat c) (uj:=u) (Q:=RV G B Γ ν ρ P) (P:=GdH G B Γ ν ρ s rs) GdH.kept g
      (λh' t' k a=>by
       have e2:Txt.slice (Zaa y) none (some (Int.ofNat c))=Zaa (y.take c):=Zji y c
       rw [e2]
       exact RV.here h (.str _ _) (Gd.toks a k)) hsz) λT id k1 k2 k3=>?_
     exact tail_any k2 k1 k3 (subS _ _ _ _ _)
  | some v1=>
   revert hlo;revert v1;show Fa _ _;refine MV.on_int zF0 zF1 zF1 zF1 zF1 zF1 zF1 zF1 (λl h=>?_)
   revert hhi;revert hi;show Fa _ _;refine Opt.on_none zF1 (λh=>?_)
   intro hhi hlo
   unfold Zgg at h
   dsimp only at h
   cases hhi
   cases hlo with
   | some hw=>
    refine e1_1 (vint hw) λu wq=>?_;subst wq
    generalize e1:l.const? = wo at h
    revert e1;revert wo;show Fa _ _;refine Opt.on_some zF0 (λc h=>?_);intro e1
    cases c with
    | negSucc _=>exact h.elim
    | ofNat c=>
     refine kX ?_
     rw [Zar ν.x e1]
     refine e2_3 (SBH.sliceItem_sn (prog:=G.prog) (w:=G.w) (A:=B.A) (E:=NoE) (s:=rs) (x:=Zaa y) (t:=t) (i:=Int.ofNat c) (ui:=u) (Q:=RV G B Γ ν ρ P) (P:=GdH G B Γ ν ρ s rs) GdH.kept g
      (λh' t' k a=>by
       have e2:Txt.slice (Zaa y) (some (Int.ofNat c)) none=Zaa (y.drop c):=Zjh y c
       rw [e2]
       exact RV.here h (.str _ _) (Gd.toks a k)) hsz) λT id k1 k2 k3=>?_
     exact tail_any k2 k1 k3 (subS _ _ _ _ _)
 ·refine byP λXX kX=>?_
  refine e2_2 (vref hv) λa ao wq ha'=>?_;subst wq
  rename_i n
  generalize hc:cell Γ s n=wo at h
  revert hc;revert wo;show Fa _ _;refine Opt.on_some zF0 (λob h=>?_);intro hc
  refine kX ?_
  revert ob;show Fa _ _;refine MO.on_tuple zF2 zF1 zF1 zF1 zF2 zF1 (λ_ h=>?_)<;>intro hc
  rename_i xs
  have h':(Zgh Γ n xs lo hi s).All ν P:=h
  clear h
  refine byP λXX kX=>?_
  revert hlo;revert lo;show Fa _ _;refine Opt.on_none zF1 (λh'=>?_)
  revert hhi;revert hi;show Fa _ _;refine Opt.on_some zF0 (λv1 h'=>?_)
  revert v1;show Fa _ _;refine MV.on_int zF0 zF1 zF1 zF1 zF1 zF1 zF1 zF1 (λl h'=>?_)
  intro hhi hlo
  unfold Zgh at h'
  dsimp only at h'
  cases hlo
  cases hhi with
  | some hw=>
   refine e1_1 (vint hw) λu wq=>?_;subst wq
   generalize e1:l.const? = wo at h'
   revert e1;revert wo;show Fa _ _;refine Opt.on_some zF0 (λc h'=>?_);intro e1
   have hm1:c = -1:=by
    cases c with
    | ofNat _=>exact h'.elim
    | negSucc k=>
     cases k with
     | zero=>rfl
     | succ _=>exact h'.elim
   subst hm1
   refine kX ?_
   rw [Zar ν.x e1]
   refine e2_3 (g.hs.tuple (xs:=rowS ν xs) (Zac (ν:=ν) hc) ha') λvs j e2 hy hz=>?_
   have hl:=hy.length
   have g1:=g.push { cls:=.type "slice",data:=.fields #[.none,.int (-1) u,.none] }
   have ht:IsTup (rs.heap.push { cls:=.type "slice",data:=.fields #[.none,.int (-1) u,.none] }) a vs.toArray:=Zam (Heap.get?_push_of_some _ e2)
   refine tail_any (ops:=[.ref rs.heap.objs.size,.ref a]) (s:={ rs with heap:=rs.heap.push { cls:=.type "slice",data:=.fields #[.none,.int (-1) u,.none] } }) ht.typeIs slot_tuple_getitem.lookup
    (Zdh ht (Heap.IsSliceOf.new ..) (λq=>?_) (λq=>?_) (by rw [List.size_toArray,hl,sizeLine_eq];omega)) (subS _ _ _ _ _)
   ·cases xs with
    | nil=>exact RV.here h' hv g1
    | cons e r=>
     exfalso
     have h2:(match Zbu (e::r) with | some q=>Zdm Γ q.1 s | none=>(.stuck "slice":Res MV)).All ν P:=h'
     cases q2:Zbu (e::r) with
     | none=>rw [q2] at h2;exact h2.elim
     | some q3=>
      refine e0_2 (ZbI (ν:=ν) q2) λi1 _=>?_
      rw [List.size_toArray,hl,i1,List.length_append] at q
      simp at q
   ·cases xs with
    | nil=>exact absurd (by rw [List.size_toArray,hl];rfl) q
    | cons e r=>
     have h2:(match Zbu (e::r) with | some q=>Zdm Γ q.1 s | none=>(.stuck "slice":Res MV)).All ν P:=h'
     generalize q2:Zbu (e::r)=wo at h2
     revert q2;revert wo;show Fa _ _;refine Opt.on_some zF0 (λq3 h2=>?_);intro q2
     refine byP λXX kX=>?_
     refine e0_2 (ZbI (ν:=ν) q2) λi1 _=>?_
     rw [i1] at hy
     refine e2_3 (hy.snoc) λws w wq y1 y2=>?_;subst wq
     have e4:((ws++[w]).toArray.toList.take ((ws++[w]).toArray.size-1)).toArray=ws.toArray:=by simp
     refine kX ?_
     rw [e4]
     have:=Zit (E:=NoE) hν h2 g1 y1
     have h3:(Zdm Γ q3.1 s).All ν P:=h2
     unfold Zdm at h3
     refine byP λXX kX=>?_
     refine e0_2 (Zak h3) λq5 h3=>?_
     obtain ⟨m,led,F,N,R,Lc⟩:=g1.hs.ex
     have hp:ρ <+: ρ++[((rs.heap.push { cls:=.type "slice",data:=.fields #[.none,.int (-1) u,.none] }).objs.size,({ cls:=.type "tuple",data:=.seq ws.toArray }:Obj))]:=List.prefix_append _ _
     refine kX ?_
     refine ⟨_,_,_,hp,h3,by rw [Zav];exact .ref (o:={ cls:=.type "tuple",data:=.seq ws.toArray }) (by simp [←R.l1]),g.fx,?_⟩
     rw [Zaw]
     refine ⟨⟨m,led++[[((rs.heap.push { cls:=.type "slice",data:=.fields #[.none,.int (-1) u,.none] }).objs.size,({ cls:=.type "tuple",data:=.seq ws.toArray }:Obj))]],F.push _,λp hp'=>(News.push F N _) p (ZaB hp'),R.push (.tuple (y1.mono hp) (ZaC hν q5)) (by simp) ?_,Lc.mono hp⟩,g1.hs.gens,g1.hs.drawn,g1.hs.os⟩
     intro p hp' q hq
     simp only [List.mem_cons,List.not_mem_nil,or_false] at hp'
     subst hp'
     exact News.lt N q hq
set_option tactic.hygienic true in
theorem ZkV {ih:Ih} (H:IhOk G Γ ν ih) (O:Ok G B d) (hν:ν.ok) {v i:PySem.Expr} {p:Pos} {P:MV->St->Prop} (g:Gd G B Γ ν ρ s rs)
 (h:((ih.ev d B.sc v s).bind (ZnY Γ (ih.ev d B.sc) i)).All ν P):wpAny G.M B.A (eval (.Subscript v i p) B.env) (RV G B Γ ν ρ P) NoE rs:=by
 rw [all_bind] at h
 refine Subscript_ (wpAny_mono (H.ev O g h) (λrv rs1 z=>?_) λ_ _ e=>e)
 refine byP λXX kX=>?_
 obtain ⟨ρ1,w,s1,hp,h1,hv,g1⟩:=z
 unfold ZnY at h1
 split at h1
 ·rename_i lo hi st p'
  revert h kX;revert st;show Fa _ _;refine Opt.on_none zF1 (λh1=>?_);intro h kX
  simp only [ZjR,all_bind] at h1
  refine kX ?_
  refine wpAny_Slice (wpAny_mono (Zna H O g1 h1) (λvl rs2 z=>?_) λ_ _ e=>e)
  refine e3_4 z λρ2 l s2 hp2 h2 hl g2=>?_;clear z
  refine wpAny_mono (Zna H O g2 h2) (λvu rs3 z=>?_) λ_ _ e=>e
  refine e3_4 z λρ3 u s3 hp3 h3 hu g3=>?_;clear z
  rw [evalPart_none]
  exact wpAny_pure (wpAny_mono (Zmg hν h3 g3 ((hv.mono hp2).mono hp3) (hl.mono hp3) hu) (λ_ _ z=>((z.wide hp3).wide hp2).wide hp) λ_ _ e=>e)
 ·rename_i i hi
  rw [all_bind] at h1
  refine kX ?_
  refine wpAny_mono (H.ev O g1 h1) (λri rs2 z=>?_) λ_ _ e=>e
  obtain ⟨ρ2,wi,s2,hp2,h2,hvi,g2⟩:=z
  exact wpAny_mono (Zn7 hν hi h2 g2 (hv.mono hp2) hvi) (λ_ _ z=>(z.wide hp2).wide hp) λ_ _ e=>e
end Mine
end
section
namespace Mine
variable {G:Gl} {B:Bs} {Γ:Tab} {ν:Vn} {ρ:List (Addr × Obj)} {s:St} {rs:Shared} {d:Nat}
theorem Ok.at (O:Ok G B d) (cs:List (Addr × Obj)):Ok G { B with cs:=cs } d:=⟨O.kin,O.top,O.kind,O.hand,O.dep,O.uni⟩
theorem Hs.more {σ:List SO} {ls:List (Str × SV)} (x:Hs G B ρ σ ls rs) {p:Addr × Obj} {h':Heap} (hk:∀ b o,rs.heap.get? b=some o->h'.get? b=some o) (hp:h'.get? p.1=some p.2) (hl:rs.heap.get? p.1=none):
 Hs G { B with cs:=p::B.cs } ρ σ ls { heap:=h',gens:=rs.gens,drawn:=rs.drawn,toks:=rs.toks,os:=rs.os }:=by
 obtain ⟨m,led,F,N,R,Lc⟩:=x.ex
 have F':=F.keeps hk
 refine ⟨⟨m,led,F',λq hq=>?_,⟨R.l1,R.l2,R.obj,?_⟩,⟨λy v e=>?_,Lc.dbg⟩⟩,x.gens,x.drawn,x.os⟩
 ·rcases List.mem_cons.mp hq with rfl | hq
  ·refine i0_3 hp (λe=>?_) ?_
   ·refine e3_2 (F.ns) λoL _ _ hL _=>?_
    rw [e,hL] at hl;exact nS hl
   ·cases z:B.h₀.get? q.1 with
    | none=>rfl
    | some o=>rw [F.keep _ _ z] at hl;exact nS hl
  ·exact i0_2 (hk _ _ (N q hq).1) ((N q hq).2)
 ·show (((p::B.cs)++led.flatten).map (·.1)).Nodup
  rw [List.cons_append,List.map_cons,List.nodup_cons]
  refine i0_2 (λhm=>?_) (R.nd)
  refine e1_2 (List.mem_map.mp hm) λq hq e=>?_
  have:=(N q hq).1
  rw [e,hl] at this;exact nN this
 ·refine e1_2 (Lc.at_ y v e) λrv a b=>?_
  refine i1_2 rv a (b.imp id λ⟨k1,c,o,k2,k3,k4⟩=>⟨k1,c,o,k2,List.mem_cons_of_mem _ k3,k4⟩)
theorem anyL_iff {x:List Nat}:∀ {l:List (List Nat)},anyL x l=true ↔ x ∈ l
 | []=>by simp [anyL]
 | y::r=>by
  simp only [anyL,Bool.or_eq_true,leq_eq,anyL_iff (l:=r),List.mem_cons]
  constructor
  ·rintro (h | h)
   ·exact .inl h.symm
   ·exact .inr h
  ·rintro (h | h)
   ·exact .inl h.symm
   ·exact .inr h
theorem ZeP:∀ {l:List (List Nat)},Zkq l=true->l.Nodup
 | [],_=>List.nodup_nil
 | x::r,h=>by
  simp only [Zkq,Bool.and_eq_true,Bool.not_eq_true'] at h
  rw [List.nodup_cons]
  refine i0_2 (λhm=>?_) (ZeP h.2)
  rw [anyL_iff.mpr hm] at h
  cases h.1
theorem ZkR {x y:List Nat} (h:Zaa x=Zaa y):x=y:=by simpa [Zaa] using h
set_option tactic.hygienic true in
theorem ZgT {k:Option PySem.Expr} {r:List (Option PySem.Expr)} (h:(ZcH (k::r)).isSome=true):∃ x c p,k=some (.Constant (.str x) c p):=by
 revert k;show Fa _ _;refine Opt.on_some zB0 (λe h=>?_)
 cases e<;>first | (cases h;done) | skip
 rename_i c _ _
 cases c<;>first | (cases h;done) | exact i3_1 _ _ _ rfl
theorem ZgV:∀ {ks:List (Option PySem.Expr)} {l:List (List Nat)},ZcH ks=some l->ks.all (·.isSome)=true∧strLits ks=true∧ks.length=l.length
 | [],l,h=>by have wq:=Option.some.inj h;clear h;subst wq;exact i0_3 rfl rfl rfl
 | k::r,l,h=>by
  refine byP λXX kX=>?_
  refine e3_1 (ZgT (by rw [h];rfl)) λx c p wq=>?_;subst wq
  have h:(match ZcH r with | some l=>some (x.cps.toList::l) | none=>none)=some l:=h
  generalize q:ZcH r=wo at h
  revert q;revert wo;show Fa _ _;refine Opt.on_some zN0 (λl' h=>?_);intro q
  have wq:=Option.some.inj h;clear h;subst wq
  refine e0_3 (ZgV q) λa b c=>?_
  refine kX ?_
  exact i0_3 (by simpa using a) b (by simp [c])
set_option genInjectivity false in
set_option genSizeOf false in
inductive PairR (G:Gl) (B:Bs) (Γ:Tab) (ν:Vn) (ρ:List (Addr × Obj)) (P:List MV->St->Prop) (l:List (List Nat)) (ps:List (Value × Value)) (rs:Shared):Prop
 | mk (ρ':List (Addr × Obj)) (ws:List MV) (rvs:List Value) (s':St):ρ <+: ρ'->P ws s'->VL ρ' (ws.map (MV.sem ν)) rvs->Gd G B Γ ν ρ' s' rs->allStrKeys ps=true->strPairs ps=(l.map Zaa).zip rvs->ws.length=l.length->PairR G B Γ ν ρ P l ps rs
theorem Ziw {ih:Ih} (H:IhOk G Γ ν ih) (O:Ok G B d) {pos:Pos}:∀ {ks:List (Option PySem.Expr)} {es:List PySem.Expr} {l:List (List Nat)} {ρ:List (Addr × Obj)} {s:St} {rs:Shared} {P:List MV->St->Prop},ZcH ks=some l->ks.length=es.length->Gd G B Γ ν ρ s rs->(ZaF (ih.ev d B.sc) es s).All ν P->
 wpAny G.M B.A (evalPairs (pairTrees ks es B.env pos)) (PairR G B Γ ν ρ P l) NoE rs
 | [],[],l,ρ,s,rs,P,hk,hl,g,h=>by
  have wq:=Option.some.inj hk;clear hk;subst wq
  exact wpAny_pure ⟨ρ,[],[],s,List.prefix_refl _,h,.nil,g,rfl,rfl,rfl⟩
 | [],_::_,l,ρ,s,rs,P,hk,hl,g,h=>by simp at hl
 | _::_,[],l,ρ,s,rs,P,hk,hl,g,h=>by simp at hl
 | k::ks,e::es,l,ρ,s,rs,P,hk,hl,g,h=>by
  refine byP λXX kX=>?_
  refine e3_1 (ZgT (by rw [hk];rfl)) λx kd kp wq=>?_;subst wq
  have hk:(match ZcH ks with | some l=>some (x.cps.toList::l) | none=>none)=some l:=hk
  generalize q:ZcH ks=wo at hk
  revert q;revert wo;show Fa _ _;refine Opt.on_some zN0 (λl' hk=>?_);intro q
  have wq:=Option.some.inj hk;clear hk;subst wq
  have h':(bif !(Zae e) then (Res.stuck "arg":Res (List MV)) else (ih.ev d B.sc e s).bind λv s=>(ZaF (ih.ev d B.sc) es s).bind λvs s=>.ret (v::vs) s).All ν P:=h
  generalize qa:Zae e=wo at h'
  revert qa;revert wo;show Fa _ _;refine Boo.on_true zF0 (λh'=>?_);intro qa
  have h2:=all_bind.mp h'
  refine kX ?_
  show wpAny _ _ (do
   let kv ←eval (.Constant (.str x) kd kp) B.env
   let vv ←holding [kv] (do let x ←eval e B.env;standAt pos;pure x)
   return (kv,vv)::(←holding [kv,vv] (evalPairs (pairTrees ks es B.env pos)))) _ _ _
  refine wpAny_bind (wpAny_Constant_str ?_)
  refine wpAny_bind (wpAny_holding (wpAny_bind (wpAny_mono (H.ev O (g.toks _) h2) (λv rs1 y=>?_) λ_ _ e=>e)))
  obtain ⟨ρ1,w,s1,hp,h3,hv,g1⟩:=y
  refine wpAny_bind (wpAny_standAt (wpAny_pure ?_))
  refine wpAny_bind (wpAny_holding (wpAny_mono (Ziw H O q (by simpa using hl) g1 (all_bind.mp h3)) (λps rs2 y=>?_) λ_ _ e=>e))
  obtain ⟨ρ2,ws,rvs,s2,hp2,h4,hvs,g2,k1,k2,k3⟩:=y
  refine wpAny_pure ⟨ρ2,w::ws,v::rvs,s2,hp.trans hp2,h4,.cons (hv.mono hp2) hvs,g2,k1,?_,by simp [k3]⟩
  have e1:Zaa x.cps.toList=x:=by simp [Zaa]
  show (x,v)::strPairs ps=_
  rw [k2,List.map_cons,List.zip_cons_cons,e1]
theorem Zkc {ρ:List (Addr × Obj)}:∀ {l:List (List Nat)} {ws:List MV} {rvs:List Value},VL ρ (ws.map (MV.sem ν)) rvs->KVR ρ Zaa ((l.zip ws).map λp=>(p.1,p.2.sem ν)) ((l.map Zaa).zip rvs)
 | [],_,_,_=>.nil
 | _::_,[],_,h=>by have wq:=VL.nil_inv h;clear h;subst wq;exact .nil
 | x::l,w::ws,_,.cons a b=>.cons a (Zkc b)
theorem ZnL {ih:Ih} (H:IhOk G Γ ν ih) (O:Ok G B d) {ks:List (Option PySem.Expr)} {es:List PySem.Expr} {p:Pos} {P:MV->St->Prop} (g:Gd G B Γ ν ρ s rs)
 (h:(ZjO Γ (ih.ev d B.sc) ks es s).All ν P):wpAny G.M B.A (eval (.Dict ks es p) B.env) (RV G B Γ ν ρ P) NoE rs:=by
 unfold ZjO at h
 generalize q:ZcH ks=wo at h
 revert q;revert wo;show Fa _ _;refine Opt.on_some zF0 (λl h=>?_);intro q
 have h':(bif Nat.beq l.length es.length&&Nat.ble l.length 15&&Zkq l then (ZaF (ih.ev d B.sc) es s).bind λws s=>Zkn Γ l ws s else .stuck "dict").All ν P:=h
 refine e0_2 (Zak h') λhg h'=>?_
 rw [all_bind] at h'
 simp only [Bool.and_eq_true] at hg
 have hlen:=Nat.eq_of_beq_eq_true hg.1.1
 have hl15:=Nat.le_of_ble_eq_true hg.1.2
 have hnd:=ZeP hg.2
 refine e0_3 (ZgV q) λk1 k2 k3=>?_
 obtain ⟨m,led,F,N,R,Lc⟩:=g.hs.ex
 cases l with
 | nil=>
  have e1:ks=[]:=List.eq_nil_of_length_eq_zero k3
  have e2:es=[]:=List.eq_nil_of_length_eq_zero hlen.symm
  subst e1;subst e2
  have hP:P (Za6 Γ s (.dictI [])).1 (Za6 Γ s (.dictI [])).2:=h'
  refine Dict_empty_made2 F N (modules_low O.top.nolimit) λh' o F' N' lo _ _ hI _ hap=>?_
  have hp:ρ <+: ρ++[(rs.heap.objs.size,(default:Obj))]:=List.prefix_append _ _
  refine ⟨_,_,_,hp,hP,by rw [Zav];exact .ref (o:=default) (by simp [←R.l1]),g.fx,?_⟩
  rw [Zaw]
  refine ⟨⟨m,led++[[(rs.heap.objs.size,o)]],F',λp hp'=>N' p (ZaB hp'),R.push (.dictI (rkvs:=[]) .nil hI lo (by simp)) (by simp) ?_,Lc.mono hp⟩,g.hs.gens,g.hs.drawn,g.hs.os⟩
  intro p hp' q hq
  simp only [List.mem_cons,List.not_mem_nil,or_false] at hp'
  subst hp'
  exact hap q hq
 | cons x l=>
  refine kdn_str k2 F N O.top.nolimit k1 (by rw [k3,hlen]) (λe=>by rw [e] at k3;simp at k3) (by rw [k3];exact hl15) λD h1 o F1 N1 lt lo hd=>?_
  have hnone:rs.heap.get? D=none->True:=λ_=>trivial
  have hfr:∀ q ∈ B.cs++led.flatten,q.1 ≠ D:=λq hq=>Nat.ne_of_lt (lt q hq)
  have g1:Gd G { B with cs:=(D,o)::B.cs } Γ ν ρ s { heap:=h1,gens:=rs.gens,drawn:=rs.drawn,toks:=rs.toks,os:=rs.os }:=by
   refine ⟨g.fx,⟨⟨m,led,F1,λq hq=>N1 q (by simpa using hq),⟨R.l1,R.l2,R.obj,?_⟩,⟨λy v e=>?_,Lc.dbg⟩⟩,g.hs.gens,g.hs.drawn,g.hs.os⟩⟩
   ·show (((D,o)::B.cs++led.flatten).map (·.1)).Nodup
    rw [List.cons_append,List.map_cons,List.nodup_cons]
    refine i0_2 (λhm=>?_) (R.nd)
    refine e1_2 (List.mem_map.mp hm) λq hq e=>?_
    exact hfr q hq e
   ·refine e1_2 (Lc.at_ y v e) λrv a b=>?_
    exact i1_2 rv a (b.imp id λ⟨k1,c,o,k2,k3,k4⟩=>⟨k1,c,o,k2,List.mem_cons_of_mem _ k3,k4⟩)
  refine wpAny_mono (Ziw (B:={ B with cs:=(D,o)::B.cs }) H (O.at _) q (by rw [k3,hlen]) g1 h') (λps rs2 y=>?_) λ_ _ e=>e
  refine byP λXX kX=>?_
  obtain ⟨ρ2,ws,rvs,s2,hp2,hP,hv,g2,a1,a2,a3⟩:=y
  obtain ⟨m2,led2,F2,N2,R2,Lc2⟩:=g2.hs.ex
  refine kX ?_
  have nd2:=R2.nd
  have hrl:=hv.length
  have nd3:∀ p ∈ B.cs++led2.flatten,p.1 ≠ D:=λp hp e=>by
   have nd4:(((D,o)::(B.cs++led2.flatten)).map (·.1)).Nodup:=nd2
   rw [List.map_cons,List.nodup_cons] at nd4
   exact nd4.1 (List.mem_map.mpr ⟨p,hp,e⟩)
  have hP':P (Za6 Γ s2 (.dictS ((x::l).zip ws))).1 (Za6 Γ s2 (.dictS ((x::l).zip ws))).2:=hP
  refine kdn_made_str (o:=o) (news:=(D,o)::(B.cs++led2.flatten)) F2 N2 (.head nd3) hd a1 ?_ λh3 o3 F3 N3 hd3=>?_
  ·rw [a2,List.map_fst_zip (by rw [hrl,List.length_map,List.length_map,a3];exact Nat.le_refl _)]
   exact (List.pairwise_map.mpr (hnd.imp λhne e=>hne (ZkR e)))
  ·have hp:ρ2 <+: ρ2++[(D,(default:Obj))]:=List.prefix_append _ _
   refine ⟨_,_,_,hp2.trans hp,hP',by rw [Zav];exact .ref (o:=default) (by simp [←R2.l1]),g2.fx,?_⟩
   rw [Zaw]
   refine ⟨⟨m2,led2++[[(D,o3)]],F3,λp hp'=>N3 p (ZaB hp'),?_,?_⟩,g2.hs.gens,g2.hs.drawn,g2.hs.os⟩
   ·refine Rl.push (cs:=B.cs) ⟨R2.l1,R2.l2,R2.obj,?_⟩ (.dictS ?_ hd3 lo) (by simp) ?_
    ·have nd4:(((D,o)::(B.cs++led2.flatten)).map (·.1)).Nodup:=nd2
     rw [List.map_cons,List.nodup_cons] at nd4
     exact nd4.2
    ·rw [a2]
     exact (Zkc hv).mono hp
    ·intro p hp' q hq
     simp only [List.mem_cons,List.not_mem_nil,or_false] at hp'
     subst hp'
     exact nd3 q hq
   ·refine ⟨λy v e=>?_,Lc2.dbg⟩
    refine e1_2 (Lc2.at_ y v e) λrv a b=>?_
    refine i1_2 rv (a.mono hp) (b.imp id λ⟨k1,c,o',k2,k3,k4⟩=>⟨k1,c,o',k2,?_,k4⟩)
    rcases List.mem_cons.mp k3 with e3 | k3
    ·cases e3
     exfalso
     refine e2_3 hd λes' ep _ hdd _=>?_;clear hd
     rw [hdd] at k4
     cases k4
    ·exact k3
end Mine
end
section
namespace Mine
noncomputable abbrev Bs.comp (B:Bs) (sc2:Scope) (cl:List (Str × Addr)) (C:Addr) (oL:Obj) (I:Addr) (oI:Obj):Bs:=
 { B with L:=C,sc:=relabel sc2 B.env,fn:=none,cl:=cl,cs:=(B.L,oL)::(I,oI)::B.cs }
noncomputable abbrev Bs.ext (B:Bs) (c0:List (Addr × Obj)):Bs:={ B with cs:=c0++B.cs }
inductive EltR (G:Gl) (F:List (Addr × Obj)->Bs) (D:Addr) (J:List (Addr × Obj)->List (Addr × Obj)->List SO->Prop) (y:Value) (rs3:Shared):Prop
 | mk (c3 ρ3:List (Addr × Obj)) (sv:SV) (σ3:List SO) (k:Nat) (xs:List SV) (lsX:List (Str × SV)):V ρ3 sv y->σ3[k]? = some (.list xs)->V ρ3 (.ref k) (.ref D)->xs.length<2 ^ 20->Hs G (F c3) ρ3 σ3 lsX rs3->J c3 ρ3 (σ3.set k (.list (xs++[sv])))->EltR G F D J y rs3
inductive SkipR (G:Gl) (F:List (Addr × Obj)->Bs) (J:List (Addr × Obj)->List (Addr × Obj)->List SO->Prop) (rs2:Shared):Prop
 | mk (c2 ρ2:List (Addr × Obj)) (σ2:List SO) (lsX:List (Str × SV)):Hs G (F c2) ρ2 σ2 lsX rs2->J c2 ρ2 σ2->SkipR G F J rs2
noncomputable def LsTo (ρ ρ':List (Addr × Obj)) (ls ls':List (Str × SV)):Prop:=look (Str.ofString "__debug__") ls'=none∧∀ y v',look y ls'=some v'->∃ v,look y ls=some v∧∀ rv,V ρ v rv->V ρ' v' rv
theorem LsTo.mono {ρ ρ':List (Addr × Obj)} {ls:List (Str × SV)} (h:ρ <+: ρ') (hd:look (Str.ofString "__debug__") ls=none):LsTo ρ ρ' ls ls:=⟨hd,λ_ v e=>⟨v,e,λ_ x=>x.mono h⟩⟩
section
variable {G:Gl} {B:Bs} {ρ:List (Addr × Obj)} {σ:List SO} {ls:List (Str × SV)} {rs:Shared} {E:Value->Shared->Prop} {d:Nat}
theorem Hs.append (x:Hs G B ρ σ ls rs) {n:Nat} {xs:List SV} {a:Addr} {ao:Obj} {v:SV} {rv:Value} (h:σ[n]? = some (.list xs)) (ha:ρ[n]? = some (a,ao)) (hv:V ρ v rv) (hl:xs.length<2 ^ 20):
 wpAny G.M B.A (PySem.call (.builtin "list.append") [.ref a,rv]) (λ_ rs'=>Hs G B ρ (σ.set n (.list (xs++[v]))) ls rs') E rs:=by
 refine byP λXX kX=>?_
 obtain ⟨m,led,F,N,R,Lc⟩:=x.ex
 refine e2_3 (R.obj n _ h) λp es e1 e2 o=>?_
 rw [ha] at e1
 have wq:=Option.some.inj e1;clear e1;subst wq
 refine e2_3 (o.list_inv) λk us wq y z=>?_;clear o;subst wq
 refine e2_4 (R.one e2) λl1 l2 g1 g2 n1 n2=>?_
 have N0:=N
 rw [g1,←List.append_assoc] at N
 have hul:=y.length
 refine kX ?_
 refine append_K (its:=us.toArray) F N (ZbP n1 n2) (λh' F' N'=>?_) (by simp only [List.size_toArray];rw [hul,sizeLine_eq];omega)
 refine ⟨⟨m,led.set n [(a,PySem.W.listOf (us.toArray.push rv) (k+1))],F',?_,R.upd ha e2 ?_ rfl,Lc⟩,x.gens,x.drawn,x.os⟩
 ·rw [g2,←List.append_assoc];exact N'
 ·have:us.toArray.push rv=(us++[rv]).toArray:=by simp
  rw [this]
  refine .list (y.append (.cons hv .nil)) ?_
  rw [List.length_append];simp;omega
theorem Zg2 {o:Obj} {m:Str->Option Value} (h:LCg.NsObj o m) (w:Option Value):o.data ≠ .cell w:=by
 intro e
 refine e2_2 h λes ep hd _=>?_;clear h
 rw [hd] at e;cases e
theorem Hs.letGo {C:Addr} {oC:Obj} {cs:List (Addr × Obj)} (hc:∀ w,oC.data ≠ .cell w) (x:Hs G { B with cs:=(C,oC)::cs } ρ σ ls rs) {h':Heap} (hsb:Heap.SameBut C rs.heap h'):Hs G { B with cs:=cs } ρ σ ls { rs with heap:=h' }:=by
 obtain ⟨m,led,F,N,R,Lc⟩:=x.ex
 have nd:(((C,oC)::(cs++led.flatten)).map (·.1)).Nodup:=R.nd
 rw [List.map_cons,List.nodup_cons] at nd
 have zC:=N (C,oC) (by simp)
 refine ⟨⟨m,led,⟨F.ns.sameBut hsb (Ne.symm zC.2.1),λb o e=>?_,F.above⟩,λp hp=>?_,⟨R.l1,R.l2,R.obj,nd.2⟩,⟨λy v e=>?_,Lc.dbg⟩⟩,x.gens,x.drawn,x.os⟩
 ·refine hsb.extBut b o (λq=>?_) (F.keep b o e)
  have zn:B.h₀.get? C=none:=zC.2.2
  rw [q,zn] at e;exact nN e
 ·have z:=N p (List.mem_cons_of_mem _ hp)
  exact i0_2 (hsb.extBut _ _ (λe=>nd.1 (List.mem_map.mpr ⟨p,hp,e⟩)) z.1) (z.2)
 ·refine e1_2 (Lc.at_ y v e) λrv a b=>?_
  refine i1_2 rv a (b.imp id λ⟨k1,c,o,k3,k4,k5⟩=>⟨k1,c,o,k3,?_,k5⟩)
  rcases List.mem_cons.mp k4 with e3 | k4
  ·cases e3;exact absurd k5 (hc _)
  ·exact k4
theorem Zed (O:Ok G B d) (x0:Hs G B ρ σ ls rs) {elt iter:PySem.Expr} {x:Str} {px pos:Pos} {ifs:List PySem.Expr} {sc2:Scope} {cl:List (Str × Addr)} {oI:Obj} {fp:List Addr} {n:Nat} {Pv:Nat->Value->Prop} {St:Nat->Heap->Prop} {it:Nat->SV} {J:Addr->Nat->List (Addr × Obj)->List (Addr × Obj)->List SO->Prop} {lsC:List (Str × SV)}
 {RR:Value->Addr->Result->Shared->Prop}
 (hcell:∀ y ∈ sc2.names,y.2 ≠ .cell) (hkind:sc2.kind = .function) (hx:sc2.names.lookup x=some .local) (hxd:x ≠ Str.ofString "__debug__")
 (hfree:oI.isFreed=false)
 (W:Walks G.prog G.w B.A rs.heap.objs.size fp [rs.heap.objs.size] n Pv St) (hst:St 0 (rs.heap.push oI)) (hIo:∀ i h,St i h->∃ o,h.get? rs.heap.objs.size=some o)
 (hfp:∀ b ∈ fp,b=rs.heap.objs.size∨(∃ o,(b,o) ∈ B.cs)∨∃ o,B.h₀.get? b=some o)
 (hit:∀ i v,i<n->Pv i v->∀ D c0 ρ' σ',J D i c0 ρ' σ'->V ρ' (it i) v)
 (hcap:∀ y v,look y lsC=some v->∃ rv,(∀ D i c0 ρ' σ',J D i c0 ρ' σ'->V ρ' v rv)∧(relabel sc2 B.env).names.lookup y=some .cell∧∃ c o,cl.lookup y=some c∧(c,o) ∈ B.cs∧o.data = .cell (some rv)) (hcd:look (Str.ofString "__debug__") lsC=none)
 (hJ:∀ D,J D 0 [] (ρ++[(D,default)]) (σ++[.list []]))
 (body:∀ (C I D:Addr) (oL oI:Obj) (i:Nat) (c0 ρ':List (Addr × Obj)) (σ':List SO) (rs':Shared),i<n->J D i c0 ρ' σ'->Ok G ((B.ext c0).comp sc2 cl C oL I oI) d->Hs G ((B.ext c0).comp sc2 cl C oL I oI) ρ' σ' (put x (it i) lsC) rs'->
  wpAny G.M B.A (forIn ifs true λc r=>if r=true then do let ok ←isTrue c (compEnvC sc2 cl C B.env) (eval c (compEnvC sc2 cl C B.env));pure (ForInStep.yield ok) else pure (ForInStep.yield r)) (λok rs2=>
   if ok=true then wpAny G.M B.A (eval elt (compEnvC sc2 cl C B.env)) (EltR G (λc3=>(B.ext c3).comp sc2 cl C oL I oI) D (J D (i+1))) NoE rs2
   else SkipR G (λc3=>(B.ext c3).comp sc2 cl C oL I oI) (J D (i+1)) rs2) NoE rs')
 (fin:∀ (C D:Addr) (oC:Obj) (c0 ρ':List (Addr × Obj)) (σ':List SO) (rs':Shared) (m:Str->Option Value),J D n c0 ρ' σ'->LCg.NsObj oC m->(∀ w,oC.data ≠ .cell w)->(∀ ls',LsTo ρ ρ' ls ls'->Hs G { B with cs:=(C,oC)::(c0++B.cs) } ρ' σ' ls' rs')->RR (.ref D) C (.ok .next) rs'):
 wpAny G.M B.A (newList []) (λacc s₃=>wpAny G.M B.A (newFunctionEnv sc2 B.env.globals cl [] B.env.qual none .none (some B.env)) (λcenv s₄=>
  codeAny G.M B.A (.compStart (.ListComp elt [⟨.Name x px,iter,ifs,0⟩] sc2 pos) 0 (.ref rs.heap.objs.size) acc { cenv with scope:=relabel sc2 B.env }) (RR acc cenv.locals) s₄) E s₃) E { rs with heap:=rs.heap.push oI }:=by
 obtain ⟨m,led,F,N,R,Lc⟩:=x0.ex
 refine wpAny_newObj_type (wpAny_newFunctionEnv hcell (by intro y hy;simp at hy) (λh₁ hns₁ hsb₁=>?_) hkind)
 dsimp only at hns₁ hsb₁ ⊢
 generalize hI:rs.heap.objs.size=I at *
 generalize hH1:rs.heap.push oI=H1 at hns₁ hsb₁ hst ⊢
 have hD:H1.objs.size=I+1:=by rw [←hH1,Heap.size_push,hI]
 generalize hH2:H1.push { cls:=.type "list",dict:=none,data:=.seq ([]:List Value).toArray } = H2 at hns₁ hsb₁ ⊢
 have hC:H2.objs.size=I+2:=by rw [←hH2,Heap.size_push,hD]
 rw [hC] at hns₁ hsb₁ ⊢
 rw [hD]
 have hDI:(I+1:Nat) ≠ I:=by omega
 have old1:∀ b o,rs.heap.get? b=some o->H1.get? b=some o:=λb o e=>hH1 ▸ Heap.get?_push_of_some _ e
 have old2:∀ b o,H1.get? b=some o->h₁.get? b=some o:=λb o e=>by
  have hb:(b:Nat)<I+1:=hD ▸ Heap.lt_size e
  exact hsb₁.extBut b o (Nat.ne_of_lt (Nat.lt_succ_of_lt hb)) (Heap.get?_push_of_some _ (hH2 ▸ Heap.get?_push_of_some _ e))
 have old:∀ b o,rs.heap.get? b=some o->h₁.get? b=some o:=λb o e=>old2 b o (old1 b o e)
 have hgI:h₁.get? I=some oI:=old2 _ _ (by rw [←hH1,←hI];exact Heap.get?_push_size _ hfree)
 have hgD:h₁.get? (I+1)=some (LCg.lst []):=by
  refine hsb₁.extBut (I+1) _ (Nat.ne_of_lt (Nat.lt_succ_self _)) (Heap.get?_push_of_some _ ?_)
  rw [←hH2,←hD];exact Heap.get?_push_size _ rfl
 have noneAt:∀ a:Nat,I≤a->rs.heap.get? a=none:=λa ha=>by
  cases e:rs.heap.get? a with
  | none=>rfl
  | some o'=>exact absurd (hI ▸ Heap.lt_size e) (Nat.not_lt.mpr ha)
 have none0:∀ a:Nat,I≤a->B.h₀.get? a=none:=λa ha=>by
  cases e:B.h₀.get? a with
  | none=>rfl
  | some o'=>have:=F.keep a o' e;rw [noneAt a ha] at this;exact nN this
 have hLlt:(B.L:Nat)<I:=by rw [←hI];exact F.ns.lt
 refine e1_2 (LCg.ns_obj F.ns) λoL heL hoL=>?_
 have hLnone:B.h₀.get? B.L=none:=Heap.get?_none_of_le F.above
 have newsLt:∀ p ∈ B.cs++led.flatten,(p.1:Nat)<I:=λp hp=>by rw [←hI];exact Heap.lt_size (N p hp).1
 have ndI:(((B.L,oL)::(I,oI)::(B.cs++led.flatten)).map (·.1)).Nodup:=by
  rw [List.map_cons,List.nodup_cons,List.map_cons,List.nodup_cons]
  refine i0_3 ?_ ?_ (R.nd)
  ·intro hm
   rcases List.mem_cons.mp hm with e | hm
   ·exact absurd e (Nat.ne_of_lt hLlt)
   ·refine e1_2 (List.mem_map.mp hm) λq hq e=>?_;exact (N q hq).2.1 e
  ·intro hm
   refine e1_2 (List.mem_map.mp hm) λq hq e=>?_
   exact absurd e (Nat.ne_of_lt (newsLt q hq))
 let Hd:Nat->Shared->Prop:=λi s'=>∃ oI' c0 ρ' σ' lsX,s'.heap.get? I=some oI'∧St i s'.heap∧J (I+1) i c0 ρ' σ'∧Hs G ((B.ext c0).comp sc2 cl (I+2) oL I oI') ρ' σ' lsX s'
 have start:Hd 0 { rs with heap:=h₁,toks:=rs.toks+([]:List (Str × Value)).length }:=by
  refine i5_4 oI ([]) (ρ++[(I+1,default)]) (σ++[.list []]) ([]) hgI ?_ (hJ _) ?_
  ·exact W.frame 0 _ _ hst λb hb o e=>old2 b o e
  ·refine ⟨⟨_,led++[[(I+1,LCg.lst [])]],⟨hns₁,λb o e=>old b o (F.keep b o e),?_⟩,?_,?_,⟨λy v e=>by simp [ZlP] at e,rfl⟩⟩,x0.gens,x0.drawn,x0.os⟩
   ·exact Nat.le_trans F.above (Nat.le_trans (Nat.le_of_lt hLlt) (by show I≤I+2;omega))
   ·intro p hp
    have hp':=ZaB hp
    simp only [List.mem_append,List.mem_cons,List.not_mem_nil,or_false,false_or] at hp'
    rcases hp' with rfl | (rfl | rfl | hp') | hp'
    ·exact i0_3 hgD (Nat.ne_of_lt (Nat.lt_succ_self _)) (none0 _ (Nat.le_succ _))
    ·exact i0_3 (old _ _ heL) (Nat.ne_of_lt (Nat.lt_trans hLlt (by show I<I+2;omega))) hLnone
    ·exact i0_3 hgI (Nat.ne_of_lt (by show I<I+2;omega)) (none0 _ (Nat.le_refl _))
    ·have z:=N p (List.mem_append_left _ hp')
     exact i0_3 (old _ _ z.1) (Nat.ne_of_lt (Nat.lt_trans (newsLt p (List.mem_append_left _ hp')) (by show I<I+2;omega))) (z.2.2)
    ·have z:=N p (List.mem_append_right _ hp')
     exact i0_3 (old _ _ z.1) (Nat.ne_of_lt (Nat.lt_trans (newsLt p (List.mem_append_right _ hp')) (by show I<I+2;omega))) (z.2.2)
   ·refine Rl.push (cs:=(B.L,oL)::(I,oI)::B.cs) ⟨R.l1,R.l2,R.obj,ndI⟩ (.list .nil (by simp)) (by simp) ?_
    intro p hp q hq
    simp only [List.mem_cons,List.not_mem_nil,or_false] at hp
    subst hp
    simp only [List.mem_append,List.mem_cons] at hq
    rcases hq with (rfl | rfl | hq) | hq
    ·exact Nat.ne_of_lt (Nat.lt_succ_of_lt hLlt)
    ·exact Nat.ne_of_lt (Nat.lt_succ_self _)
    ·exact Nat.ne_of_lt (Nat.lt_succ_of_lt (newsLt q (List.mem_append_left _ hq)))
    ·exact Nat.ne_of_lt (Nat.lt_succ_of_lt (newsLt q (List.mem_append_right _ hq)))
 have loop:∀ s₃:Shared,s₃ = { rs with heap:=h₁,toks:=rs.toks+([]:List (Str × Value)).length }->
  codeAny G.M B.A (.compLoop (.ListComp elt [⟨.Name x px,iter,ifs,0⟩] sc2 pos) 0 (.ref I) (.ref (I+1)) (compEnvC sc2 cl (I+2) B.env)) (RR (.ref (I+1)) (I+2)) s₃:=by
  rintro s₃ rfl
  refine codeAny_compLoop_tests (λk s'=>∃ i,i≤n∧k=n+1-i∧Hd i s') ?_ (n+1) ⟨0,Nat.zero_le _,rfl,start⟩
  intro k s' wq;refine e1_3 wq λi hi wqb wqc=>?_;clear wq;subst wqb;obtain ⟨oI',c0,ρ',σ',lsX,heI,hst',hJ',hs'⟩:=wqc
  obtain ⟨m2,led2,F2,N2,R2,Lc2⟩:=hs'.ex
  have nd2:(((B.L,oL)::(I,oI')::((c0++B.cs)++led2.flatten)).map (·.1)).Nodup:=R2.nd
  rw [List.map_cons,List.nodup_cons,List.map_cons,List.nodup_cons] at nd2
  have offL:∀ p ∈ (c0++B.cs)++led2.flatten,p.1 ≠ B.L:=λp hp e=>nd2.1 (List.mem_cons_of_mem _ (List.mem_map.mpr ⟨p,hp,e⟩))
  have offI:∀ p ∈ (c0++B.cs)++led2.flatten,p.1 ≠ I:=λp hp e=>nd2.2.1 (List.mem_map.mpr ⟨p,hp,e⟩)
  have N2':∀ p ∈ (c0++B.cs)++led2.flatten,s'.heap.get? p.1=some p.2∧p.1 ≠ (I+2)∧B.h₀.get? p.1=none:=λp hp=>N2 p (by
   rcases List.mem_append.mp hp with h | h
   ·exact List.mem_append_left _ (List.mem_cons_of_mem _ (List.mem_cons_of_mem _ h))
   ·exact List.mem_append_right _ h)
  have gL:s'.heap.get? B.L=some oL:=(N2 (B.L,oL) (by simp)).1
  by_cases hlt:i<n
  ·refine W.item i _ _ _ hlt hst' λv h₂ tk₂ hPv hst₂ hk₂=>?_
   have k2:∀ b o,b ≠ I->s'.heap.get? b=some o->h₂.get? b=some o:=λb o hb e=>hk₂ b o (by simpa using hb) e
   have hCI:(I+2:Nat) ≠ I:=by omega
   refine wpAny_assign_Name (wpAny_storeName_local (lookup_relabel_local hx) (F2.ns.at' λo e=>k2 _ o hCI e) (λh₃ hn₃ hs₃=>?_) (by simp [compEnvC,relabel,hkind]))
   have k3:∀ b o,b ≠ (I+2:Nat)->h₂.get? b=some o->h₃.get? b=some o:=λb o hb e=>hs₃.extBut b o hb e
   have fpC:∀ b ∈ fp,b ≠ (I+2:Nat):=λb hb=>by
    rcases hfp b hb with h1 | ⟨o,hm⟩ | ⟨o,e⟩
    ·rw [h1];exact Nat.ne_of_lt (by show I<I+2;omega)
    ·exact Nat.ne_of_lt (Nat.lt_trans (newsLt (b,o) (List.mem_append_left _ hm)) (by show I<I+2;omega))
    ·exact Nat.ne_of_lt (Nat.lt_trans (Nat.lt_of_lt_of_le (Heap.lt_size e) (Nat.le_trans F.above (Nat.le_of_lt hLlt))) (by show I<I+2;omega))
   have hst₃:St (i+1) h₃:=W.frame _ _ _ hst₂ λb hb o e=>k3 b o (fpC b hb) e
   refine e1_1 (hIo _ _ hst₃) λoI2 heI2=>?_
   have hsNew:Hs G ((B.ext c0).comp sc2 cl (I+2) oL I oI2) ρ' σ' (put x (it i) lsC) { heap:=h₃,gens:=s'.gens,drawn:=s'.drawn,toks:=tk₂+1,os:=s'.os }:=by
    refine ⟨⟨_,led2,⟨hn₃,λb o e=>?_,F2.above⟩,?_,⟨R2.l1,R2.l2,R2.obj,?_⟩,⟨λy w e=>?_,?_⟩⟩,hs'.gens,hs'.drawn,hs'.os⟩
    ·have hb:(b:Nat)<I:=Nat.lt_of_lt_of_le (Heap.lt_size e) (Nat.le_trans F.above (Nat.le_of_lt hLlt))
     exact k3 b o (Nat.ne_of_lt (Nat.lt_trans hb (by show I<I+2;omega))) (k2 b o (Nat.ne_of_lt hb) (F2.keep b o e))
    ·intro p hp
     rcases List.mem_cons.mp hp with rfl | hp
     ·have hL2:(B.L:Nat) ≠ I+2:=Nat.ne_of_lt (Nat.lt_trans hLlt (by show I<I+2;omega))
      exact i0_3 (k3 _ _ hL2 (k2 _ _ (Nat.ne_of_lt hLlt) gL)) hL2 hLnone
     ·rcases List.mem_cons.mp hp with rfl | hp
      ·exact i0_3 heI2 (Nat.ne_of_lt (by show I<I+2;omega)) (none0 _ (Nat.le_refl _))
      ·have hp:p ∈ (c0++B.cs)++led2.flatten:=hp
       have z:=N2' p hp
       exact i0_2 (k3 _ _ z.2.1 (k2 _ _ (offI p hp) z.1)) (z.2)
    ·exact R2.nd
    ·rw [ZaJ] at e
     by_cases hy:y=x
     ·rw [if_pos hy] at e
      have wq:=Option.some.inj e;clear e;subst wq
      refine i1_2 v (hit i v hlt hPv _ _ _ _ hJ') (.inl ⟨by rw [hy];exact lookup_relabel_local hx,by rw [if_pos hy]⟩)
     ·rw [if_neg hy] at e
      refine byP λXX kX=>?_
      refine e1_3 (hcap y w e) λrv a1 a2 wq=>?_;obtain ⟨c,o,a3,a4,a5⟩:=wq
      refine kX ?_
      exact i1_2 rv (a1 _ _ _ _ _ hJ') (.inr ⟨a2,c,o,a3,List.mem_cons_of_mem _ (List.mem_cons_of_mem _ (List.mem_append_right _ a4)),a5⟩)
    ·rw [ZaJ,if_neg (λe=>hxd e.symm)];exact hcd
   have keepFp:∀ {lsA:List (Str × SV)} {cA ρA:List (Addr × Obj)} {σA:List SO} {rsA:Shared},Hs G ((B.ext cA).comp sc2 cl (I+2) oL I oI2) ρA σA lsA rsA->St (i+1) rsA.heap∧rsA.heap.get? I=some oI2:=λz=>by
    obtain ⟨m4,led4,F4,N4,R4,Lc4⟩:=z.ex
    have gI4:=(N4 (I,oI2) (by simp)).1
    refine i0_2 (W.frame _ _ _ hst₃ λb hb o e=>?_) gI4
    rcases hfp b hb with h1 | ⟨o',hm⟩ | ⟨o',e'⟩
    ·rw [h1] at e ⊢;rw [heI2] at e;have wq:=Option.some.inj e;clear e;subst wq;exact gI4
    ·have e1:=(N2' (b,o') (List.mem_append_left _ (List.mem_append_right _ hm))).1
     have hbI:(b:Nat)<I:=newsLt (b,o') (List.mem_append_left _ hm)
     have e2:=k3 b o' (fpC b hb) (k2 b o' (Nat.ne_of_lt hbI) e1)
     rw [e2] at e;cases e
     exact (N4 (b,o) (by simp [hm])).1
    ·have hbI:(b:Nat)<I:=Nat.lt_of_lt_of_le (Heap.lt_size e') (Nat.le_trans F.above (Nat.le_of_lt hLlt))
     have e2:=k3 b o' (fpC b hb) (k2 b o' (Nat.ne_of_lt hbI) (F2.keep b o' e'))
     rw [e2] at e;cases e
     exact F4.keep b o e'
   refine wpAny_mono (body (I+2) I (I+1) oL oI2 i c0 ρ' σ' _ hlt hJ' ⟨O.kin,O.top,hkind,O.hand,O.dep,O.uni⟩ hsNew) (λok rs2 z=>?_) λ_ _ e=>e.elim
   cases ok with
   | true=>
    simp only [if_true] at z ⊢
    refine wpAny_mono z (λy rs3 z=>?_) λ_ _ e=>e.elim
    refine byP λXX kX=>?_
    obtain ⟨c3,ρ3,sv,σ3,k,xs,lsX,hv,hget,hVD,hlen,hs3,hJ3⟩:=z
    refine e2_2 (vref hVD) λa o ea hra=>?_
    refine kX ?_
    cases ea
    refine wpAny_mono (hs3.append hget hra hv hlen) (λ_ rs4 z4=>?_) λ_ _ e=>e
    refine e0_2 (keepFp z4) λq1 q2=>?_
    exact i1_2 (n+1-(i+1)) (by omega) (⟨i+1,hlt,rfl,oI2,c3,ρ3,_,_,q2,q1,hJ3,z4⟩)
   | false=>
    simp only [Bool.false_eq_true,if_false] at z ⊢
    obtain ⟨c2,ρ2,σ2,lsX,hs2,hJ2⟩:=z
    refine e0_2 (keepFp hs2) λq1 q2=>?_
    exact i1_2 (n+1-(i+1)) (by omega) (⟨i+1,hlt,rfl,oI2,c2,ρ2,_,_,q2,q1,hJ2,hs2⟩)
  ·obtain rfl:i=n:=Nat.le_antisymm hi (Nat.not_lt.mp hlt)
   refine W.done _ _ _ hst' λh₂ tk₂ hk₂=>?_
   have k2:∀ b o,b ≠ I->s'.heap.get? b=some o->h₂.get? b=some o:=λb o hb e=>hk₂ b o (by simpa using hb) e
   have hCI:(I+2:Nat) ≠ I:=by omega
   refine e1_2 (LCg.ns_obj (F2.ns.at' λo e=>k2 _ o hCI e)) λoC heC hoC=>?_
   have hLC:(B.L:Nat) ≠ I+2:=Nat.ne_of_lt (Nat.lt_trans hLlt (by show I<I+2;omega))
   refine fin (I+2) (I+1) oC c0 ρ' σ' _ m2 hJ' hoC (Zg2 hoC) λls' hls=>?_
   refine ⟨⟨m,led2,⟨hoL.ns ?_,λb o e=>?_,F.above⟩,λp hp=>?_,⟨R2.l1,R2.l2,R2.obj,?_⟩,⟨λy v' e=>?_,hls.1⟩⟩,hs'.gens,hs'.drawn,hs'.os⟩
   ·exact k2 _ _ (Nat.ne_of_lt hLlt) gL
   ·have hb:(b:Nat)<I:=Nat.lt_of_lt_of_le (Heap.lt_size e) (Nat.le_trans F.above (Nat.le_of_lt hLlt))
    exact k2 b o (Nat.ne_of_lt hb) (F2.keep b o e)
   ·rcases List.mem_cons.mp hp with rfl | hp
    ·exact i0_3 heC (Ne.symm hLC) (none0 _ (Nat.le_trans (Nat.le_succ _) (Nat.le_succ _)))
    ·have hp:p ∈ (c0++B.cs)++led2.flatten:=hp
     have z:=N2' p hp
     exact i0_3 (k2 _ _ (offI p hp) z.1) (offL p hp) (z.2.2)
   ·show (((I+2,oC)::((c0++B.cs)++led2.flatten)).map (·.1)).Nodup
    rw [List.map_cons,List.nodup_cons]
    refine i0_2 (λhm=>?_) (nd2.2.2)
    refine e1_2 (List.mem_map.mp hm) λq hq e=>?_
    exact (N2' q hq).2.1 e
   ·refine e1_2 (hls.2 y v' e) λv e1 e2=>?_
    refine e1_2 (Lc.at_ y v e1) λrv a b=>?_
    exact i1_2 rv (e2 rv a) (b.imp id λ⟨k1,c,o,k3,k4,k5⟩=>⟨k1,c,o,k3,List.mem_cons_of_mem _ (List.mem_append_right _ k4),k5⟩)
 exact codeAny_compStart_list (loop _ rfl) (W.self 0 _ _ _ (W.frame 0 _ _ hst λb hb o e=>old2 b o e) (loop _ rfl))
end
end Mine
end
section
namespace Mine
variable {G:Gl} {B:Bs} {Γ:Tab} {ν:Vn} {ρ:List (Addr × Obj)} {s:St} {rs:Shared} {d:Nat}
theorem isCell_iff {sc:Scope} {x:Str}:ZbG sc x=true ↔ sc.names.lookup x=some .cell:=by
 unfold ZbG
 rw [Zaz]
 constructor
 ·intro h;split at h
  ·assumption
  ·exact nB h
 ·intro h;rw [h]
theorem isFree_iff {sc:Scope} {x:Str}:ZcG sc x=true ↔ sc.names.lookup x=some .free:=by
 unfold ZcG
 rw [Zaz]
 constructor
 ·intro h;split at h
  ·assumption
  ·exact nB h
 ·intro h;rw [h]
theorem Zcv {env:Env} {sc2:Scope} (hk:env.scope.kind = .function):relabel sc2 env=Zai env.scope sc2:=by
 unfold relabel Zai
 congr 1
 apply List.map_congr_left
 rintro ⟨n,k⟩;intro _
 unfold Zl9
 show (if (k==NameKind.free&&env.scope.kind == .function&&env.kindOf n==some .cell)=true then (n,NameKind.cell) else (n,k))=bif ZdK k&&ZbG env.scope n then (n,.cell) else (n,k)
 have e1:(k==NameKind.free)=ZdK k:=by cases k<;>rfl
 have e2:(env.kindOf n==some NameKind.cell)=ZbG env.scope n:=by
  cases h:ZbG env.scope n with
  | true=>rw [beq_iff_eq];exact isCell_iff.mp h
  | false=>
   rw [beq_eq_false_iff_ne]
   intro e
   rw [isCell_iff.mpr e] at h;exact nT h
 rw [e1,e2,hk]
 cases ZdK k<;>cases ZbG env.scope n<;>rfl
theorem Zjc {sc sc2:Scope} {x:Str} (h:sc2.names.lookup x=some .free) (hc:ZbG sc x=true):(Zai sc sc2).names.lookup x=some .cell:=by
 unfold Zai
 show (sc2.names.map (Zl9 sc)).lookup x=_
 generalize sc2.names=l at h
 induction l with
 | nil=>exact nN h
 | cons p r ih=>
  obtain ⟨n,k⟩:=p
  rw [List.map_cons]
  rw [List.lookup_cons] at h
  unfold Zl9
  cases q:x==n with
  | true=>
   rw [q] at h
   simp only [Option.some.injEq] at h
   subst h
   have e:x=n:=by simpa using q
   subst e
   simp [ZdK,hc]
  | false=>
   rw [q] at h
   have ih':=ih h
   cases ZdK k&&ZbG sc n<;>simp only [cond_true,cond_false,List.lookup_cons,q]<;>exact ih'
theorem ZiL {env:Env} {M:List (Str × NameKind)}:∀ (acc:List (Str × Addr)),(∀ p ∈ M,p.2 = .free->∃ c,env.cells.lookup p.1=some c)->
 ∃ cl,(forIn M acc (λ(p:Str × NameKind) (r:List (Str × Addr))=>(match p with
  | (name,kind)=>if kind == .free then do let a ←cellOf env name;pure (ForInStep.yield ((name,a)::r)) else pure (ForInStep.yield r):Sem (ForInStep (List (Str × Addr))))))=pure cl∧∃ pre,cl=pre++acc∧(∀ q ∈ pre,env.cells.lookup q.1=some q.2)∧∀ p ∈ M,p.2 = .free->∃ c,(p.1,c) ∈ pre:=by
 induction M with
 | nil=>intro acc _;exact i1_2 acc rfl (⟨[],rfl,λ_ h=>(nomatch h),λ_ h=>(nomatch h)⟩)
 | cons p r ih=>
  intro acc h
  obtain ⟨n,k⟩:=p
  rw [List.forIn_cons]
  by_cases hk:k = .free
  ·subst hk
   refine byP λXX kX=>?_
   refine e1_1 (h (n,.free) (.head _) rfl) λc hc=>?_
   refine e1_2 (ih ((n,c)::acc) λp hp=>h p (.tail _ hp)) λcl h1 wq=>?_;obtain ⟨pre,h2,h3,h4⟩:=wq
   refine kX ?_
   refine i1_2 cl ?_ (⟨pre++[(n,c)],by rw [h2];simp,λq hq=>?_,λp hp hf=>?_⟩)
   ·have e:cellOf env n=pure c:=by unfold cellOf;have hc':env.cells.lookup n=some c:=hc;rw [hc']
    simp only [beq_self_eq_true,if_true,e,pure_bind]
    exact h1
   ·rcases List.mem_append.mp hq with hq | hq
    ·exact h3 q hq
    ·simp only [List.mem_cons,List.not_mem_nil,or_false] at hq
     subst hq;exact hc
   ·rcases List.mem_cons.mp hp with rfl | hp
    ·exact i1_1 c (by simp)
    ·refine e1_1 (h4 p hp hf) λc' h5=>?_
     exact i1_1 c' (List.mem_append_left _ h5)
  ·refine e1_2 (ih acc λp hp=>h p (.tail _ hp)) λcl h1 wq=>?_;obtain ⟨pre,h2,h3,h4⟩:=wq
   refine i1_2 cl ?_ (⟨pre,h2,h3,λp hp hf=>?_⟩)
   ·have:(k==NameKind.free)=false:=by simpa using hk
    simp only [this,Bool.false_eq_true,if_false,pure_bind]
    exact h1
   ·rcases List.mem_cons.mp hp with rfl | hp
    ·exact absurd hf hk
    ·exact h4 p hp hf
theorem Zcr {env:Env} {sc2:Scope} (h:∀ p ∈ sc2.names,p.2 = .free->∃ c,env.cells.lookup p.1=some c):
 ∃ cl,closureFor sc2 env=pure cl∧∀ x c,(x,NameKind.free) ∈ sc2.names->env.cells.lookup x=some c->cl.lookup x=some c:=by
 refine byP λXX kX=>?_
 refine e1_2 (ZiL (M:=sc2.names) [] h) λcl h1 wq=>?_;obtain ⟨pre,h2,h3,h4⟩:=wq
 refine kX ?_
 refine i1_2 cl ?_ (λx c hx hc=>?_)
 ·unfold closureFor
  have e:(forIn sc2.names [] (λ(p:Str × NameKind) (r:List (Str × Addr))=>(match p with
   | (name,kind)=>if kind == .free then do let a ←cellOf env name;pure (ForInStep.yield ((name,a)::r)) else pure (ForInStep.yield r):Sem (ForInStep (List (Str × Addr))))))=pure cl:=h1
  first
   | (dsimp only [bind_pure_comp,map_pure] at e ⊢;rw [e];rfl)
   | (rw [e];rfl)
   | (refine Eq.trans ?_ (congrArg (λm=>m >>= λr=>pure r) e |>.trans (pure_bind _ _));rfl)
 ·rw [List.append_nil] at h2
  subst h2
  refine e1_1 (h4 _ hx rfl) λc' hm=>?_
  cases q:cl.lookup x with
  | none=>
   rw [List.lookup_eq_none_iff] at q
   have:=q _ hm
   simp at this
  | some c2=>
   refine e2_2 (List.lookup_eq_some_iff.mp q) λl1 l2 e _=>?_
   have:=h3 (x,c2) (by rw [e];simp)
   rw [hc] at this;exact this.symm
theorem Zer {sc2:Scope} {x:Str} {v:MV}:∀ {ls:List (Str × MV)},look x (capt sc2 ls)=some v->ZcG sc2 x=true
 | [],h=>by exact nN h
 | p::r,h=>by
  unfold capt at h
  rw [List.filter_cons] at h
  generalize hf:ZcG sc2 p.1=wo at h
  cases wo with
  | true=>
   rw [if_pos rfl,Zab] at h
   cases q:seq x p.1 with
   | true=>rw [seq_iff.mp q];exact hf
   | false=>rw [q,cond_false] at h;exact Zer (ls:=r) h
  | false=>rw [if_neg (by simp)] at h;exact Zer (ls:=r) h
theorem Zfj {sc2:Scope} {x:Str} (hx:ZcG sc2 x=true):∀ {ls:List (Str × MV)},look x (capt sc2 ls)=look x ls
 | []=>rfl
 | p::r=>by
  have ih:=Zfj hx (ls:=r)
  unfold capt at ih ⊢
  rw [List.filter_cons,Zab]
  cases hf:ZcG sc2 p.1 with
  | true=>rw [if_pos rfl,Zab,ih]
  | false=>
   rw [if_neg (by simp),ih]
   cases q:seq x p.1 with
   | true=>rw [seq_iff.mp q,hf] at hx;exact nB hx
   | false=>rfl
theorem Zgu {sc2:Scope} {ls:List (Str × MV)} {x:Str} {v:MV} (h:look x (capt sc2 ls)=some v):look x ls=some v∧ZcG sc2 x=true:=by
 have:=Zer h
 exact i0_2 (by rw [←Zfj this];exact h) this
theorem ZgX {ls:List (Str × MV)} {x:Str} (h:look x (semL ν ls)=none):look x ls=none:=by
 unfold semL at h
 rw [Zat (MV.sem ν)] at h
 cases q:look x ls with
 | none=>rfl
 | some v=>rw [q] at h;exact nS h
theorem Zb6 {y:List Nat} (h:Zap y=true):(Zaa y).cps.all (· < 128)=true:=by
 rw [Array.all_eq_true']
 intro c hc
 exact decide_eq_true (ZfN h c (by simpa [Zaa] using hc))
theorem Zhs (ih:Ih) (sc:Scope) (x:Str) (ls0:List (Str × MV)) (elt:PySem.Expr) (ifs:List PySem.Expr) (n c:Nat) (l:List Nat) (s:St):
 Zia Γ ih d sc x ls0 elt ifs n (c::l) s=(Zh9 Γ ih d sc elt ifs n { s with ls:=put x (.str [c]) ls0 }).bind λ_ s=>Zia Γ ih d sc x ls0 elt ifs n l s:=rfl
theorem ZeU (hν:ν.ok):∀ xs:List ME,(rowS ν xs).length≤xs.length * 4096
 | []=>Nat.zero_le _
 | e::r=>by
  have ih:=ZeU hν r
  have e0:rowS ν (e::r)=e.sem ν++rowS ν r:=rfl
  rw [e0,List.length_append,List.length_cons,Nat.succ_mul,Nat.add_comm]
  refine Nat.add_le_add ih ?_
  cases e with
  | v x=>exact Nat.le_of_ble_eq_true rfl
  | seg n=>exact hν.small n
theorem ZnH {ih:Ih} (H:IhOk G Γ ν ih) (O:Ok G B d) (hν:ν.ok) {elt:PySem.Expr} {N:Nat} {Nx:St->Prop} {Q:Value->Shared->Prop} (g:Gd G B Γ ν ρ s rs) (h:(Zgx Γ ih d B.sc elt N s).All ν λ_ s=>Nx s)
 (k:∀ y rs3 ρ3 sv xs s3 s4,ρ <+: ρ3->V ρ3 sv y->(semH Γ ν s3)[N]? = some (.list xs)->xs.length<2 ^ 20->Gd G B Γ ν ρ3 s3 rs3->s4.facts=s3.facts->(semH Γ ν s3).set N (.list (xs++[sv]))=semH Γ ν s4->Nx s4->Q y rs3):wpAny G.M B.A (eval elt B.env) Q NoE rs:=by
 unfold Zgx at h
 rw [all_bind] at h
 refine wpAny_mono (H.ev O g h) (λw rs3 z=>?_) λ_ _ e=>e
 obtain ⟨ρ3,wv,s3,hp3,h3,hv3,g3⟩:=z
 generalize hc:cell Γ s3 N=wo at h3
 revert hc;revert wo;show Fa _ _;refine Opt.on_some zF0 (λob h3=>?_);intro hc
 revert ob;show Fa _ _;refine MO.on_list zF2 zF1 zF1 zF1 zF2 zF1 (λ_ h3=>?_)<;>intro hc
 rename_i xs
 dsimp only at h3
 refine e0_2 (Zak h3) λqf h3=>?_
 refine e1_4 (ZaX h3) λs4 hP4 f1 f2 f3=>?_
 refine k w rs3 ρ3 (wv.sem ν) (rowS ν xs) s3 s4 hp3 hv3 (Zac (ν:=ν) hc) (Nat.lt_of_le_of_lt (Nat.le_trans (ZeU hν xs) (Nat.mul_le_mul_right _ (Nat.le_of_ble_eq_true qf))) (by decide)) g3 f2 ?_ hP4
 rw [f3]
 show _=(semH Γ ν s3).set _ (.list (rowS ν (xs++[.v wv])))
 rw [ZaL];rfl
set_option genInjectivity false in
set_option genSizeOf false in
inductive CompJ (Γ:Tab) (ν:Vn) (ρ1:List (Addr × Obj)) (N:Nat) (Nx:Nat->St->Prop) (D:Addr) (i:Nat):List (Addr × Obj)->List (Addr × Obj)->List SO->Prop
 | mk (ρ':List (Addr × Obj)) (t:St):ρ1 <+: ρ'->V ρ' (.ref N) (.ref D)->FxOk ν t.facts->Nx i t->CompJ Γ ν ρ1 N Nx D i [] ρ' (semH Γ ν t)
theorem ZjC {ih:Ih} (H:IhOk G Γ ν ih) {FB:Bs} (O:Ok G FB d) (hν:ν.ok) {F:List (Addr × Obj)->Bs} (hF:F []=FB) {elt:PySem.Expr} {ifs:List PySem.Expr} {N:Nat} {Nx:Nat->St->Prop} {ρ1 ρ':List (Addr × Obj)} {D:Addr} {i:Nat} (hp:ρ1 <+: ρ') (hV:V ρ' (.ref N) (.ref D)) (g:Gd G FB Γ ν ρ' s rs) (hA:(Zh9 Γ ih d FB.sc elt ifs N s).All ν λ_ s=>Nx (i+1) s):
 wpAny G.M FB.A (forIn ifs true λc r=>if r=true then do let ok ←isTrue c FB.env (eval c FB.env);pure (ForInStep.yield ok) else pure (ForInStep.yield r)) (λok rs2=>if ok=true then wpAny G.M FB.A (eval elt FB.env) (EltR G F D (CompJ Γ ν ρ1 N Nx D (i+1))) NoE rs2 else SkipR G F (CompJ Γ ν ρ1 N Nx D (i+1)) rs2) NoE rs:=by
 have elPart:∀ {ρ2:List (Addr × Obj)} {t2:St} {rs2:Shared},ρ' <+: ρ2->Gd G FB Γ ν ρ2 t2 rs2->(Zgx Γ ih d FB.sc elt N t2).All ν (λ_ s=>Nx (i+1) s)->wpAny G.M FB.A (eval elt FB.env) (EltR G F D (CompJ Γ ν ρ1 N Nx D (i+1))) NoE rs2:=λhp2 g2 hel=>
  ZnH H O hν g2 hel λy rs3 ρ3 sv xs s3 s4 hp3 hv h1 h2 g3 hf h3 h4=>⟨[],ρ3,sv,_,N,xs,_,hv,h1,hV.mono (hp2.trans hp3),h2,by rw [hF];exact g3.hs,by rw [h3];exact ⟨ρ3,s4,hp.trans (hp2.trans hp3),hV.mono (hp2.trans hp3),by rw [hf];exact g3.fx,h4⟩⟩
 unfold Zh9 at hA
 cases ifs with
 | nil=>
  refine wpAny_tests_nil ?_
  rw [if_pos rfl]
  exact elPart (List.prefix_refl _) g hA
 | cons c r=>
  revert r;show Fa _ _;refine Lis.on_nil zF2 (λhA=>?_)
  dsimp only at hA
  rw [all_bind] at hA
  refine wpAny_tests_one (wpAny_mono (H.tst O g hA) (λok rs2 z=>?_) λ_ _ e=>e)
  obtain ⟨ρ2,s2,hp2,h2,g2⟩:=z
  cases ok with
  | true=>rw [if_pos rfl];exact elPart hp2 g2 h2
  | false=>
   rw [if_neg (by simp)]
   exact ⟨[],ρ2,_,_,by rw [hF];exact g2.hs,⟨ρ2,s2,hp.trans hp2,hV.mono hp2,g2.fx,h2⟩⟩
set_option tactic.hygienic true in
theorem ZnI {ih:Ih} (H:IhOk G Γ ν ih) (O:Ok G B d) (hν:ν.ok) {elt:PySem.Expr} {gs:List Comprehension} {sc2:Scope} {pos:Pos} {P:MV->St->Prop} (g:Gd G B Γ ν ρ s rs)
 (h:(ZjN Γ ih d B.sc elt gs sc2 s).All ν P):wpAny G.M B.A (eval (.ListComp elt gs sc2 pos) B.env) (RV G B Γ ν ρ P) NoE rs:=by
 unfold ZjN at h
 refine byP λXX kX=>?_
 split at h
 ·rename_i tg it ifs
  cases q:Zbb tg with
  | none=>rw [q] at h;exact h.elim
  | some x=>
   refine e1_1 (ZeI q) λpx wq=>?_;subst wq
   rw [q] at h
   have h0:(bif Zae it&&Zah sc2 x && !(seq x (Str.ofString "__debug__"))&&Zib B.sc sc2 s.ls then (ih.ev d B.sc it s).bind λv t=>Zhv Γ ih d B.sc sc2 elt ifs x (capt sc2 s.ls) v t else .stuck "comp").All ν P:=h
   generalize hg:(Zae it&&Zah sc2 x && !(seq x (Str.ofString "__debug__"))&&Zib B.sc sc2 s.ls)=wo at h0
   revert hg;revert wo;show Fa _ _;refine Boo.on_true zF0 (λh0=>?_);intro hg
   rw [cond_true,all_bind] at h0
   simp only [Bool.and_eq_true,Bool.not_eq_true'] at hg
   refine e0_2 hg λwq hsc=>?_;clear hg;obtain ⟨⟨qa,hloc⟩,hdbg⟩:=wq
   refine kX ?_
   have hfold:∀ z,foldedSetIterable it B.env z=pure z:=by
    intro z;cases it<;>first | rfl | exact nB qa
   unfold Zib at hsc
   rw [Bool.and_eq_true,List.all_eq_true] at hsc
   have hkind:sc2.kind = .function:=by
    have:=hsc.1
    unfold ZlE at this
    refine byP λXX kX=>?_
    split at this
    ·refine kX ?_
     assumption
    ·exact nB this
   have hcell:∀ z ∈ sc2.names,z.2 ≠ .cell:=λz hz e=>by
    have:=hsc.2 z hz
    unfold Ziu at this
    rw [e] at this;exact nB this
   have hnames:∀ z ∈ sc2.names,z.2 = .local->sc2.names.lookup z.1=some .local:=λz hz e=>by
    have:=hsc.2 z hz
    unfold Ziu at this
    rw [e] at this
    exact Zay this
   have hfree:∀ z ∈ sc2.names,z.2 = .free->ZbG B.sc z.1=true∧ZcG sc2 z.1=true∧∃ v,look z.1 s.ls=some v:=λz hz e=>by
    have:=hsc.2 z hz
    unfold Ziu at this
    rw [e] at this
    simp only [Bool.and_eq_true] at this
    refine i0_3 (this.1.1) (this.1.2) ?_
    have h3:=this.2
    refine byP λXX kX=>?_
    split at h3
    ·refine kX ?_
     rename_i v _;exact i1_1 v (by assumption)
    ·exact nB h3
   refine byP λXX kX=>?_
   obtain ⟨m,led,F,N,R,Lc⟩:=g.hs.ex
   have freeAt:∀ z w,ZbG B.sc z=true->look z s.ls=some w->∃ c o rv,B.env.cells.lookup z=some c∧(c,o) ∈ B.cs∧o.data = .cell (some rv)∧V ρ (w.sem ν) rv:=by
    intro z w h1 h3
    refine byP λXX kX=>?_
    refine e1_2 (Lc.at_ z _ (ZeW (ν:=ν) h3)) λrv a b=>?_
    rcases b with ⟨b1,_⟩ | ⟨b1,c,o,b2,b3,b4⟩
    ·rw [isCell_iff.mp h1] at b1;cases b1
    ·refine kX ?_
     exact i3_4 c o rv b2 b3 b4 a
   refine e1_2 (Zcr (env:=B.env) (sc2:=sc2) λz hz e=>by
    refine byP λXX kX=>?_
    obtain ⟨h1,_,w,h3⟩:=hfree z hz e
    obtain ⟨c,_,_,k,_⟩:=freeAt z.1 w h1 h3
    refine kX ?_
    exact ⟨c,k⟩) λcl hcl hclk=>?_
   refine kX ?_
   rw [eval_ListComp]
   refine wpAny_comprehension_free (use:=none) rfl hfold hcl hkind hnames (wpAny_mono (H.ev O g h0) (λxv rs1 y=>?_) λ_ _ e=>e)
   refine byP λXX kX=>?_
   obtain ⟨ρ1,v,s1,hp1,h1,hv,g1⟩:=y
   unfold Zhv at h1
   split at h1
   ·rename_i y
    refine e1_1 (vstr hv) λtk wq=>?_;subst wq
    refine e0_2 (Zak h1) λhq h1=>?_
    rw [all_bind] at h1
    rw [Bool.and_eq_true] at hq
    have hasc:=Zb6 hq.1
    have hlen:=Nat.le_of_ble_eq_true hq.2
    refine kX ?_
    refine wpAny_pyIter_ascii hasc ?_
    have hsc1:(Zai B.sc sc2)=relabel sc2 B.env:=(Zcv (env:=B.env) O.kind).symm
    rw [hsc1] at h1
    have hσ:(semH Γ ν s1).length=Γ.base.length+s1.heap.length:=by simp [semH]
    have hsz:(Zaa y).cps.size=y.length:=by simp [Zaa]
    refine Zed (E:=NoE) (it:=λi=>.str [y.getD i 0]) (n:=(Zaa y).cps.size) (Pv:=SignAt (Zaa y)) (St:=λi h=>h.IsStrIter rs1.heap.objs.size "str_ascii_iterator" (Zaa y) tk i) (fp:=[rs1.heap.objs.size])
     (J:=CompJ Γ ν ρ1 (Γ.base.length+s1.heap.length) λi t=>(Zia Γ ih d (relabel sc2 B.env) x (capt sc2 s.ls) elt ifs (Γ.base.length+s1.heap.length) (y.drop i) t).All ν λ_ t=>P (.ref (Γ.base.length+s1.heap.length)) { t with ls:=s1.ls })
     (lsC:=semL ν (capt sc2 s.ls)) (RR:=λacc C=>compPost G.M B.A NoE none (RV G B Γ ν ρ P) acc C)
     O g1.hs hcell hkind (Zay hloc) (Zaj hdbg) rfl (Walks.strAscii O.hand _ _ _) ⟨_,Heap.get?_push_size _ rfl,rfl,rfl⟩ (λi h st=>by refine e1_2 st λo e _=>?_;clear st;exact i1_1 o e) (λb hb=>.inl (by simpa using hb)) ?_ ?_ ?_ ?_ ?_ ?_
    ·intro i v hi wq;refine e2_2 wq λc u hc wqb=>?_;clear wq;subst wqb;intro _ _ _ _ _
     have:y[i]? = some c:=by simpa [Zaa] using hc
     have e:y.getD i 0=c:=by rw [List.getD_eq_getElem?_getD,this];rfl
     rw [e]
     exact .str _ _
    ·intro z w hz
     unfold semL at hz
     rw [Zat (MV.sem ν)] at hz
     generalize hl:look z (capt sc2 s.ls)=wo at hz
     revert hl;revert wo;show Fa _ _;refine Opt.on_some zN0 (λu hz=>?_);intro hl
     refine byP λXX kX=>?_
     have wq:=Option.some.inj hz;clear hz;subst wq
     refine e0_2 (Zgu hl) λl1 l2=>?_
     have hf:=isFree_iff.mp l2
     refine e2_2 (List.lookup_eq_some_iff.mp hf) λl3 l4 e5 _=>?_
     refine kX ?_
     have hmem:(z,NameKind.free) ∈ sc2.names:=by rw [e5];simp
     refine byP λXX kX=>?_
     refine e0_3 (hfree _ hmem rfl) λk1 _ _=>?_
     refine e3_4 (freeAt z u k1 l1) λc o rv a1 a2 a3 a4=>?_
     refine kX ?_
     refine i1_3 rv (λ_ _ _ _ _ hJ=>(a4.mono hp1).mono (by cases hJ;assumption)) ?_ (⟨c,o,hclk z c hmem a1,a2,a3⟩)
     rw [←hsc1]
     exact Zjc hf k1
    ·have hdb:look (Str.ofString "__debug__") (semL ν s.ls)=none:=Lc.dbg
     have hd2:=ZgX hdb
     unfold semL
     rw [Zat (MV.sem ν)]
     cases hl:look (Str.ofString "__debug__") (capt sc2 s.ls) with
     | none=>rfl
     | some u=>rw [(Zgu hl).1] at hd2;exact nS hd2
    ·intro a
     obtain ⟨m1,led1,F1,N1,R1,Lc1⟩:=g1.hs.ex
     have e1:semH Γ ν s1++[.list []]=semH Γ ν { s1 with heap:=s1.heap++[.list []] }:=by simp [semH,MO.sem,rowS]
     rw [e1]
     exact ⟨_,_,List.prefix_append _ _,.ref (o:=default) (by rw [←hσ,←R1.l1];simp),g1.fx,h1⟩
    ·intro C I D oL oI i c0 ρ' σ' rs' hi hJ O' hs'
     obtain ⟨ρ',t,hp',hVD,hfx,hAll⟩:=hJ
     have hi':i<y.length:=by rw [←hsz];exact hi
     rw [List.drop_eq_getElem_cons hi'] at hAll
     rw [Zhs] at hAll
     have hA:=hAll
     rw [all_bind] at hA
     have hgN:Gd G (B.comp sc2 cl C oL I oI) Γ ν ρ' { t with ls:=put x (.str [y[i]]) (capt sc2 s.ls) } rs':=by
      refine ⟨hfx,?_⟩
      show Hs G _ ρ' (semH Γ ν t) (semL ν (put x (.str [y[i]]) (capt sc2 s.ls))) rs'
      have e1:semL ν (put x (.str [y[i]]) (capt sc2 s.ls))=put x (.str [y.getD i 0]) (semL ν (capt sc2 s.ls)):=by
       unfold semL
       rw [ZeS,List.getD_eq_getElem?_getD,List.getElem?_eq_getElem hi'];rfl
      rw [e1];exact hs'
     exact ZjC H (FB:=B.comp sc2 cl C oL I oI) O' hν (F:=λc3=>(B.ext c3).comp sc2 cl C oL I oI) rfl hp' hVD hgN hA
    ·intro C D oC c0 ρ' σ' rs' m' hJ hoC hnc hh
     refine byP λXX kX=>?_
     obtain ⟨ρ',t,hp',hVD,hfx,hAll⟩:=hJ
     rw [hsz,List.drop_length] at hAll
     obtain ⟨m1,led1,F1,N1,R1,Lc1⟩:=g1.hs.ex
     have hz:=hh _ (LsTo.mono hp' Lc1.dbg)
     refine kX ?_
     have hgC:rs'.heap.get? C=some oC:=by obtain ⟨m3,led3,F3,N3,R3,Lc3⟩:=hz.ex;exact (N3 (C,oC) (by simp)).1
     refine i1_2 m' (hoC.ns hgC) (λh' hsb=>⟨ρ',_,_,hp1.trans hp',hAll,?_,⟨hfx,hz.letGo hnc hsb⟩⟩)
     exact hVD
   ·exact h1.elim
 ·exact h.elim
end Mine
end
section
namespace Mine
noncomputable abbrev Bs.iter (B:Bs) (I:Addr) (oI:Obj):Bs:={ B with cs:=(I,oI)::B.cs }
section
variable {G:Gl} {B:Bs} {ρ:List (Addr × Obj)} {σ:List SO} {ls:List (Str × SV)} {rs:Shared} {E:Value->Shared->Prop} {d:Nat}
theorem Hs.less {I:Addr} {oI:Obj} (x:Hs G (B.iter I oI) ρ σ ls rs) (hc:∀ w,oI.data ≠ .cell w):Hs G B ρ σ ls rs:=by
 obtain ⟨m,led,F,N,R,Lc⟩:=x.ex
 refine ⟨⟨m,led,F,λp hp=>N p (List.mem_cons_of_mem _ hp),⟨R.l1,R.l2,R.obj,?_⟩,⟨λy v e=>?_,Lc.dbg⟩⟩,x.gens,x.drawn,x.os⟩
 ·have nd:(((I,oI)::(B.cs++led.flatten)).map (·.1)).Nodup:=R.nd
  rw [List.map_cons,List.nodup_cons] at nd
  exact nd.2
 ·refine e1_2 (Lc.at_ y v e) λrv a b=>?_
  refine i1_2 rv a (b.imp id λ⟨k1,c,o,k2,k3,k4⟩=>⟨k1,c,o,k2,?_,k4⟩)
  rcases List.mem_cons.mp k3 with e3 | k3
  ·cases e3;exact absurd k4 (hc _)
  ·exact k3
theorem ZhA (O:Ok G B d) (x0:Hs G B ρ σ ls rs) {target:PySem.Expr} {body:List Stmt} {oI:Obj} {fp:List Addr} {n:Nat} {Pv:Nat->Value->Prop} {St:Nat->Heap->Prop} {it:Nat->SV} {J:Nat->List (Addr × Obj)->List (Addr × Obj)->List SO->List (Str × SV)->Prop}
 {KB:List (Addr × Obj)->List (Addr × Obj)->List SO->List (Str × SV)->Prop} {KR:Value->List (Addr × Obj)->List (Addr × Obj)->List SO->List (Str × SV)->Prop} {R:Result->Shared->Prop}
 (hfree:oI.isFreed=false)
 (W:Walks G.prog G.w B.A rs.heap.objs.size fp [rs.heap.objs.size] n Pv St) (hst:St 0 (rs.heap.push oI)) (hIo:∀ i h,St i h->∃ o,h.get? rs.heap.objs.size=some o∧∀ w,o.data ≠ .cell w)
 (hgo:∀ i (s':Shared) v (Q':Unit->Shared->Prop),St i s'.heap->Q' () s'->wpAny G.M B.A (letOwnedTupleGo target (.ref rs.heap.objs.size) v) Q' NoE s')
 (hfp:∀ b ∈ fp,b=rs.heap.objs.size∨∃ o,∀ I oI i c0 ρ' σ' ls' rs',J i c0 ρ' σ' ls'->Hs G ((B.ext c0).iter I oI) ρ' σ' ls' rs'->rs'.heap.get? b=some o∧b ≠ I)
 (hit:∀ i v,i<n->Pv i v->∀ c0 ρ' σ' ls',J i c0 ρ' σ' ls'->V ρ' (it i) v)
 (hJ:J 0 [] ρ σ ls)
 (bodyH:∀ (I:Addr) (oI:Obj) (i:Nat) (v:Value) (c0 ρ':List (Addr × Obj)) (σ':List SO) (ls':List (Str × SV)) (rs':Shared),i<n->J i c0 ρ' σ' ls'->V ρ' (it i) v->Ok G ((B.ext c0).iter I oI) d->Hs G ((B.ext c0).iter I oI) ρ' σ' ls' rs'->
  wpAny G.M B.A (assign target B.env v) (λ_ rs2=>wpAny G.M B.A (execs body B.env) (λf rs3=>∃ c3 ρ3 σ3 ls3,Hs G ((B.ext c3).iter I oI) ρ3 σ3 ls3 rs3∧match f with
   | .next=>J (i+1) c3 ρ3 σ3 ls3
   | .cont=>J (i+1) c3 ρ3 σ3 ls3
   | .brk=>KB c3 ρ3 σ3 ls3
   | .ret v=>KR v c3 ρ3 σ3 ls3) NoE rs2) NoE rs')
 (fin:∀ c0 ρ' σ' ls' rs',Hs G (B.ext c0) ρ' σ' ls' rs'->(J n c0 ρ' σ' ls'∨KB c0 ρ' σ' ls')->R (.ok .next) rs')
 (finR:∀ v c0 ρ' σ' ls' rs',Hs G (B.ext c0) ρ' σ' ls' rs'->KR v c0 ρ' σ' ls'->R (.ok (.ret v)) rs'):
 codeAny G.M B.A (.forLoop target (.ref rs.heap.objs.size) body [] B.env) R { rs with heap:=rs.heap.push oI }:=by
 obtain ⟨m,led,F,N,Rl0,Lc⟩:=x0.ex
 generalize hI:rs.heap.objs.size=I at *
 have noneAt:∀ a:Nat,I≤a->rs.heap.get? a=none:=λa ha=>by
  cases e:rs.heap.get? a with
  | none=>rfl
  | some o'=>exact absurd (hI ▸ Heap.lt_size e) (Nat.not_lt.mpr ha)
 have none0:∀ a:Nat,I≤a->B.h₀.get? a=none:=λa ha=>by
  cases e:B.h₀.get? a with
  | none=>rfl
  | some o'=>have:=F.keep a o' e;rw [noneAt a ha] at this;exact nN this
 have hLI:(B.L:Nat)<I:=by rw [←hI];exact F.ns.lt
 have hgI:(rs.heap.push oI).get? I=some oI:=by rw [←hI];exact Heap.get?_push_size _ hfree
 refine e1_2 (hIo _ _ hst) λoI' heI hcI=>?_
 rw [hgI] at heI
 have wq:=Option.some.inj heI;clear heI;subst wq
 let Hd:Nat->Shared->Prop:=λi s'=>∃ oI' c0 ρ' σ' ls',s'.heap.get? I=some oI'∧(∀ w,oI'.data ≠ .cell w)∧St i s'.heap∧J i c0 ρ' σ' ls'∧Hs G ((B.ext c0).iter I oI') ρ' σ' ls' s'
 have start:Hd 0 { rs with heap:=rs.heap.push oI }:=by
  refine i5_5 oI ([]) (ρ) (σ) ls hgI hcI hst hJ ?_
  have:=x0.more (p:=(I,oI)) (h':=rs.heap.push oI) (λb o e=>Heap.get?_push_of_some _ e) hgI (noneAt _ (Nat.le_refl _))
  exact this
 refine codeAny_forLoop_any (λk s'=>∃ i,i≤n∧k=n+1-i∧Hd i s') ?_ (n+1) ⟨0,Nat.zero_le _,rfl,start⟩
 intro k s' wq;refine e1_3 wq λi hi wqb wqc=>?_;clear wq;subst wqb;obtain ⟨oI',c0,ρ',σ',ls',heI,hcI',hst',hJ',hs'⟩:=wqc
 obtain ⟨m2,led2,F2,N2,R2,Lc2⟩:=hs'.ex
 have nd2:(((I,oI')::((B.ext c0).cs++led2.flatten)).map (·.1)).Nodup:=R2.nd
 rw [List.map_cons,List.nodup_cons] at nd2
 have offI:∀ p ∈ (B.ext c0).cs++led2.flatten,p.1 ≠ I:=λp hp e=>nd2.1 (List.mem_map.mpr ⟨p,hp,e⟩)
 have stepped:∀ (h₂:Heap),(∀ b o,b ≠ I->s'.heap.get? b=some o->h₂.get? b=some o)->Fr B.h₀ B.L h₂ m2∧News B.h₀ B.L h₂ ((B.ext c0).cs++led2.flatten):=by
  intro h₂ k2
  refine i0_2 (⟨F2.ns.at' λo e=>k2 _ o (Nat.ne_of_lt hLI) e,λb o e=>?_,F2.above⟩) (λp hp=>?_)
  ·refine k2 b o (λq=>?_) (F2.keep b o e)
   rw [q,none0 _ (Nat.le_refl _)] at e;exact nN e
  ·have z:=N2 p (List.mem_cons_of_mem _ hp)
   exact i0_2 (k2 _ _ (offI p hp) z.1) (z.2)
 by_cases hlt:i<n
 ·refine W.item i _ _ _ hlt hst' λv h₂ tk₂ hPv hst₂ hk₂=>?_
  have k2:∀ b o,b ≠ I->s'.heap.get? b=some o->h₂.get? b=some o:=λb o hb e=>hk₂ b o (by simpa using hb) e
  refine e1_2 (hIo _ _ hst₂) λoI2 heI2 hcI2=>?_
  refine e0_2 (stepped h₂ k2) λF3 N3=>?_
  have hsN:Hs G ((B.ext c0).iter I oI2) ρ' σ' ls' { heap:=h₂,gens:=s'.gens,drawn:=s'.drawn,toks:=tk₂,os:=s'.os }:=by
   refine ⟨⟨m2,led2,F3,λp hp=>?_,⟨R2.l1,R2.l2,R2.obj,R2.nd⟩,⟨λy v e=>?_,Lc2.dbg⟩⟩,hs'.gens,hs'.drawn,hs'.os⟩
   ·rcases List.mem_cons.mp hp with rfl | hp
    ·exact i0_3 heI2 (Ne.symm (Nat.ne_of_lt hLI)) (none0 _ (Nat.le_refl _))
    ·exact N3 p hp
   ·refine e1_2 (Lc2.at_ y v e) λrv a b=>?_
    refine i1_2 rv a (b.imp id λ⟨k1,c,o,k3,k4,k5⟩=>⟨k1,c,o,k3,?_,k5⟩)
    rcases List.mem_cons.mp k4 with e3 | k4
    ·cases e3;exact absurd k5 (hcI' _)
    ·exact List.mem_cons_of_mem _ k4
  refine wpAny_mono (hgo (i+1) { s' with heap:=h₂,toks:=tk₂ } v (λ_ s₂=>s₂ = { s' with heap:=h₂,toks:=tk₂ }) hst₂ rfl) (λ_ s₂ e=>?_) λ_ _ e=>e.elim
  subst e
  have keepFp:∀ {c3 ρA:List (Addr × Obj)} {σA:List SO} {lsA:List (Str × SV)} {rsA:Shared},J (i+1) c3 ρA σA lsA->Hs G ((B.ext c3).iter I oI2) ρA σA lsA rsA->St (i+1) rsA.heap:=by
   intro c3 ρA σA lsA rsA hJA z
   refine byP λXX kX=>?_
   obtain ⟨m4,led4,F4,N4,R4,Lc4⟩:=z.ex
   refine kX ?_
   refine W.frame _ _ _ hst₂ λb hb o e=>?_
   rcases hfp b hb with h1 | ⟨o',h1⟩
   ·rw [h1] at e ⊢;rw [heI2] at e;have wq:=Option.some.inj e;clear e;subst wq;exact (N4 (I,oI2) (by simp)).1
   ·refine e0_2 (h1 _ _ _ _ _ _ _ _ hJ' hs') λe1 ne=>?_
    have e2:=k2 b o' ne e1
    rw [e2] at e;have wq:=Option.some.inj e;clear e;subst wq
    exact (h1 _ _ _ _ _ _ _ _ hJA z).1
  have hv:V ρ' (it i) v:=hit i v hlt hPv _ _ _ _ hJ'
  refine wpAny_mono (bodyH I oI2 i v c0 ρ' σ' ls' _ hlt hJ' hv ⟨O.kin,O.top,O.kind,O.hand,O.dep,O.uni⟩ hsN) (λ_ rs2 z=>wpAny_mono z (λf rs3 z=>?_) λ_ _ e=>e.elim) λ_ _ e=>e.elim
  refine e4_2 z λc3 ρ3 σ3 ls3 hs3 hf=>?_;clear z
  have gI:rs3.heap.get? I=some oI2:=by
   obtain ⟨m4,led4,F4,N4,R4,Lc4⟩:=hs3.ex
   exact (N4 (I,oI2) (by simp)).1
  cases f with
  | next=>exact i1_2 (n+1-(i+1)) (by omega) (⟨i+1,hlt,rfl,oI2,c3,ρ3,σ3,ls3,gI,hcI2,keepFp hf hs3,hf,hs3⟩)
  | cont=>exact i1_2 (n+1-(i+1)) (by omega) (⟨i+1,hlt,rfl,oI2,c3,ρ3,σ3,ls3,gI,hcI2,keepFp hf hs3,hf,hs3⟩)
  | brk=>exact fin c3 ρ3 σ3 ls3 _ (hs3.less hcI2) (.inr hf)
  | ret v=>exact finR v c3 ρ3 σ3 ls3 _ (hs3.less hcI2) hf
 ·obtain rfl:i=n:=Nat.le_antisymm hi (Nat.not_lt.mp hlt)
  refine W.done _ _ _ hst' λh₂ tk₂ hk₂=>wpAny_execs_nil ?_
  have k2:∀ b o,b ≠ I->s'.heap.get? b=some o->h₂.get? b=some o:=λb o hb e=>hk₂ b o (by simpa using hb) e
  refine e0_2 (stepped h₂ k2) λF3 N3=>?_
  refine fin c0 ρ' σ' ls' _ ?_ (.inl hJ')
  refine ⟨⟨m2,led2,F3,N3,⟨R2.l1,R2.l2,R2.obj,nd2.2⟩,⟨λy v e=>?_,Lc2.dbg⟩⟩,hs'.gens,hs'.drawn,hs'.os⟩
  refine e1_2 (Lc2.at_ y v e) λrv a b=>?_
  refine i1_2 rv a (b.imp id λ⟨k1,c,o,k3,k4,k5⟩=>⟨k1,c,o,k3,?_,k5⟩)
  rcases List.mem_cons.mp k4 with e3 | k4
  ·cases e3;exact absurd k5 (hcI' _)
  ·exact k4
end
end Mine
end
section
namespace Mine
variable {G:Gl} {B:Bs} {Γ:Tab} {ν:Vn} {ρ:List (Addr × Obj)} {s:St} {rs:Shared} {d:Nat}
theorem RU.to {P:Unit->St->Prop} {F:Fl->St->Prop} (h:∀ s,P () s->F .next s) {u:Unit} (x:RU G B Γ ν ρ P u rs):RF G B Γ ν ρ F .next rs:=by
 obtain ⟨ρ',s',a,b,c⟩:=x
 exact ⟨ρ',.next,s',a,h _ b,.next,c⟩
theorem Zdy {β:Type} (x:Int) (b:β) (p r):putI x b (p::r)=bif ieq x p.1 then (p.1,b)::r else p::putI x b r:=rfl
theorem ZeR {β:Type} (x:Int) (b:β):∀ l:List (Int × β),(putI x b l).length≤l.length+1
 | []=>Nat.le_refl _
 | p::r=>by
  rw [Zdy]
  cases ieq x p.1 with
  | true=>simp
  | false=>simp only [cond_false,List.length_cons];have:=ZeR x b r;omega
theorem ZiA {α β:Type} (f:α->β) (x:Int) (b:α):∀ l:List (Int × α),(putI x b l).map (λp=>(p.1,f p.2))=putI x (f b) (l.map λp=>(p.1,f p.2))
 | []=>rfl
 | p::r=>by
  rw [List.map_cons,Zdy,Zdy,←ZiA f x b r]
  cases ieq x p.1<;>rfl
theorem Zfc {k c:Int} {v w:Value} {r:List (Int × Value)} (h:k ≠ c):stored ((k,v)::r) c w=(k,v)::stored r c w:=by
 unfold stored
 simp only [List.any_cons,h,decide_false,Bool.false_or,List.map_cons,if_false,List.cons_append]
 split<;>rfl
theorem Zfb {c:Int} {v w:Value} {r:List (Int × Value)} (h:∀ p ∈ r,p.1 ≠ c):stored ((c,v)::r) c w=(c,w)::r:=by
 unfold stored
 simp only [List.any_cons,decide_true,Bool.true_or,if_true,List.map_cons]
 congr 1
 refine (List.map_congr_left λp hp=>?_).trans (List.map_id _)
 rw [if_neg (h p hp)];rfl
theorem Zob {kvs:List (Int × SV)} {rkvs:List (Int × Value)} (h:KVR ρ id kvs rkvs) (nd:(rkvs.map (·.1)).Nodup) {c:Int} {v:SV} {rv:Value} (hv:V ρ v rv):KVR ρ id (putI c v kvs) (stored rkvs c rv):=by
 induction kvs generalizing rkvs with
 | nil=>
  cases h
  show KVR ρ id [(c,v)] (stored [] c rv)
  exact .cons (k:=c) (f:=id) hv .nil
 | cons p r ih=>
  cases h with
  | @cons k u ru _ rr h1 h2=>
   rw [List.map_cons,List.nodup_cons] at nd
   rw [Zdy]
   cases q:ieq c k with
   | true=>
    have e:c=k:=ieq_iff.mp q
    subst e
    rw [cond_true]
    show KVR ρ id ((c,v)::r) (stored ((c,ru)::rr) c rv)
    have e9:stored ((c,ru)::rr) c rv=(c,rv)::rr:=Zfb λp hp e=>nd.1 (List.mem_map.mpr ⟨p,hp,e⟩)
    rw [e9]
    exact .cons (k:=c) (f:=id) hv h2
   | false=>
    have ne:k ≠ c:=λe=>by rw [ieq_iff.mpr e.symm] at q;exact nT q
    rw [cond_false]
    show KVR ρ id ((k,u)::putI c v r) (stored ((k,ru)::rr) c rv)
    have e9:stored ((k,ru)::rr) c rv=(k,ru)::stored rr c rv:=Zfc ne
    rw [e9]
    exact .cons (k:=k) (f:=id) h1 (ih h2 nd.2)
theorem ZfD {w:MV}:∀ {xs ys:List ME} {k:Nat},Zd6 xs k w=some ys->k<(rowS ν xs).length∧rowS ν ys=(rowS ν xs).set k (w.sem ν)
 | [],_,_,h=>by exact nN h
 | .seg _::_,_,_,h=>by exact nN h
 | .v x::r,ys,0,h=>by
  have wq:=Option.some.inj h;clear h;subst wq
  exact i0_2 (Nat.succ_pos _) rfl
 | .v x::r,ys,k+1,h=>by
  have h':(match Zd6 r k w with | some l=>some (.v x::l) | none=>none)=some ys:=h
  generalize q:Zd6 r k w=wo at h'
  revert q;revert wo;show Fa _ _;refine Opt.on_some zN0 (λl h'=>?_);intro q
  have wq:=Option.some.inj h';clear h';subst wq
  refine e0_2 (ZfD q) λh1 h2=>?_
  exact i0_2 (Nat.succ_lt_succ h1) (congrArg (x.sem ν::·) h2)
theorem VL.set {vs:List SV} {rvs:List Value} (h:VL ρ vs rvs) {v:SV} {rv:Value} (hv:V ρ v rv):∀ k,VL ρ (vs.set k v) (rvs.set k rv):=by
 induction h with
 | nil=>intro k;exact .nil
 | cons a b ih=>
  intro k
  cases k with
  | zero=>exact .cons hv b
  | succ k=>exact .cons a (ih k)
theorem ZiZ {n:Nat} {xs ys:List ME} {k:Nat} {v:MV} {a:Addr} {ao:Obj} {t:Tok} {rv:Value} {P:Fl->St->Prop} (hc:cell Γ s n=some (.list xs)) (hr:Zd6 xs k v=some ys) (h:((Za8 Γ n (.list ys) s).bind λ_ s=>(.ret .next s:Res Fl)).All ν P) (g:Gd G B Γ ν ρ s rs) (ha':ρ[n]? = some (a,ao)) (hv:V ρ (v.sem ν) rv):
 wpAny G.M B.A (setItem (.ref a) (.int (k:Int) t) rv) (λ_ rs'=>RF G B Γ ν ρ P .next rs') NoE rs:=by
 rw [all_bind] at h
 refine byP λXX kX=>?_
 refine e1_4 (ZaX h) λs' hP f1 f2 f3=>?_
 obtain ⟨m,led,F,N,R,Lc⟩:=g.hs.ex
 refine e2_3 (R.obj n _ (Zac (ν:=ν) hc)) λp es e2 e3 o=>?_
 rw [ha'] at e2
 have wq:=Option.some.inj e2;clear e2;subst wq
 refine e2_3 (o.list_inv) λi us wq y z=>?_;clear o;subst wq
 refine e2_4 (R.one e3) λl1 l2 g1 g2 n1 n2=>?_
 refine e0_2 (ZfD (ν:=ν) hr) λz1 z2=>?_
 have hl:=y.length
 have z:(rowS ν xs).length≤2 ^ 20:=z
 rw [g1,←List.append_assoc] at N
 have na:=N (a,PySem.W.listOf us.toArray i) (by simp)
 have N':=ki_turn (λits=>its.setIfInBounds k rv) (its':=(us.set k rv).toArray) (n':=i) N n1 n2 (by simp) (by simp)
 have F':=F.change (Heap.SameBut.update rs.heap a (Obj.mapSeq λits=>its.setIfInBounds k rv)) na.2.1 na.2.2
 refine kX ?_
 refine ki_setAt (l:=a) (k:=(k:Int)) na.1 (by omega) (by omega) (by simp;omega) ?_
 refine ⟨ρ,.next,s',List.prefix_refl _,hP,.next,by rw [f2];exact g.fx,?_⟩
 rw [f3,f1]
 refine ⟨⟨m,led.set n [(a,PySem.W.listOf (us.set k rv).toArray i)],F',?_,R.upd ha' e3 ?_ rfl,Lc⟩,g.hs.gens,g.hs.drawn,g.hs.os⟩
 ·rw [g2,←List.append_assoc];exact N'
 ·show OR G ρ (.list (rowS ν ys)) _ _
  rw [z2]
  exact .list (y.set hv k) (by rw [List.length_set];exact z)
theorem ZiO {ov iv v:MV} {ro ri rv:Value} {P:Fl->St->Prop} (h:(Zht Γ ov iv v s).All ν P) (g:Gd G B Γ ν ρ s rs) (ho:V ρ (ov.sem ν) ro) (hi:V ρ (iv.sem ν) ri) (hv:V ρ (v.sem ν) rv):
 wpAny G.M B.A (setItem ro ri rv) (λ_ rs'=>RF G B Γ ν ρ P .next rs') NoE rs:=by
 revert ov;show Fa _ _;refine MV.on_ref zF0 zF1 zF1 zF1 zF1 zF1 zF1 zF1 (λ_ h=>?_)<;>intro ho<;>(unfold Zht at h;try dsimp only at h)
 revert hi;revert iv;show Fa _ _;refine MV.on_int zF0 zF1 zF1 zF1 zF1 zF1 zF1 zF1 (λ_ h=>?_)<;>intro hi
 rename_i n l
 refine byP λXX kX=>?_
 refine e2_2 (vref ho) λa ao wq ha'=>?_;subst wq
 refine e1_1 (vint hi) λt wq=>?_;subst wq
 simp only at h
 generalize hc:cell Γ s n=wo at h
 revert hc;revert wo;show Fa _ _;refine Opt.on_some zF0 (λob h=>?_);intro hc
 cases e1:l.const? with
 | none=>refine kX ?_;rw [e1] at h;cases ob<;>exact h.elim
 | some c=>
  rw [e1] at h
  refine kX ?_
  rw [Zar ν.x e1]
  revert hc;revert ob;show Fa _ _;refine MO.on_list_dictI zF2 zF1 zF1 zF2 zF1 (λ_ h=>?_) (λ_ h=>?_)<;>intro hc
  ·rename_i xs
   cases c with
   | negSucc _=>exact h.elim
   | ofNat k=>
    have h':(match Zd6 xs k v with | some ys=>(Za8 Γ n (.list ys) s).bind λ_ s=>(.ret .next s:Res Fl) | none=>.stuck "setitem").All ν P:=h
    generalize q:Zd6 xs k v=wo at h'
    cases wo with
    | none=>exact h'.elim
    | some ys=>exact ZiZ hc q h' g ha' hv
  rename_i kvs
  have h':(bif Nat.ble kvs.length 1000 then (Za8 Γ n (.dictI (putI c v kvs)) s).bind λ_ s=>.ret .next s else .stuck "setitem").All ν P:=h
  refine byP λXX kX=>?_
  refine e0_2 (Zak h') λql h'=>?_
  rw [all_bind] at h'
  have hlen:=Nat.le_of_ble_eq_true ql
  refine e1_4 (ZaX h') λs' hP f1 f2 f3=>?_
  obtain ⟨m,led,F,N,R,Lc⟩:=g.hs.ex
  refine e2_3 (R.obj n _ (Zac (ν:=ν) hc)) λp es e2 e3 o=>?_
  rw [ha'] at e2
  have wq:=Option.some.inj e2;clear e2;subst wq
  refine e2_5 (o.dictI_inv) λob1 rkvs wq y z lo lk=>?_;clear o;rename Obj=>o;subst wq
  refine e2_4 (R.one e3) λl1 l2 g1 g2 n1 n2=>?_
  have N0:=N
  rw [g1,←List.append_assoc] at N
  refine kX ?_
  have U:∀ (pre post:List (Addr × Obj)),(∀ p ∈ pre,p.1 ≠ a)->(∀ p ∈ post,p.1 ≠ a)->UpdF a o (pre++(a,o)::post) (λo'=>pre++(a,o')::post):=by
   intro pre
   induction pre with
   | nil=>intro post _ h2;exact .head h2
   | cons p r ih=>intro post h1 h2;exact .tail (h1 _ (.head _)) (ih post (λq hq=>h1 q (.tail _ hq)) h2)
  have hkl:=y.length
  refine kda_set (knd:=intKind _ _) F N (U _ _ n1 n2) z (intKind_is _ _ _ _) (by rw [hkl,sizeLine_eq];simp at lk ⊢;omega) λh2 o' F' N' hd'=>?_
  refine ⟨ρ,.next,s',List.prefix_refl _,hP,.next,by rw [f2];exact g.fx,?_⟩
  rw [f3,f1]
  refine ⟨⟨m,led.set n [(a,o')],F',?_,R.upd ha' e3 (.dictI (rkvs:=stored rkvs c rv) ?_ hd' lo ?_) rfl,Lc⟩,g.hs.gens,g.hs.drawn,g.hs.os⟩
  ·rw [g2,←List.append_assoc];exact N'
  ·rw [ZiA (MV.sem ν)]
   refine e2_5 z λ_ _ _ _ _ _ nd=>?_;clear z
   exact Zob y nd hv
  ·simp only [List.length_map]
   have:=ZeR c v kvs
   omega
end Mine
end
section
namespace Mine
variable {G:Gl} {B:Bs} {Γ:Tab} {ν:Vn} {ρ:List (Addr × Obj)} {s:St} {rs:Shared} {d:Nat}
theorem Hs.lsEq {σ:List SO} {ls ls':List (Str × SV)} (x:Hs G B ρ σ ls rs) (h:∀ y,look y ls'=look y ls):Hs G B ρ σ ls' rs:=by
 obtain ⟨m,led,F,N,R,Lc⟩:=x.ex
 exact ⟨⟨m,led,F,N,R,⟨λy v e=>Lc.at_ y v (by rw [←h];exact e),by rw [h];exact Lc.dbg⟩⟩,x.gens,x.drawn,x.os⟩
theorem Zgz {x:Str} (h:(!(seq x (Str.ofString "__debug__")))=true):(x==("__debug__":Str))=false:=by
 rw [Bool.not_eq_true'] at h
 rw [beq_eq_false_iff_ne];exact Zaj h
set_option tactic.hygienic true in
theorem Zcy:∀ {k n:Nat} {e:PySem.Expr},k≤n->ZfF k e=true->constantsAlone n e=false
 | 0,n,e,_,h=>by
  cases e<;>first | (cases h;done) | (cases n<;>rfl) | (cases n<;>exact Zgz h)
 | k+1,0,e,hn,h=>absurd hn (Nat.not_succ_le_zero k)
 | k+1,n+1,e,hn,h=>by
  have hn:=Nat.le_of_succ_le_succ hn
  cases e<;>first | (cases h;done) | rfl | exact Zgz h | skip
  ·rename_i l op r p
   show (constantsAlone n l&&constantsAlone n r)=false
   rcases (Bool.or_eq_true _ _).mp h with h | h
   ·rw [Zcy hn h];rfl
   ·rw [Zcy hn h,Bool.and_false]
  ·rename_i v i p
   show (constantsAlone n v&&constantsAlone n i)=false
   rw [Zcy hn h];rfl
theorem Zjl {es:List PySem.Expr} (h:es.any (ZfF 3)=true):es.all (constantsAlone 8)=false:=by
 refine e1_2 (List.any_eq_true.mp h) λe he hs=>?_
 rw [Bool.eq_false_iff]
 intro q
 rw [List.all_eq_true] at q
 have:=q e he
 rw [Zcy (by omega) hs] at this
 exact nB this
noncomputable def ZbN (env:Env) (line:Nat):PySem.Expr->Option Str
 | .Name id pos=>if env.kindOf id==some .local&&pos.line==line then some id else none
 | _=>none
noncomputable def Zpu:PySem.Expr->Bool
 | .Starred ..=>true
 | _=>false
theorem Znk {ts vs:List PySem.Expr} {k k2:Nat} {p p2:Pos} {env:Env}:swappedStores [.Tuple ts k p] (.Tuple vs k2 p2) env =
 (if (!(ts.length==2||ts.length==3)||vs.length != ts.length||env.blockKind != .function)=true then pure none else
  if vs.any Zpu=true then pure none else
  if ((ts.filterMap (ZbN env ((ts.head?.map (·.pos.line)).getD 0))).length != ts.length||(ts.filterMap (ZbN env ((ts.head?.map (·.pos.line)).getD 0))).eraseDups.length != (ts.filterMap (ZbN env ((ts.head?.map (·.pos.line)).getD 0))).length)=true then pure none else
  if vs.all (foldedForSure 8)=true then pure none else
  if vs.all (constantsAlone 8)=true then unsupported "assign.tuple-of-constant-expressions:order-of-the-stores" else
  pure (some (ts.filterMap (ZbN env ((ts.head?.map (·.pos.line)).getD 0))))):=rfl
theorem ZmD {ts vs:List PySem.Expr} {k k2:Nat} {p p2:Pos} {env:Env} (h:¬(ts.length=2∨ts.length=3)):swappedStores [.Tuple ts k p] (.Tuple vs k2 p2) env=pure none:=by
 have h1:(ts.length==2||ts.length==3)=false:=by
  rw [Bool.eq_false_iff];intro q;apply h;simpa using q
 rw [Znk,h1];rfl
theorem sw_gen {ts vs:List PySem.Expr} {k k2:Nat} {p p2:Pos} {env:Env} (hs:vs.all (constantsAlone 8)=false):
 swappedStores [.Tuple ts k p] (.Tuple vs k2 p2) env=pure none∨∃ names line,swappedStores [.Tuple ts k p] (.Tuple vs k2 p2) env=pure (some names)∧names=ts.filterMap (ZbN env line)∧names.length=ts.length∧names.eraseDups.length=names.length:=by
 rw [Znk,hs]
 split
 ·exact .inl rfl
 ·split
  ·exact .inl rfl
  ·split
   ·exact .inl rfl
   ·rename_i hn
    split
    ·exact .inl rfl
    ·have h:=Bool.or_eq_false_iff.mp (Bool.eq_false_iff.mpr hn)
     exact .inr (i2_4 _ ((ts.head?.map (·.pos.line)).getD 0) rfl rfl (bne_eq_false_iff_eq.mp h.1) (bne_eq_false_iff_eq.mp h.2))
set_option tactic.hygienic true in
theorem ZkW {env:Env} {line:Nat} {e:PySem.Expr} {x:Str} (h:ZbN env line e=some x):Zbb e=some x:=by
 cases e<;>(try cases h;done)
 rename_i id pos
 (unfold ZbN at h;try dsimp only at h)
 split at h
 ·have wq:=Option.some.inj h;clear h;subst wq;rfl
 ·exact nN h
theorem ZhR {env:Env} {line:Nat}:∀ {ts:List PySem.Expr},(ts.filterMap (ZbN env line)).length=ts.length->ts.map Zbb=(ts.filterMap (ZbN env line)).map some
 | [],_=>rfl
 | e::r,h=>by
  rw [List.filterMap_cons] at h ⊢
  generalize q:ZbN env line e=wo at h
  cases wo with
  | none=>
   have:=List.length_filterMap_le (ZbN env line) r
   simp only [List.length_cons] at h;omega
  | some x=>
   simp only [List.length_cons,Nat.add_right_cancel_iff] at h
   simp only [List.map_cons,ZkW q,ZhR h]
theorem Zd7 {sc:Scope}:∀ {names:List Str} {ts:List PySem.Expr} {vs:List MV} {s:St} {P:Unit->St->Prop},ts.map Zbb=names.map some->(Zao sc ts (vs.map .v) s).All ν P->
 names.length=vs.length∧(∀ x ∈ names,Zah sc x=true∧seq x (Str.ofString "__debug__")=false)∧P () { s with ls:=(names.zip vs).foldl (λl p=>put p.1 p.2 l) s.ls }
 | [],ts,vs,s,P,hn,h=>by
  cases ts with
  | cons _ _=>simp at hn
  | nil=>
   revert vs;show Fa _ _;refine Lis.on_nil zF2 (λh=>?_)
   exact i0_3 rfl (λ_ h=>(nomatch h)) h
 | x::names,ts,vs,s,P,hn,h=>by
  cases ts with
  | nil=>simp at hn
  | cons t ts=>
   simp only [List.map_cons,List.cons.injEq] at hn
   revert vs;show Fa _ _;refine Lis.on_cons zF0 (λv vs h=>?_)
   have h':(match Zbb t with
    | some x=>(Zbk sc x v s).bind λ_ s=>Zao sc ts (vs.map .v) s
    | none=>.stuck "unpack").All ν P:=h
   rw [hn.1] at h'
   have h2:=all_bind.mp h'
   unfold Zbk at h2
   refine e0_2 (Zak h2) λq h2=>?_
   refine e0_3 (Zd7 hn.2 (show (Zao sc ts (vs.map .v) { s with ls:=put x v s.ls }).All ν P from h2)) λa b c=>?_
   simp only [Bool.and_eq_true,Bool.not_eq_true'] at q
   refine i0_3 (by simp [a]) (λy hy=>?_) c
   rcases List.mem_cons.mp hy with rfl | hy
   ·exact q
   ·exact b y hy
theorem ZgD {names:List Str} {vs:List MV}:∀ {l:List (Str × MV)} (y:Str),names.Nodup->look y ((names.zip vs).foldl (λl p=>put p.1 p.2 l) l)=match look y (names.zip vs) with | some v=>some v | none=>look y l:=by
 induction names generalizing vs with
 | nil=>intro l y _;rfl
 | cons x r ih=>
  intro l y nd
  cases vs with
  | nil=>rfl
  | cons v vs=>
   rw [List.nodup_cons] at nd
   rw [List.zip_cons_cons,List.foldl_cons,ih y nd.2,Zab,ZaJ]
   have none_of:∀ z:Str,z ∉ r->look z (r.zip vs)=none:=λz hz=>by
    have:=λw=>@Zdk MV z w (r.zip vs)
    cases q:look z (r.zip vs) with
    | none=>rfl
    | some w=>
     refine e1_2 (Zdk q) λp hp e=>?_
     exact absurd ((List.of_mem_zip hp).1) (e ▸ hz)
   cases q:seq y x with
   | true=>
    have e:=seq_iff.mp q
    subst e
    rw [none_of y nd.1]
    simp
   | false=>
    rw [cond_false,if_neg (Zaj q)]
theorem ZfE (O:Ok G B d):∀ {names:List Str} {vs:List MV} {rvs:List Value} {ρ:List (Addr × Obj)} {s:St} {rs:Shared},names.length=vs.length->(∀ x ∈ names,Zah B.sc x=true∧seq x (Str.ofString "__debug__")=false)->Gd G B Γ ν ρ s rs->VL ρ (vs.map (MV.sem ν)) rvs->
 wpAny G.M B.A (assignInOrder (names.map λn=>bindName B.env n) rvs) (λ_ rs'=>∃ ρ',ρ <+: ρ'∧Gd G B Γ ν ρ' { s with ls:=(names.zip vs).foldl (λl p=>put p.1 p.2 l) s.ls } rs') NoE rs
 | [],vs,rvs,ρ,s,rs,hl,hn,g,hv=>by
  cases vs with
  | nil=>have wq:=VL.nil_inv hv;clear hv;subst wq;exact assignInOrder_nil ⟨ρ,List.prefix_refl _,g⟩
  | cons _ _=>simp at hl
 | x::names,vs,rvs,ρ,s,rs,hl,hn,g,hv=>by
  cases vs with
  | nil=>simp at hl
  | cons v vs=>
   refine e2_3 (VL.cons_inv hv) λ_ _ wq a b=>?_;clear hv;subst wq
   have hx:=hn x (.head _)
   have hst:(Zbk B.sc x v s).All ν λ_ s'=>s' = { s with ls:=put x v s.ls }:=by
    unfold Zbk
    rw [hx.1,hx.2];exact rfl
   refine assignInOrder_cons (bindName_ (wpAny_mono (ZdA O hst g a) (λ_ rs1 y=>?_) λ_ _ e=>e))
   obtain ⟨ρ1,s1,hp,e,g1⟩:=y
   subst e
   refine wpAny_mono (ZfE O (by simpa using hl) (λy hy=>hn y (.tail _ hy)) g1 (b.mono hp)) (λ_ rs2 y=>?_) λ_ _ e=>e
   refine e1_2 y λρ2 hp2 g2=>?_;clear y
   exact i1_2 (ρ2) (hp.trans hp2) g2
theorem Zf0 {β:Type} {y:Str} {v:β}:∀ {l:List (Str × β)},look y l=some v->(y,v) ∈ l
 | [],h=>by exact nN h
 | p::r,h=>by
  rw [Zab] at h
  generalize q:seq y p.1=wo at h
  cases wo with
  | true=>rw [cond_true] at h;have wq:=Option.some.inj h;clear h;subst wq;rw [seq_iff.mp q];exact .head _
  | false=>rw [cond_false] at h;exact .tail _ (Zf0 h)
theorem ZdM {β:Type} {y:Str} {v:β}:∀ {l:List (Str × β)},(l.map (·.1)).Nodup->(y,v) ∈ l->look y l=some v
 | [],_,h=>by cases h
 | p::r,nd,h=>by
  rw [List.map_cons,List.nodup_cons] at nd
  rw [Zab]
  rcases List.mem_cons.mp h with e | h
  ·rw [←e]
   have:seq y y=true:=seq_iff.mpr rfl
   simp [this]
  ·have:seq y p.1=false:=by
    cases q:seq y p.1 with
    | false=>rfl
    | true=>exact absurd (List.mem_map.mpr ⟨(y,v),h,rfl⟩) (seq_iff.mp q ▸ nd.1)
   rw [this,cond_false]
   exact ZdM nd.2 h
theorem ZeJ {α:Type}:∀ {l:List α},l.Nodup->l.reverse.Nodup
 | [],_=>List.nodup_nil
 | x::r,h=>by
  rw [List.nodup_cons] at h
  rw [List.reverse_cons,List.nodup_append]
  refine i0_3 (ZeJ h.2) (by simp) (λa ha b hb e=>?_)
  simp only [List.mem_cons,List.not_mem_nil,or_false] at hb
  subst hb;subst e
  exact h.1 (List.mem_reverse.mp ha)
theorem ZlQ {β:Type} {y:Str} {l:List (Str × β)} (nd:(l.map (·.1)).Nodup):look y l.reverse=look y l:=by
 have nd':(l.reverse.map (·.1)).Nodup:=by rw [List.map_reverse];exact ZeJ nd
 cases q:look y l with
 | some v=>exact ZdM nd' (List.mem_reverse.mpr (Zf0 q))
 | none=>
  cases q2:look y l.reverse with
  | none=>rfl
  | some v=>
   have:=ZdM nd (List.mem_reverse.mp (Zf0 q2))
   rw [q] at this;exact nN this
theorem Zle {α β:Type}:∀ {a:List α} {b:List β},a.length=b.length->a.reverse.zip b.reverse=(a.zip b).reverse
 | [],[],_=>rfl
 | x::a,y::b,h=>by
  simp only [List.length_cons,Nat.add_right_cancel_iff] at h
  rw [List.reverse_cons,List.reverse_cons,List.zip_append (by simp [h]),Zle h]
  show _=((x,y)::a.zip b).reverse
  rw [List.reverse_cons];rfl
 | [],_::_,h=>by simp at h
 | _::_,[],h=>by simp at h
theorem ZiH {β:Type}:∀ {a:List Str} {b:List β},a.length=b.length->(a.zip b).map (·.1)=a
 | [],[],_=>rfl
 | x::a,y::b,h=>by
  simp only [List.length_cons,Nat.add_right_cancel_iff] at h
  rw [List.zip_cons_cons,List.map_cons,ZiH h]
 | [],_::_,h=>by simp at h
 | _::_,[],h=>by simp at h
theorem VL.rev {vs:List SV} {rvs:List Value} (h:VL ρ vs rvs):VL ρ vs.reverse rvs.reverse:=by
 induction h with
 | nil=>exact .nil
 | cons a _ ih=>rw [List.reverse_cons,List.reverse_cons];exact ih.append (.cons a .nil)
theorem Zfd (O:Ok G B d) {names:List Str} {ts:List PySem.Expr} {vs:List MV} {rvs:List Value} {P:Unit->St->Prop} (hn:ts.map Zbb=names.map some) (nd:names.Nodup) (h:(Zao B.sc ts (vs.map .v) s).All ν P) (g:Gd G B Γ ν ρ s rs) (hv:VL ρ (vs.map (MV.sem ν)) rvs):
 wpAny G.M B.A (assignInOrder (names.reverse.map λn=>bindName B.env n) rvs.reverse) (RU G B Γ ν ρ P) NoE rs:=by
 refine e0_3 (Zd7 hn h) λhl hok hP=>?_
 refine wpAny_mono (ZfE O (names:=names.reverse) (vs:=vs.reverse) (by simp [hl]) (λx hx=>hok x (List.mem_reverse.mp hx)) g (by rw [List.map_reverse];exact hv.rev)) (λ_ rs' y=>?_) λ_ _ e=>e
 refine e1_2 y λρ' hp g'=>?_;clear y
 refine ⟨ρ',_,hp,hP,⟨g'.fx,?_⟩⟩
 refine g'.hs.lsEq λy=>?_
 have e:∀ l:List (Str × MV),look y (semL ν l)=(look y l).map (MV.sem ν):=λl=>by unfold semL;rw [Zat (MV.sem ν)]
 show look y (semL ν ((names.zip vs).foldl (λl p=>put p.1 p.2 l) s.ls))=look y (semL ν ((names.reverse.zip vs.reverse).foldl (λl p=>put p.1 p.2 l) s.ls))
 rw [e,e,ZgD y nd,ZgD y (ZeJ nd),Zle hl,ZlQ (by rw [ZiH hl];exact nd)]
end Mine
end
section
namespace Mine
variable {G:Gl} {B:Bs} {Γ:Tab} {ν:Vn} {ρ:List (Addr × Obj)} {s:St} {rs:Shared} {d:Nat}
theorem Zif:∀ (n:Nat) (l:List Str),l.length≤n->l.eraseDups.length≤l.length
 | _,[],_=>by simp
 | 0,_::_,h=>by simp at h
 | n+1,a::r,h=>by
  rw [List.eraseDups_cons,List.length_cons,List.length_cons]
  have h1:=List.length_filter_le (λb=>!b==a) r
  have h2:=Zif n (r.filter λb=>!b==a) (by simp at h;omega)
  omega
theorem Zeu:∀ (n:Nat) (l:List Str),l.length≤n->l.eraseDups.length=l.length->l.Nodup
 | _,[],_,_=>List.nodup_nil
 | 0,_::_,h,_=>by simp at h
 | n+1,a::r,h,e=>by
  rw [List.eraseDups_cons,List.length_cons,List.length_cons] at e
  have h1:=List.length_filter_le (λb=>!b==a) r
  have h2:=Zif r.length (r.filter λb=>!b==a) h1
  have h3:(r.filter λb=>!b==a).length=r.length:=by omega
  have h4:r.filter (λb=>!b==a)=r:=List.filter_eq_self.mpr (by
   have:=List.length_filter_eq_length_iff.mp h3
   exact this)
  rw [h4] at e
  rw [List.nodup_cons]
  refine i0_2 (λhm=>?_) (Zeu n r (by simp at h;omega) (by omega))
  have:=List.filter_eq_self.mp h4 a hm
  simp at this
theorem ZaZ {e:PySem.Expr} (h:ZaQ e=true) (t:Option PySem.Expr) (n:Nat) (env:Env):swapsWith e t n env=pure false:=by
 cases e<;>first | rfl | exact nB h
theorem Zjj {e:PySem.Expr} (h:ZaQ e=true) (t:PySem.Expr) (n:Nat) (env:Env):swapsWithSole [t] e n env=pure false:=ZaZ h _ _ _
theorem ZmE {e:PySem.Expr} (h:Ziy e=true) {ts:List PySem.Expr} {k:Nat} {p:Pos} {env:Env}:swappedStores [.Tuple ts k p] e env=pure none:=by
 cases e<;>first | rfl | exact nB h
theorem Za5 {sc:Scope}:∀ {ts:List PySem.Expr} {xs:List ME} {s:St} {P:Unit->St->Prop},(Zao sc ts xs s).All ν P->xs.length=ts.length
 | [],xs,s,P,h=>by
  revert xs;show Fa _ _;refine Lis.on_nil zF2 (λh=>?_)
  rfl
 | t::ts,xs,s,P,h=>by
  revert xs;show Fa _ _;refine Lis.on_cons zF0 (λe xs h=>?_)
  revert e;show Fa _ _;refine ME.on_v zF1 (λw h=>?_)
  have h':(match Zbb t with
   | some x=>(Zbk sc x w s).bind λ_ s=>Zao sc ts xs s
   | none=>.stuck "unpack").All ν P:=h
  generalize q:Zbb t=wo at h'
  revert q;revert wo;show Fa _ _;refine Opt.on_some zF0 (λx h'=>?_);intro q
  refine e2_1 (Zbm (all_bind.mp h')) λ_ s1 h2=>?_
  simp [Za5 h2]
theorem ZfL (O:Ok G B d) {ts es:List PySem.Expr} {k k2:Nat} {tp p2 pos:Pos} {P:Fl->St->Prop} (hg:(Zcu ts es&&Nat.ble ts.length 200)=true)
 (h:wpAny G.M B.A (spliced (backTo p2 (starEach es B.env))) (RL G B Γ ν ρ λws s1=>((Zao B.sc ts (ws.map .v) s1).bind λ_ s=>(.ret .next s:Res Fl)).All ν P) NoE rs):
 wpAny G.M B.A (exec (.Assign [.Tuple ts k tp] (.Tuple es k2 p2) pos) B.env) (RF G B Γ ν ρ P) NoE rs:=by
 rw [Bool.and_eq_true] at hg
 have hlen:=Nat.le_of_ble_eq_true hg.2
 have value:∀ {Q:Value->Shared->Prop},(∀ (ρ1:List (Addr × Obj)) (ws:List MV) (rvs:List Value) (s1:St) (rs1:Shared),ρ <+: ρ1->((Zao B.sc ts (ws.map .v) s1).bind λ_ s=>.ret .next s).All ν P->VL ρ1 (ws.map (MV.sem ν)) rvs->Gd G B Γ ν ρ1 s1 rs1->∀ a,IsTup rs1.heap a rvs.toArray->Q (.ref a) rs1)->wpAny G.M B.A (eval (.Tuple es k2 p2) B.env) Q NoE rs:=by
  intro Q hQ
  refine Tuple_ (wpAny_mono h (λvs rs1 z=>?_) λ_ _ e=>e)
  refine byP λXX kX=>?_
  obtain ⟨ρ1,ws,s1,hp,h1,hv,g1⟩:=z
  obtain ⟨m,led,F,N,R,Lc⟩:=g1.hs.ex
  refine kX ?_
  refine newTuple_N F N (λh' F' N'=>hQ ρ1 ws vs s1 _ hp h1 hv ?_ _ ?_) ?_
  ·exact ⟨g1.fx,⟨⟨m,led,F',λp hp=>N' p (List.mem_cons_of_mem _ hp),R,Lc⟩,g1.hs.gens,g1.hs.drawn,g1.hs.os⟩⟩
  ·exact Zam (N' _ (.head _)).1
  ·have hl:=hv.length
   rw [hl,List.length_map,sizeLine_eq]
   have:=Za5 (all_bind.mp h1)
   simp only [List.length_map] at this
   omega
 have fin:∀ {ρ1:List (Addr × Obj)} {u:Unit} {rs2:Shared},ρ <+: ρ1->RU G B Γ ν ρ1 (λ_ s=>(Res.ret Fl.next s:Res Fl).All ν P) u rs2->RF G B Γ ν ρ P .next rs2:=λhp z=>(z.to (F:=P) λ_ z=>z).wide hp
 have noswap:swappedStores [.Tuple ts k tp] (.Tuple es k2 p2) B.env=pure none->wpAny G.M B.A (exec (.Assign [.Tuple ts k tp] (.Tuple es k2 p2) pos) B.env) (RF G B Γ ν ρ P) NoE rs:=by
  intro hw
  refine Assign_Tuple (value λρ1 ws rvs s1 rs1 hp h1 hv g1 a ht=>?_) rfl hw
  rw [all_bind] at h1
  obtain ⟨m,led,F,N,R,Lc⟩:=g1.hs.ex
  have hv':VL ρ1 (rowS ν (ws.map ME.v)) rvs:=by rw [Zd4];exact hv
  refine e0_3 (ZaM (E:=NoE) O h1 g1 hv') λl1 l2 _=>?_
  refine unpackN_ F N ht O.hand (by simpa using l1) l2 (λh' F' N'=>?_)
  have g':Gd G B Γ ν ρ1 s1 { heap:=h',gens:=rs1.gens,drawn:=rs1.drawn,toks:=rs1.toks,os:=rs1.os }:=⟨g1.fx,⟨⟨m,led,F',N',R,Lc⟩,g1.hs.gens,g1.hs.drawn,g1.hs.os⟩⟩
  exact wpAny_mono (ZaM O h1 g' hv').2.2 (λu rs2 z=>fin hp z) λ_ _ e=>e
 refine byP λXX kX=>?_
 by_cases h23:ts.length=2∨ts.length=3
 ·refine kX ?_
  have hs:es.all (constantsAlone 8)=false:=by
   refine Zjl ?_
   have h5:=hg.1
   unfold Zcu at h5
   rw [Bool.or_eq_true] at h5
   refine byP λXX kX=>?_
   rcases h5 with h5 | h5
   ·refine kX ?_
    exfalso
    rcases h23 with h6 | h6<;>(rw [h6] at h5;exact absurd h5 (by decide))
   ·refine kX ?_
    exact h5
  refine byP λXX kX=>?_
  rcases sw_gen (ts:=ts) (k:=k) (p:=tp) (k2:=k2) (p2:=p2) (env:=B.env) hs with hw | ⟨names,line,hw,e1,e2,e3⟩
  ·refine kX ?_
   exact noswap hw
  ·have hnm:ts.map Zbb=names.map some:=by
    rw [e1]
    rw [e1] at e2
    exact ZhR e2
   have nd:=Zeu _ names (Nat.le_refl _) e3
   refine kX ?_
   refine Assign_Tuple_swapped (value λρ1 ws rvs s1 rs1 hp h1 hv g1 a ht=>?_) rfl hw
   rw [all_bind] at h1
   obtain ⟨m,led,F,N,R,Lc⟩:=g1.hs.ex
   have hl:=hv.length
   have hl2:=Za5 h1
   simp only [List.length_map] at hl hl2
   refine unpackItemsN_ F N ht O.hand (by rw [List.size_toArray,hl,hl2,e2]) (λh' F' N'=>?_)
   have g':Gd G B Γ ν ρ1 s1 { heap:=h',gens:=rs1.gens,drawn:=rs1.drawn,toks:=rs1.toks,os:=rs1.os }:=⟨g1.fx,⟨⟨m,led,F',N',R,Lc⟩,g1.hs.gens,g1.hs.drawn,g1.hs.os⟩⟩
   exact wpAny_mono (Zfd O hnm nd h1 g' hv) (λu rs2 z=>fin hp z) λ_ _ e=>e
 ·refine kX ?_
  exact noswap (ZmD h23)
set_option tactic.hygienic true in
theorem Zlb {ih:Ih} (H:IhOk G Γ ν ih) (O:Ok G B d) (hν:ν.ok) {ts:List PySem.Expr} {k:Nat} {tp pos:Pos} {e:PySem.Expr} {P:Fl->St->Prop} (g:Gd G B Γ ν ρ s rs) (he:ZaQ e=true)
 (h:(Zgj Γ (ih.ev d B.sc) B.sc ts e s).All ν P):wpAny G.M B.A (exec (.Assign [.Tuple ts k tp] e pos) B.env) (RF G B Γ ν ρ P) NoE rs:=by
 unfold Zgj at h
 refine byP λXX kX=>?_
 split at h
 ·rename_i es k2 p2
  refine e0_2 (Zak h) λhg h=>?_
  rw [all_bind] at h
  refine kX ?_
  exact ZfL O hg (ZbQ H O g h)
 ·rename_i e' hne
  refine e0_2 (Zak h) λhp h=>?_
  rw [all_bind] at h
  refine kX ?_
  refine Assign_Tuple (wpAny_mono (H.ev O g h) (λrv rs1 z=>?_) λ_ _ e=>e) (Zjj he _ _ _) (ZmE hp)
  refine byP λXX kX=>?_
  obtain ⟨ρ1,v,s1,hp1,h1,hv,g1⟩:=z
  unfold Zla at h1
  generalize q:Zjd Γ s1 v=wo at h1
  revert q;revert wo;show Fa _ _;refine Opt.on_some zF0 (λxs h1=>?_);intro q
  simp only at h1
  rw [all_bind] at h1
  refine e2_3 (Zhf g1 q hv) λa vs wq ht hy=>?_;subst wq
  obtain ⟨m,led,F,N,R,Lc⟩:=g1.hs.ex
  refine e0_3 (ZaM (E:=NoE) O h1 g1 hy) λl1 l2 _=>?_
  refine kX ?_
  refine unpackN_ F N ht O.hand (by simpa using l1) l2 (λh' F' N'=>?_)
  have g':Gd G B Γ ν ρ1 s1 { heap:=h',gens:=rs1.gens,drawn:=rs1.drawn,toks:=rs1.toks,os:=rs1.os }:=⟨g1.fx,⟨⟨m,led,F',N',R,Lc⟩,g1.hs.gens,g1.hs.drawn,g1.hs.os⟩⟩
  refine wpAny_mono (ZaM O h1 g' hy).2.2 (λu rs2 z=>?_) λ_ _ e=>e
  exact (z.to (F:=P) λ_ z=>z).wide hp1
end Mine
end
section
namespace Mine
variable {G:Gl} {B:Bs} {Γ:Tab} {ν:Vn} {ρ:List (Addr × Obj)} {s:St} {rs:Shared} {d:Nat}
set_option tactic.hygienic true in
theorem Zjx {ih:Ih} (H:IhOk G Γ ν ih) (O:Ok G B d) (T:TOk G Γ) (hν:ν.ok) {t e:PySem.Expr} {pos:Pos} {P:Fl->St->Prop} (g:Gd G B Γ ν ρ s rs) (he:ZaQ e=true)
 (h:(Zgi Γ (ih.ev d B.sc) B.sc t e s).All ν P):wpAny G.M B.A (exec (.Assign [t] e pos) B.env) (RF G B Γ ν ρ P) NoE rs:=by
 cases t<;>(unfold Zgi at h;try dsimp only at h)<;>(try exact h.elim)
 ·rename_i o x p
  rw [all_bind] at h
  refine plainObj_wpAny_Assign_Attribute (wpAny_mono (H.ev O g h) (λrv rs1 z=>?_) λ_ _ e=>e) (ZaZ he _ _ _)
  obtain ⟨ρ1,w,s1,hp,h1,hv,g1⟩:=z
  rw [all_bind] at h1
  refine wpAny_mono (H.ev O g1 h1) (λrv2 rs2 z=>?_) λ_ _ e=>e
  obtain ⟨ρ2,w2,s2,hp2,h2,hv2,g2⟩:=z
  rw [all_bind] at h2
  exact wpAny_mono (Zjf O T h2 g2 hv2 (hv.mono hp2)) (λ_ _ z=>((z.to (F:=P) λ_ z=>z).wide hp2).wide hp) λ_ _ e=>e
 ·rename_i o i p
  rw [all_bind] at h
  refine wpAny_Assign_Subscript (wpAny_mono (H.ev O g h) (λrv rs1 z=>?_) λ_ _ e=>e) (ZaZ he _ _ _)
  obtain ⟨ρ1,w,s1,hp,h1,hv,g1⟩:=z
  rw [all_bind] at h1
  refine wpAny_mono (H.ev O g1 h1) (λrv2 rs2 z=>?_) λ_ _ e=>e
  obtain ⟨ρ2,w2,s2,hp2,h2,hv2,g2⟩:=z
  rw [all_bind] at h2
  refine wpAny_mono (H.ev O g2 h2) (λrv3 rs3 z=>?_) λ_ _ e=>e
  obtain ⟨ρ3,w3,s3,hp3,h3,hv3,g3⟩:=z
  exact wpAny_mono (ZiO h3 g3 (hv2.mono hp3) hv3 ((hv.mono hp2).mono hp3)) (λ_ _ z=>((z.wide hp3).wide hp2).wide hp) λ_ _ e=>e
 ·rename_i x p
  rw [all_bind] at h
  refine wpAny_Assign_Name (wpAny_mono (H.ev O g h) (λrv rs1 z=>?_) λ_ _ e=>e) (ZaZ he _ _ _)
  obtain ⟨ρ1,w,s1,hp,h1,hv,g1⟩:=z
  rw [all_bind] at h1
  exact wpAny_mono (ZdA O h1 g1 hv) (λ_ _ z=>(z.to (F:=P) λ_ z=>z).wide hp) λ_ _ e=>e
 ·rename_i ts k p
  exact Zlb H O hν g he h
theorem Zqf {ih:Ih} (H:IhOk G Γ ν ih) (O:Ok G B d) {t:PySem.Expr} {a b:List Stmt} {pos:Pos} {P:Fl->St->Prop} (g:Gd G B Γ ν ρ s rs)
 (h:(stIf ih d B.sc t a b s).All ν P):wpAny G.M B.A (exec (.If t a b pos) B.env) (RF G B Γ ν ρ P) NoE rs:=by
 unfold stIf at h
 rw [all_bind] at h
 refine wpAny_If (wpAny_mono (H.tst O g h) (λc rs1 z=>?_) λ_ _ e=>e)
 obtain ⟨ρ1,s1,hp,h1,g1⟩:=z
 cases c with
 | true=>exact wpAny_mono (H.blk O g1 h1) (λ_ _ z=>z.wide hp) λ_ _ e=>e
 | false=>exact wpAny_mono (H.blk O g1 h1) (λ_ _ z=>z.wide hp) λ_ _ e=>e
theorem ZpR {ih:Ih} (H:IhOk G Γ ν ih) (O:Ok G B d) {e:Option PySem.Expr} {pos:Pos} {P:Fl->St->Prop} (g:Gd G B Γ ν ρ s rs)
 (h:(ZpS (ih.ev d B.sc) e s).All ν P):wpAny G.M B.A (exec (.Return e pos) B.env) (RF G B Γ ν ρ P) NoE rs:=by
 cases e with
 | none=>exact wpAny_Return_none ⟨ρ,_,s,List.prefix_refl _,h,.ret .none,g⟩
 | some e=>
  have h':((ih.ev d B.sc e s).bind λv s=>.ret (.ret v) s).All ν P:=h
  rw [all_bind] at h'
  refine wpAny_Return_some (wpAny_mono (H.ev O g h') (λrv rs1 z=>?_) λ_ _ e=>e)
  obtain ⟨ρ1,w,s1,hp,h1,hv,g1⟩:=z
  exact ⟨ρ1,_,s1,hp,h1,.ret hv,g1⟩
theorem Zn0 {ih:Ih} (H:IhOk G Γ ν ih) (O:Ok G B d) {e:PySem.Expr} {pos:Pos} {P:Fl->St->Prop} (g:Gd G B Γ ν ρ s rs) (he:ZaQ e=true)
 (h:((ih.ev d B.sc e s).bind λ_ s=>(Res.ret Fl.next s:Res Fl)).All ν P):wpAny G.M B.A (exec (.Expr e pos) B.env) (RF G B Γ ν ρ P) NoE rs:=by
 rw [all_bind] at h
 refine wpAny_Expr_any (wpAny_mono (H.ev O g h) (λrv rs1 z=>?_) λ_ _ e=>e) ?_ (ZaZ he _ _ _)
 ·obtain ⟨ρ1,w,s1,hp,h1,hv,g1⟩:=z
  exact ⟨ρ1,_,s1,hp,h1,.next,g1⟩
 ·show (B.sc.kind == .module&&_)=false
  rw [O.kind];rfl
theorem ZmP {ih:Ih} (H:IhOk G Γ ν ih) (O:Ok G B d) {t:PySem.Expr} {b:List Stmt} {pos:Pos} {P:Fl->St->Prop} (g:Gd G B Γ ν ρ s rs)
 (h:(ih.whl d B.sc t b s).All ν P):wpAny G.M B.A (exec (.While t b [] pos) B.env) (RF G B Γ ν ρ P) NoE rs:=by
 refine wpAny_While (codeAny_mono (H.whl O g h) λr rs' z=>?_)
 obtain ⟨f,rfl,z⟩:=z
 exact z
end Mine
end
section
namespace Mine
variable {G:Gl} {B:Bs} {Γ:Tab} {ν:Vn} {ρ:List (Addr × Obj)} {s:St} {rs:Shared} {d:Nat}
theorem Zp8 {ih:Ih} (H:IhOk G Γ ν ih) (O:Ok G B d) {t:PySem.Expr} {b:List Stmt} {P:Fl->St->Prop} (g:Gd G B Γ ν ρ s rs)
 (h:(ZhW ih d B.sc t b s).All ν P):codeAny G.M B.A (.whileLoop t b [] B.env) (RW G B Γ ν ρ P) rs:=by
 unfold ZhW at h
 rw [all_bind] at h
 refine codeAny_of_tree ?_
 show wpAny _ B.A ((whileTurn t b [] B.env).onRaise (λx=>do noteFrame x B.env;theTreesLotGoes x)) _ _ rs
 refine wpAny_noted ?_
 simp only [whileTurn]
 refine wpAny_bind (wpAny_mono (H.tst O g h) (λc rs1 z=>?_) λ_ _ e=>e.elim)
 obtain ⟨ρ1,s1,hp,h1,g1⟩:=z
 cases c with
 | false=>
  simp only [Bool.false_eq_true,if_false]
  exact wpAny_bind (wpAny_execs_nil (wpAny_pure ⟨.next,rfl,ρ1,.next,s1,hp,h1,.next,g1⟩))
 | true=>
  simp only [if_true]
  rw [cond_true,all_bind] at h1
  refine wpAny_bind (wpAny_mono (H.blk O g1 h1) (λf rs2 z=>?_) λ_ _ e=>e.elim)
  obtain ⟨ρ2,fl,s2,hp2,h2,hf,g2⟩:=z
  have wide:∀ {r:Result} {rs:Shared},RW G B Γ ν ρ2 P r rs->RW G B Γ ν ρ P r rs:=λ⟨f,e,z⟩=>⟨f,e,(z.wide hp2).wide hp⟩
  cases hf with
  | next=>exact wpAny_pure ⟨rfl,codeAny_mono (H.whl O g2 h2) λ_ _ z=>wide z⟩
  | cont=>exact wpAny_pure ⟨rfl,codeAny_mono (H.whl O g2 h2) λ_ _ z=>wide z⟩
  | brk=>exact wpAny_pure ⟨.next,rfl,ρ2,.next,s2,hp.trans hp2,h2,.next,g2⟩
  | ret hv=>exact wpAny_pure ⟨_,rfl,ρ2,_,s2,hp.trans hp2,h2,.ret hv,g2⟩
theorem Zft (still:St->Bool) (bnd:MV->St->Res Unit) (blk:St->Res Fl) (v:MV) (l:List MV) (s:St):
 ZiS still bnd blk (v::l) s=bif still s then (bnd v s).bind λ_ s=>(blk s).bind λf s=>Zhz f (ZiS still bnd blk l) s else .stuck "for":=rfl
theorem ZgF (still:St->Bool) (bnd:MV->St->Res Unit) (blk:St->Res Fl) (s:St):ZiS still bnd blk [] s=bif still s then .ret .next s else .stuck "for":=rfl
theorem ZeA {ih:Ih} (H:IhOk G Γ ν ih) (O:Ok G B d) {t:PySem.Expr} {b:List Stmt} {P:Fl->St->Prop} (g:Gd G B Γ ν ρ s rs) {items:List MV} {still:St->Bool} {oI:Obj} {fp:List Addr} {j0:Nat} {Pv:Nat->Value->Prop} {St':Nat->Heap->Prop}
 (h:(ZiS still (ZjA Γ B.sc t) (ih.blk d B.sc b) items s).All ν P)
 (hfree:oI.isFreed=false)
 (W:Walks G.prog G.w B.A rs.heap.objs.size fp [rs.heap.objs.size] items.length Pv St') (hst:St' 0 (rs.heap.push oI)) (hIo:∀ i h,St' i h->∃ o,h.get? rs.heap.objs.size=some o∧∀ w,o.data ≠ .cell w)
 (hgo:∀ i (s':Shared) v (Q':Unit->Shared->Prop),St' i s'.heap->Q' () s'->wpAny G.M B.A (letOwnedTupleGo t (.ref rs.heap.objs.size) v) Q' NoE s')
 (hfp:∀ b ∈ fp,b=rs.heap.objs.size∨∃ (ts:List SV) (ao:Obj),(semH Γ ν s)[j0]? = some (.tuple ts)∧ρ[j0]? = some (b,ao))
 (hstill:∀ t:St,still t=true->(∃ ts,(semH Γ ν s)[j0]? = some (.tuple ts))->∃ ts,(semH Γ ν t)[j0]? = some (.tuple ts))
 (hit:∀ i v,i<items.length->Pv i v->∃ w,items[i]? = some w∧V ρ (w.sem ν) v):
 codeAny G.M B.A (.forLoop t (.ref rs.heap.objs.size) b [] B.env) (RW G B Γ ν ρ P) { rs with heap:=rs.heap.push oI }:=by
 refine ZhA (it:=λi=>(items.getD i .none).sem ν) (R:=RW G B Γ ν ρ P)
  (J:=λi c0 ρ' σ' ls'=>c0=[]∧ρ <+: ρ'∧∃ t':St,FxOk ν t'.facts∧σ'=semH Γ ν t'∧ls'=semL ν t'.ls∧(ZiS still (ZjA Γ B.sc t) (ih.blk d B.sc b) (items.drop i) t').All ν P)
  (KB:=λc0 ρ' σ' ls'=>c0=[]∧ρ <+: ρ'∧∃ t':St,FxOk ν t'.facts∧σ'=semH Γ ν t'∧ls'=semL ν t'.ls∧P .next t')
  (KR:=λv c0 ρ' σ' ls'=>c0=[]∧ρ <+: ρ'∧∃ (t':St) (w:MV),FxOk ν t'.facts∧σ'=semH Γ ν t'∧ls'=semL ν t'.ls∧V ρ' (w.sem ν) v∧P (.ret w) t')
  O g.hs hfree W hst hIo hgo (λb hb=>?_) (λi v hi hp c0 ρ' σ' ls' hJ=>?_) ⟨rfl,List.prefix_refl _,s,g.fx,rfl,rfl,by simpa using h⟩ ?_ ?_ ?_
 ·rcases hfp b hb with h1 | ⟨ts,ao,h1,h2⟩
  ·exact .inl h1
  ·refine .inr ⟨ao,λI oI i c0 ρ' σ' ls' rs' hJ hs=>?_⟩
   refine e0_3 hJ λwq wqb wqc=>?_;clear hJ;subst wq;obtain ⟨l,el⟩:=wqb;obtain ⟨t',_,rfl,_,hA⟩:=wqc
   have still':still t'=true:=by
    cases q:items.drop i with
    | nil=>
     rw [q,ZgF] at hA
     cases z:still t' with
     | true=>rfl
     | false=>rw [z] at hA;exact hA.elim
    | cons v l=>
     rw [q,Zft] at hA
     cases z:still t' with
     | true=>rfl
     | false=>rw [z] at hA;exact hA.elim
   refine e1_1 (hstill t' still' ⟨ts,h1⟩) λts' e'=>?_
   have hb':ρ'[j0]? = some (b,ao):=by
    rw [←el,List.getElem?_append_left (List.getElem?_eq_some_iff.mp h2).1];exact h2
   obtain ⟨m,led,F,N,R,Lc⟩:=hs.ex
   refine e2_3 (R.obj j0 _ e') λp1 es1 q1 q2 o1=>?_
   rw [hb'] at q1;have wq:=Option.some.inj q1;clear q1;subst wq
   refine e2_4 (o1.tuple_inv) λ_ _ wq wq y z=>?_;clear o1;subst wq wq
   have hm:=List.mem_flatten.mpr ⟨_,List.mem_of_getElem? q2,.head _⟩
   refine i0_2 ((N _ (List.mem_append_right _ hm)).1) (λe=>?_)
   have nd:(((I,oI)::(B.cs++led.flatten)).map (·.1)).Nodup:=R.nd
   rw [List.map_cons,List.nodup_cons] at nd
   exact nd.1 (List.mem_map.mpr ⟨_,List.mem_append_right _ hm,e⟩)
 ·refine e1_2 (hit i v hi hp) λw e hv=>?_
  have:items.getD i .none=w:=by rw [List.getD_eq_getElem?_getD,e];rfl
  rw [this];exact hv.mono hJ.2.1
 ·intro I oI i v c0 ρ' σ' ls' rs' hi hJ hv O' hs'
  refine byP λXX kX=>?_
  refine e0_3 hJ λwq hp wqb=>?_;clear hJ;subst wq;obtain ⟨t',hfx,rfl,rfl,hA⟩:=wqb
  refine kX ?_
  rw [List.drop_eq_getElem_cons hi,Zft] at hA
  have hget:items.getD i .none=items[i]:=by rw [List.getD_eq_getElem?_getD,List.getElem?_eq_getElem hi];rfl
  have hv:V ρ' ((items.getD i .none).sem ν) v:=hv
  rw [hget] at hv
  cases z:still t' with
  | false=>rw [z] at hA;exact hA.elim
  | true=>
   rw [z,cond_true,all_bind] at hA
   have g':Gd G (B.iter I oI) Γ ν ρ' t' rs':=⟨hfx,hs'⟩
   refine wpAny_mono (Zlg (B:=B.iter I oI) O' hA g' hv) (λ_ rs2 y=>?_) λ_ _ e=>e
   obtain ⟨ρ2,s2,hp2,h2,g2⟩:=y
   rw [all_bind] at h2
   refine wpAny_mono (H.blk (B:=B.iter I oI) O' g2 h2) (λf rs3 y=>?_) λ_ _ e=>e
   obtain ⟨ρ3,fl,s3,hp3,h3,hf,g3⟩:=y
   have hpp:=hp.trans (hp2.trans hp3)
   refine i4_2 ([]) (ρ3) _ _ (g3.hs) ?_
   cases hf with
   | next=>exact i0_3 rfl hpp (⟨s3,g3.fx,rfl,rfl,h3⟩)
   | cont=>exact i0_3 rfl hpp (⟨s3,g3.fx,rfl,rfl,h3⟩)
   | brk=>exact i0_3 rfl hpp (⟨s3,g3.fx,rfl,rfl,h3⟩)
   | ret hw=>exact i0_3 rfl hpp (⟨s3,_,g3.fx,rfl,rfl,hw,h3⟩)
 ·intro c0 ρ' σ' ls' rs' hs' hJ
  rcases hJ with ⟨rfl,hp,t',hfx,rfl,rfl,hA⟩ | ⟨rfl,hp,t',hfx,rfl,rfl,hP⟩
  ·rw [List.drop_length,ZgF] at hA
   cases z:still t' with
   | false=>rw [z] at hA;exact hA.elim
   | true=>rw [z] at hA;exact i1_2 .next rfl (⟨ρ',.next,t',hp,hA,.next,hfx,hs'⟩)
  ·exact i1_2 .next rfl (⟨ρ',.next,t',hp,hP,.next,hfx,hs'⟩)
 ·intro v c0 ρ' σ' ls' rs' hs' hK
  refine e0_3 hK λwq hp wqb=>?_;clear hK;subst wq;obtain ⟨t',w,hfx,rfl,rfl,hv,hP⟩:=wqb
  exact i1_2 _ rfl (⟨ρ',_,t',hp,hP,.ret hv,hfx,hs'⟩)
end Mine
end
section
namespace Mine
variable {G:Gl} {B:Bs} {Γ:Tab} {ν:Vn} {ρ:List (Addr × Obj)} {s:St} {rs:Shared} {d:Nat}
theorem ZcY {a b:Int} (ha:a.natAbs≤1000) (hb:b.natAbs≤1000):Builtin.Range.small a b 1=true:=by
 have fits:∀ i:Int,i.natAbs≤5000->Builtin.Range.rangeFitsLong i=true:=λi hi=>by
  unfold Builtin.Range.rangeFitsLong
  simp only [Bool.and_eq_true,decide_eq_true_eq];omega
 unfold Builtin.Range.small
 simp only [Bool.and_eq_true,Bool.or_eq_true,show (1:Int) > 0 by decide,if_true]
 refine i0_2 (⟨⟨⟨fits _ (by omega),fits _ (by omega)⟩,fits _ (by decide)⟩,fits _ ?_⟩) (.inr (fits _ (by omega)))
 unfold Builtin.Range.rangeSize
 simp only [show (1:Int) > 0 by decide,if_true,Int.ediv_one]
 split<;>omega
theorem ZdQ (a b:Int):Builtin.Range.rangeSize a b 1=(((b-a).toNat:Nat):Int):=by
 unfold Builtin.Range.rangeSize
 simp only [show (1:Int) > 0 by decide,if_true,Int.ediv_one]
 split<;>omega
theorem ZdT:∀ (n:Nat) (a:Int),(Ze3 a n).length=n
 | 0,_=>rfl
 | n+1,a=>by simp [Ze3,ZdT n]
theorem ZfM:∀ (n:Nat) (a:Int) (i:Nat),i<n->(Ze3 a n)[i]? = some (.int (.k (a+i)))
 | 0,_,_,h=>by omega
 | n+1,a,0,_=>by simp [Ze3]
 | n+1,a,i+1,h=>by
  dsimp only [Ze3,List.getElem?_cons_succ]
  rw [ZfM n (a+1) i (by omega)]
  congr 3
  push_cast;omega
theorem Zcg {E:Value->Shared->Prop} {M:Model} {A:Around} {target:PySem.Expr} {I:Addr} {o:Obj} {T:String} {vs:Array Value} {v:Value} {Q':Unit->Shared->Prop} {s':Shared} (ho:s'.heap.get? I=some o) (hc:o.cls = .type T) (hd:o.data = .fields vs)
 (hT:(["enumerate","zip","dict_itemiterator","dict_reverseitemiterator","odict_iterator","itertools.zip_longest","itertools.pairwise"].contains T)=false) (h:Q' () s'):
 wpAny M A (letOwnedTupleGo target (.ref I) v) Q' E s':=by
 unfold letOwnedTupleGo
 cases target<;>first
  | exact wpAny_pure h
  | (cases v<;>first
   | exact wpAny_pure h
   | (refine wpAny_bind (wpAny_load ho ?_)
      rw [hc,hd]
      simp only [hT,Bool.false_and,Bool.false_eq_true,if_false]
      exact wpAny_pure h))
theorem Zpq {ih:Ih} (H:IhOk G Γ ν ih) (O:Ok G B d) {t it:PySem.Expr} {b:List Stmt} {pos:Pos} {P:Fl->St->Prop} (g:Gd G B Γ ν ρ s rs) (hp:Zae it=true)
 (h:(Zow Γ ih d B.sc t it b s).All ν P):wpAny G.M B.A (exec (.For t it b [] pos) B.env) (RF G B Γ ν ρ P) NoE rs:=by
 unfold Zow at h
 rw [all_bind] at h
 have hfold:∀ z,foldedSetIterable it B.env z=pure z:=by
  intro z;cases it<;>first | rfl | exact nB hp
 refine wpAny_For (wpAny_mono (H.ev O g h) (λxv rs1 y=>?_) λ_ _ e=>e) hfold
 obtain ⟨ρ1,v,s1,hp1,h1,hv,g1⟩:=y
 have done:∀ {r:Result} {rs':Shared},RW G B Γ ν ρ1 P r rs'->(match r with | .ok f=>RF G B Γ ν ρ P f rs' | .error e=>cameBackBy G.M B.A B.env NoE e rs'):=by
  intro r rs' wq;refine e1_2 wq λf wqb z=>?_;clear wq;subst wqb
  exact z.wide hp1
 unfold Zm0 at h1
 revert v;show Fa _ _;refine MV.on_str_ref zF0 zF1 zF1 zF1 zF1 zF1 zF1 (λy h1=>?_) (λn h1=>?_)<;>intro hv
 ·refine byP λXX kX=>?_
  refine e1_1 (vstr hv) λtk wq=>?_;subst wq
  refine kX ?_
  dsimp only at h1
  generalize ha:Zap y=wo at h1
  revert ha;revert wo;show Fa _ _;refine Boo.on_true zF0 (λh1=>?_);intro ha
  rw [cond_true] at h1
  refine wpAny_pyIter_ascii (Zb6 ha) ?_
  have hsz:(Zaa y).cps.size=y.length:=by simp [Zaa]
  have hW:=Walks.strAscii (prog:=G.prog) (w:=G.w) (A:=B.A) O.hand rs1.heap.objs.size (Zaa y) tk
  rw [hsz] at hW
  refine codeAny_mono (ZeA (j0:=(semH Γ ν s1).length) H O g1 (items:=Zby (.str y)) (still:=ZeZ Γ (.str y)) (St':=λi h=>h.IsStrIter rs1.heap.objs.size "str_ascii_iterator" (Zaa y) tk i) (Pv:=SignAt (Zaa y)) (fp:=[rs1.heap.objs.size]) h1 rfl
   (by simpa [Zby] using hW) ⟨_,Heap.get?_push_size _ rfl,rfl,rfl⟩ (λi h st=>?_) (λi s' v Q' st hq=>?_) (λb hb=>.inl (by simpa using hb)) (λt _ hs=>?_) (λi v hi hP=>?_)) λ_ _ z=>done z
  ·refine e1_3 st λo e _ hd=>?_;clear st;exact i1_2 o e (λw q=>by rw [hd] at q;cases q)
  ·refine e1_3 st λo e hc hd=>?_;clear st;exact Zcg e hc hd (by decide) hq
  ·refine e1_1 hs λts e=>?_;clear hs;rw [List.getElem?_eq_none (Nat.le_refl _)] at e;exact nN e
  ·refine e2_2 hP λc u hc wq=>?_;clear hP;subst wq
   refine i1_2 (.str [c]) ?_ (.str _ _)
   have:y[i]? = some c:=by simpa [Zaa] using hc
   simp [Zby,this]
 ·refine e2_2 (vref hv) λa ao wq ha'=>?_;subst wq
  dsimp only at h1
  generalize hc:cell Γ s1 n=wo at h1
  revert hc;revert wo;show Fa _ _;refine Opt.on_some zF0 (λob h1=>?_);intro hc
  revert ob;show Fa _ _;refine MO.on_tuple_range zF2 zF1 zF1 zF1 zF1 (λ_ h1=>?_) (λ_ _ h1=>?_)<;>intro hc
  ·rename_i xs
   dsimp only at h1
   generalize hx:Zd9 xs=wo at h1
   revert hx;revert wo;show Fa _ _;refine Opt.on_some zF0 (λl h1=>?_);intro hx
   dsimp only at h1
   have e:=Zgn hx
   subst e
   refine e2_3 (g1.hs.tuple (xs:=rowS ν (l.map ME.v)) (Zac (ν:=ν) hc) ha') λus i e1 hu hz=>?_
   rw [Zd4] at hu
   have hlen:=hu.length
   refine wpAny_pyIter_tuple (Zam e1) ?_
   have hne:a ≠ rs1.heap.objs.size:=Nat.ne_of_lt (Heap.lt_size e1)
   have hW:=Walks.tuple (prog:=G.prog) (w:=G.w) (A:=B.A) O.hand rs1.heap.objs.size a hne us.toArray
   have hsz:us.toArray.size=l.length:=by rw [List.size_toArray,hlen,List.length_map]
   rw [hsz] at hW
   have hcell:=Zac (ν:=ν) hc
   refine codeAny_mono (ZeA (j0:=n) H O g1 (items:=Zby (.tup n l)) (still:=ZeZ Γ (.tup n l)) (St':=λi h=>h.IsTupleIter rs1.heap.objs.size a i∧h.IsTuple a us.toArray) (Pv:=λi v=>us.toArray[i]? = some v) (fp:=[rs1.heap.objs.size,a]) h1 rfl
    (by simpa [Zby] using hW) ⟨⟨_,Heap.get?_push_size _ rfl,rfl,rfl⟩,⟨_,Heap.get?_push_of_some _ e1,rfl,_,rfl⟩⟩ (λi h st=>?_) (λi s' v Q' st hq=>?_) (λb hb=>?_) (λt ht hs=>?_) (λi v hi hP=>?_)) λ_ _ z=>done z
   ·refine e1_3 (st.1) λo e _ hd=>?_;exact i1_2 o e (λw q=>by rw [hd] at q;cases q)
   ·refine e1_3 (st.1) λo e hc hd=>?_;exact Zcg e hc hd (by decide) hq
   ·simp only [List.mem_cons,List.not_mem_nil,or_false] at hb
    rcases hb with rfl | rfl
    ·exact .inl rfl
    ·exact .inr ⟨_,ao,hcell,ha'⟩
   ·unfold ZeZ at ht
    dsimp only at ht
    generalize q:cell Γ t n=wo at ht
    revert q;revert wo;show Fa _ _;refine Opt.on_some zB0 (λob ht=>?_);intro q
    cases ob<;>(try cases ht)
    exact i1_1 _ (Zac (ν:=ν) q)
   ·have hi':i<l.length:=by simpa [Zby] using hi
    have:(l.map (MV.sem ν))[i]? = some ((l[i]).sem ν):=by rw [List.getElem?_map,List.getElem?_eq_getElem hi'];rfl
    refine e1_2 (hu.get this) λrv q1 q2=>?_
    have hP':us[i]? = some v:=by simpa using hP
    rw [hP'] at q1;have wq:=Option.some.inj q1;clear q1;subst wq
    exact i1_2 _ (List.getElem?_eq_getElem hi') q2
  ·rename_i p q
   dsimp only at h1
   generalize hq:(Nat.ble p.natAbs 1000&&Nat.ble q.natAbs 1000)=wo at h1
   revert hq;revert wo;show Fa _ _;refine Boo.on_true zF0 (λh1=>?_);intro hq
   rw [cond_true] at h1
   dsimp only at h1
   rw [Bool.and_eq_true] at hq
   have hsm:=ZcY (Nat.le_of_ble_eq_true hq.1) (Nat.le_of_ble_eq_true hq.2)
   refine byP λXX kX=>?_
   obtain ⟨m,led,F,N,R,Lc⟩:=g1.hs.ex
   refine e2_3 (R.obj n _ (Zac (ν:=ν) hc)) λp0 es f1 f2 o=>?_
   refine kX ?_
   rw [ha'] at f1
   have wq:=Option.some.inj f1;clear f1;subst wq
   refine e3_2 o.range_inv λt1 u1 v1 wq wq=>?_;clear o;subst wq wq
   have hr:IsRange rs1.heap a p q 1 t1 u1 v1:=(N _ (R.mem f2 (.head _))).1
   refine wpAny_pyIter_range hr hsm ?_
   have hW:=Walks.range (prog:=G.prog) (w:=G.w) (A:=B.A) O.hand rs1.heap.objs.size p 1 (q-p).toNat
   refine codeAny_mono (ZeA (j0:=(semH Γ ν s1).length) H O g1 (items:=Zby (.rng p q)) (still:=ZeZ Γ (.rng p q)) (St':=λi h=>IsRangeIter h rs1.heap.objs.size (p+(i:Nat) * 1) ((((q-p).toNat:Nat):Int)-(i:Nat)) 1) (Pv:=λi v=>∃ t,v = .int (p+i * 1) t) (fp:=[rs1.heap.objs.size]) h1 rfl
    (by simpa [Zby,ZdT] using hW) (by rw [ZdQ];simpa using Heap.get?_push_size _ rfl) (λi h st=>⟨_,st,λw q=>by cases q⟩) (λi s' v Q' st hq=>Zcg st rfl rfl (by decide) hq) (λb hb=>.inl (by simpa using hb)) (λt _ hs=>?_) (λi v hi hP=>?_)) λ_ _ z=>done z
   ·refine e1_1 hs λts e=>?_;clear hs;rw [List.getElem?_eq_none (Nat.le_refl _)] at e;exact nN e
   ·refine e1_1 hP λtk wq=>?_;clear hP;subst wq
    have hi':i<(q-p).toNat:=by simpa [Zby,ZdT] using hi
    refine i1_2 _ (ZfM _ _ _ hi') ?_
    rw [Int.mul_one]
    simp only [MV.sem,ev_k]
    exact .int _ _
end Mine
end
section
namespace Mine
variable {G:Gl} {B:Bs} {Γ:Tab} {ν:Vn} {ρ:List (Addr × Obj)} {s:St} {rs:Shared} {d:Nat}
theorem RC.toRV {P:MV->St->Prop} {rv:Value} (x:RC G B Γ ν ρ (λb s=>P (.bool b) s) rv rs):RV G B Γ ν ρ P rv rs:=by
 refine e1_2 x λb wq wqb=>?_;clear x;subst wq;obtain ⟨ρ',s',a,c,e⟩:=wqb
 exact ⟨ρ',.bool b,s',a,c,.bool b,e⟩
theorem ZjS {ih:Ih} (ho:ZdE Γ ν) (H:IhOk G Γ ν ih) (T:TOk G Γ) (hν:ν.ok) (O:Ok G B d) {e:PySem.Expr} {P:MV->St->Prop} (g:Gd G B Γ ν ρ s rs)
 (h:(ZgC Γ ih d B.sc e s).All ν P):wpAny G.M B.A (eval e B.env) (RV G B Γ ν ρ P) NoE rs:=by
 cases e with
 | Name x p=>exact ZdO O T g h
 | Constant c k p=>exact Zll g h
 | Attribute v x p=>
  (unfold ZgC at h;try dsimp only at h)
  generalize q:ZbK v=wo at h
  cases wo with
  | false=>exact h.elim
  | true=>exact Znw H O g q h
 | BinOp l op r p=>exact Zlu ho H O hν g h
 | UnaryOp op x p=>exact ZnZ H O g h
 | BoolOp op vs p=>exact Zlj H O g h
 | IfExp t a b p=>exact ZnV H O g h
 | Compare l ops rs' p=>
  (unfold ZgC at h;try dsimp only at h);rw [all_bind] at h
  exact wpAny_mono (Zlv H O T hν g h) (λ_ _ z=>z.toRV) λ_ _ e=>e
 | Tuple es k p=>exact ZpZ H O hν g h
 | List es p=>exact Zpz H O hν g h
 | Subscript v i p=>exact ZkV H O hν g h
 | Call f es kw p=>
  (unfold ZgC at h;try dsimp only at h)
  cases kw with
  | nil=>exact ZjM H O T hν g h
  | cons _ _=>exact h.elim
 | Dict ks vs p=>exact ZnL H O g h
 | ListComp elt gs sc2 p=>exact ZnI H O hν g h
 | _=>exact h.elim
theorem ZmH {ih:Ih} (H:IhOk G Γ ν ih) (O:Ok G B d) {e:PySem.Expr} {P:Bool->St->Prop} (g:Gd G B Γ ν ρ s rs)
 (h:((ih.ev d B.sc e s).bind λv s=>Zcz v s).All ν P) (he:isTrue e B.env (eval e B.env)=(do let v ←eval e B.env;standAt e.pos;holding [v] (truthy v))):wpAny G.M B.A (isTrue e B.env (eval e B.env)) (RB G B Γ ν ρ P) NoE rs:=by
 rw [all_bind] at h
 refine isTrue_plain (wpAny_mono (H.ev O g h) (λrv rs1 y=>?_) λ_ _ e=>e) he
 obtain ⟨ρ1,v,s1,hp1,h1,hv,g1⟩:=y
 exact wpAny_mono (ZdD h1 g1 hv) (λ_ _ z=>z.wide hp1) λ_ _ e=>e
theorem Zel {ih:Ih} (H:IhOk G Γ ν ih) (O:Ok G B d) {op:BoolOp}:∀ {vs:List PySem.Expr} {ρ:List (Addr × Obj)} {s:St} {rs:Shared} {P:Bool->St->Prop},Gd G B Γ ν ρ s rs->(Zgs (ih.tst d B.sc) op vs s).All ν P->wpAny G.M B.A (allTrue op vs B.env) (RB G B Γ ν ρ P) NoE rs
 | [],ρ,s,rs,P,g,h=>by
  cases op with
  | And=>exact wpAny_allTrue_And_nil (RB.here h g)
  | Or=>exact wpAny_allTrue_Or_nil (RB.here h g)
 | e::r,ρ,s,rs,P,g,h=>by
  simp only [Zgs,all_bind] at h
  cases op with
  | And=>
   refine wpAny_allTrue_And_cons (wpAny_mono (H.tst O g h) (λb rs1 z=>?_) λ_ _ e=>e)
   obtain ⟨ρ1,s1,hp,h1,g1⟩:=z
   cases b with
   | true=>exact wpAny_mono (Zel H O g1 h1) (λ_ _ z=>z.wide hp) λ_ _ e=>e
   | false=>exact ⟨ρ1,s1,hp,h1,g1⟩
  | Or=>
   refine wpAny_allTrue_Or_cons (wpAny_mono (H.tst O g h) (λb rs1 z=>?_) λ_ _ e=>e)
   obtain ⟨ρ1,s1,hp,h1,g1⟩:=z
   cases b with
   | true=>exact ⟨ρ1,s1,hp,h1,g1⟩
   | false=>exact wpAny_mono (Zel H O g1 h1) (λ_ _ z=>z.wide hp) λ_ _ e=>e
theorem Zjm {ih:Ih} (H:IhOk G Γ ν ih) (T:TOk G Γ) (hν:ν.ok) (O:Ok G B d) {e:PySem.Expr} {P:Bool->St->Prop} (g:Gd G B Γ ν ρ s rs)
 (h:(ZhT Γ ih d B.sc e s).All ν P):wpAny G.M B.A (isTrue e B.env (eval e B.env)) (RB G B Γ ν ρ P) NoE rs:=by
 cases e with
 | Compare l ops rs' p=>exact ZkZ H O T hν g h
 | BoolOp op vs p=>exact wpAny_isTrue_BoolOp (Zel H O g h)
 | UnaryOp op x p=>
  (unfold ZhT at h;try dsimp only at h)
  cases op<;>(try exact h.elim)
  simp only [notR,all_bind] at h
  refine isTrue_not (wpAny_mono (H.tst O g h) (λb rs1 z=>?_) λ_ _ e=>e)
  obtain ⟨ρ1,s1,hp,h1,g1⟩:=z
  exact ⟨ρ1,s1,hp,h1,g1⟩
 | IfExp t a b p=>exact h.elim
 | _=>exact ZmH H O g h rfl
theorem ZpT {ih:Ih} (H:IhOk G Γ ν ih) (T:TOk G Γ) (hν:ν.ok) (O:Ok G B d) {st:Stmt} {P:Fl->St->Prop} (g:Gd G B Γ ν ρ s rs)
 (h:(Zcn Γ ih d B.sc st s).All ν P):wpAny G.M B.A (exec st B.env) (RF G B Γ ν ρ P) NoE rs:=by
 cases st with
 | Return e p=>exact ZpR H O g h
 | Expr e p=>
  (unfold Zcn at h;try dsimp only at h)
  generalize q:ZaQ e=wo at h
  cases wo with
  | false=>exact h.elim
  | true=>exact Zn0 H O g q h
 | Pass p=>exact wpAny_Pass ⟨ρ,.next,s,List.prefix_refl _,h,.next,g⟩
 | Break p=>exact wpAny_Break ⟨ρ,.brk,s,List.prefix_refl _,h,.brk,g⟩
 | If t a b p=>exact Zqf H O g h
 | While t b o p=>
  (unfold Zcn at h;try dsimp only at h)
  cases o with
  | nil=>exact ZmP H O g h
  | cons _ _=>exact h.elim
 | For t it b o p=>
  (unfold Zcn at h;try dsimp only at h)
  cases o with
  | nil=>
   generalize q:Zae it=wo at h
   cases wo with
   | false=>exact h.elim
   | true=>exact Zpq H O g q h
  | cons _ _=>exact h.elim
 | Assign ts e p=>
  (unfold Zcn at h;try dsimp only at h)
  cases ts with
  | nil=>exact h.elim
  | cons t r=>
   cases r with
   | cons _ _=>exact h.elim
   | nil=>
    simp only at h
    generalize q:ZaQ e=wo at h
    cases wo with
    | false=>exact h.elim
    | true=>exact Zjx H O T hν g q h
 | _=>exact h.elim
theorem ZiK (f:Stmt->St->Res Fl) (a:Stmt) (l:List Stmt) (s:St):Zli f (a::l) s=(f a s).bind λfl s=>bif ZgI fl then Zli f l s else .ret fl s:=rfl
theorem ZmR {ih:Ih} (H:IhOk G Γ ν ih) (T:TOk G Γ) (hν:ν.ok) (O:Ok G B d):∀ {b:List Stmt} {ρ:List (Addr × Obj)} {s:St} {rs:Shared} {P:Fl->St->Prop},Gd G B Γ ν ρ s rs->(Zli (Zcn Γ ih d B.sc) b s).All ν P->wpAny G.M B.A (execs b B.env) (RF G B Γ ν ρ P) NoE rs
 | [],ρ,s,rs,P,g,h=>wpAny_execs_nil ⟨ρ,.next,s,List.prefix_refl _,h,.next,g⟩
 | st::r,ρ,s,rs,P,g,h=>by
  rw [ZiK,all_bind] at h
  refine wpAny_execs_cons (wpAny_mono (ZpT H T hν O g h) (λf rs1 z=>?_) λ_ _ e=>e)
  obtain ⟨ρ1,fl,s1,hp,h1,hf,g1⟩:=z
  cases hf with
  | next=>exact wpAny_mono (ZmR H T hν O g1 h1) (λ_ _ z=>z.wide hp) λ_ _ e=>e
  | brk=>exact ⟨ρ1,.brk,s1,hp,h1,.brk,g1⟩
  | cont=>exact ⟨ρ1,.cont,s1,hp,h1,.cont,g1⟩
  | ret hv=>exact ⟨ρ1,_,s1,hp,h1,.ret hv,g1⟩
theorem Zox {ih:Ih} (H:IhOk G Γ ν ih) (T:TOk G Γ) (S:SumOk G Γ ν) (hν:ν.ok):IhOk G Γ ν (ZmY Γ ih) where
 ev O g h:=ZjS S.ops H T hν O g h
 tst O g h:=Zjm H T hν O g h
 blk O g h:=ZmR H T hν O g h
 call O g hv h:=Zhr H T S hν O g hv h
 callR O g hv h:=ZdU H T S O g hv h
 callG h:=ZfP T S h
 whl O g h:=Zp8 H O g h
theorem Zbw (T:TOk G Γ) (S:SumOk G Γ ν) (hν:ν.ok):∀ n,IhOk G Γ ν (run Γ n)
 | 0=>⟨λ_ _ h=>h.elim,λ_ _ h=>h.elim,λ_ _ h=>h.elim,λ_ _ _ h=>h.elim,λ_ _ _ h=>h.elim,λh=>h.elim,λ_ _ h=>h.elim⟩
 | n+1=>Zox (Zbw T S hν n) T S hν
end Mine
end
section
namespace Mine
noncomputable section
noncomputable def kE (P:Params) (x:Str) (t:Nat) (v:Value):DictEntry:=⟨PyData.keyHash P x,.str x t,v⟩
noncomputable def top (i:Nat):Stmt:=(nth PySem.Challenge.pw_np0083_01.main.body i).getD default
noncomputable def meth (i j:Nat):Stmt:=match top i with | .ClassDef _ _ _ b _ _ _ _ _ _ _=>(nth b j).getD default | _=>default
noncomputable def stA (s:Stmt):Arguments:=match s with | .FunctionDef _ a _ _ _ _ _ _ _ _=>a | _=>default
noncomputable def stB (s:Stmt):List Stmt:=match s with | .FunctionDef _ _ b _ _ _ _ _ _ _=>b | _=>default
noncomputable def stS (s:Stmt):Scope:=match s with | .FunctionDef _ _ _ _ _ _ c _ _ _=>c | _=>default
noncomputable def fnF (name qual:Str) (st:Stmt) (dV kV doc pm:Value) (an:Option Addr) (cdv ct:Value):FuncData:=fnOf name qual (stA st) (stB st) (stS st) dV kV doc pm an cdv ct
noncomputable def kAs:List Addr:=[3,29,30,36,37,64,65,67,68,78,79,112,113,119,120,126,127,133,134,140,141,143,144,152,153,157,158,166,172,173,186,187,200,201,207,208,224,225,235,236,242,243,249,250,263,264,266,267,277,278,284,285,291,292,298,299,305,306,319,320,326,327,333,334,340,341,347,348,354,355,361,362,368,369,375,376,382,383,389,390,396,397,403,404,410,411,417,418,424,425,431,432,438,439,441,442,454,460,461,469,475,476,496,497,499,500,508,509,515,516,520,521,527,528,534,535,541,542,543,549,550,554,555]
noncomputable def KF (P:Params):Frag:=[
 (3,⟨(.type "dict"),none,(.dict #[kE P "__name__" 165 (.str "law_np0083_01" 915),kE P "__doc__" 166 .none,kE P "__package__" 167 .none,kE P "__loader__" 168 (.builtin "__main__.__loader__#opaque"),kE P "__spec__" 169 .none,kE P "__annotations__" 170 (.ref 6),kE P "__builtins__" 171 (.ref 4),kE P "__file__" 173 (.str "/claim/cut.py" 172),kE P "__cached__" 174 .none,kE P "_wall" 193 (.ref 21),kE P "ParseState" 280 (.ref 68),kE P "state_of" 299 (.ref 79),kE P "LispSignal" 332 (.ref 96),kE P "WHITESPACE" 336 (.str " " 335),kE P "WORD" 338 (.str "w" 337),kE P "SYMBOL" 340 (.str "_" 339),kE P "PUNCTUATION" 342 (.str "." 341),kE P "OPENS" 344 (.str "(" 343),kE P "CLOSES" 346 (.str ")" 345),kE P "PREFIX" 348 (.str "'" 347),kE P "STRING" 350 (.str "\"" 349),kE P "ESCAPE" 352 (.str "\\" 351),kE P "QUOTES" 354 (.str "/" 353),kE P "BEGINS" 356 (.str "<" 355),kE P "ENDS" 358 (.str ">" 357),kE P "INHERITS" 360 (.str "@" 359),kE P "COMMENT_FENCE" 362 (.str "!" 361),kE P "STRING_FENCE" 364 (.str "|" 363),kE P "KINDS" 366 (.str " w_.()'\"\\/$<>@!|" 365),kE P "FLAGS" 368 (.str "1234bcnp" 367),kE P "Syntax" 430 (.ref 144),kE P "sorted_flags" 436 (.ref 153),kE P "read_syntax" 442 (.ref 158),kE P "SyntaxTable" 536 (.ref 225),kE P "letters" 542 (.ref 236),kE P "standard_table" 551 (.ref 243),kE P "slash_table" 558 (.ref 250),kE P "Mark" 595 (.ref 267),kE P "syntax_at" 605 (.ref 278),kE P "pair_style" 614 (.ref 285),kE P "begin_mark" 625 (.ref 292),kE P "end_mark" 636 (.ref 299),kE P "fits" 646 (.ref 306),kE P "Walk" 833 (.ref 442),kE P "begins_expression" 841 (.ref 453),kE P "parse_partial" 858 (.ref 461),kE P "TextRow" 914 (.ref 500),kE P "_law_deck" 922 (.ref 509),kE P "_law_draw" 932 (.ref 516),kE P "_law_many" 938 (.ref 521),kE P "_law_piece" 951 (.ref 528),kE P "_law_plain" 958 (.ref 535),kE P "_law_within" 973 (.ref 542),kE P "_law_wordlike" 976 (.ref 543),kE P "_law_states" 994 (.ref 550),kE P "law" 1000 (.ref 555)] 56),#[]⟩),
 (29,⟨(.type "tuple"),none,(.seq #[] 0),#[]⟩),
 (30,⟨(.type "tuple"),none,(.seq #[(.ref 29),(.int 0 208),(.int 0 209),.none,.none,.none,(.int 0 210),(.str "" 211),(.bool false),.none,(.bool false),(.str "" 212)] 0),#[]⟩),
 (36,⟨(.type "code"),none,(.fields #[(.str "__init__" 213),(.str "ParseState.__init__" 214),(.str "/claim/cut.py" 215),(.int 7 0),(.int 13 0),(.int 0 0),(.int 0 0),(.int 3 0),(.ref 31),(.bool true),(.int 181 0),(.ref 32),.none,(.ref 33),(.ref 34),(.ref 35),(.int 229 0),(.int 7 0),(.str "/claim/cut.py" 230)]),#[]⟩),
 (37,⟨(.type "function"),none,(.func (fnF "__init__" "ParseState.__init__" (meth 2 0) (.ref 30) .none .none (.str "emacs.parsestate" 194) none (.ref 36) .none)),#[]⟩),
 (64,⟨(.type "code"),none,(.fields #[(.str "items" 253),(.str "ParseState.items" 254),(.str "/claim/cut.py" 255),(.int 30 0),(.int 1 0),(.int 0 0),(.int 0 0),(.int 3 0),(.ref 59),(.bool true),(.int 181 0),(.ref 60),.none,(.ref 61),(.ref 62),(.ref 63),(.int 258 0),(.int 30 0),(.str "/claim/cut.py" 259)]),#[]⟩),
 (65,⟨(.type "function"),none,(.func (fnF "items" "ParseState.items" (meth 2 4) .none .none .none (.str "emacs.parsestate" 194) none (.ref 64) .none)),#[]⟩),
 (67,⟨(.type "dict"),none,(.dict #[kE P "__module__" 203 (.str "emacs.parsestate" 194),kE P "__firstlineno__" 207 (.int 5 206),kE P "__init__" 231 (.ref 37),kE P "depth" 238 (.ref 44),kE P "innermost" 245 (.ref 51),kE P "is_plain" 252 (.ref 58),kE P "items" 260 (.ref 65),kE P "__static_attributes__" 273 (.ref 66),kE P "__dict__" 275 (.ref 69),kE P "__weakref__" 277 (.ref 70),kE P "__doc__" 278 .none] 4),#[]⟩),
 (68,⟨(.type "type"),none,(.cls { name:="ParseState",bases:=[(.type "object")],mro:=[(.ref 68),(.type "object")],ns:=67,qualname:="ParseState",hasDict:=true,slotNames:=[],subclasses:=[],abstract:=false,collection:=none,hasDel:=false }),#[none,none,(some (.str "ParseState" 196)),(some (.str "ParseState" 204)),(some (.builtin "object.__new__")),(some (.bool true))]⟩),
 (78,⟨(.type "code"),none,(.fields #[(.str "state_of" 281),(.str "state_of" 282),(.str "/claim/cut.py" 283),(.int 33 0),(.int 1 0),(.int 0 0),(.int 0 0),(.int 3 0),(.ref 73),(.bool true),(.int 181 0),(.ref 74),.none,(.ref 75),(.ref 76),(.ref 77),(.int 297 0),(.int 33 0),(.str "/claim/cut.py" 298)]),#[]⟩),
 (79,⟨(.type "function"),none,(.func (fnF "state_of" "state_of" (top 3) .none .none .none (.str "emacs.parsestate" 194) none (.ref 78) .none)),#[]⟩),
 (112,⟨(.type "code"),none,(.fields #[(.str "__init__" 381),(.str "Syntax.__init__" 382),(.str "/claim/cut.py" 383),(.int 62 0),(.int 4 0),(.int 0 0),(.int 0 0),(.int 3 0),(.ref 107),(.bool true),(.int 181 0),(.ref 108),.none,(.ref 109),(.ref 110),(.ref 111),(.int 388 0),(.int 62 0),(.str "/claim/cut.py" 389)]),#[]⟩),
 (113,⟨(.type "function"),none,(.func (fnF "__init__" "Syntax.__init__" (meth 24 0) .none .none .none (.str "emacs.syntax" 333) none (.ref 112) .none)),#[]⟩),
 (119,⟨(.type "code"),none,(.fields #[(.str "has" 391),(.str "Syntax.has" 392),(.str "/claim/cut.py" 393),(.int 67 0),(.int 2 0),(.int 0 0),(.int 0 0),(.int 3 0),(.ref 114),(.bool true),(.int 181 0),(.ref 115),.none,(.ref 116),(.ref 117),(.ref 118),(.int 396 0),(.int 67 0),(.str "/claim/cut.py" 397)]),#[]⟩),
 (120,⟨(.type "function"),none,(.func (fnF "has" "Syntax.has" (meth 24 1) .none .none .none (.str "emacs.syntax" 333) none (.ref 119) .none)),#[]⟩),
 (126,⟨(.type "code"),none,(.fields #[(.str "is_escape" 399),(.str "Syntax.is_escape" 400),(.str "/claim/cut.py" 401),(.int 70 0),(.int 1 0),(.int 0 0),(.int 0 0),(.int 3 0),(.ref 121),(.bool true),(.int 181 0),(.ref 122),.none,(.ref 123),(.ref 124),(.ref 125),(.int 403 0),(.int 70 0),(.str "/claim/cut.py" 404)]),#[]⟩),
 (127,⟨(.type "function"),none,(.func (fnF "is_escape" "Syntax.is_escape" (meth 24 2) .none .none .none (.str "emacs.syntax" 333) none (.ref 126) .none)),#[]⟩),
 (133,⟨(.type "code"),none,(.fields #[(.str "is_word_part" 406),(.str "Syntax.is_word_part" 407),(.str "/claim/cut.py" 408),(.int 73 0),(.int 1 0),(.int 0 0),(.int 0 0),(.int 3 0),(.ref 128),(.bool true),(.int 181 0),(.ref 129),.none,(.ref 130),(.ref 131),(.ref 132),(.int 410 0),(.int 73 0),(.str "/claim/cut.py" 411)]),#[]⟩),
 (134,⟨(.type "function"),none,(.func (fnF "is_word_part" "Syntax.is_word_part" (meth 24 3) .none .none .none (.str "emacs.syntax" 333) none (.ref 133) .none)),#[]⟩),
 (140,⟨(.type "code"),none,(.fields #[(.str "style" 413),(.str "Syntax.style" 414),(.str "/claim/cut.py" 415),(.int 76 0),(.int 1 0),(.int 0 0),(.int 0 0),(.int 3 0),(.ref 135),(.bool true),(.int 181 0),(.ref 136),.none,(.ref 137),(.ref 138),(.ref 139),(.int 417 0),(.int 76 0),(.str "/claim/cut.py" 418)]),#[]⟩),
 (141,⟨(.type "function"),none,(.func (fnF "style" "Syntax.style" (meth 24 4) .none .none .none (.str "emacs.syntax" 333) none (.ref 140) .none)),#[]⟩),
 (143,⟨(.type "dict"),none,(.dict #[kE P "__module__" 376 (.str "emacs.syntax" 333),kE P "__firstlineno__" 380 (.int 60 379),kE P "__init__" 390 (.ref 113),kE P "has" 398 (.ref 120),kE P "is_escape" 405 (.ref 127),kE P "is_word_part" 412 (.ref 134),kE P "style" 419 (.ref 141),kE P "__static_attributes__" 423 (.ref 142),kE P "__dict__" 425 (.ref 145),kE P "__weakref__" 427 (.ref 146),kE P "__doc__" 428 .none] 4),#[]⟩),
 (144,⟨(.type "type"),none,(.cls { name:="Syntax",bases:=[(.type "object")],mro:=[(.ref 144),(.type "object")],ns:=143,qualname:="Syntax",hasDict:=true,slotNames:=[],subclasses:=[],abstract:=false,collection:=none,hasDel:=false }),#[none,none,(some (.str "Syntax" 369)),(some (.str "Syntax" 377)),(some (.builtin "object.__new__")),(some (.bool true))]⟩),
 (152,⟨(.type "code"),none,(.fields #[(.str "sorted_flags" 431),(.str "sorted_flags" 432),(.str "/claim/cut.py" 433),(.int 78 0),(.int 1 0),(.int 0 0),(.int 0 0),(.int 3 0),(.ref 149),(.bool true),(.int 181 0),(.ref 150),.none,.none,.none,(.ref 151),(.int 434 0),(.int 78 0),(.str "/claim/cut.py" 435)]),#[]⟩),
 (153,⟨(.type "function"),none,(.func (fnF "sorted_flags" "sorted_flags" (top 25) .none .none .none (.str "emacs.syntax" 333) none (.ref 152) .none)),#[]⟩),
 (157,⟨(.type "code"),none,(.fields #[(.str "read_syntax" 437),(.str "read_syntax" 438),(.str "/claim/cut.py" 439),(.int 80 0),(.int 1 0),(.int 0 0),(.int 0 0),(.int 3 0),(.ref 154),(.bool true),(.int 181 0),(.ref 155),.none,.none,.none,(.ref 156),(.int 440 0),(.int 80 0),(.str "/claim/cut.py" 441)]),#[]⟩),
 (158,⟨(.type "function"),none,(.func (fnF "read_syntax" "read_syntax" (top 26) .none .none .none (.str "emacs.syntax" 333) none (.ref 157) .none)),#[]⟩),
 (166,⟨(.type "tuple"),none,(.seq #[.none] 0),#[]⟩),
 (172,⟨(.type "code"),none,(.fields #[(.str "__init__" 455),(.str "SyntaxTable.__init__" 456),(.str "/claim/cut.py" 457),(.int 91 0),(.int 2 0),(.int 0 0),(.int 0 0),(.int 3 0),(.ref 167),(.bool true),(.int 181 0),(.ref 168),.none,(.ref 169),(.ref 170),(.ref 171),(.int 460 0),(.int 91 0),(.str "/claim/cut.py" 461)]),#[]⟩),
 (173,⟨(.type "function"),none,(.func (fnF "__init__" "SyntaxTable.__init__" (meth 27 0) (.ref 166) .none .none (.str "emacs.syntax" 333) none (.ref 172) .none)),#[]⟩),
 (186,⟨(.type "code"),none,(.fields #[(.str "modify_all" 472),(.str "SyntaxTable.modify_all" 473),(.str "/claim/cut.py" 474),(.int 98 0),(.int 3 0),(.int 0 0),(.int 0 0),(.int 3 0),(.ref 181),(.bool true),(.int 181 0),(.ref 182),.none,(.ref 183),(.ref 184),(.ref 185),(.int 480 0),(.int 98 0),(.str "/claim/cut.py" 481)]),#[]⟩),
 (187,⟨(.type "function"),none,(.func (fnF "modify_all" "SyntaxTable.modify_all" (meth 27 2) .none .none .none (.str "emacs.syntax" 333) none (.ref 186) .none)),#[]⟩),
 (200,⟨(.type "code"),none,(.fields #[(.str "own" 493),(.str "SyntaxTable.own" 494),(.str "/claim/cut.py" 495),(.int 106 0),(.int 2 0),(.int 0 0),(.int 0 0),(.int 3 0),(.ref 195),(.bool true),(.int 181 0),(.ref 196),.none,(.ref 197),(.ref 198),(.ref 199),(.int 499 0),(.int 106 0),(.str "/claim/cut.py" 500)]),#[]⟩),
 (201,⟨(.type "function"),none,(.func (fnF "own" "SyntaxTable.own" (meth 27 4) .none .none .none (.str "emacs.syntax" 333) none (.ref 200) .none)),#[]⟩),
 (207,⟨(.type "code"),none,(.fields #[(.str "at" 502),(.str "SyntaxTable.at" 503),(.str "/claim/cut.py" 504),(.int 110 0),(.int 2 0),(.int 0 0),(.int 0 0),(.int 3 0),(.ref 202),(.bool true),(.int 181 0),(.ref 203),.none,(.ref 204),(.ref 205),(.ref 206),(.int 509 0),(.int 110 0),(.str "/claim/cut.py" 510)]),#[]⟩),
 (208,⟨(.type "function"),none,(.func (fnF "at" "SyntaxTable.at" (meth 27 5) .none .none .none (.str "emacs.syntax" 333) none (.ref 207) .none)),#[]⟩),
 (224,⟨(.type "dict"),none,(.dict #[kE P "__module__" 450 (.str "emacs.syntax" 333),kE P "__firstlineno__" 454 (.int 89 453),kE P "__init__" 462 (.ref 173),kE P "modify" 471 (.ref 180),kE P "modify_all" 482 (.ref 187),kE P "modify_range" 492 (.ref 194),kE P "own" 501 (.ref 201),kE P "at" 511 (.ref 208),kE P "kind_of" 519 (.ref 215),kE P "copy" 526 (.ref 222),kE P "__static_attributes__" 529 (.ref 223),kE P "__dict__" 531 (.ref 226),kE P "__weakref__" 533 (.ref 227),kE P "__doc__" 534 .none] 4),#[]⟩),
 (225,⟨(.type "type"),none,(.cls { name:="SyntaxTable",bases:=[(.type "object")],mro:=[(.ref 225),(.type "object")],ns:=224,qualname:="SyntaxTable",hasDict:=true,slotNames:=[],subclasses:=[],abstract:=false,collection:=none,hasDel:=false }),#[none,none,(some (.str "SyntaxTable" 443)),(some (.str "SyntaxTable" 451)),(some (.builtin "object.__new__")),(some (.bool true))]⟩),
 (235,⟨(.type "code"),none,(.fields #[(.str "letters" 537),(.str "letters" 538),(.str "/claim/cut.py" 539),(.int 124 0),(.int 0 0),(.int 0 0),(.int 0 0),(.int 3 0),(.ref 230),(.bool true),(.int 181 0),(.ref 231),.none,(.ref 232),(.ref 233),(.ref 234),(.int 540 0),(.int 124 0),(.str "/claim/cut.py" 541)]),#[]⟩),
 (236,⟨(.type "function"),none,(.func (fnF "letters" "letters" (top 28) .none .none .none (.str "emacs.syntax" 333) none (.ref 235) .none)),#[]⟩),
 (242,⟨(.type "code"),none,(.fields #[(.str "standard_table" 543),(.str "standard_table" 544),(.str "/claim/cut.py" 545),(.int 126 0),(.int 0 0),(.int 0 0),(.int 0 0),(.int 3 0),(.ref 237),(.bool true),(.int 181 0),(.ref 238),.none,(.ref 239),(.ref 240),(.ref 241),(.int 549 0),(.int 126 0),(.str "/claim/cut.py" 550)]),#[]⟩),
 (243,⟨(.type "function"),none,(.func (fnF "standard_table" "standard_table" (top 29) .none .none .none (.str "emacs.syntax" 333) none (.ref 242) .none)),#[]⟩),
 (249,⟨(.type "code"),none,(.fields #[(.str "slash_table" 552),(.str "slash_table" 553),(.str "/claim/cut.py" 554),(.int 138 0),(.int 0 0),(.int 0 0),(.int 0 0),(.int 3 0),(.ref 244),(.bool true),(.int 181 0),(.ref 245),.none,(.ref 246),(.ref 247),(.ref 248),(.int 556 0),(.int 138 0),(.str "/claim/cut.py" 557)]),#[]⟩),
 (250,⟨(.type "function"),none,(.func (fnF "slash_table" "slash_table" (top 30) .none .none .none (.str "emacs.syntax" 333) none (.ref 249) .none)),#[]⟩),
 (263,⟨(.type "code"),none,(.fields #[(.str "__init__" 573),(.str "Mark.__init__" 574),(.str "/claim/cut.py" 575),(.int 150 0),(.int 5 0),(.int 0 0),(.int 0 0),(.int 3 0),(.ref 258),(.bool true),(.int 181 0),(.ref 259),.none,(.ref 260),(.ref 261),(.ref 262),(.int 581 0),(.int 150 0),(.str "/claim/cut.py" 582)]),#[]⟩),
 (264,⟨(.type "function"),none,(.func (fnF "__init__" "Mark.__init__" (meth 32 0) .none .none .none (.str "emacs.syntaxpairs" 559) none (.ref 263) .none)),#[]⟩),
 (266,⟨(.type "dict"),none,(.dict #[kE P "__module__" 568 (.str "emacs.syntaxpairs" 559),kE P "__firstlineno__" 572 (.int 148 571),kE P "__init__" 583 (.ref 264),kE P "__static_attributes__" 588 (.ref 265),kE P "__dict__" 590 (.ref 268),kE P "__weakref__" 592 (.ref 269),kE P "__doc__" 593 .none] 4),#[]⟩),
 (267,⟨(.type "type"),none,(.cls { name:="Mark",bases:=[(.type "object")],mro:=[(.ref 267),(.type "object")],ns:=266,qualname:="Mark",hasDict:=true,slotNames:=[],subclasses:=[],abstract:=false,collection:=none,hasDel:=false }),#[none,none,(some (.str "Mark" 561)),(some (.str "Mark" 569)),(some (.builtin "object.__new__")),(some (.bool true))]⟩),
 (277,⟨(.type "code"),none,(.fields #[(.str "syntax_at" 596),(.str "syntax_at" 597),(.str "/claim/cut.py" 598),(.int 155 0),(.int 3 0),(.int 0 0),(.int 0 0),(.int 3 0),(.ref 272),(.bool true),(.int 181 0),(.ref 273),.none,(.ref 274),(.ref 275),(.ref 276),(.int 603 0),(.int 155 0),(.str "/claim/cut.py" 604)]),#[]⟩),
 (278,⟨(.type "function"),none,(.func (fnF "syntax_at" "syntax_at" (top 33) .none .none .none (.str "emacs.syntaxpairs" 559) none (.ref 277) .none)),#[]⟩),
 (284,⟨(.type "code"),none,(.fields #[(.str "pair_style" 606),(.str "pair_style" 607),(.str "/claim/cut.py" 608),(.int 158 0),(.int 2 0),(.int 0 0),(.int 0 0),(.int 3 0),(.ref 279),(.bool true),(.int 181 0),(.ref 280),.none,(.ref 281),(.ref 282),(.ref 283),(.int 612 0),(.int 158 0),(.str "/claim/cut.py" 613)]),#[]⟩),
 (285,⟨(.type "function"),none,(.func (fnF "pair_style" "pair_style" (top 34) .none .none .none (.str "emacs.syntaxpairs" 559) none (.ref 284) .none)),#[]⟩),
 (291,⟨(.type "code"),none,(.fields #[(.str "begin_mark" 615),(.str "begin_mark" 616),(.str "/claim/cut.py" 617),(.int 161 0),(.int 3 0),(.int 0 0),(.int 0 0),(.int 3 0),(.ref 286),(.bool true),(.int 181 0),(.ref 287),.none,(.ref 288),(.ref 289),(.ref 290),(.int 623 0),(.int 161 0),(.str "/claim/cut.py" 624)]),#[]⟩),
 (292,⟨(.type "function"),none,(.func (fnF "begin_mark" "begin_mark" (top 35) .none .none .none (.str "emacs.syntaxpairs" 559) none (.ref 291) .none)),#[]⟩),
 (298,⟨(.type "code"),none,(.fields #[(.str "end_mark" 626),(.str "end_mark" 627),(.str "/claim/cut.py" 628),(.int 170 0),(.int 3 0),(.int 0 0),(.int 0 0),(.int 3 0),(.ref 293),(.bool true),(.int 181 0),(.ref 294),.none,(.ref 295),(.ref 296),(.ref 297),(.int 634 0),(.int 170 0),(.str "/claim/cut.py" 635)]),#[]⟩),
 (299,⟨(.type "function"),none,(.func (fnF "end_mark" "end_mark" (top 36) .none .none .none (.str "emacs.syntaxpairs" 559) none (.ref 298) .none)),#[]⟩),
 (305,⟨(.type "code"),none,(.fields #[(.str "fits" 637),(.str "fits" 638),(.str "/claim/cut.py" 639),(.int 179 0),(.int 4 0),(.int 0 0),(.int 0 0),(.int 3 0),(.ref 300),(.bool true),(.int 181 0),(.ref 301),.none,(.ref 302),(.ref 303),(.ref 304),(.int 644 0),(.int 179 0),(.str "/claim/cut.py" 645)]),#[]⟩),
 (306,⟨(.type "function"),none,(.func (fnF "fits" "fits" (top 37) .none .none .none (.str "emacs.syntaxpairs" 559) none (.ref 305) .none)),#[]⟩),
 (319,⟨(.type "code"),none,(.fields #[(.str "__init__" 661),(.str "Walk.__init__" 662),(.str "/claim/cut.py" 663),(.int 186 0),(.int 5 0),(.int 0 0),(.int 0 0),(.int 3 0),(.ref 314),(.bool true),(.int 181 0),(.ref 315),.none,(.ref 316),(.ref 317),(.ref 318),(.int 669 0),(.int 186 0),(.str "/claim/cut.py" 670)]),#[]⟩),
 (320,⟨(.type "function"),none,(.func (fnF "__init__" "Walk.__init__" (meth 39 0) .none .none .none (.str "emacs.parse" 647) none (.ref 319) .none)),#[]⟩),
 (326,⟨(.type "code"),none,(.fields #[(.str "state" 672),(.str "Walk.state" 673),(.str "/claim/cut.py" 674),(.int 203 0),(.int 1 0),(.int 0 0),(.int 0 0),(.int 3 0),(.ref 321),(.bool true),(.int 181 0),(.ref 322),.none,(.ref 323),(.ref 324),(.ref 325),(.int 677 0),(.int 203 0),(.str "/claim/cut.py" 678)]),#[]⟩),
 (327,⟨(.type "function"),none,(.func (fnF "state" "Walk.state" (meth 39 1) .none .none .none (.str "emacs.parse" 647) none (.ref 326) .none)),#[]⟩),
 (333,⟨(.type "code"),none,(.fields #[(.str "depth" 680),(.str "Walk.depth" 681),(.str "/claim/cut.py" 682),(.int 207 0),(.int 1 0),(.int 0 0),(.int 0 0),(.int 3 0),(.ref 328),(.bool true),(.int 181 0),(.ref 329),.none,(.ref 330),(.ref 331),(.ref 332),(.int 684 0),(.int 207 0),(.str "/claim/cut.py" 685)]),#[]⟩),
 (334,⟨(.type "function"),none,(.func (fnF "depth" "Walk.depth" (meth 39 2) .none .none .none (.str "emacs.parse" 647) none (.ref 333) .none)),#[]⟩),
 (340,⟨(.type "code"),none,(.fields #[(.str "end_word" 687),(.str "Walk.end_word" 688),(.str "/claim/cut.py" 689),(.int 210 0),(.int 1 0),(.int 0 0),(.int 0 0),(.int 3 0),(.ref 335),(.bool true),(.int 181 0),(.ref 336),.none,(.ref 337),(.ref 338),(.ref 339),(.int 691 0),(.int 210 0),(.str "/claim/cut.py" 692)]),#[]⟩),
 (341,⟨(.type "function"),none,(.func (fnF "end_word" "Walk.end_word" (meth 39 3) .none .none .none (.str "emacs.parse" 647) none (.ref 340) .none)),#[]⟩),
 (347,⟨(.type "code"),none,(.fields #[(.str "begin_word" 694),(.str "Walk.begin_word" 695),(.str "/claim/cut.py" 696),(.int 215 0),(.int 1 0),(.int 0 0),(.int 0 0),(.int 3 0),(.ref 342),(.bool true),(.int 181 0),(.ref 343),.none,(.ref 344),(.ref 345),(.ref 346),(.int 698 0),(.int 215 0),(.str "/claim/cut.py" 699)]),#[]⟩),
 (348,⟨(.type "function"),none,(.func (fnF "begin_word" "Walk.begin_word" (meth 39 4) .none .none .none (.str "emacs.parse" 647) none (.ref 347) .none)),#[]⟩),
 (354,⟨(.type "code"),none,(.fields #[(.str "open_at" 701),(.str "Walk.open_at" 702),(.str "/claim/cut.py" 703),(.int 219 0),(.int 2 0),(.int 0 0),(.int 0 0),(.int 3 0),(.ref 349),(.bool true),(.int 181 0),(.ref 350),.none,(.ref 351),(.ref 352),(.ref 353),(.int 706 0),(.int 219 0),(.str "/claim/cut.py" 707)]),#[]⟩),
 (355,⟨(.type "function"),none,(.func (fnF "open_at" "Walk.open_at" (meth 39 5) .none .none .none (.str "emacs.parse" 647) none (.ref 354) .none)),#[]⟩),
 (361,⟨(.type "code"),none,(.fields #[(.str "close" 709),(.str "Walk.close" 710),(.str "/claim/cut.py" 711),(.int 224 0),(.int 1 0),(.int 0 0),(.int 0 0),(.int 3 0),(.ref 356),(.bool true),(.int 181 0),(.ref 357),.none,(.ref 358),(.ref 359),(.ref 360),(.int 713 0),(.int 224 0),(.str "/claim/cut.py" 714)]),#[]⟩),
 (362,⟨(.type "function"),none,(.func (fnF "close" "Walk.close" (meth 39 6) .none .none .none (.str "emacs.parse" 647) none (.ref 361) .none)),#[]⟩),
 (368,⟨(.type "code"),none,(.fields #[(.str "begin_comment" 716),(.str "Walk.begin_comment" 717),(.str "/claim/cut.py" 718),(.int 233 0),(.int 3 0),(.int 0 0),(.int 0 0),(.int 3 0),(.ref 363),(.bool true),(.int 181 0),(.ref 364),.none,(.ref 365),(.ref 366),(.ref 367),(.int 722 0),(.int 233 0),(.str "/claim/cut.py" 723)]),#[]⟩),
 (369,⟨(.type "function"),none,(.func (fnF "begin_comment" "Walk.begin_comment" (meth 39 7) .none .none .none (.str "emacs.parse" 647) none (.ref 368) .none)),#[]⟩),
 (375,⟨(.type "code"),none,(.fields #[(.str "leave_comment" 725),(.str "Walk.leave_comment" 726),(.str "/claim/cut.py" 727),(.int 240 0),(.int 1 0),(.int 0 0),(.int 0 0),(.int 3 0),(.ref 370),(.bool true),(.int 181 0),(.ref 371),.none,(.ref 372),(.ref 373),(.ref 374),(.int 729 0),(.int 240 0),(.str "/claim/cut.py" 730)]),#[]⟩),
 (376,⟨(.type "function"),none,(.func (fnF "leave_comment" "Walk.leave_comment" (meth 39 8) .none .none .none (.str "emacs.parse" 647) none (.ref 375) .none)),#[]⟩),
 (382,⟨(.type "code"),none,(.fields #[(.str "begin_string" 732),(.str "Walk.begin_string" 733),(.str "/claim/cut.py" 734),(.int 249 0),(.int 2 0),(.int 0 0),(.int 0 0),(.int 3 0),(.ref 377),(.bool true),(.int 181 0),(.ref 378),.none,(.ref 379),(.ref 380),(.ref 381),(.int 737 0),(.int 249 0),(.str "/claim/cut.py" 738)]),#[]⟩),
 (383,⟨(.type "function"),none,(.func (fnF "begin_string" "Walk.begin_string" (meth 39 9) .none .none .none (.str "emacs.parse" 647) none (.ref 382) .none)),#[]⟩),
 (389,⟨(.type "code"),none,(.fields #[(.str "end_string" 740),(.str "Walk.end_string" 741),(.str "/claim/cut.py" 742),(.int 254 0),(.int 1 0),(.int 0 0),(.int 0 0),(.int 3 0),(.ref 384),(.bool true),(.int 181 0),(.ref 385),.none,(.ref 386),(.ref 387),(.ref 388),(.int 744 0),(.int 254 0),(.str "/claim/cut.py" 745)]),#[]⟩),
 (390,⟨(.type "function"),none,(.func (fnF "end_string" "Walk.end_string" (meth 39 10) .none .none .none (.str "emacs.parse" 647) none (.ref 389) .none)),#[]⟩),
 (396,⟨(.type "code"),none,(.fields #[(.str "take" 747),(.str "Walk.take" 748),(.str "/claim/cut.py" 749),(.int 259 0),(.int 4 0),(.int 0 0),(.int 0 0),(.int 3 0),(.ref 391),(.bool true),(.int 181 0),(.ref 392),.none,(.ref 393),(.ref 394),(.ref 395),(.int 754 0),(.int 259 0),(.str "/claim/cut.py" 755)]),#[]⟩),
 (397,⟨(.type "function"),none,(.func (fnF "take" "Walk.take" (meth 39 11) .none .none .none (.str "emacs.parse" 647) none (.ref 396) .none)),#[]⟩),
 (403,⟨(.type "code"),none,(.fields #[(.str "step_in_comment" 757),(.str "Walk.step_in_comment" 758),(.str "/claim/cut.py" 759),(.int 267 0),(.int 2 0),(.int 0 0),(.int 0 0),(.int 3 0),(.ref 398),(.bool true),(.int 181 0),(.ref 399),.none,(.ref 400),(.ref 401),(.ref 402),(.int 764 0),(.int 267 0),(.str "/claim/cut.py" 765)]),#[]⟩),
 (404,⟨(.type "function"),none,(.func (fnF "step_in_comment" "Walk.step_in_comment" (meth 39 12) .none .none .none (.str "emacs.parse" 647) none (.ref 403) .none)),#[]⟩),
 (410,⟨(.type "code"),none,(.fields #[(.str "step_in_string" 767),(.str "Walk.step_in_string" 768),(.str "/claim/cut.py" 769),(.int 280 0),(.int 1 0),(.int 0 0),(.int 0 0),(.int 3 0),(.ref 405),(.bool true),(.int 181 0),(.ref 406),.none,(.ref 407),(.ref 408),(.ref 409),(.int 773 0),(.int 280 0),(.str "/claim/cut.py" 774)]),#[]⟩),
 (411,⟨(.type "function"),none,(.func (fnF "step_in_string" "Walk.step_in_string" (meth 39 13) .none .none .none (.str "emacs.parse" 647) none (.ref 410) .none)),#[]⟩),
 (417,⟨(.type "code"),none,(.fields #[(.str "finish_half" 776),(.str "Walk.finish_half" 777),(.str "/claim/cut.py" 778),(.int 291 0),(.int 1 0),(.int 0 0),(.int 0 0),(.int 3 0),(.ref 412),(.bool true),(.int 181 0),(.ref 413),.none,(.ref 414),(.ref 415),(.ref 416),(.int 781 0),(.int 291 0),(.str "/claim/cut.py" 782)]),#[]⟩),
 (418,⟨(.type "function"),none,(.func (fnF "finish_half" "Walk.finish_half" (meth 39 14) .none .none .none (.str "emacs.parse" 647) none (.ref 417) .none)),#[]⟩),
 (424,⟨(.type "code"),none,(.fields #[(.str "step_plain" 784),(.str "Walk.step_plain" 785),(.str "/claim/cut.py" 786),(.int 302 0),(.int 2 0),(.int 0 0),(.int 0 0),(.int 3 0),(.ref 419),(.bool true),(.int 181 0),(.ref 420),.none,(.ref 421),(.ref 422),(.ref 423),(.int 792 0),(.int 302 0),(.str "/claim/cut.py" 793)]),#[]⟩),
 (425,⟨(.type "function"),none,(.func (fnF "step_plain" "Walk.step_plain" (meth 39 15) .none .none .none (.str "emacs.parse" 647) none (.ref 424) .none)),#[]⟩),
 (431,⟨(.type "code"),none,(.fields #[(.str "step_by_kind" 795),(.str "Walk.step_by_kind" 796),(.str "/claim/cut.py" 797),(.int 320 0),(.int 2 0),(.int 0 0),(.int 0 0),(.int 3 0),(.ref 426),(.bool true),(.int 181 0),(.ref 427),.none,(.ref 428),(.ref 429),(.ref 430),(.int 800 0),(.int 320 0),(.str "/claim/cut.py" 801)]),#[]⟩),
 (432,⟨(.type "function"),none,(.func (fnF "step_by_kind" "Walk.step_by_kind" (meth 39 16) .none .none .none (.str "emacs.parse" 647) none (.ref 431) .none)),#[]⟩),
 (438,⟨(.type "code"),none,(.fields #[(.str "step" 803),(.str "Walk.step" 804),(.str "/claim/cut.py" 805),(.int 337 0),(.int 2 0),(.int 0 0),(.int 0 0),(.int 3 0),(.ref 433),(.bool true),(.int 181 0),(.ref 434),.none,(.ref 435),(.ref 436),(.ref 437),(.int 808 0),(.int 337 0),(.str "/claim/cut.py" 809)]),#[]⟩),
 (439,⟨(.type "function"),none,(.func (fnF "step" "Walk.step" (meth 39 17) .none .none .none (.str "emacs.parse" 647) none (.ref 438) .none)),#[]⟩),
 (441,⟨(.type "dict"),none,(.dict #[kE P "__module__" 656 (.str "emacs.parse" 647),kE P "__firstlineno__" 660 (.int 184 659),kE P "__init__" 671 (.ref 320),kE P "state" 679 (.ref 327),kE P "depth" 686 (.ref 334),kE P "end_word" 693 (.ref 341),kE P "begin_word" 700 (.ref 348),kE P "open_at" 708 (.ref 355),kE P "close" 715 (.ref 362),kE P "begin_comment" 724 (.ref 369),kE P "leave_comment" 731 (.ref 376),kE P "begin_string" 739 (.ref 383),kE P "end_string" 746 (.ref 390),kE P "take" 756 (.ref 397),kE P "step_in_comment" 766 (.ref 404),kE P "step_in_string" 775 (.ref 411),kE P "finish_half" 783 (.ref 418),kE P "step_plain" 794 (.ref 425),kE P "step_by_kind" 802 (.ref 432),kE P "step" 810 (.ref 439),kE P "__static_attributes__" 826 (.ref 440),kE P "__dict__" 828 (.ref 443),kE P "__weakref__" 830 (.ref 444),kE P "__doc__" 831 .none] 4),#[]⟩),
 (442,⟨(.type "type"),none,(.cls { name:="Walk",bases:=[(.type "object")],mro:=[(.ref 442),(.type "object")],ns:=441,qualname:="Walk",hasDict:=true,slotNames:=[],subclasses:=[],abstract:=false,collection:=none,hasDel:=false }),#[none,none,(some (.str "Walk" 649)),(some (.str "Walk" 657)),(some (.builtin "object.__new__")),(some (.bool true))]⟩),
 (454,⟨(.type "tuple"),none,(.seq #[.none,.none,(.bool false),(.bool false)] 0),#[]⟩),
 (460,⟨(.type "code"),none,(.fields #[(.str "parse_partial" 842),(.str "parse_partial" 843),(.str "/claim/cut.py" 844),(.int 355 0),(.int 8 0),(.int 0 0),(.int 0 0),(.int 3 0),(.ref 455),(.bool true),(.int 181 0),(.ref 456),.none,(.ref 457),(.ref 458),(.ref 459),(.int 856 0),(.int 355 0),(.str "/claim/cut.py" 857)]),#[]⟩),
 (461,⟨(.type "function"),none,(.func (fnF "parse_partial" "parse_partial" (top 41) (.ref 454) .none .none (.str "emacs.parse" 647) none (.ref 460) .none)),#[]⟩),
 (469,⟨(.type "tuple"),none,(.seq #[(.int 1 873)] 0),#[]⟩),
 (475,⟨(.type "code"),none,(.fields #[(.str "__init__" 874),(.str "TextRow.__init__" 875),(.str "/claim/cut.py" 876),(.int 370 0),(.int 3 0),(.int 0 0),(.int 0 0),(.int 3 0),(.ref 470),(.bool true),(.int 181 0),(.ref 471),.none,(.ref 472),(.ref 473),(.ref 474),(.int 880 0),(.int 370 0),(.str "/claim/cut.py" 881)]),#[]⟩),
 (476,⟨(.type "function"),none,(.func (fnF "__init__" "TextRow.__init__" (meth 43 0) (.ref 469) .none .none (.str "emacs.textrow" 859) none (.ref 475) .none)),#[]⟩),
 (496,⟨(.type "code"),none,(.fields #[(.str "code_at" 897),(.str "TextRow.code_at" 898),(.str "/claim/cut.py" 899),(.int 380 0),(.int 2 0),(.int 0 0),(.int 0 0),(.int 3 0),(.ref 491),(.bool true),(.int 181 0),(.ref 492),.none,(.ref 493),(.ref 494),(.ref 495),(.int 902 0),(.int 380 0),(.str "/claim/cut.py" 903)]),#[]⟩),
 (497,⟨(.type "function"),none,(.func (fnF "code_at" "TextRow.code_at" (meth 43 3) .none .none .none (.str "emacs.textrow" 859) none (.ref 496) .none)),#[]⟩),
 (499,⟨(.type "dict"),none,(.dict #[kE P "__module__" 868 (.str "emacs.textrow" 859),kE P "__firstlineno__" 872 (.int 368 871),kE P "__init__" 882 (.ref 476),kE P "begin" 889 (.ref 483),kE P "end" 896 (.ref 490),kE P "code_at" 904 (.ref 497),kE P "__static_attributes__" 907 (.ref 498),kE P "__dict__" 909 (.ref 501),kE P "__weakref__" 911 (.ref 502),kE P "__doc__" 912 .none] 4),#[]⟩),
 (500,⟨(.type "type"),none,(.cls { name:="TextRow",bases:=[(.type "object")],mro:=[(.ref 500),(.type "object")],ns:=499,qualname:="TextRow",hasDict:=true,slotNames:=[],subclasses:=[],abstract:=false,collection:=none,hasDel:=false }),#[none,none,(some (.str "TextRow" 861)),(some (.str "TextRow" 869)),(some (.builtin "object.__new__")),(some (.bool true))]⟩),
 (508,⟨(.type "code"),none,(.fields #[(.str "_law_deck" 917),(.str "_law_deck" 918),(.str "/claim/cut.py" 919),(.int 385 0),(.int 1 0),(.int 0 0),(.int 0 0),(.int 3 0),(.ref 505),(.bool true),(.int 181 0),(.ref 506),.none,.none,.none,(.ref 507),(.int 920 0),(.int 385 0),(.str "/claim/cut.py" 921)]),#[]⟩),
 (509,⟨(.type "function"),none,(.func (fnF "_law_deck" "_law_deck" (top 45) .none .none .none (.str "law_np0083_01" 915) none (.ref 508) .none)),#[]⟩),
 (515,⟨(.type "code"),none,(.fields #[(.str "_law_draw" 923),(.str "_law_draw" 924),(.str "/claim/cut.py" 925),(.int 388 0),(.int 2 0),(.int 0 0),(.int 0 0),(.int 3 0),(.ref 510),(.bool true),(.int 181 0),(.ref 511),.none,(.ref 512),(.ref 513),(.ref 514),(.int 930 0),(.int 388 0),(.str "/claim/cut.py" 931)]),#[]⟩),
 (516,⟨(.type "function"),none,(.func (fnF "_law_draw" "_law_draw" (top 46) .none .none .none (.str "law_np0083_01" 915) none (.ref 515) .none)),#[]⟩),
 (520,⟨(.type "code"),none,(.fields #[(.str "_law_many" 933),(.str "_law_many" 934),(.str "/claim/cut.py" 935),(.int 399 0),(.int 3 0),(.int 0 0),(.int 0 0),(.int 3 0),(.ref 517),(.bool true),(.int 181 0),(.ref 518),.none,.none,.none,(.ref 519),(.int 936 0),(.int 399 0),(.str "/claim/cut.py" 937)]),#[]⟩),
 (521,⟨(.type "function"),none,(.func (fnF "_law_many" "_law_many" (top 47) .none .none .none (.str "law_np0083_01" 915) none (.ref 520) .none)),#[]⟩),
 (527,⟨(.type "code"),none,(.fields #[(.str "_law_piece" 939),(.str "_law_piece" 940),(.str "/claim/cut.py" 941),(.int 404 0),(.int 2 0),(.int 0 0),(.int 0 0),(.int 3 0),(.ref 522),(.bool true),(.int 181 0),(.ref 523),.none,(.ref 524),(.ref 525),(.ref 526),(.int 949 0),(.int 404 0),(.str "/claim/cut.py" 950)]),#[]⟩),
 (528,⟨(.type "function"),none,(.func (fnF "_law_piece" "_law_piece" (top 48) .none .none .none (.str "law_np0083_01" 915) none (.ref 527) .none)),#[]⟩),
 (534,⟨(.type "code"),none,(.fields #[(.str "_law_plain" 952),(.str "_law_plain" 953),(.str "/claim/cut.py" 954),(.int 419 0),(.int 1 0),(.int 0 0),(.int 0 0),(.int 3 0),(.ref 529),(.bool true),(.int 181 0),(.ref 530),.none,(.ref 531),(.ref 532),(.ref 533),(.int 956 0),(.int 419 0),(.str "/claim/cut.py" 957)]),#[]⟩),
 (535,⟨(.type "function"),none,(.func (fnF "_law_plain" "_law_plain" (top 49) .none .none .none (.str "law_np0083_01" 915) none (.ref 534) .none)),#[]⟩),
 (541,⟨(.type "code"),none,(.fields #[(.str "_law_within" 959),(.str "_law_within" 960),(.str "/claim/cut.py" 961),(.int 421 0),(.int 5 0),(.int 0 0),(.int 0 0),(.int 3 0),(.ref 536),(.bool true),(.int 181 0),(.ref 537),.none,(.ref 538),(.ref 539),(.ref 540),(.int 971 0),(.int 421 0),(.str "/claim/cut.py" 972)]),#[]⟩),
 (542,⟨(.type "function"),none,(.func (fnF "_law_within" "_law_within" (top 50) .none .none .none (.str "law_np0083_01" 915) none (.ref 541) .none)),#[]⟩),
 (543,⟨(.type "tuple"),none,(.seq #[(.str "word" 974),(.str "escape" 975)] 0),#[]⟩),
 (549,⟨(.type "code"),none,(.fields #[(.str "_law_states" 977),(.str "_law_states" 978),(.str "/claim/cut.py" 979),(.int 434 0),(.int 1 0),(.int 0 0),(.int 0 0),(.int 3 0),(.ref 544),(.bool true),(.int 181 0),(.ref 545),.none,(.ref 546),(.ref 547),(.ref 548),(.int 992 0),(.int 434 0),(.str "/claim/cut.py" 993)]),#[]⟩),
 (550,⟨(.type "function"),none,(.func (fnF "_law_states" "_law_states" (top 52) .none .none .none (.str "law_np0083_01" 915) none (.ref 549) .none)),#[]⟩),
 (554,⟨(.type "code"),none,(.fields #[(.str "law" 995),(.str "law" 996),(.str "/claim/cut.py" 997),(.int 461 0),(.int 1 0),(.int 0 0),(.int 0 0),(.int 3 0),(.ref 551),(.bool true),(.int 181 0),(.ref 552),.none,.none,.none,(.ref 553),(.int 998 0),(.int 461 0),(.str "/claim/cut.py" 999)]),#[]⟩),
 (555,⟨(.type "function"),none,(.func (fnF "law" "law" (top 53) .none .none .none (.str "law_np0083_01" 915) none (.ref 554) .none)),#[]⟩)]
end
end Mine
end
section
namespace Mine
noncomputable section
noncomputable abbrev pw:Program:=PySem.Challenge.pw_np0083_01
noncomputable def qv:Program:={ pw with main:={ pw.main with body:=[top 53] } }
noncomputable def Zd2:List Str:=(["_wall","ParseState","state_of","LispSignal","WHITESPACE","WORD","SYMBOL","PUNCTUATION","OPENS","CLOSES","PREFIX","STRING","ESCAPE","QUOTES","BEGINS","ENDS",
 "INHERITS","COMMENT_FENCE","STRING_FENCE","KINDS","FLAGS","Syntax","sorted_flags","read_syntax","SyntaxTable","letters","standard_table","slash_table","Mark","syntax_at","pair_style",
 "begin_mark","end_mark","fits","Walk","begins_expression","parse_partial","TextRow","_law_deck","_law_draw","_law_many","_law_piece","_law_plain","_law_within","_law_wordlike","_law_states"]:List String).map Str.ofString
noncomputable def Zgl (p:Program):Thread:=
 { topStub p with cur:=do
    let code ←Fast.tw17154629097778926822 p.main
    let frame ←Fast.tw12822647523644345616 code mainNs mainNs
    let _ ←PySem.run (.body (behindTheImports p) { scope:=p.main.scope,locals:=mainNs,globals:=mainNs,cells:=[],code,frame:=some frame })
    ret .none }
theorem ZhS (p:Program):topStub p=Zgl p:=by
 unfold Zgl
 rw [←Fast.te17154629097778926822,←Fast.te12822647523644345616]
 rfl
noncomputable def Zhi:List Obj->BT->Nat->Option BT
 | [],T,_=>some T
 | o::r,T,n=>match ((T.ins n o).get n).isSome with
  | true=>Zhi r (T.ins n o) (n+1)
  | false=>none
theorem ZfJ (life:Life):∀ (l:List Obj) (T:BT) (n:Nat) (T':BT),Zhi l T n=some T'->absHeap T' (n+l.length) life=⟨(absHeap T n life).objs++l.toArray,life⟩
 | [],T,n,T',h=>by
  cases h
  show absHeap T n life=⟨(absHeap T n life).objs++#[],(absHeap T n life).life⟩
  simp
 | o::r,T,n,T',h=>by
  unfold Zhi at h
  cases q:((T.ins n o).get n).isSome with
  | false=>rw [q] at h;cases h
  | true=>
   rw [q] at h
   have:=ZfJ life r _ _ _ h
   rw [List.length_cons,show n+(r.length+1)=n+1+r.length by omega,this,absHeap_ins q]
   show (⟨(absHeap T n life).objs.push o++r.toArray,life⟩:Heap)=_
   simp
noncomputable def toT (s:Shared):Option SharedT:=match Zhi s.heap.objs.toList .nil 0 with
 | some T=>some ⟨T,s.heap.objs.toList.length,s.heap.life,s.gens,s.drawn,s.toks,s.os⟩
 | none=>none
theorem ZoL {s:Shared} {t:SharedT} (h:toT s=some t):t.abs=s:=by
 unfold toT at h
 cases q:Zhi s.heap.objs.toList .nil 0 with
 | none=>rw [q] at h;cases h
 | some T=>
  rw [q] at h
  cases h
  have:=ZfJ s.heap.life _ _ _ _ q
  rw [Nat.zero_add] at this
  obtain ⟨⟨objs,life⟩,g,d,k,os⟩:=s
  show (⟨absHeap T objs.toList.length life,g,d,k,os⟩:Shared)=_
  have this:absHeap T objs.toList.length life=⟨(absHeap .nil 0 life).objs++objs.toList.toArray,life⟩:=this
  rw [this]
  show (⟨⟨#[]++objs.toList.toArray,life⟩,g,d,k,os⟩:Shared)=_
  simp
noncomputable def Ze2 (tb:String->Option Builtin) (p:Program) (w:World) (n₀:Nat) (ann:Option Value):Nat->SharedT->Thread->Option SharedT
 | 0,_,_=>none
 | n+1,s,t=>match through t with
  | true=>some s
  | false=>match stepOk n₀ ann t with
   | false=>none
   | true=>match stepT (denote tb) p w s t with
    | some r=>Ze2 tb p w n₀ ann n r.1 r.2
    | none=>none
theorem ZfI {tb:String->Option Builtin} {p:Program} {w:World} {n₀:Nat} {ann:Option Value}:∀ {n:Nat} {s s':SharedT} {t:Thread},Ze2 tb p w n₀ ann n s t=some s'->topRun tb p w n₀ ann n s.abs t=some s'.abs
 | 0,_,_,_,h=>by cases h
 | n+1,s,s',t,h=>by
  unfold Ze2 at h
  unfold topRun
  cases ht:through t with
  | true=>rw [ht] at h;cases h;rfl
  | false=>
   rw [ht] at h
   cases hk:stepOk n₀ ann t with
   | false=>rw [hk] at h;cases h
   | true=>
    rw [hk] at h
    cases hs:stepT (denote tb) p w s t with
    | none=>rw [hs] at h;cases h
    | some r=>obtain ⟨s₂,t₂⟩:=r;rw [hs] at h;dsimp only;rw [stepT_spec hs];exact ZfI h
noncomputable def runT (p:Program) (w:World) (n₀:Nat) (ann:Option Value):Nat->SharedT->Thread->Option SharedT
 | 0,_,_=>none
 | n+1,s,t=>match through t with
  | true=>some s
  | false=>match Fast.tw6613529449190102663 n₀ ann t with
   | false=>none
   | true=>match Fast.tw10156331382660048174 (Fast.tw11892475500146522536 Fast.tw14364793385576792824) p w s t with
    | some r=>runT p w n₀ ann n r.1 r.2
    | none=>none
theorem ZkK {p:Program} {w:World} {n₀:Nat} {ann:Option Value}:∀ {n:Nat} {s:SharedT} {t:Thread},runT p w n₀ ann n s t=Ze2 treeTable p w n₀ ann n s t
 | 0,_,_=>rfl
 | n+1,s,t=>by
  unfold runT Ze2
  rw [←Fast.te6613529449190102663,←Fast.te10156331382660048174,←Fast.te11892475500146522536,←Fast.te14364793385576792824]
  simp only [ZkK]
noncomputable def ZjU (p:Program) (w:World) (N:Nat):Option Shared:=(Fast.tw10274390034422433532 Fast.tw14364793385576792824 (opening p) w N (Fast.tw1435165496053646825 (opening p)).1 (Fast.tw1435165496053646825 (opening p)).2).bind (Fast.tw14289696077712309145 p)
theorem ZjV (p:Program) (w:World) (N:Nat):fencedOpening treeTable p w N=ZjU p w N:=by
 unfold ZjU
 rw [←Fast.te10274390034422433532,←Fast.te14364793385576792824,←Fast.te1435165496053646825,←Fast.te14289696077712309145]
 rfl
noncomputable def topF (p:Program) (w:World) (N:Nat) (s₀:Shared):Option Shared:=match s₀.heap.isNs mainGlobals&&s₀.gens.size==0 with
 | true=>match toT s₀ with
  | some sT=>(runT p w s₀.heap.objs.size (Fast.tw8920871248978507458 s₀.heap mainGlobals "__annotations__") N sT (Zgl p)).bind λsT'=>
   match staticsOk (Fast.tw5923862056798008813 p.main.body) s₀.heap sT'.abs.heap&&namesBound p sT'.abs.heap&&gensDone sT'.abs&&laidKept s₀.heap sT'.abs.heap with
   | true=>some sT'.abs
   | false=>none
  | none=>none
 | false=>none
theorem ZoN {p:Program} {w:World} {N:Nat} {s₀ s:Shared} (h:topF p w N s₀=some s):topFrom treeTable p w N s₀=some s:=by
 unfold topF at h
 unfold topFrom
 rw [←Fast.te8920871248978507458,←Fast.te5923862056798008813,←ZhS] at h
 cases q:(s₀.heap.isNs mainGlobals&&s₀.gens.size==0) with
 | false=>rw [q] at h;cases h
 | true=>
  rw [q] at h
  simp only at h ⊢
  cases q2:toT s₀ with
  | none=>rw [q2] at h;cases h
  | some sT=>
   rw [q2] at h
   simp only [ZkK] at h
   obtain ⟨sT',h1,h2⟩:=Option.bind_eq_some_iff.mp h
   have:=ZfI h1
   rw [ZoL q2] at this
   rw [this]
   exact h2
noncomputable def ZnS (p:Program) (w:World) (N:Nat):Option Shared:=(ZjU p w N).bind (topF p w N)
theorem Zls {p:Program} {w:World} {N:Nat} {s:Shared} (h:ZnS p w N=some s):openEnds treeTable p w N=some s:=by
 unfold ZnS at h
 unfold openEnds
 rw [ZjV]
 obtain ⟨s₀,h1,h2⟩:=Option.bind_eq_some_iff.mp h
 rw [h1]
 exact ZoN h2
noncomputable def lawRow:RowW:=(PySem.Challenge.rw_np0083_01).row.toRowW
noncomputable def xt (s:Shared):Bool:=xlAt qv [] s&&recOk lawRow.records s
noncomputable def obsK (s:Shared):List (Option Obj):=kAs.map s.heap.get?
noncomputable def valK (w:World):List (Option Obj):=(KF w.params).map λp=>some p.2
set_option maxHeartbeats 0 in
theorem Zqj (w:World):(ZnS pw w 7462).map (λs=>(Fast.tw4187177175401517315 qv Zd2 (Fast.tw5923862056798008813 pw.main.body) xt true s,obsK s))=some (openGood qv Zd2,valK w):=by kernel_rfl
theorem left:LeftO pw qv Zd2 xt obsK valK 7462:=λw=>by
 have h:=Zqj w
 rw [←Fast.te4187177175401517315,←Fast.te5923862056798008813] at h
 obtain ⟨s,h1,h2⟩:=Option.map_eq_some_iff.mp h
 rw [Zls h1]
 exact congrArg some h2
end
end Mine
end
section
namespace Mine
noncomputable section
noncomputable def stP (s:Stmt):Pos:=match s with | .FunctionDef _ _ _ _ _ _ _ _ _ p=>p | _=>default
noncomputable def lawD:DefRec:=⟨"law",stA (top 53),stB (top 53),stS (top 53),stP (top 53)⟩
noncomputable def ZlI:List (Str × PySem.Expr):=[]
theorem Zpw (P:Params):kAs=(KF P).map (·.1):=by kernel_rfl
theorem ZlB (k1:(PySem.Challenge.rw_np0083_01).row.wellSaid=true) (hc:WalkO qv Zd2 (XL qv []) (InK KF) lawRow lawD ZlI λf vs=>PySem.call f vs):(PySem.Challenge.rw_np0083_01).row.Holds:=by
 refine holds_open (q:=qv) (loose:=Zd2) (Xt:=xt) (XP:=XL qv []) (Yf:=obsK) (Ya:=valK) (YP:=InK KF) (N:=7462) (d:=lawD) (kwd:=ZlI) left (λw s e=>InK.of Zpw w s e) InK.keeps (λs e=>xl_of s (Bool.and_eq_true_iff.mp e).1) XL.keeps ?h1 ?h2 ?h3 (λs e=>recFacts_of (Bool.and_eq_true_iff.mp e).2) ?h4 ?h5 ?h6 ?h7 ?hw hc
 case h1=>kernel_rfl
 case h2=>kernel_rfl
 case h3=>kernel_rfl
 case h4=>kernel_rfl
 case h5=>exact k1
 case h6=>kernel_rfl
 case h7=>exact ⟨rfl,rfl,rfl,rfl,rfl,by kernel_rfl⟩
 case hw=>w_witness2
end
end Mine
end
section
set_option tactic.hygienic true
namespace Mine
set_option maxHeartbeats 0 in
theorem Zqt:Fast.tw9446332074065402090 PySem.Challenge.rw_np0083_01=true:=by kernel_rfl
theorem said:PySem.Challenge.rw_np0083_01.wellSaid=true:=by
 rw [Fast.te9446332074065402090];exact Zqt
theorem ZiX (hc:WalkO qv Zd2 (XL qv []) (InK KF) lawRow lawD ZlI λf vs=>PySem.call f vs):PySem.Challenge.rw_np0083_01.Holds:=holds_law said λk=>ZlB k hc
end Mine
end
section
namespace Mine
noncomputable section
noncomputable def AllP {α:Type} (Q:α->Prop):List α->Prop
 | []=>True
 | a::r=>Q a∧AllP Q r
theorem AllP.mem {α:Type} {Q:α->Prop}:∀ {l:List α},AllP Q l->∀ a ∈ l,Q a
 | [],_,a,h=>nomatch h
 | _::_,h,a,hm=>by
  rcases List.mem_cons.mp hm with rfl | hm
  ·exact h.1
  ·exact h.2.mem a hm
theorem Zdl {β:Type} {x:Str} {u:β}:∀ {l:List (Str × β)},look x l=some u->(x,u) ∈ l
 | [],h=>by exact nN h
 | p::r,h=>by
  rw [Zab] at h
  generalize q:seq x p.1=wo at h
  cases wo with
  | true=>rw [cond_true] at h;have wq:=Option.some.inj h;clear h;subst wq;rw [seq_iff.mp q];exact .head _
  | false=>rw [cond_false] at h;exact .tail _ (Zdl h)
theorem ZaN {β:Type} {x:Nat} {u:β}:∀ {l:List (Nat × β)},lookN x l=some u->(x,u) ∈ l
 | [],h=>by exact nN h
 | p::r,h=>by
  rw [Zi3] at h
  generalize q:Nat.beq x p.1=wo at h
  cases wo with
  | true=>rw [cond_true] at h;have wq:=Option.some.inj h;clear h;subst wq;rw [Nat.eq_of_beq_eq_true q];exact .head _
  | false=>rw [cond_false] at h;exact .tail _ (ZaN h)
noncomputable def Zh0 (K:Frag) (x:Str) (v:MV):Prop:=x ≠ Str.ofString "__debug__"∧∃ rv,(∀ ν:Vn,V [] (v.sem ν) rv)∧(nsIn K mainGlobals x=some (some rv)∨(nsIn K mainGlobals x=some none∧bootBuiltins x=some rv∧x ≠ Str.ofString "__name__"))
theorem Zas {K:Frag} {x:Str} {a:Addr} (h1:seq x (Str.ofString "__debug__")=false) (h2:nsIn K mainGlobals x=some (some (.ref a))):Zh0 K x (.glob (.ref a)):=
 ⟨Zaj h1,_,λ_=>.glob _ rfl,.inl h2⟩
theorem Za4 {K:Frag} {x s:Str} {t:Tok} {l:List Nat} (h1:seq x (Str.ofString "__debug__")=false) (h2:nsIn K mainGlobals x=some (some (.str s t))) (h3:s.cps.toList=l):Zh0 K x (.str l):=
 ⟨Zaj h1,_,λ_=>by subst h3;show V [] (.str s.cps.toList) (.str s t);exact V.str s.cps.toList t,.inl h2⟩
theorem ZcJ {K:Frag} {x:Str} {v:Value} (h1:seq x (Str.ofString "__debug__")=false) (h0:seq x (Str.ofString "__name__")=false) (h2:nsIn K mainGlobals x=some none) (h3:bootBuiltins x=some v) (h4:handedIn v=true):Zh0 K x (.glob v):=
 ⟨Zaj h1,_,λ_=>.glob _ h4,.inr ⟨h2,h3,Zaj h0⟩⟩
noncomputable def fnT (st:Stmt) (ar:List Nat) (dfl:List MV):Fn:=⟨(stA st).args.map (·.arg),ar,dfl,stB st,stS st⟩
noncomputable def Zop:List Str->Bool
 | []=>true
 | x::r=>r.all (λy=>!(seq x y))&&Zop r
theorem ZcX:∀ {l:List Str},Zop l=true->l.Nodup
 | [],_=>.nil
 | x::r,h=>by
  refine e0_2 (Bool.and_eq_true_iff.mp h) λh1 h2=>?_
  refine List.nodup_cons.mpr ⟨λhm=>?_,ZcX h2⟩
  have:=List.all_eq_true.mp h1 x hm
  rw [seq_iff.mpr rfl] at this;exact nB this
noncomputable def ZpD (l:List (Str × NameKind)):Bool:=l.all λp=>match p.2 with | .cell=>false | _=>true
noncomputable def Zqh:Data->Bool
 | .func _=>true
 | _=>false
noncomputable def Zqi:Option Obj->Bool
 | some o=>Zqh o.data
 | none=>false
noncomputable def ZgQ (K:Frag) (a:Addr):Bool:=Zqi (K.lookup a)
theorem ZgR {K:Frag} {a:Addr} (h:ZgQ K a=true):keepIn K (.ref a)=true:=by
 unfold ZgQ at h
 unfold keepIn
 dsimp only
 generalize K.lookup a=wo at h ⊢
 revert wo;show Fa _ _;refine Opt.on_some zB0 (λo h=>?_)
 obtain ⟨c,os,dt,sl⟩:=o
 cases dt<;>first | exact nB h | rfl
noncomputable def Zn4 (f:Fn):Bool:=!f.sc.isCoroutine && !f.sc.isGenerator&&ZlE f.sc.kind&&ZpD f.sc.names&&f.params.all (λx=>Zah f.sc x && !(seq x (Str.ofString "__debug__")))&&Zop f.params
theorem ZgH {sc:Scope} {x:Str} (h:Zah sc x=true):sc.names.lookup x=some .local:=by
 unfold Zah at h
 rw [Zaz] at h
 generalize q:sc.names.lookup x=wo at h
 revert q;revert wo;show Fa _ _;refine Opt.on_some zB0 (λk h=>?_);intro q
 cases k<;>first | rfl | exact nB h
theorem Zhy {K:Frag} {a:Addr} {f:Fn} (c:Zn4 f=true) (k:ZgQ K a=true)
 (ex:∃ name qual params dV kV doc pm an cdv ct oc od osl,List.lookup a K=some ⟨oc,od,.func (PySem.W.fnOf name qual params f.body f.sc dV kV doc pm an cdv ct),osl⟩∧codeIn K cdv qual=true∧
  ∀ k ∈ f.ar,∃ ds,(∀ ν:Vn,VL [] ((f.dflts.drop (k+f.dflts.length-f.params.length)).map (MV.sem ν)) ds)∧k+ds.length=f.params.length∧
   ∀ (s:Shared) rvs,K.In s.heap->rvs.length=k->BindsTo s (PySem.W.fnOf name qual params f.body f.sc dV kV doc pm an cdv ct) ⟨rvs,[]⟩ (f.params.zip (rvs++ds))):FnOk K a f:=by
 unfold Zn4 at c
 simp only [Bool.and_eq_true,Bool.not_eq_true'] at c
 refine e0_2 c λwq c6=>?_;clear c;obtain ⟨⟨⟨⟨c1,c2⟩,c3⟩,c4⟩,c5⟩:=wq
 have c5':∀ x ∈ f.params,Zah f.sc x=true∧seq x (Str.ofString "__debug__")=false:=λx hx=>by simpa using List.all_eq_true.mp c5 x hx
 refine ⟨ex,c1,c2,?_,λx hx e=>?_,λx hx=>ZgH (c5' x hx).1,ZcX c6,λx hx=>Zaj (c5' x hx).2,ZgR k⟩
 ·refine byP λXX kX=>?_
  unfold ZlE at c3;split at c3
  ·refine kX ?_
   assumption
  ·exact nB c3
 ·have:=List.all_eq_true.mp c4 x hx
  rw [e] at this;exact nB this
theorem Zb3 {rvs:List Value} {k:Nat} (h:rvs.length=k+1):∃ r t,rvs=r::t∧t.length=k:=by
 cases rvs with
 | nil=>cases h
 | cons r t=>exact i2_2 r t rfl (by simpa using h)
theorem Zjv {rvs:List Value} (h:rvs.length=0):rvs=[]:=List.length_eq_zero_iff.mp h
theorem ZbD {K:Frag} {s:Shared} {fd:FuncData} {args:Args} {binds:List (Str × Value)} (hK:K.In s.heap) (e:∀ S,peek K S (bindArgs fd args)=some binds):BindsTo s fd args binds:=
 λ_ A E Q q=>Looks.of_peek hK (e _) A Q E s (λ_ _ e=>e) q
noncomputable def AllN:Nat->(List Value->Prop)->Prop
 | 0,P=>P []
 | n+1,P=>∀ r,AllN n λt=>P (r::t)
theorem Zjt:∀ {n:Nat} {P:List Value->Prop},AllN n P->∀ l,l.length=n->P l
 | 0,P,h,l,e=>by obtain rfl:=Zjv e;exact h
 | n+1,P,h,l,e=>by refine e2_2 (Zb3 e) λr t wq e2=>?_;subst wq;exact Zjt (h r) t e2
theorem Zaf {K:Frag} {a:Addr} {f:Fn} (n:Nat) (ds:List Value) (name qual:Str) (params:Arguments) (dV pm cdv:Value) (c:Zn4 f=true) (k:ZgQ K a=true) (har:f.ar=[n]) (hd:∀ ν:Vn,VL [] ((f.dflts.drop (n+f.dflts.length-f.params.length)).map (MV.sem ν)) ds) (hl:n+ds.length=f.params.length)
 (ho:List.lookup a K=some ⟨.type "function",none,.func (PySem.W.fnOf name qual params f.body f.sc dV .none .none pm none cdv .none),#[]⟩) (hc:codeIn K cdv qual=true) (hb:AllN n λrvs=>∀ S,peek K S (bindArgs (PySem.W.fnOf name qual params f.body f.sc dV .none .none pm none cdv .none) ⟨rvs,[]⟩)=some (f.params.zip (rvs++ds))):FnOk K a f:=
 Zhy c k ⟨name,qual,params,dV,.none,.none,pm,none,cdv,.none,_,_,_,ho,hc,λk hk=>by
  rw [har] at hk
  obtain rfl:=List.mem_singleton.mp hk
  exact i1_3 ds hd hl (λs rvs hK h=>ZbD hK (Zjt hb rvs h))⟩
noncomputable def ZhH (K:Frag) (C:Addr) (p:Str × Addr):Bool:=plainGet K C p.1&&decide (findIn K (.ref C) p.1=some (some (.ref p.2)))&&isFn K (.ref p.2)&&ZgQ K p.2
theorem Zkk {K:Frag} {C:Addr} {p:Str × Addr} (h:ZhH K C p=true):MethOk K C p.1 p.2:=by
 simp only [ZhH,Bool.and_eq_true,decide_eq_true_eq] at h
 exact ⟨h.1.1.1,h.1.1.2,h.1.2,ZgR h.2⟩
noncomputable def Zhm (K:Frag) (C:Addr) (x:Str):Bool:=(match findIn K (.ref C) x with | some a=>noGet K a | none=>false)&&(match takerIn K C x with | some none=>true | _=>false)
noncomputable def Zhn (K:Frag) (C:Addr):Bool:=plainGet K C (Str.ofString "x")&&hasDictIn K C&&decide (findIn K (.ref C) (Str.ofString "__setattr__")=some (some (.builtin "object.__setattr__")))&&plainOver K C
theorem Zjz {K:Frag} {C:Addr} {x:Str} (h:Zhn K C=true) (h':Zhm K C x=true):AttrOk K C x:=by
 simp only [Zhn,Zhm,Bool.and_eq_true,decide_eq_true_eq] at h h'
 refine ⟨h.1.1.1,h.1.1.2,?_,h.1.2,h.2,?_⟩
 ·refine byP λXX kX=>?_
  refine e0_2 h' λh1 _=>?_;clear h'
  split at h1
  ·refine kX ?_
   rename_i a e;exact i1_2 a e h1
  ·exact nB h1
 ·refine byP λXX kX=>?_
  refine e0_2 h' λ_ h2=>?_;clear h'
  split at h2
  ·refine kX ?_
   assumption
  ·exact nB h2
noncomputable def Zc4 (K:Frag) (C:Addr) (c:Cls):Bool:=makesIn K C&&decide (findIn K (.ref C) (Str.ofString "__init__")=some (some (.ref c.init)))&&isFn K (.ref c.init)&&keepIn K (.ref C)&&Zhn K C&&c.meths.all (ZhH K C)&&c.attrs.all (λp=>Zhm K C p.1)
theorem Zlk {K:Frag} {C:Addr} {c:Cls} (h:Zc4 K C c=true):ClsOk K C c.init∧(∀ x f,look x c.meths=some f->MethOk K C x f)∧(∀ x u,look x c.attrs=some u->AttrOk K C x):=by
 simp only [Zc4,Bool.and_eq_true,decide_eq_true_eq,List.all_eq_true] at h
 refine e0_2 h λwq h7=>?_;clear h;obtain ⟨⟨⟨⟨⟨h1,h2⟩,h3⟩,h4⟩,h5⟩,h6⟩:=wq
 refine i0_3 (⟨h1,h2,?_,h4⟩) (λx f e=>Zkk (h6 _ (Zdl e))) (λx u e=>Zjz h5 (h7 _ (Zdl e)))
 exact eq_of_beq (show (typeIn K (.ref c.init)==some (.type "function"))=true from h3)
end
end Mine
end
section
set_option tactic.hygienic true
namespace Mine
noncomputable section
noncomputable def Zm4:List (Str × MV):=
 ("WHITESPACE",.str [32])::
 ("WORD",.str [119])::
 ("SYMBOL",.str [95])::
 ("PUNCTUATION",.str [46])::
 ("OPENS",.str [40])::
 ("CLOSES",.str [41])::
 ("PREFIX",.str [39])::
 ("STRING",.str [34])::
 ("ESCAPE",.str [92])::
 ("QUOTES",.str [47])::
 ("BEGINS",.str [60])::
 ("ENDS",.str [62])::
 ("INHERITS",.str [64])::
 ("COMMENT_FENCE",.str [33])::
 ("STRING_FENCE",.str [124])::
 ("KINDS",.str [32,119,95,46,40,41,39,34,92,47,36,60,62,64,33,124])::
 ("FLAGS",.str [49,50,51,52,98,99,110,112])::
 ("ParseState",.glob (.ref 68))::
 ("state_of",.glob (.ref 79))::
 ("Syntax",.glob (.ref 144))::
 ("sorted_flags",.glob (.ref 153))::
 ("read_syntax",.glob (.ref 158))::
 ("SyntaxTable",.glob (.ref 225))::
 ("letters",.glob (.ref 236))::
 ("standard_table",.glob (.ref 243))::
 ("slash_table",.glob (.ref 250))::
 ("Mark",.glob (.ref 267))::
 ("syntax_at",.glob (.ref 278))::
 ("pair_style",.glob (.ref 285))::
 ("begin_mark",.glob (.ref 292))::
 ("end_mark",.glob (.ref 299))::
 ("fits",.glob (.ref 306))::
 ("Walk",.glob (.ref 442))::
 ("parse_partial",.glob (.ref 461))::
 ("TextRow",.glob (.ref 500))::
 ("_law_deck",.glob (.ref 509))::
 ("_law_draw",.glob (.ref 516))::
 ("_law_many",.glob (.ref 521))::
 ("_law_piece",.glob (.ref 528))::
 ("_law_plain",.glob (.ref 535))::
 ("_law_within",.glob (.ref 542))::
 ("_law_wordlike",.glob (.ref 543))::
 ("_law_states",.glob (.ref 550))::
 ("len",.glob (.builtin "len"))::
 ("min",.glob (.builtin "min"))::
 ("ord",.glob (.builtin "ord"))::
 ("all",.glob (.builtin "all"))::
 ("abs",.glob (.builtin "abs"))::
 ("sum",.glob (.builtin "sum"))::
 ("list",.glob (.type "list"))::
 ("tuple",.glob (.type "tuple"))::
 ("int",.glob (.type "int"))::
 ("range",.glob (.type "range"))::
 []
noncomputable def Zbo:Fn:=fnT (meth 2 0) [1,13] [(.glob (.ref 29)),(.int (.k 0)),(.int (.k 0)),.none,.none,.none,(.int (.k 0)),(.str []),(.bool false),.none,(.bool false),(.str [])]
noncomputable def Zbc:Fn:=fnT (meth 2 4) [1] []
noncomputable def Zez:Fn:=fnT (top 3) [1] []
noncomputable def ZcE:Fn:=fnT (meth 24 0) [4] []
noncomputable def Zc8:Fn:=fnT (meth 24 1) [2] []
noncomputable def Zbe:Fn:=fnT (meth 24 2) [1] []
noncomputable def ZaR:Fn:=fnT (meth 24 3) [1] []
noncomputable def Zcc:Fn:=fnT (meth 24 4) [1] []
noncomputable def ZcF:Fn:=fnT (top 26) [1] []
noncomputable def Zbd:Fn:=fnT (meth 27 0) [1,2] [.none]
noncomputable def ZaH:Fn:=fnT (meth 27 2) [3] []
noncomputable def Zbp:Fn:=fnT (meth 27 4) [2] []
noncomputable def ZaU:Fn:=fnT (meth 27 5) [2] []
noncomputable def Zfs:Fn:=fnT (top 28) [0] []
noncomputable def ZbF:Fn:=fnT (top 29) [0] []
noncomputable def Za0:Fn:=fnT (top 30) [0] []
noncomputable def ZdV:Fn:=fnT (meth 32 0) [5] []
noncomputable def Zd1:Fn:=fnT (top 33) [3] []
noncomputable def Zdf:Fn:=fnT (top 34) [2] []
noncomputable def Zdc:Fn:=fnT (top 35) [3] []
noncomputable def Zew:Fn:=fnT (top 36) [3] []
noncomputable def ZjY:Fn:=fnT (top 37) [4] []
noncomputable def ZdW:Fn:=fnT (meth 39 0) [5] []
noncomputable def Zdb:Fn:=fnT (meth 39 1) [1] []
noncomputable def Zda:Fn:=fnT (meth 39 2) [1] []
noncomputable def ZbZ:Fn:=fnT (meth 39 3) [1] []
noncomputable def Zbr:Fn:=fnT (meth 39 4) [1] []
noncomputable def Zce:Fn:=fnT (meth 39 5) [2] []
noncomputable def Zc9:Fn:=fnT (meth 39 6) [1] []
noncomputable def Za2:Fn:=fnT (meth 39 7) [3] []
noncomputable def Za3:Fn:=fnT (meth 39 8) [1] []
noncomputable def Za9:Fn:=fnT (meth 39 9) [2] []
noncomputable def Zbs:Fn:=fnT (meth 39 10) [1] []
noncomputable def ZdY:Fn:=fnT (meth 39 11) [4] []
noncomputable def ZaP:Fn:=fnT (meth 39 12) [2] []
noncomputable def ZaS:Fn:=fnT (meth 39 13) [1] []
noncomputable def Zbf:Fn:=fnT (meth 39 14) [1] []
noncomputable def Zbt:Fn:=fnT (meth 39 15) [2] []
noncomputable def Zba:Fn:=fnT (meth 39 16) [2] []
noncomputable def ZdX:Fn:=fnT (meth 39 17) [2] []
noncomputable def Zb0:Fn:=fnT (top 41) [5] [.none,.none,(.bool false),(.bool false)]
noncomputable def Zcd:Fn:=fnT (meth 43 0) [2] [(.int (.k 1))]
noncomputable def Zbq:Fn:=fnT (meth 43 3) [2] []
noncomputable def Zex:Fn:=fnT (top 45) [1] []
noncomputable def ZcN:Fn:=fnT (top 46) [2] []
noncomputable def Zey:Fn:=fnT (top 47) [3] []
noncomputable def ZdZ:Fn:=fnT (top 48) [2] []
noncomputable def Zd0:Fn:=fnT (top 49) [1] []
noncomputable def Zde:Fn:=fnT (top 50) [5] []
noncomputable def Zdd:Fn:=fnT (top 52) [1] []
noncomputable def fnsT:List (Addr × Fn):=
 (37,Zbo)::
 (65,Zbc)::
 (79,Zez)::
 (113,ZcE)::
 (120,Zc8)::
 (127,Zbe)::
 (134,ZaR)::
 (141,Zcc)::
 (158,ZcF)::
 (173,Zbd)::
 (187,ZaH)::
 (201,Zbp)::
 (208,ZaU)::
 (236,Zfs)::
 (243,ZbF)::
 (250,Za0)::
 (264,ZdV)::
 (278,Zd1)::
 (285,Zdf)::
 (292,Zdc)::
 (299,Zew)::
 (306,ZjY)::
 (320,ZdW)::
 (327,Zdb)::
 (334,Zda)::
 (341,ZbZ)::
 (348,Zbr)::
 (355,Zce)::
 (362,Zc9)::
 (369,Za2)::
 (376,Za3)::
 (383,Za9)::
 (390,Zbs)::
 (397,ZdY)::
 (404,ZaP)::
 (411,ZaS)::
 (418,Zbf)::
 (425,Zbt)::
 (432,Zba)::
 (439,ZdX)::
 (461,Zb0)::
 (476,Zcd)::
 (497,Zbq)::
 (509,Zex)::
 (516,ZcN)::
 (521,Zey)::
 (528,ZdZ)::
 (535,Zd0)::
 (542,Zde)::
 (550,Zdd)::
 []
noncomputable def at9 (l:List String):List (Str × Unit):=l.map λp=>(Str.ofString p,())
noncomputable def ZcD:Cls:=⟨37,[("items",65)],at9 ["opens","below","least","whole","word","string","comment","style","nests","start","quoted","half"]⟩
noncomputable def Zfn:Cls:=⟨113,[("has",120),("is_escape",127),("is_word_part",134),("style",141)],at9 ["kind","match","flags"]⟩
noncomputable def Zb7:Cls:=⟨173,[("modify_all",187),("own",201),("at",208)],at9 ["parent","rows"]⟩
noncomputable def Zh7:Cls:=⟨264,[],at9 ["length","style","nests","is_fence"]⟩
noncomputable def Zh8:Cls:=⟨320,[("state",327),("depth",334),("end_word",341),("begin_word",348),("open_at",355),("close",362),("begin_comment",369),("leave_comment",376),("begin_string",383),("end_string",390),("take",397),("step_in_comment",404),("step_in_string",411),("finish_half",418),("step_plain",425),("step_by_kind",432),("step",439)],at9 ["view","table","place","opens","below","least","whole","word","string","comment","style","nests","start","quoted","half"]⟩
noncomputable def Zes:Cls:=⟨476,[("code_at",497)],at9 ["codes","place"]⟩
noncomputable def clsT:List (Addr × Cls):=[(68,ZcD),(144,Zfn),(225,Zb7),(267,Zh7),(442,Zh8),(500,Zes)]
noncomputable def Zp0:List (Addr × List (List Nat)):=[(29,[]),(543,[[119,111,114,100],[101,115,99,97,112,101]])]
noncomputable def tabT (base:List MO) (sums:List (Addr × (List MV->St->Option (Res MV)))) (ops:List (Operator × Lin × Lin × Nat)):Tab:=⟨Zm4,fnsT,clsT,Zp0,base,sums,ops⟩
end
end Mine
end
section
namespace Mine
variable (P:Params)
theorem ZlX:AllP (λp=>Zh0 (KF P) p.1 p.2) Zm4:=
 ⟨Za4 (s:=" ") (t:=335) (by kernel_rfl) (by kernel_rfl) (by kernel_rfl),
 Za4 (s:="w") (t:=337) (by kernel_rfl) (by kernel_rfl) (by kernel_rfl),
 Za4 (s:="_") (t:=339) (by kernel_rfl) (by kernel_rfl) (by kernel_rfl),
 Za4 (s:=".") (t:=341) (by kernel_rfl) (by kernel_rfl) (by kernel_rfl),
 Za4 (s:="(") (t:=343) (by kernel_rfl) (by kernel_rfl) (by kernel_rfl),
 Za4 (s:=")") (t:=345) (by kernel_rfl) (by kernel_rfl) (by kernel_rfl),
 Za4 (s:="'") (t:=347) (by kernel_rfl) (by kernel_rfl) (by kernel_rfl),
 Za4 (s:="\"") (t:=349) (by kernel_rfl) (by kernel_rfl) (by kernel_rfl),
 Za4 (s:="\\") (t:=351) (by kernel_rfl) (by kernel_rfl) (by kernel_rfl),
 Za4 (s:="/") (t:=353) (by kernel_rfl) (by kernel_rfl) (by kernel_rfl),
 Za4 (s:="<") (t:=355) (by kernel_rfl) (by kernel_rfl) (by kernel_rfl),
 Za4 (s:=">") (t:=357) (by kernel_rfl) (by kernel_rfl) (by kernel_rfl),
 Za4 (s:="@") (t:=359) (by kernel_rfl) (by kernel_rfl) (by kernel_rfl),
 Za4 (s:="!") (t:=361) (by kernel_rfl) (by kernel_rfl) (by kernel_rfl),
 Za4 (s:="|") (t:=363) (by kernel_rfl) (by kernel_rfl) (by kernel_rfl),
 Za4 (s:=" w_.()'\"\\/$<>@!|") (t:=365) (by kernel_rfl) (by kernel_rfl) (by kernel_rfl),
 Za4 (s:="1234bcnp") (t:=367) (by kernel_rfl) (by kernel_rfl) (by kernel_rfl),
 Zas (by kernel_rfl) (by kernel_rfl),
 Zas (by kernel_rfl) (by kernel_rfl),
 Zas (by kernel_rfl) (by kernel_rfl),
 Zas (by kernel_rfl) (by kernel_rfl),
 Zas (by kernel_rfl) (by kernel_rfl),
 Zas (by kernel_rfl) (by kernel_rfl),
 Zas (by kernel_rfl) (by kernel_rfl),
 Zas (by kernel_rfl) (by kernel_rfl),
 Zas (by kernel_rfl) (by kernel_rfl),
 Zas (by kernel_rfl) (by kernel_rfl),
 Zas (by kernel_rfl) (by kernel_rfl),
 Zas (by kernel_rfl) (by kernel_rfl),
 Zas (by kernel_rfl) (by kernel_rfl),
 Zas (by kernel_rfl) (by kernel_rfl),
 Zas (by kernel_rfl) (by kernel_rfl),
 Zas (by kernel_rfl) (by kernel_rfl),
 Zas (by kernel_rfl) (by kernel_rfl),
 Zas (by kernel_rfl) (by kernel_rfl),
 Zas (by kernel_rfl) (by kernel_rfl),
 Zas (by kernel_rfl) (by kernel_rfl),
 Zas (by kernel_rfl) (by kernel_rfl),
 Zas (by kernel_rfl) (by kernel_rfl),
 Zas (by kernel_rfl) (by kernel_rfl),
 Zas (by kernel_rfl) (by kernel_rfl),
 Zas (by kernel_rfl) (by kernel_rfl),
 Zas (by kernel_rfl) (by kernel_rfl),
 ZcJ (by kernel_rfl) (by kernel_rfl) (by kernel_rfl) (by kernel_rfl) rfl,
 ZcJ (by kernel_rfl) (by kernel_rfl) (by kernel_rfl) (by kernel_rfl) rfl,
 ZcJ (by kernel_rfl) (by kernel_rfl) (by kernel_rfl) (by kernel_rfl) rfl,
 ZcJ (by kernel_rfl) (by kernel_rfl) (by kernel_rfl) (by kernel_rfl) rfl,
 ZcJ (by kernel_rfl) (by kernel_rfl) (by kernel_rfl) (by kernel_rfl) rfl,
 ZcJ (by kernel_rfl) (by kernel_rfl) (by kernel_rfl) (by kernel_rfl) rfl,
 ZcJ (by kernel_rfl) (by kernel_rfl) (by kernel_rfl) (by kernel_rfl) rfl,
 ZcJ (by kernel_rfl) (by kernel_rfl) (by kernel_rfl) (by kernel_rfl) rfl,
 ZcJ (by kernel_rfl) (by kernel_rfl) (by kernel_rfl) (by kernel_rfl) rfl,
 ZcJ (by kernel_rfl) (by kernel_rfl) (by kernel_rfl) (by kernel_rfl) rfl,trivial⟩
theorem Zdp:FnOk (KF P) 37 Zbo:=by
 refine Zhy (by kernel_rfl) (by kernel_rfl) ⟨"__init__","ParseState.__init__",stA (meth 2 0),(.ref 30),.none,.none,(.str "emacs.parsestate" 194),none,(.ref 36),.none,.type "function",none,#[],by kernel_rfl,by kernel_rfl,λk hk=>?_⟩
 rcases List.mem_cons.mp hk with rfl | hk
 ·refine ⟨[(.ref 29),(.int 0 208),(.int 0 209),.none,.none,.none,(.int 0 210),(.str "" 211),(.bool false),.none,(.bool false),(.str "" 212)],λν=>.cons (.glob _ rfl) (.cons (V.int _ _) (.cons (V.int _ _) (.cons (.none) (.cons (.none) (.cons (.none) (.cons (V.int _ _) (.cons (V.str [] _) (.cons (.bool _) (.cons (.none) (.cons (.bool _) (.cons (V.str [] _) (.nil)))))))))))),rfl,λs t0 hK h0=>?_⟩
  obtain ⟨r0,t1,rfl,h1⟩:=Zb3 h0
  obtain rfl:=Zjv h1
  exact ZbD hK (λS=>by kernel_rfl)
 obtain rfl:k=13:=List.mem_singleton.mp hk
 refine ⟨[],λν=>.nil,rfl,λs t0 hK h0=>?_⟩
 obtain ⟨r0,t1,rfl,h1⟩:=Zb3 h0
 obtain ⟨r1,t2,rfl,h2⟩:=Zb3 h1
 obtain ⟨r2,t3,rfl,h3⟩:=Zb3 h2
 obtain ⟨r3,t4,rfl,h4⟩:=Zb3 h3
 obtain ⟨r4,t5,rfl,h5⟩:=Zb3 h4
 obtain ⟨r5,t6,rfl,h6⟩:=Zb3 h5
 obtain ⟨r6,t7,rfl,h7⟩:=Zb3 h6
 obtain ⟨r7,t8,rfl,h8⟩:=Zb3 h7
 obtain ⟨r8,t9,rfl,h9⟩:=Zb3 h8
 obtain ⟨r9,t10,rfl,h10⟩:=Zb3 h9
 obtain ⟨r10,t11,rfl,h11⟩:=Zb3 h10
 obtain ⟨r11,t12,rfl,h12⟩:=Zb3 h11
 obtain ⟨r12,t13,rfl,h13⟩:=Zb3 h12
 obtain rfl:=Zjv h13
 exact ZbD hK (λS=>by kernel_rfl)
theorem ZcQ:FnOk (KF P) 65 Zbc:=Zaf 1 [] "items" "ParseState.items" (stA (meth 2 4)) .none (.str "emacs.parsestate" 194) (.ref 64) (by kernel_rfl) (by kernel_rfl) rfl (λ_=>.nil) rfl (by kernel_rfl) (by kernel_rfl) (λ_ _=>by kernel_rfl)
theorem ZhK:FnOk (KF P) 79 Zez:=Zaf 1 [] "state_of" "state_of" (stA (top 3)) .none (.str "emacs.parsestate" 194) (.ref 78) (by kernel_rfl) (by kernel_rfl) rfl (λ_=>.nil) rfl (by kernel_rfl) (by kernel_rfl) (λ_ _=>by kernel_rfl)
theorem Ze7:FnOk (KF P) 113 ZcE:=Zaf 4 [] "__init__" "Syntax.__init__" (stA (meth 24 0)) .none (.str "emacs.syntax" 333) (.ref 112) (by kernel_rfl) (by kernel_rfl) rfl (λ_=>.nil) rfl (by kernel_rfl) (by kernel_rfl) (λ_ _ _ _ _=>by kernel_rfl)
theorem Zf3:FnOk (KF P) 120 Zc8:=Zaf 2 [] "has" "Syntax.has" (stA (meth 24 1)) .none (.str "emacs.syntax" 333) (.ref 119) (by kernel_rfl) (by kernel_rfl) rfl (λ_=>.nil) rfl (by kernel_rfl) (by kernel_rfl) (λ_ _ _=>by kernel_rfl)
theorem ZcS:FnOk (KF P) 127 Zbe:=Zaf 1 [] "is_escape" "Syntax.is_escape" (stA (meth 24 2)) .none (.str "emacs.syntax" 333) (.ref 126) (by kernel_rfl) (by kernel_rfl) rfl (λ_=>.nil) rfl (by kernel_rfl) (by kernel_rfl) (λ_ _=>by kernel_rfl)
theorem Zb4:FnOk (KF P) 134 ZaR:=Zaf 1 [] "is_word_part" "Syntax.is_word_part" (stA (meth 24 3)) .none (.str "emacs.syntax" 333) (.ref 133) (by kernel_rfl) (by kernel_rfl) rfl (λ_=>.nil) rfl (by kernel_rfl) (by kernel_rfl) (λ_ _=>by kernel_rfl)
theorem ZeL:FnOk (KF P) 141 Zcc:=Zaf 1 [] "style" "Syntax.style" (stA (meth 24 4)) .none (.str "emacs.syntax" 333) (.ref 140) (by kernel_rfl) (by kernel_rfl) rfl (λ_=>.nil) rfl (by kernel_rfl) (by kernel_rfl) (λ_ _=>by kernel_rfl)
theorem Ze8:FnOk (KF P) 158 ZcF:=Zaf 1 [] "read_syntax" "read_syntax" (stA (top 26)) .none (.str "emacs.syntax" 333) (.ref 157) (by kernel_rfl) (by kernel_rfl) rfl (λ_=>.nil) rfl (by kernel_rfl) (by kernel_rfl) (λ_ _=>by kernel_rfl)
theorem ZcR:FnOk (KF P) 173 Zbd:=by
 refine Zhy (by kernel_rfl) (by kernel_rfl) ⟨"__init__","SyntaxTable.__init__",stA (meth 27 0),(.ref 166),.none,.none,(.str "emacs.syntax" 333),none,(.ref 172),.none,.type "function",none,#[],by kernel_rfl,by kernel_rfl,λk hk=>?_⟩
 rcases List.mem_cons.mp hk with rfl | hk
 ·refine ⟨[.none],λν=>.cons (.none) (.nil),rfl,λs t0 hK h0=>?_⟩
  obtain ⟨r0,t1,rfl,h1⟩:=Zb3 h0
  obtain rfl:=Zjv h1
  exact ZbD hK (λS=>by kernel_rfl)
 obtain rfl:k=2:=List.mem_singleton.mp hk
 refine ⟨[],λν=>.nil,rfl,λs t0 hK h0=>?_⟩
 obtain ⟨r0,t1,rfl,h1⟩:=Zb3 h0
 obtain ⟨r1,t2,rfl,h2⟩:=Zb3 h1
 obtain rfl:=Zjv h2
 exact ZbD hK (λS=>by kernel_rfl)
theorem Zbz:FnOk (KF P) 187 ZaH:=Zaf 3 [] "modify_all" "SyntaxTable.modify_all" (stA (meth 27 2)) .none (.str "emacs.syntax" 333) (.ref 186) (by kernel_rfl) (by kernel_rfl) rfl (λ_=>.nil) rfl (by kernel_rfl) (by kernel_rfl) (λ_ _ _ _=>by kernel_rfl)
theorem Zdq:FnOk (KF P) 201 Zbp:=Zaf 2 [] "own" "SyntaxTable.own" (stA (meth 27 4)) .none (.str "emacs.syntax" 333) (.ref 200) (by kernel_rfl) (by kernel_rfl) rfl (λ_=>.nil) rfl (by kernel_rfl) (by kernel_rfl) (λ_ _ _=>by kernel_rfl)
theorem ZaW:FnOk (KF P) 208 ZaU:=Zaf 2 [] "at" "SyntaxTable.at" (stA (meth 27 5)) .none (.str "emacs.syntax" 333) (.ref 207) (by kernel_rfl) (by kernel_rfl) rfl (λ_=>.nil) rfl (by kernel_rfl) (by kernel_rfl) (λ_ _ _=>by kernel_rfl)
theorem Zi6:FnOk (KF P) 236 Zfs:=Zaf 0 [] "letters" "letters" (stA (top 28)) .none (.str "emacs.syntax" 333) (.ref 235) (by kernel_rfl) (by kernel_rfl) rfl (λ_=>.nil) rfl (by kernel_rfl) (by kernel_rfl) (λ _=>by kernel_rfl)
theorem ZdP:FnOk (KF P) 243 ZbF:=Zaf 0 [] "standard_table" "standard_table" (stA (top 29)) .none (.str "emacs.syntax" 333) (.ref 242) (by kernel_rfl) (by kernel_rfl) rfl (λ_=>.nil) rfl (by kernel_rfl) (by kernel_rfl) (λ _=>by kernel_rfl)
theorem ZbA:FnOk (KF P) 250 Za0:=Zaf 0 [] "slash_table" "slash_table" (stA (top 30)) .none (.str "emacs.syntax" 333) (.ref 249) (by kernel_rfl) (by kernel_rfl) rfl (λ_=>.nil) rfl (by kernel_rfl) (by kernel_rfl) (λ _=>by kernel_rfl)
theorem Zg3:FnOk (KF P) 264 ZdV:=Zaf 5 [] "__init__" "Mark.__init__" (stA (meth 32 0)) .none (.str "emacs.syntaxpairs" 559) (.ref 263) (by kernel_rfl) (by kernel_rfl) rfl (λ_=>.nil) rfl (by kernel_rfl) (by kernel_rfl) (λ_ _ _ _ _ _=>by kernel_rfl)
theorem Zg9:FnOk (KF P) 278 Zd1:=Zaf 3 [] "syntax_at" "syntax_at" (stA (top 33)) .none (.str "emacs.syntaxpairs" 559) (.ref 277) (by kernel_rfl) (by kernel_rfl) rfl (λ_=>.nil) rfl (by kernel_rfl) (by kernel_rfl) (λ_ _ _ _=>by kernel_rfl)
theorem Zf9:FnOk (KF P) 285 Zdf:=Zaf 2 [] "pair_style" "pair_style" (stA (top 34)) .none (.str "emacs.syntaxpairs" 559) (.ref 284) (by kernel_rfl) (by kernel_rfl) rfl (λ_=>.nil) rfl (by kernel_rfl) (by kernel_rfl) (λ_ _ _=>by kernel_rfl)
theorem Zf7:FnOk (KF P) 292 Zdc:=Zaf 3 [] "begin_mark" "begin_mark" (stA (top 35)) .none (.str "emacs.syntaxpairs" 559) (.ref 291) (by kernel_rfl) (by kernel_rfl) rfl (λ_=>.nil) rfl (by kernel_rfl) (by kernel_rfl) (λ_ _ _ _=>by kernel_rfl)
theorem ZhJ:FnOk (KF P) 299 Zew:=Zaf 3 [] "end_mark" "end_mark" (stA (top 36)) .none (.str "emacs.syntaxpairs" 559) (.ref 298) (by kernel_rfl) (by kernel_rfl) rfl (λ_=>.nil) rfl (by kernel_rfl) (by kernel_rfl) (λ_ _ _ _=>by kernel_rfl)
theorem Zoo:FnOk (KF P) 306 ZjY:=Zaf 4 [] "fits" "fits" (stA (top 37)) .none (.str "emacs.syntaxpairs" 559) (.ref 305) (by kernel_rfl) (by kernel_rfl) rfl (λ_=>.nil) rfl (by kernel_rfl) (by kernel_rfl) (λ_ _ _ _ _=>by kernel_rfl)
theorem Zg4:FnOk (KF P) 320 ZdW:=Zaf 5 [] "__init__" "Walk.__init__" (stA (meth 39 0)) .none (.str "emacs.parse" 647) (.ref 319) (by kernel_rfl) (by kernel_rfl) rfl (λ_=>.nil) rfl (by kernel_rfl) (by kernel_rfl) (λ_ _ _ _ _ _=>by kernel_rfl)
theorem Zf6:FnOk (KF P) 327 Zdb:=Zaf 1 [] "state" "Walk.state" (stA (meth 39 1)) .none (.str "emacs.parse" 647) (.ref 326) (by kernel_rfl) (by kernel_rfl) rfl (λ_=>.nil) rfl (by kernel_rfl) (by kernel_rfl) (λ_ _=>by kernel_rfl)
theorem Zf5:FnOk (KF P) 334 Zda:=Zaf 1 [] "depth" "Walk.depth" (stA (meth 39 2)) .none (.str "emacs.parse" 647) (.ref 333) (by kernel_rfl) (by kernel_rfl) rfl (λ_=>.nil) rfl (by kernel_rfl) (by kernel_rfl) (λ_ _=>by kernel_rfl)
theorem Zea:FnOk (KF P) 341 ZbZ:=Zaf 1 [] "end_word" "Walk.end_word" (stA (meth 39 3)) .none (.str "emacs.parse" 647) (.ref 340) (by kernel_rfl) (by kernel_rfl) rfl (λ_=>.nil) rfl (by kernel_rfl) (by kernel_rfl) (λ_ _=>by kernel_rfl)
theorem Zds:FnOk (KF P) 348 Zbr:=Zaf 1 [] "begin_word" "Walk.begin_word" (stA (meth 39 4)) .none (.str "emacs.parse" 647) (.ref 347) (by kernel_rfl) (by kernel_rfl) rfl (λ_=>.nil) rfl (by kernel_rfl) (by kernel_rfl) (λ_ _=>by kernel_rfl)
theorem ZeN:FnOk (KF P) 355 Zce:=Zaf 2 [] "open_at" "Walk.open_at" (stA (meth 39 5)) .none (.str "emacs.parse" 647) (.ref 354) (by kernel_rfl) (by kernel_rfl) rfl (λ_=>.nil) rfl (by kernel_rfl) (by kernel_rfl) (λ_ _ _=>by kernel_rfl)
theorem Zf4:FnOk (KF P) 362 Zc9:=Zaf 1 [] "close" "Walk.close" (stA (meth 39 6)) .none (.str "emacs.parse" 647) (.ref 361) (by kernel_rfl) (by kernel_rfl) rfl (λ_=>.nil) rfl (by kernel_rfl) (by kernel_rfl) (λ_ _=>by kernel_rfl)
theorem Zci:FnOk (KF P) 369 Za2:=Zaf 3 [] "begin_comment" "Walk.begin_comment" (stA (meth 39 7)) .none (.str "emacs.parse" 647) (.ref 368) (by kernel_rfl) (by kernel_rfl) rfl (λ_=>.nil) rfl (by kernel_rfl) (by kernel_rfl) (λ_ _ _ _=>by kernel_rfl)
theorem Zcj:FnOk (KF P) 376 Za3:=Zaf 1 [] "leave_comment" "Walk.leave_comment" (stA (meth 39 8)) .none (.str "emacs.parse" 647) (.ref 375) (by kernel_rfl) (by kernel_rfl) rfl (λ_=>.nil) rfl (by kernel_rfl) (by kernel_rfl) (λ_ _=>by kernel_rfl)
theorem ZcB:FnOk (KF P) 383 Za9:=Zaf 2 [] "begin_string" "Walk.begin_string" (stA (meth 39 9)) .none (.str "emacs.parse" 647) (.ref 382) (by kernel_rfl) (by kernel_rfl) rfl (λ_=>.nil) rfl (by kernel_rfl) (by kernel_rfl) (λ_ _ _=>by kernel_rfl)
theorem Zdt:FnOk (KF P) 390 Zbs:=Zaf 1 [] "end_string" "Walk.end_string" (stA (meth 39 10)) .none (.str "emacs.parse" 647) (.ref 389) (by kernel_rfl) (by kernel_rfl) rfl (λ_=>.nil) rfl (by kernel_rfl) (by kernel_rfl) (λ_ _=>by kernel_rfl)
theorem Zg6:FnOk (KF P) 397 ZdY:=Zaf 4 [] "take" "Walk.take" (stA (meth 39 11)) .none (.str "emacs.parse" 647) (.ref 396) (by kernel_rfl) (by kernel_rfl) rfl (λ_=>.nil) rfl (by kernel_rfl) (by kernel_rfl) (λ_ _ _ _ _=>by kernel_rfl)
theorem ZbU:FnOk (KF P) 404 ZaP:=Zaf 2 [] "step_in_comment" "Walk.step_in_comment" (stA (meth 39 12)) .none (.str "emacs.parse" 647) (.ref 403) (by kernel_rfl) (by kernel_rfl) rfl (λ_=>.nil) rfl (by kernel_rfl) (by kernel_rfl) (λ_ _ _=>by kernel_rfl)
theorem Zb5:FnOk (KF P) 411 ZaS:=Zaf 1 [] "step_in_string" "Walk.step_in_string" (stA (meth 39 13)) .none (.str "emacs.parse" 647) (.ref 410) (by kernel_rfl) (by kernel_rfl) rfl (λ_=>.nil) rfl (by kernel_rfl) (by kernel_rfl) (λ_ _=>by kernel_rfl)
theorem ZcT:FnOk (KF P) 418 Zbf:=Zaf 1 [] "finish_half" "Walk.finish_half" (stA (meth 39 14)) .none (.str "emacs.parse" 647) (.ref 417) (by kernel_rfl) (by kernel_rfl) rfl (λ_=>.nil) rfl (by kernel_rfl) (by kernel_rfl) (λ_ _=>by kernel_rfl)
theorem Zdu:FnOk (KF P) 425 Zbt:=Zaf 2 [] "step_plain" "Walk.step_plain" (stA (meth 39 15)) .none (.str "emacs.parse" 647) (.ref 424) (by kernel_rfl) (by kernel_rfl) rfl (λ_=>.nil) rfl (by kernel_rfl) (by kernel_rfl) (λ_ _ _=>by kernel_rfl)
theorem ZcC:FnOk (KF P) 432 Zba:=Zaf 2 [] "step_by_kind" "Walk.step_by_kind" (stA (meth 39 16)) .none (.str "emacs.parse" 647) (.ref 431) (by kernel_rfl) (by kernel_rfl) rfl (λ_=>.nil) rfl (by kernel_rfl) (by kernel_rfl) (λ_ _ _=>by kernel_rfl)
theorem Zg5:FnOk (KF P) 439 ZdX:=Zaf 2 [] "step" "Walk.step" (stA (meth 39 17)) .none (.str "emacs.parse" 647) (.ref 438) (by kernel_rfl) (by kernel_rfl) rfl (λ_=>.nil) rfl (by kernel_rfl) (by kernel_rfl) (λ_ _ _=>by kernel_rfl)
theorem Zeb:FnOk (KF P) 461 Zb0:=Zaf 5 [.none,(.bool false),(.bool false)] "parse_partial" "parse_partial" (stA (top 41)) (.ref 454) (.str "emacs.parse" 647) (.ref 460) (by kernel_rfl) (by kernel_rfl) rfl (λ_=>.cons (.none) (.cons (.bool _) (.cons (.bool _) (.nil)))) rfl (by kernel_rfl) (by kernel_rfl) (λ_ _ _ _ _ _=>by kernel_rfl)
theorem ZeM:FnOk (KF P) 476 Zcd:=Zaf 2 [(.int 1 873)] "__init__" "TextRow.__init__" (stA (meth 43 0)) (.ref 469) (.str "emacs.textrow" 859) (.ref 475) (by kernel_rfl) (by kernel_rfl) rfl (λ_=>.cons (V.int _ _) (.nil)) rfl (by kernel_rfl) (by kernel_rfl) (λ_ _ _=>by kernel_rfl)
theorem Zdr:FnOk (KF P) 497 Zbq:=Zaf 2 [] "code_at" "TextRow.code_at" (stA (meth 43 3)) .none (.str "emacs.textrow" 859) (.ref 496) (by kernel_rfl) (by kernel_rfl) rfl (λ_=>.nil) rfl (by kernel_rfl) (by kernel_rfl) (λ_ _ _=>by kernel_rfl)
theorem ZcU:FnOk (KF P) 509 Zex:=Zaf 1 [] "_law_deck" "_law_deck" (stA (top 45)) .none (.str "law_np0083_01" 915) (.ref 508) (by kernel_rfl) (by kernel_rfl) rfl (λ_=>.nil) rfl (by kernel_rfl) (by kernel_rfl) (λ_ _=>by kernel_rfl)
theorem ZcV:FnOk (KF P) 516 ZcN:=Zaf 2 [] "_law_draw" "_law_draw" (stA (top 46)) .none (.str "law_np0083_01" 915) (.ref 515) (by kernel_rfl) (by kernel_rfl) rfl (λ_=>.nil) rfl (by kernel_rfl) (by kernel_rfl) (λ_ _ _=>by kernel_rfl)
theorem ZcW:FnOk (KF P) 521 Zey:=Zaf 3 [] "_law_many" "_law_many" (stA (top 47)) .none (.str "law_np0083_01" 915) (.ref 520) (by kernel_rfl) (by kernel_rfl) rfl (λ_=>.nil) rfl (by kernel_rfl) (by kernel_rfl) (λ_ _ _ _=>by kernel_rfl)
theorem Zg7:FnOk (KF P) 528 ZdZ:=Zaf 2 [] "_law_piece" "_law_piece" (stA (top 48)) .none (.str "law_np0083_01" 915) (.ref 527) (by kernel_rfl) (by kernel_rfl) rfl (λ_=>.nil) rfl (by kernel_rfl) (by kernel_rfl) (λ_ _ _=>by kernel_rfl)
theorem Zg8:FnOk (KF P) 535 Zd0:=Zaf 1 [] "_law_plain" "_law_plain" (stA (top 49)) .none (.str "law_np0083_01" 915) (.ref 534) (by kernel_rfl) (by kernel_rfl) rfl (λ_=>.nil) rfl (by kernel_rfl) (by kernel_rfl) (λ_ _=>by kernel_rfl)
theorem Zf8:FnOk (KF P) 542 Zde:=Zaf 5 [] "_law_within" "_law_within" (stA (top 50)) .none (.str "law_np0083_01" 915) (.ref 541) (by kernel_rfl) (by kernel_rfl) rfl (λ_=>.nil) rfl (by kernel_rfl) (by kernel_rfl) (λ_ _ _ _ _ _=>by kernel_rfl)
theorem ZbV:FnOk (KF P) 550 Zdd:=Zaf 1 [] "_law_states" "_law_states" (stA (top 52)) .none (.str "law_np0083_01" 915) (.ref 549) (by kernel_rfl) (by kernel_rfl) rfl (λ_=>.nil) rfl (by kernel_rfl) (by kernel_rfl) (λ_ _=>by kernel_rfl)
theorem Zpp:AllP (λp=>FnOk (KF P) p.1 p.2) fnsT:=
 ⟨Zdp P,ZcQ P,ZhK P,Ze7 P,Zf3 P,ZcS P,Zb4 P,ZeL P,Ze8 P,ZcR P,Zbz P,Zdq P,ZaW P,Zi6 P,ZdP P,ZbA P,Zg3 P,Zg9 P,Zf9 P,Zf7 P,ZhJ P,Zoo P,Zg4 P,Zf6 P,Zf5 P,Zea P,Zds P,ZeN P,Zf4 P,Zci P,Zcj P,ZcB P,Zdt P,Zg6 P,ZbU P,Zb5 P,ZcT P,Zdu P,ZcC P,Zg5 P,Zeb P,ZeM P,Zdr P,ZcU P,ZcV P,ZcW P,Zg7 P,Zg8 P,Zf8 P,ZbV P,trivial⟩
theorem Ze9:Zc4 (KF P) 68 ZcD=true:=by kernel_rfl
theorem Zi7:Zc4 (KF P) 144 Zfn=true:=by kernel_rfl
theorem ZeO:Zc4 (KF P) 225 Zb7=true:=by kernel_rfl
theorem Zl0:Zc4 (KF P) 267 Zh7=true:=by kernel_rfl
theorem Zl1:Zc4 (KF P) 442 Zh8=true:=by kernel_rfl
theorem ZhL:Zc4 (KF P) 500 Zes=true:=by kernel_rfl
theorem Zpd:AllP (λp=>Zc4 (KF P) p.1 p.2=true) clsT:=
 ⟨Ze9 P,Zi7 P,ZeO P,Zl0 P,Zl1 P,ZhL P,trivial⟩
theorem ZoP:AllP (λp:Addr × List (List Nat)=>∃ vs n,List.lookup p.1 (KF P)=some { cls:=.type "tuple",data:=.seq vs.toArray n }∧VL [] (p.2.map SV.str) vs) Zp0:=
 ⟨⟨[],0,by kernel_rfl,.nil⟩,⟨[.str "word" 974,.str "escape" 975],0,by kernel_rfl,.cons (V.str _ _) (.cons (V.str _ _) .nil)⟩,trivial⟩
theorem tOk {G:Gl} {base:List MO} {sums:List (Addr × (List MV->St->Option (Res MV)))} {ops:List (Operator × Lin × Lin × Nat)} (h:G.K=KF P):TOk G (tabT base sums ops) where
 names:=λx v e=>by rw [h];exact (ZlX P).mem _ (Zdl e)
 fns:=λa f e=>by rw [h];exact (Zpp P).mem _ (ZaN e)
 cls:=λC c e=>by rw [h];exact Zlk ((Zpd P).mem _ (ZaN e))
 tups:=λa l e=>by rw [h];exact (ZoP P).mem _ (ZaN e)
end Mine
end
section
namespace Mine
noncomputable def anfV (ρ:List (Addr × Obj)) (v:SV):SV:=match v with
 | .ref n=>match ρ[n]? with | some p=>.glob (.ref p.1) | none=>.ref n
 | v=>v
noncomputable def anfO (ρ:List (Addr × Obj)):SO->SO
 | .inst C at_=>.inst C (at_.map λp=>(p.1,anfV ρ p.2))
 | .list xs=>.list (xs.map (anfV ρ))
 | .tuple xs=>.tuple (xs.map (anfV ρ))
 | .dictI kvs=>.dictI (kvs.map λp=>(p.1,anfV ρ p.2))
 | .dictS kvs=>.dictS (kvs.map λp=>(p.1,anfV ρ p.2))
 | .range a b=>.range a b
 | .deck n=>.deck n
theorem V.anf {ρ:List (Addr × Obj)} {v:SV} {rv:Value}:V ρ v rv ↔ V [] (anfV ρ v) rv:=by
 constructor
 ·intro h
  cases h with
  | none=>exact .none
  | bool b=>exact .bool b
  | int i t=>exact .int i t
  | str s t=>exact .str s t
  | ref e=>simp only [anfV,e];exact .glob _ rfl
  | glob _ h=>exact .glob _ h
 ·intro h
  cases v with
  | ref n=>
   dsimp only [anfV] at h
   generalize e:ρ[n]? = wo at h
   cases wo with
   | none=>cases h with | ref e'=>simp at e'
   | some p=>cases h with | glob _ _=>exact .ref (o:=p.2) (by rw [e])
  | _=>exact h.mono List.nil_prefix
theorem VL.anf {ρ:List (Addr × Obj)} {vs:List SV} {rvs:List Value}:VL ρ vs rvs ↔ VL [] (vs.map (anfV ρ)) rvs:=by
 constructor
 ·intro h
  induction h with
  | nil=>exact .nil
  | cons a _ ih=>exact .cons (V.anf.mp a) ih
 ·intro h
  induction vs generalizing rvs with
  | nil=>have wq:=VL.nil_inv h;clear h;subst wq;exact .nil
  | cons v r ih=>cases h with | cons a b=>exact .cons (V.anf.mpr a) (ih b)
theorem AttrE.anf {ρ:List (Addr × Obj)} {at_:List (Str × SV)} {es:List DictEntry}:AttrE ρ at_ es ↔ AttrE [] (at_.map λp=>(p.1,anfV ρ p.2)) es:=by
 constructor
 ·intro h
  induction h with
  | nil=>exact .nil
  | cons a _ ih=>exact .cons (V.anf.mp a) ih
 ·intro h
  induction at_ generalizing es with
  | nil=>cases h;exact .nil
  | cons v r ih=>cases h with | cons a b=>exact .cons (V.anf.mpr a) (ih b)
theorem KVR.anf {ρ:List (Addr × Obj)} {α β:Type} {f:α->β} {l:List (α × SV)} {r:List (β × Value)}:KVR ρ f l r ↔ KVR [] f (l.map λp=>(p.1,anfV ρ p.2)) r:=by
 constructor
 ·intro h
  induction h with
  | nil=>exact .nil
  | cons a _ ih=>exact .cons (V.anf.mp a) ih
 ·intro h
  induction l generalizing r with
  | nil=>cases h;exact .nil
  | cons v t ih=>cases h with | cons a b=>exact .cons (V.anf.mpr a) (ih b)
theorem OR.anf {G:Gl} {ρ:List (Addr × Obj)} {o:SO} {a:Addr × Obj} {es:List (Addr × Obj)}:OR G ρ o a es ↔ OR G [] (anfO ρ o) a es:=by
 constructor
 ·intro h
  cases h with
  | inst y z w=>exact .inst (AttrE.anf.mp y) (λp hp=>by refine e1_2 (List.mem_map.mp hp) λq hq wq=>?_;subst wq;exact z q hq) (by simpa using w)
  | list y z=>exact .list (VL.anf.mp y) (by simpa using z)
  | tuple y z=>exact .tuple (VL.anf.mp y) (by simpa using z)
  | dictI y z w l=>exact .dictI (KVR.anf.mp y) z w (by simpa using l)
  | dictS y z w=>exact .dictS (KVR.anf.mp y) z w
  | range=>exact .range
  | deck a b c d e=>exact .deck a b c d e
 ·intro h
  cases o with
  | inst C at_=>cases h with | inst y z w=>exact .inst (AttrE.anf.mpr y) (λp hp=>z (p.1,anfV ρ p.2) (List.mem_map.mpr ⟨p,hp,rfl⟩)) (by simpa using w)
  | list xs=>cases h with | list y z=>exact .list (VL.anf.mpr y) (by simpa using z)
  | tuple xs=>cases h with | tuple y z=>exact .tuple (VL.anf.mpr y) (by simpa using z)
  | dictI xs=>cases h with | dictI y z w l=>exact .dictI (KVR.anf.mpr y) z w (by simpa using l)
  | dictS xs=>cases h with | dictS y z w=>exact .dictS (KVR.anf.mpr y) z w
  | range a b=>cases h with | range=>exact .range
  | deck n=>cases h with | deck a b c d e=>exact .deck a b c d e
theorem OR.noCell {G:Gl} {ρ:List (Addr × Obj)} {o:SO} {a:Addr × Obj} {es:List (Addr × Obj)} (h:OR G ρ o a es):∀ q ∈ es,∀ w,q.2.data ≠ .cell w:=by
 intro q hq w e
 cases h with
 | inst y z w=>simp only [List.mem_cons,List.not_mem_nil,or_false] at hq;rcases hq with rfl | rfl<;>cases e
 | list y z=>simp only [List.mem_cons,List.not_mem_nil,or_false] at hq;subst hq;cases e
 | tuple y z=>simp only [List.mem_cons,List.not_mem_nil,or_false] at hq;subst hq;cases e
 | dictI y z w l=>
  simp only [List.mem_cons,List.not_mem_nil,or_false] at hq;subst hq
  refine e2_3 z λ_ _ _ hd _=>?_;clear z
  rw [hd] at e;cases e
 | dictS y z w=>
  simp only [List.mem_cons,List.not_mem_nil,or_false] at hq;subst hq
  refine e2_3 z λ_ _ _ hd _=>?_;clear z
  rw [hd] at e;cases e
 | range=>simp only [List.mem_cons,List.not_mem_nil,or_false] at hq;subst hq;cases e
 | deck a b c d e'=>simp only [List.mem_cons,List.not_mem_nil,or_false] at hq;rcases hq with rfl | rfl<;>cases e
noncomputable abbrev Tr:=(Addr × Obj) × SO × List (Addr × Obj)
noncomputable def flat (K:List Tr):List (Addr × Obj):=K.flatMap (·.2.2)
noncomputable def Good (G:Gl) (K:List Tr):Prop:=∀ t ∈ K,OR G [] t.2.1 t.1 t.2.2
noncomputable abbrev Bs.mid (B:Bs) (pre c0:List (Addr × Obj)):Bs:={ B with cs:=pre++(c0++B.cs) }
noncomputable def Zax (ρ:List (Addr × Obj)) (ls:List (Str × SV)):List (Str × SV):=ls.map λp=>(p.1,anfV ρ p.2)
variable {G:Gl} {B:Bs} {ρ:List (Addr × Obj)} {σ:List SO} {ls ls':List (Str × SV)} {rs:Shared}
theorem thaw {pre:List (Addr × Obj)} {K T R:List Tr} (x:Hs G (B.mid pre (flat K)) [] [] ls rs) (good:Good G K) (p:K.Perm (T++R)) {σ':List SO}
 (hσ:σ'.map (anfO (T.map (·.1)))=T.map (·.2.1)) (hls:LsTo [] (T.map (·.1)) ls ls'):Hs G (B.mid pre (flat R)) (T.map (·.1)) σ' ls' rs:=by
 obtain ⟨m,led,F,N,Rl0,Lc⟩:=x.ex
 have hled:led=[]:=List.eq_nil_of_length_eq_zero Rl0.l2
 subst hled
 have hlen:σ'.length=T.length:=by have:=congrArg List.length hσ;simpa using this
 have pf:(flat K).Perm (flat T++flat R):=by
  have:=p.flatMap_right (·.2.2)
  rw [List.flatMap_append] at this;exact this
 have hflat:(T.map (·.2.2)).flatten=flat T:=by unfold flat;rw [List.flatMap_def]
 have perm:(pre++(flat K++B.cs)).Perm ((pre++(flat R++B.cs))++flat T):=by
  refine (List.Perm.append_left pre (List.Perm.append_right B.cs pf)).trans ?_
  rw [List.append_assoc,List.append_assoc]
  refine List.Perm.append_left pre ?_
  exact List.perm_append_comm
 have N0:∀ q ∈ (pre++(flat R++B.cs))++flat T,q ∈ (B.mid pre (flat K)).cs++([]:List (List (Addr × Obj))).flatten:=λq hq=>by
  simpa using perm.mem_iff.mpr hq
 refine ⟨⟨m,T.map (·.2.2),F,λq hq=>N q (N0 q (by rw [hflat] at hq;exact hq)),⟨by simp [hlen],by simp [hlen],λn o e=>?_,?_⟩,⟨λy v' e=>?_,hls.1⟩⟩,x.gens,x.drawn,x.os⟩
 ·have hn:n<T.length:=by rw [←hlen];exact (List.getElem?_eq_some_iff.mp e).1
  refine i2_3 ((T[n]).1) ((T[n]).2.2) (by simp [hn]) (by simp [hn]) ?_
  have h1:(T[n]) ∈ K:=p.mem_iff.mpr (List.mem_append_left _ (List.getElem_mem hn))
  have h2:anfO (T.map (·.1)) o=(T[n]).2.1:=by
   have:=congrArg (λl=>l[n]?) hσ
   simp only [List.getElem?_map,e,Option.map_some,List.getElem?_eq_getElem hn,Option.some.injEq] at this
   exact this
  rw [OR.anf,h2]
  exact good _ h1
 ·have nd:((pre++(flat K++B.cs))++([]:List (List (Addr × Obj))).flatten |>.map (·.1)).Nodup:=Rl0.nd
  rw [List.flatten_nil,List.append_nil] at nd
  rw [hflat]
  exact (perm.map (·.1)).nodup nd
 ·refine e1_2 (hls.2 y v' e) λv e1 e2=>?_
  refine e1_2 (Lc.at_ y v e1) λrv a b=>?_
  refine i1_2 rv (e2 rv a) (b.imp id λ⟨k1,c,o,k3,k4,k5⟩=>⟨k1,c,o,k3,?_,k5⟩)
  have k4':(c,o) ∈ pre++(flat K++B.cs):=k4
  rcases List.mem_append.mp (perm.mem_iff.mp k4') with h | h
  ·exact h
  ·refine e1_2 (List.mem_flatMap.mp h) λt ht hq=>?_
   exact absurd k5 ((good t (p.mem_iff.mpr (List.mem_append_left _ ht))).noCell _ hq _)
theorem ZaD {pre c0:List (Addr × Obj)} (x:Hs G (B.mid pre c0) ρ σ ls rs):
 ∃ T:List Tr,T.map (·.1)=ρ∧T.map (·.2.1)=σ.map (anfO ρ)∧Good G T∧Hs G (B.mid pre (flat T++c0)) [] [] (Zax ρ ls) rs:=by
 obtain ⟨m,led,F,N,Rl0,Lc⟩:=x.ex
 have l1:=Rl0.l1
 have l2:=Rl0.l2
 refine i1_4 (ρ.zip ((σ.map (anfO ρ)).zip led)) ?_ ?_ ?_ ?_
 ·rw [List.map_fst_zip];simp;omega
 ·rw [show (λt:Tr=>t.2.1)=Prod.fst ∘ Prod.snd from rfl,←List.map_map,List.map_snd_zip (by simp;omega),List.map_fst_zip (by simp;omega)]
 ·intro t ht
  obtain ⟨n,hn,e⟩:=List.getElem_of_mem ht
  simp only [List.getElem_zip,List.getElem_map] at e
  have hn':n<ρ.length∧n<σ.length∧n<led.length:=by simp at hn;omega
  refine e2_3 (Rl0.obj n _ (List.getElem?_eq_getElem hn'.2.1)) λa es e1 e2 e3=>?_
  rw [List.getElem?_eq_getElem hn'.1] at e1
  rw [List.getElem?_eq_getElem hn'.2.2] at e2
  have wq:=Option.some.inj e1;clear e1;subst wq;have wqb:=Option.some.inj e2;clear e2;subst wqb
  subst e
  exact OR.anf.mp e3
 ·have hflat:flat (ρ.zip ((σ.map (anfO ρ)).zip led))=led.flatten:=by
   unfold flat
   rw [List.flatMap_def,show (λt:Tr=>t.2.2)=Prod.snd ∘ Prod.snd from rfl,←List.map_map,List.map_snd_zip (by simp;omega),List.map_snd_zip (by simp;omega)]
  have perm:(pre++((led.flatten++c0)++B.cs)).Perm ((pre++(c0++B.cs))++led.flatten):=by
   rw [List.append_assoc,List.append_assoc]
   refine List.Perm.append_left pre ?_
   exact List.perm_append_comm
  refine ⟨⟨m,[],F,λq hq=>N q ?_,⟨rfl,rfl,λn o e=>by simp at e,?_⟩,⟨λy v' e=>?_,?_⟩⟩,x.gens,x.drawn,x.os⟩
  ·rw [hflat] at hq
   have hq':q ∈ pre++((led.flatten++c0)++B.cs):=by simpa using hq
   exact perm.mem_iff.mp hq'
  ·show ((pre++(flat _++c0++B.cs)++([]:List (List (Addr × Obj))).flatten).map (·.1)).Nodup
   rw [hflat,List.flatten_nil,List.append_nil]
   exact (perm.symm.map (·.1)).nodup Rl0.nd
  ·unfold Zax at e
   rw [Zat (anfV ρ)] at e
   generalize q:look y ls=wo at e
   revert q;revert wo;show Fa _ _;refine Opt.on_some zN0 (λv e=>?_);intro q
   have wq:=Option.some.inj e;clear e;subst wq
   refine e1_2 (Lc.at_ y v q) λrv a b=>?_
   refine i1_2 rv (V.anf.mp a) (b.imp id λ⟨k1,c,o,k3,k4,k5⟩=>⟨k1,c,o,k3,?_,k5⟩)
   rw [hflat]
   exact perm.mem_iff.mpr (List.mem_append_left _ k4)
  ·unfold Zax
   rw [Zat (anfV ρ),Lc.dbg];rfl
theorem pick {K T R:List Tr} (p:K.Perm (T++R)) {t:Tr} (h:t ∈ K) (hn:t ∉ T):∃ R',K.Perm ((T++[t])++R'):=by
 rcases List.mem_append.mp (p.mem_iff.mp h) with h | h
 ·exact absurd h hn
 ·refine e2_1 (List.append_of_mem h) λl1 l2 wq=>?_;subst wq
  refine i1_1 (l1++l2) (p.trans ?_)
  rw [List.append_assoc]
  exact List.Perm.append_left T List.perm_middle
end Mine
end
section
namespace Mine
variable {G:Gl} {B:Bs} {ρ:List (Addr × Obj)} {σ:List SO} {ls ls':List (Str × SV)} {rs:Shared}
theorem Hs.permc {pre c c':List (Addr × Obj)} (p:c.Perm c') (x:Hs G (B.mid pre c) ρ σ ls rs):Hs G (B.mid pre c') ρ σ ls rs:=by
 obtain ⟨m,led,F,N,R,Lc⟩:=x.ex
 have perm:(pre++(c++B.cs)).Perm (pre++(c'++B.cs)):=List.Perm.append_left pre (List.Perm.append_right B.cs p)
 refine ⟨⟨m,led,F,λq hq=>N q ?_,⟨R.l1,R.l2,R.obj,?_⟩,⟨λy v e=>?_,Lc.dbg⟩⟩,x.gens,x.drawn,x.os⟩
 ·exact ((List.Perm.append_right led.flatten perm).mem_iff).mpr hq
 ·exact ((List.Perm.append_right led.flatten perm).map (·.1)).nodup R.nd
 ·refine e1_2 (Lc.at_ y v e) λrv a b=>?_
  exact i1_2 rv a (b.imp id λ⟨k1,c,o,k3,k4,k5⟩=>⟨k1,c,o,k3,perm.mem_iff.mp k4,k5⟩)
theorem Hs.drop {c c':List (Addr × Obj)} (hc:∀ q ∈ c,∀ w,q.2.data ≠ .cell w) (x:Hs G (B.mid [] (c++c')) ρ σ ls rs):Hs G (B.mid [] c') ρ σ ls rs:=by
 obtain ⟨m,led,F,N,R,Lc⟩:=x.ex
 have e0:(B.mid [] (c++c')).cs=c++(c'++B.cs):=List.append_assoc _ _ _
 refine ⟨⟨m,led,F,λq hq=>N q ?_,⟨R.l1,R.l2,R.obj,?_⟩,⟨λy v e=>?_,Lc.dbg⟩⟩,x.gens,x.drawn,x.os⟩
 ·rw [e0,List.append_assoc];exact List.mem_append_right _ hq
 ·have:=R.nd
  rw [e0,List.append_assoc,List.map_append,List.nodup_append] at this
  exact this.2.1
 ·refine e1_2 (Lc.at_ y v e) λrv a b=>?_
  refine i1_2 rv a (b.imp id λ⟨k1,c,o,k3,k4,k5⟩=>⟨k1,c,o,k3,?_,k5⟩)
  rw [e0] at k4
  rcases List.mem_append.mp k4 with h | h
  ·exact absurd k5 (hc _ h _)
  ·exact h
theorem Good.noCell {K:List Tr} (g:Good G K):∀ q ∈ flat K,∀ w,q.2.data ≠ .cell w:=λq hq=>by
 refine e1_2 (List.mem_flatMap.mp hq) λt ht h=>?_
 exact (g t ht).noCell q h
theorem Zm3 (hd:look (Str.ofString "__debug__") ls=none):LsTo [] ρ (Zax ρ ls) ls:=by
 refine i0_2 hd (λy v' e=>⟨anfV ρ v',?_,λrv h=>V.anf.mpr h⟩)
 unfold Zax
 rw [Zat (anfV ρ),e];rfl
theorem Hs.lsTo (x:Hs G B ρ σ ls rs) (h:LsTo ρ ρ ls ls'):Hs G B ρ σ ls' rs:=by
 obtain ⟨m,led,F,N,R,Lc⟩:=x.ex
 refine ⟨⟨m,led,F,N,R,⟨λy v' e=>?_,h.1⟩⟩,x.gens,x.drawn,x.os⟩
 refine e1_2 (h.2 y v' e) λv e1 e2=>?_
 refine e1_2 (Lc.at_ y v e1) λrv a b=>?_
 exact i1_2 rv (e2 rv a) b
theorem ZcM (x:Hs G B [] σ ls rs) (ρ':List (Addr × Obj)):LsTo [] [] (Zax ρ' ls) ls:=by
 refine byP λXX kX=>?_
 obtain ⟨m,led,F,N,R,Lc⟩:=x.ex
 refine kX ?_
 refine i0_2 (Lc.dbg) (λy v e=>⟨anfV ρ' v,?_,λrv h=>?_⟩)
 ·unfold Zax
  rw [Zat (anfV ρ'),e];rfl
 ·refine e1_2 (Lc.at_ y v e) λrw' a _=>?_
  cases v with
  | ref n=>cases a with | ref e=>simp at e
  | _=>exact h
theorem hole (x:Hs G B ρ σ ls rs) {n:Nat} {o:SO} (h:σ[n]? = some o):∃ (t:Tr) (R:List Tr),ρ[n]? = some t.1∧t.2.1=anfO ρ o∧OR G [] t.2.1 t.1 t.2.2∧Good G R∧Hs G (B.mid [] (t.2.2++flat R)) [] [] (Zax ρ ls) rs∧
 ∀ (t':Tr) (o':SO) (c:List (Addr × Obj)) rs',t'.1=t.1->t'.2.1=anfO ρ o'->OR G [] t'.2.1 t'.1 t'.2.2->(∀ q ∈ c,∀ w,q.2.data ≠ .cell w)->Hs G (B.mid [] (t'.2.2++(c++flat R))) [] [] (Zax ρ ls) rs'->Hs G B ρ (σ.set n o') ls rs':=by
 have hd:look (Str.ofString "__debug__") ls=none:=by obtain ⟨m,led,F,N,R,Lc⟩:=x.ex;exact Lc.dbg
 refine e1_4 (ZaD (pre:=[]) (c0:=[]) x) λT e1 e2 good y=>?_
 rw [List.append_nil] at y
 have hn:n<T.length:=by
  have:=congrArg List.length e2
  simp only [List.length_map] at this
  rw [this];exact (List.getElem?_eq_some_iff.mp h).1
 have hT:T=T.take n++T[n]::T.drop (n+1):=by rw [List.getElem_cons_drop,List.take_append_drop]
 have hset:∀ t':Tr,T.set n t'=T.take n++t'::T.drop (n+1):=λt'=>by rw [List.set_eq_take_append_cons_drop,if_pos hn]
 have eo:T[n].2.1=anfO ρ o:=by
  have:=congrArg (λl=>l[n]?) e2
  simp only [List.getElem?_map,h,Option.map_some,List.getElem?_eq_getElem hn,Option.some.injEq] at this
  exact this
 have ea:ρ[n]? = some T[n].1:=by rw [←e1];simp [hn]
 refine i2_6 (T[n]) (T.take n++T.drop (n+1)) ea eo (good _ (List.getElem_mem hn)) (λt ht=>good t ?_) ?_ ?_
 ·refine byP λXX kX=>?_
  rcases List.mem_append.mp ht with ht | ht
  ·refine kX ?_
   exact List.mem_of_mem_take ht
  ·refine kX ?_
   exact List.mem_of_mem_drop ht
 ·refine Hs.permc ?_ y
  have p:T.Perm (T[n]::(T.take n++T.drop (n+1))):=by
   conv=>lhs;rw [hT]
   exact List.perm_middle
  exact p.flatMap_right (·.2.2)
 ·intro t' o' c rs' f1 f2 f3 f4 z
  have z2:Hs G (B.mid [] (flat (t'::(T.take n++T.drop (n+1))))) [] [] (Zax ρ ls) rs':=by
   refine Hs.drop f4 (Hs.permc ?_ z)
   show (t'.2.2++(c++flat (T.take n++T.drop (n+1)))).Perm (c++(t'.2.2++flat (T.take n++T.drop (n+1))))
   exact List.perm_append_comm_assoc _ _ _
  have gd:Good G (t'::(T.take n++T.drop (n+1))):=by
   intro t ht
   refine byP λXX kX=>?_
   rcases List.mem_cons.mp ht with rfl | ht
   ·refine kX ?_
    exact f3
   ·rcases List.mem_append.mp ht with ht | ht
    ·refine kX ?_
     exact good t (List.mem_of_mem_take ht)
    ·refine kX ?_
     exact good t (List.mem_of_mem_drop ht)
  have em:(T.set n t').map (·.1)=ρ:=by
   rw [List.map_set,f1,e1]
   refine e1_1 (List.getElem?_eq_some_iff.mp ea) λhn' en=>?_
   rw [←en,List.set_getElem_self]
  have:=thaw (pre:=[]) (T:=T.set n t') (R:=[]) (σ':=σ.set n o') (ls':=ls) z2 gd ?_ ?_ ?_
  ·rw [em] at this
   exact this
  ·rw [hset,List.append_nil]
   exact List.perm_middle.symm
  ·rw [em,List.map_set,List.map_set,f2,e2]
  ·rw [em];exact Zm3 hd
end Mine
end
section
namespace Mine
noncomputable section
noncomputable def Res.chk {α:Type} (f:α->St->Bool) (r:Res α):Bool:=@Res.rec α (λ_=>Bool) (λ_=>false) (λa s=>f a s) (λ_ _ _ a b=>a&&b) (λ_ _ a b=>a&&b) r
theorem Zbx {α:Type} {f:α->St->Bool} {ν:Vn}:∀ {r:Res α},r.chk f=true->r.All ν λa s=>f a s=true
 | .stuck _,h=>by exact nB h
 | .ret _ _,h=>h
 | .fork _ t e,h=>by
  have h':(t.chk f&&e.chk f)=true:=h
  rw [Bool.and_eq_true] at h'
  exact i0_2 (λ_=>Zbx h'.1) (λ_=>Zbx h'.2)
 | .both t e,h=>by
  have h':(t.chk f&&e.chk f)=true:=h
  rw [Bool.and_eq_true] at h'
  exact i0_2 (Zbx h'.1) (Zbx h'.2)
noncomputable def mkN (xs:List (Nat × Int)) (gs:List (Nat × List SV)) (os:List (Nat × SV)) (rs:Nat->Nat) (ts:List (Nat × List Nat)):Vn where
 x n:=bif Nat.beq (n % 2) 1 then ((((lookN (n / 2) gs).getD []).length:Nat):Int) else bif Nat.ble 1000 n then ((((lookN ((n-1000) / 2) ts).getD []).length:Nat):Int) else bif Nat.ble 500 n&&Nat.blt n 700 then ZbH ((lookN ((n-500) / 2) gs).getD []) else (lookN n xs).getD 0
 o n:=(lookN n os).getD .none
 g n:=match lookN n gs with | some l=>l | none=>(lookN (n % 100) gs).getD []
 r:=rs
 t n:=(lookN n ts).getD []
theorem ZfV {β:Type} {n:Nat} {l:List (Nat × β)} {d:β} {Q:β->Prop} (hd:Q d) (h:∀ p ∈ l,p.1=n->Q p.2):Q ((lookN n l).getD d):=by
 cases q:lookN n l with
 | none=>exact hd
 | some b=>exact h _ (ZaN q) rfl
theorem Zb2 {xs:List (Nat × Int)} {gs:List (Nat × List SV)} {os:List (Nat × SV)} {rs:Nat->Nat} {ts:List (Nat × List Nat)} (h1:∀ p ∈ os,p.2 = .none∨∃ i,p.2 = .int i) (h2:∀ p ∈ gs,p.1<100->∀ v ∈ p.2,∃ i,v = .int i) (h5:∀ p ∈ gs,100≤p.1->((lookN (p.1 % 100) gs).getD []).length=p.2.length)
 (h3:∀ p ∈ gs,p.2.length≤4096) (h4:∀ p ∈ ts,p.2.length≤4096):(mkN xs gs os rs ts).ok where
 len n:=by
  show (bif Nat.beq ((2 * (n % 100)+1) % 2) 1 then ((((lookN ((2 * (n % 100)+1) / 2) gs).getD []).length:Nat):Int) else _)=((match lookN n gs with | some l=>l | none=>(lookN (n % 100) gs).getD []).length:Int)
  rw [show (2 * (n % 100)+1) % 2=1 by omega,show (2 * (n % 100)+1) / 2=n % 100 by omega]
  show ((((lookN (n % 100) gs).getD []).length:Nat):Int)=_
  cases q:lookN n gs with
  | none=>rfl
  | some l=>
   dsimp only
   by_cases hn:n<100
   ·rw [Nat.mod_eq_of_lt hn,q];rfl
   ·rw [h5 _ (ZaN q) (by omega)]
 flat n:=ZfV (Q:=λv:SV=>v = .none∨∃ i,v = .int i) (.inl rfl) λp hp _=>h1 p hp
 nums n hn:=by
  show ∀ v ∈ (match lookN n gs with | some l=>l | none=>(lookN (n % 100) gs).getD []),∃ i,v = .int i
  cases q:lookN n gs with
  | none=>rw [Nat.mod_eq_of_lt hn,q];intro v hv;cases hv
  | some l=>exact h2 _ (ZaN q) hn
 small n:=by
  show (match lookN n gs with | some l=>l | none=>(lookN (n % 100) gs).getD []).length≤4096
  cases q:lookN n gs with
  | none=>exact ZfV (Q:=λl:List SV=>l.length≤4096) (by simp) λp hp _=>h3 p hp
  | some l=>exact h3 _ (ZaN q)
 sum n hn:=by
  show (bif Nat.beq ((2 * n+500) % 2) 1 then _ else bif Nat.ble 1000 (2 * n+500) then _ else bif Nat.ble 500 (2 * n+500)&&Nat.blt (2 * n+500) 700 then ZbH ((lookN ((2 * n+500-500) / 2) gs).getD []) else _)=ZbH (match lookN n gs with | some l=>l | none=>(lookN (n % 100) gs).getD [])
  have h1:Nat.ble 1000 (2 * n+500)=false:=by rw [Bool.eq_false_iff];intro q;have:=Nat.le_of_ble_eq_true q;omega
  have h2:Nat.blt (2 * n+500) 700=true:=by rw [Nat.blt_eq];omega
  rw [show (2 * n+500) % 2=0 by omega,show (2 * n+500-500) / 2=n by omega,h1,h2,Nat.ble_eq_true_of_le (show 500≤2 * n+500 by omega)]
  show ZbH ((lookN n gs).getD [])=_
  cases q:lookN n gs with
  | none=>rw [Nat.mod_eq_of_lt hn,q]
  | some l=>rfl
 tlen n:=by
  show (bif Nat.beq ((2 * n+1000) % 2) 1 then _ else bif Nat.ble 1000 (2 * n+1000) then ((((lookN ((2 * n+1000-1000) / 2) ts).getD []).length:Nat):Int) else _)=_
  rw [show (2 * n+1000) % 2=0 by omega,show (2 * n+1000-1000) / 2=n by omega,Nat.ble_eq_true_of_le (show 1000≤2 * n+1000 by omega)];rfl
 tsmall n:=ZfV (Q:=λl:List Nat=>l.length≤4096) (by simp) λp hp _=>h4 p hp
variable {G:Gl} {B:Bs} {ρ:List (Addr × Obj)} {σ:List SO} {ls ls':List (Str × SV)} {rs:Shared} {d:Nat}
theorem Ok.le {d':Nat} (O:Ok G B d) (h:d'≤d):Ok G B d':=⟨O.kin,O.top,O.kind,O.hand,by have:=O.dep;omega,by have:=O.uni;omega⟩
theorem Ok.mid (O:Ok G B d) {c0:List (Addr × Obj)}:Ok G (B.mid [] c0) d:=⟨O.kin,O.top,O.kind,O.hand,O.dep,O.uni⟩
theorem ZjJ {Γ:Tab} {ν:Vn} {ih:Ih} (H:IhOk G Γ ν ih) (O:Ok G B (d+1)) (x:Hs G B ρ σ ls rs) {a:Addr} {f:Fn} (hf:FnOk G.K a f) {vs:List MV} {rvs:List Value} {s:St} {P:MV->St->Prop} (hv:VL ρ (vs.map (MV.sem ν)) rvs)
 (hs:σ=semH Γ ν s) (hx:FxOk ν s.facts) (h:(ZfT ih d f vs s).All ν P):
 codeAny G.M B.A (.call (.ref a) ⟨rvs,[]⟩) (λr rs'=>∃ rv,r = .ok (.ret rv)∧∃ ρ' w s',ρ <+: ρ'∧V ρ' (w.sem ν) rv∧P w { s' with ls:=s.ls }∧FxOk ν s'.facts∧Hs G B ρ' (semH Γ ν s') ls rs') rs:=by
 refine byP λXX kX=>?_
 subst hs
 refine e0_2 (Zfr (ρ:=ρ) H hx h) λhk body=>?_
 refine kX ?_
 refine codeAny_mono (x.callC O hf hv (by simpa using hk) (ν:=ν) (P:=λv σ'=>∃ w s',v.getD .none=w.sem ν∧P w { s' with ls:=s.ls }∧σ'=semH Γ ν s'∧FxOk ν s'.facts) body) λr rs' y=>?_
 refine byP λXX kX=>?_
 refine e1_2 y λrv e wq=>?_;clear y;obtain ⟨ρ',v,σ',hp,hv',⟨w,s',e1,hP,e2,hf'⟩,y⟩:=wq
 subst e2
 refine kX ?_
 exact i1_2 rv e (⟨ρ',w,s',hp,e1 ▸ hv',hP,hf',y⟩)
theorem ZcK {Γ:Tab} {ν:Vn} (h:Γ.sums=[]) (ho:ZdE Γ ν):SumOk G Γ ν:=by
 have no:∀ {d a vs s r},ZcZ Γ d a vs s=some r->False:=λ{d a vs s r} e=>by
  unfold ZcZ at e
  rw [h] at e
  cases q:Nat.ble 10 d<;>rw [q] at e<;>exact nN e
 exact ⟨ho,λe=>(no e).elim,λ_ _ _ _ e _=>(no e).elim⟩
end
end Mine
end
section
namespace Mine
noncomputable section
noncomputable def lx (c:Int) (n:Nat):Lin:=⟨c,[(n,1)]⟩
noncomputable def opsD (k:Nat):List (Operator × Lin × Lin × Nat):=
 [(.FloorDiv,.x 0,.k k,6),(.Mod,.x 0,.k k,8),
  (.Mod,.x 2,.k 4294966297,10),(.Mult,.k 1640531527,lx 1 4,12),(.Mod,⟨0,[(10,1),(12,1)]⟩,.k 4294966297,14),(.Mult,.x 14,.x 14,16),(.Mult,.k 122949823,lx 1 4,18),
  (.Mod,⟨0,[(16,1),(18,1)]⟩,.k 4294966237,20),(.Mult,.x 20,.x 20,22),(.Mod,.x 22,.k 4294966187,24),(.FloorDiv,.x 24,.k 1024,26),(.Mod,.x 26,.k k,28)]
noncomputable def Zqd (row:List ME):List MO:=[.list [.v (.ref 1),.v (.int (.x 2)),.v (.int (.x 4))],.list row]
noncomputable def stD (row:List ME):St:=⟨Zqd row,[],[]⟩
noncomputable def tabD (k:Nat):Tab:=tabT [] [] (opsD k)
noncomputable def ZnM (k:Nat) (row:List ME):Res MV:=ZfT (run (tabD k) 40) 9 ZcN [.ref 0,.int (.k k)] (stD row)
noncomputable def Zpi (a:Nat) (i j:Lin) (row:List ME):Bool:=Nat.beq a 1&&i.eq (.x 2)&&(j.eq (.x 4)||j.eq (lx 1 4))&&(match row with | []=>true | [.seg n]=>Nat.beq n 0 | [.v (.int x),.seg n]=>Nat.beq n 0&&x.eq (.x 6) | _=>false)
noncomputable def Zpj:List MO->Bool
 | .list [.v (.ref a),.v (.int i),.v (.int j)]::.list row::_=>Zpi a i j row
 | _=>false
noncomputable def ZjF (v:MV) (s:St):Bool:=match v with
 | .int l=>(l.eq (.x 8)||l.eq (.x 28))&&Zpj s.heap
 | _=>false
noncomputable def ZlR (k:Nat):Prop:=k=12∨k=7∨k=3∨k=2
theorem Zid {k:Nat} (hk:ZlR k):(ZnM k []).chk ZjF=true∧(ZnM k [.v (.int (.x 0)),.seg 0]).chk ZjF=true:=by
 rcases hk with rfl | rfl | rfl | rfl
 ·exact ⟨by kernel_rfl,by kernel_rfl⟩
 ·exact ⟨by kernel_rfl,by kernel_rfl⟩
 ·exact ⟨by kernel_rfl,by kernel_rfl⟩
 ·exact ⟨by kernel_rfl,by kernel_rfl⟩
noncomputable def nuD (k:Nat) (rest i j:Int) (tl:List SV):Vn:=
 let x10:=i.fmod 4294966297
 let x12:=1640531527 * (1+j)
 let x14:=(x10+x12).fmod 4294966297
 let x16:=x14 * x14
 let x18:=122949823 * (1+j)
 let x20:=(x16+x18).fmod 4294966237
 let x22:=x20 * x20
 let x24:=x22.fmod 4294966187
 let x26:=x24.fdiv 1024
 mkN [(0,rest),(2,i),(4,j),(6,rest.fdiv k),(8,rest.fmod k),(10,x10),(12,x12),(14,x14),(16,x16),(18,x18),(20,x20),(22,x22),(24,x24),(26,x26),(28,x26.fmod k)] [(0,tl)] [] (λ_=>0) []
theorem Zfi {a:Int} (h0:0≤a) (h:a<4294966297):Builtin.Int.intBits a≤64:=by
 unfold Builtin.Int.intBits
 split
 ·omega
 ·rename_i hz
  have hz':a ≠ 0:=by simpa using hz
  have h0':a.natAbs ≠ 0:=by omega
  have:a.natAbs.log2<33:=(Nat.log2_lt h0').mpr (by omega)
  omega
theorem ZdJ {a b:Int} (h:0<b):0≤a.fmod b∧a.fmod b<b:=⟨Int.fmod_nonneg_of_pos a h,Int.fmod_lt_of_pos a h⟩
theorem Zkt {k:Nat} (hk:0<k) (hk2:k<100) {rest i j:Int} {tl:List SV}:ZdE (tabD k) (nuD k rest i j tl):=by
 have b14:=ZdJ (a:=i.fmod 4294966297+1640531527 * (1+j)) (b:=4294966297) (by decide)
 have e4:(lx 1 4).ev (nuD k rest i j tl).x=1+j:=by show 1+(1 * j+0)=1+j;omega
 have two:∀ {a b:Nat} {u v:Int},(nuD k rest i j tl).x a=u->(nuD k rest i j tl).x b=v->(⟨0,[(a,1),(b,1)]⟩:Lin).ev (nuD k rest i j tl).x=u+v:=by
  rintro a b u v rfl rfl
  show 0+(1 * (nuD k rest i j tl).x a+(1 * (nuD k rest i j tl).x b+0))=_
  omega
 refine AllP.mem (Q:=OpOk (nuD k rest i j tl)) ⟨?_,?_,?_,?_,?_,?_,?_,?_,?_,?_,?_,?_,trivial⟩
 ·refine ⟨⟨?_,PyProof.noPylong_small ?_⟩,?_⟩<;>simp only [ev_k,ev_x]<;>first | omega | rfl
 ·refine ⟨?_,?_⟩<;>simp only [ev_k,ev_x]<;>first | omega | rfl
 ·refine ⟨?_,?_⟩<;>simp only [ev_k,ev_x]<;>first | decide | rfl
 ·refine ⟨IntMulOk.of_left ?_,?_⟩<;>simp only [ev_k,e4]<;>first | decide | rfl
 ·refine ⟨by simp only [ev_k];decide,?_⟩
  dsimp only
  rw [two rfl rfl,ev_k];rfl
 ·refine ⟨IntMulOk.of_left ?_,?_⟩<;>simp only [ev_x]
  ·exact Zfi b14.1 b14.2
  ·rfl
 ·refine ⟨IntMulOk.of_left ?_,?_⟩<;>simp only [ev_k,e4]<;>first | decide | rfl
 ·refine ⟨by simp only [ev_k];decide,?_⟩
  dsimp only
  rw [two rfl rfl,ev_k];rfl
 ·refine ⟨IntMulOk.of_left ?_,?_⟩<;>simp only [ev_x]
  ·have:=ZdJ (a:=(nuD k rest i j tl).x 16+(nuD k rest i j tl).x 18) (b:=4294966237) (by decide)
   exact Zfi this.1 (Int.lt_trans this.2 (by decide))
  ·rfl
 ·refine ⟨by simp only [ev_k];decide,?_⟩ ;simp only [ev_k,ev_x];rfl
 ·refine ⟨⟨by simp only [ev_k];decide,PyProof.noPylong_small (by simp only [ev_k];decide)⟩,?_⟩ ;simp only [ev_k,ev_x];rfl
 ·refine ⟨?_,?_⟩<;>simp only [ev_k,ev_x]<;>first | omega | rfl
theorem Zm7 {k:Nat} {rest i j:Int} {tl:List SV} (h:∀ v ∈ tl,∃ i,v = .int i) (hl:tl.length≤64):(nuD k rest i j tl).ok:=by
 refine Zb2 (λp hp=>by cases hp) (λp hp _=>?_) (λp hp h1=>?_) (λp hp=>?_) (λp hp=>by cases hp)
 ·obtain rfl:=List.mem_singleton.mp hp;exact h
 ·obtain rfl:=List.mem_singleton.mp hp;exact absurd h1 (by decide:¬100≤0)
 ·obtain rfl:=List.mem_singleton.mp hp;show tl.length≤4096;omega
end
end Mine
end
section
namespace Mine
variable {G:Gl} {B:Bs} {ρ:List (Addr × Obj)} {σ:List SO} {ls ls':List (Str × SV)} {rs:Shared} {d:Nat}
theorem ZhV {ρ:List (Addr × Obj)} {vs:List Value} {ns:List Int} (h:IntsAre vs ns):VL ρ (ns.map SV.int) vs:=by
 induction h with
 | nil=>exact .nil
 | cons _ _ _ ih=>exact .cons (.int _ _) ih
theorem ZfW {ρ:List (Addr × Obj)}:∀ {ns:List Int} {vs:List Value},VL ρ (ns.map SV.int) vs->IntsAre vs ns
 | [],vs,h=>by cases h;exact .nil
 | n::ns,vs,h=>by
  cases h with
  | cons a b=>
   cases a
   exact .cons _ _ (ZfW b)
noncomputable def Zp9 (hp:List MO):Prop:=∃ (a:Nat) (i j:Lin) (row:List ME) (rest:List MO),hp = .list [.v (.ref a),.v (.int i),.v (.int j)]::.list row::rest∧Zpi a i j row=true
theorem ZjH {hp:List MO} (h:Zpj hp=true):Zp9 hp:=by
 revert hp;show Fa _ _;refine Lis.on_cons zB0 (λo hp h=>?_)
 revert o;show Fa _ _;refine MO.on_list zB2 zB1 zB1 zB1 zB2 zB1 (λxs h=>?_)
 revert xs;show Fa _ _;refine Lis.on_cons zB0 (λe1 xs h=>?_)
 revert e1;show Fa _ _;refine ME.on_v zB1 (λe1 h=>?_)
 revert e1;show Fa _ _;refine MV.on_ref zB0 zB1 zB1 zB1 zB1 zB1 zB1 zB1 (λa h=>?_)
 revert xs;show Fa _ _;refine Lis.on_cons zB0 (λe1 xs h=>?_)
 revert e1;show Fa _ _;refine ME.on_v zB1 (λe1 h=>?_)
 revert e1;show Fa _ _;refine MV.on_int zB0 zB1 zB1 zB1 zB1 zB1 zB1 zB1 (λi h=>?_)
 revert xs;show Fa _ _;refine Lis.on_cons zB0 (λe1 xs h=>?_)
 revert e1;show Fa _ _;refine ME.on_v zB1 (λe1 h=>?_)
 revert e1;show Fa _ _;refine MV.on_int zB0 zB1 zB1 zB1 zB1 zB1 zB1 zB1 (λj h=>?_)
 revert xs;show Fa _ _;refine Lis.on_nil zB2 (λh=>?_)
 revert hp;show Fa _ _;refine Lis.on_cons zB0 (λo hp h=>?_)
 revert o;show Fa _ _;refine MO.on_list zB2 zB1 zB1 zB1 zB2 zB1 (λrow h=>?_)
 exact i5_2 a i j row hp rfl h
theorem ZjG {v:MV} {s:St} (h:ZjF v s=true):∃ (l i j:Lin) (row:List ME) (rest:List MO),v = .int l∧s.heap = .list [.v (.ref 1),.v (.int i),.v (.int j)]::.list row::rest∧
 (l = .x 8∨l = .x 28)∧i = .x 2∧(j = .x 4∨j=lx 1 4)∧(row=[]∨row=[.seg 0]∨row=[.v (.int (.x 6)),.seg 0]):=by
 revert v;show Fa _ _;refine MV.on_int zB0 zB1 zB1 zB1 zB1 zB1 zB1 zB1 (λl h=>?_)
 have h1:=Bool.and_eq_true_iff.mp h
 refine e5_2 (ZjH h1.2) λa i j row hp e1 e2=>?_
 have h3:=Bool.and_eq_true_iff.mp e2
 have h4:=Bool.and_eq_true_iff.mp h3.1
 have h5:=Bool.and_eq_true_iff.mp h4.1
 refine i5_6 l i j row hp rfl ?_ ((Bool.or_eq_true_iff.mp h1.1).imp Lin.eq_eq Lin.eq_eq) (Lin.eq_eq h5.2) ((Bool.or_eq_true_iff.mp h4.2).imp Lin.eq_eq Lin.eq_eq) ?_
 ·rw [e1,Nat.eq_of_beq_eq_true h5.1]
 ·have h6:=h3.2
  clear h h1 e1 e2 h3 h4 h5
  cases row with
  | nil=>exact .inl rfl
  | cons e r=>
   refine .inr ?_
   cases e with
   | seg n=>
    refine .inl ?_
    revert r;show Fa _ _;refine Lis.on_nil zB2 (λh6=>?_)
    rw [Nat.eq_of_beq_eq_true h6]
   | v w=>
    refine .inr ?_
    revert w;show Fa _ _;refine MV.on_int zB0 zB1 zB1 zB1 zB1 zB1 zB1 zB1 (λx h6=>?_)
    revert r;show Fa _ _;refine Lis.on_cons zB0 (λe r h6=>?_)
    revert e;show Fa _ _;refine ME.on_seg zB1 (λn h6=>?_)
    revert r;show Fa _ _;refine Lis.on_nil zB2 (λh6=>?_)
    have h7:=Bool.and_eq_true_iff.mp h6
    rw [Nat.eq_of_beq_eq_true h7.1,Lin.eq_eq h7.2]
theorem Zj3:∀ (l:List SV),(∀ v ∈ l,∃ i,v = .int i)->∃ ms:List Int,l=ms.map .int
 | [],_=>⟨[],rfl⟩
 | v::r,hv=>by
  refine e1_1 (Zj3 r λw hw=>hv w (.tail _ hw)) λms e=>?_
  refine e1_1 (hv v (.head _)) λi e'=>?_
  exact ⟨i::ms,by rw [e,e'];rfl⟩
theorem Zlq {ν:Vn} {v:MV} {s:St} (h:ZjF v s=true) {k:Nat} {i j:Int} (f2:ν.x 2=i) (f4:ν.x 4=j) (hg0:∀ v ∈ ν.g 0,∃ i,v = .int i) (hg1:(ν.g 0).length<64) (h8:0≤ν.x 8∧ν.x 8<k) (h28:0≤ν.x 28∧ν.x 28<k):
 ∃ (q:Nat) (j9:Int) (ms:List Int) (rest:List SO),v.sem ν = .int q∧q<k∧s.heap.map (MO.sem ν) = .list [.ref 1,.int i,.int j9]::.list (ms.map .int)::rest∧(j9=j∨j9=1+j)∧(ms.map SV.int).length≤64:=by
 refine e5_6 (ZjG h) λl i9 j9 row rest e1 e2 hl e3 hj hr=>?_
 have toN:∀ {z:Int},0≤z∧z<k->z=(z.toNat:Int)∧z.toNat<k:=λ{z} h=>by omega
 have hv:∃ z:Int,(0≤z∧z<k)∧v.sem ν = .int z:=by
  rw [e1]
  refine hl.elim (λe=>⟨_,h8,?_⟩) λe=>⟨_,h28,?_⟩<;>rw [e]<;>simp only [MV.sem,ev_x]
 have hrow:∃ ms:List Int,rowS ν row=ms.map .int∧(ms.map SV.int).length≤64:=by
  refine e1_1 (Zj3 _ hg0) λms e=>?_
  rw [e] at hg1
  have hg:rowS ν [.seg 0]=ms.map .int:=(List.append_nil _).trans e
  refine hr.elim (λh=>⟨[],by rw [h];rfl,Nat.zero_le _⟩) λh=>h.elim (λh=>⟨ms,by rw [h,hg],Nat.le_of_lt hg1⟩) λh=>⟨(Lin.x 6).ev ν.x::ms,?_,hg1⟩
  rw [h]
  exact congrArg _ hg
 have hj9:j9.ev ν.x=j∨j9.ev ν.x=1+j:=hj.imp (λe=>by rw [e,ev_x,f4]) λe=>by rw [e,←f4];show 1+(1 * ν.x 4+0)=_;rw [Int.one_mul,Int.add_zero]
 refine e1_2 hv λz hz ez=>?_
 refine e1_2 hrow λms em hm=>?_
 refine i4_5 z.toNat (j9.ev ν.x) ms (rest.map (MO.sem ν)) (by rw [ez,←(toN hz).1]) (toN hz).2 ?_ hj9 hm
 rw [e2,←em,←f2,←ev_x ν.x 2,←e3];rfl
theorem ZoZ {b:Addr} {i j:Int} {us:List Value} (h:VL [] [.glob (.ref b),.int i,.int j] us):∃ t u,us=[.ref b,.int i t,.int j u]:=by
 refine e2_3 h.cons_inv λu1 r1 q1 a1 b1=>?_
 refine e2_3 b1.cons_inv λu2 r2 q2 a2 b2=>?_
 refine e2_3 b2.cons_inv λu3 r3 q3 a3 b3=>?_
 refine e1_1 (vint a2) λt z2=>?_
 refine e1_1 (vint a3) λu z3=>?_
 exact ⟨t,u,by rw [q1,q2,q3,b3.nil_inv,a1.glob_inv.1,z2,z3]⟩
theorem ZjE {ρ' l':List (Addr × Obj)} {a b:Addr} {ao bo:Obj} {i j:Int} {ms:List Int} {rest:List SO} {T:List Tr} (e1:(a,ao)::(b,bo)::l'=ρ') (m1:T.map (·.1)=ρ') (m2:T.map (·.2.1)=(SO.list [.ref 1,.int i,.int j]::.list (ms.map .int)::rest).map (anfO ρ')) (gT:Good G T):
 ∃ (k1 k2:Nat) (t u:Tok) (vs:List Value) (T':List Tr),flat T=[(a,PySem.W.listOf #[.ref b,.int i t,.int j u] k1),(b,PySem.W.listOf vs.toArray k2)]++flat T'∧Good G T'∧VL [] (ms.map SV.int) vs:=by
 subst e1
 cases T with
 | nil=>cases m1
 | cons ta T=>
  cases T with
  | nil=>exact nomatch (List.cons.inj m1).2
  | cons tb T=>
   have p1:ta.1=(a,ao):=(List.cons.inj m1).1
   have p2:tb.1=(b,bo):=(List.cons.inj (List.cons.inj m1).2).1
   have q1:ta.2.1 = .list [.glob (.ref b),.int i,.int j]:=(List.cons.inj m2).1
   have q2:tb.2.1 = .list (ms.map .int):=(List.cons.inj (List.cons.inj m2).2).1.trans (by simp only [anfO,List.map_map];rfl)
   have o1:=gT _ (.head _)
   have o2:=gT _ (.tail _ (.head _))
   rw [p1,q1] at o1
   rw [p2,q2] at o2
   refine e2_3 o1.list_inv λk1 vs1 z1 y1 _=>?_
   refine e2_3 o2.list_inv λk2 vs2 z2 y2 _=>?_
   refine e2_1 (ZoZ y1) λt u z3=>?_
   refine i6_3 k1 k2 t u vs2 T ?_ (λt ht=>gT t (.tail _ (.tail _ ht))) y2
   show ta.2.2++(tb.2.2++flat T)=_
   rw [z1,z2,z3];rfl
noncomputable def Zo2 (G:Gl) (B:Bs) (R:List Tr) (ls:List (Str × SV)) (k:Nat) (a b:Addr) (i j:Int) (r:Result) (rs':Shared):Prop:=
 ∃ (q:Nat) (w:Tok) (j9:Int) (ms:List Int) (k1 k2:Nat) (t u:Tok) (vs:List Value) (T:List Tr),q<k∧r = .ok (.ret (.int q w))∧(j9=j∨j9=1+j)∧VL [] (ms.map SV.int) vs∧vs.length≤64∧Good G T∧
  Hs G (B.mid [] ([(a,PySem.W.listOf #[.ref b,.int i t,.int j9 u] k1),(b,PySem.W.listOf vs.toArray k2)]++(flat T++flat R))) [] [] ls rs'
theorem Zic {Pm:Params} (hK:G.K=KF Pm) (O:Ok G B 10) {R:List Tr} {a b:Addr} {ao bo:Obj} {i j:Int} {ns:List Int} {k:Nat} {t:Tok}
 (y:Hs G (B.mid [] (flat R)) [(a,ao),(b,bo)] [.list [.ref 1,.int i,.int j],.list (ns.map .int)] ls rs) (hls:∀ ρ',LsTo [] [] (Zax ρ' ls) ls)
 {row:List ME} {ν:Vn} (hν:ν.ok) (ho:ZdE (tabD k) ν) (hc:(ZnM k row).chk ZjF=true) (hrow:rowS ν row=ns.map .int) (f2:ν.x 2=i) (f4:ν.x 4=j) (hg0:∀ v ∈ ν.g 0,∃ i,v = .int i) (hg1:(ν.g 0).length<64) (h8:0≤ν.x 8∧ν.x 8<k) (h28:0≤ν.x 28∧ν.x 28<k):
 codeAny G.M B.A (.call (.ref 516) ⟨[.ref a,.int k t],[]⟩) (Zo2 G B R ls k a b i j) rs:=by
 have H:=Zbw (tOk Pm (G:=G) hK) (ZcK rfl ho) hν 40
 have hsem:[SO.list [.ref 1,.int i,.int j],.list (ns.map .int)]=semH (tabD k) ν (stD row):=by
  show _=[SO.list [.ref 1,.int ((Lin.x 2).ev ν.x),.int ((Lin.x 4).ev ν.x)],.list (rowS ν row)]
  rw [ev_x,ev_x,f2,f4,hrow]
 refine codeAny_mono (ZjJ H O.mid y (hK ▸ ZcV Pm) (vs:=[.ref 0,.int (.k k)]) (rvs:=[.ref a,.int k t]) (.cons (.ref (o:=ao) rfl) (.cons (by simp only [MV.sem,ev_k];exact .int _ _) .nil)) hsem (λp hp=>by cases hp) (Zbx hc)) λr rs' z=>?_
 refine byP λXX kX=>?_
 refine e1_2 z λrv wr z=>?_
 refine e3_5 z λρ' w s' hp hw hP _ hs'=>?_
 refine e4_5 (Zlq hP f2 f4 hg0 hg1 h8 h28) λq j9 ms rest e1 e2 e3 e4 e5=>?_
 rw [e1] at hw
 refine e1_1 (vint hw) λtw ew=>?_
 refine e1_4 (ZaD (pre:=[]) hs') λT m1 m2 gT zz=>?_
 refine e1_1 hp λl' hl'=>?_
 refine e6_3 (ZjE hl' m1 (m2.trans (congrArg _ e3)) gT) λk1 k2 t u vs T' f1 f2 f3=>?_
 rw [f1,List.append_assoc] at zz
 exact kX (i10_7 q tw j9 ms k1 k2 t u vs T' e2 (by rw [wr,ew]) e4 f3 (by rw [f3.length];exact e5) f2 (zz.lsTo (hls ρ')))
theorem ZnN {Pm:Params} (hK:G.K=KF Pm) (O:Ok G B 10) (x:Hs G B ρ σ ls rs) {n N k:Nat} {a:Addr} {ao:Obj} {t:Tok} (h:σ[n]? = some (.deck N)) (ha:ρ[n]? = some (a,ao)) (hk:ZlR k):
 codeAny G.M B.A (.call (.ref 516) ⟨[.ref a,.int k t],[]⟩) (λr rs'=>∃ (i:Nat) (u:Tok),i<k∧r = .ok (.ret (.int i u))∧Hs G B ρ (σ.set n (.deck (N+1))) ls rs') rs:=by
 have hk0:0<k∧k<100:=by rcases hk with rfl | rfl | rfl | rfl<;>decide
 refine byP λXX kX=>?_
 refine e2_6 (hole x h) λtr R e1 e2 o good y back=>?_
 rw [ha] at e1
 obtain ⟨p,so,es⟩:=tr
 have e3:p=(a,ao):=(Option.some.inj e1).symm
 have e4:so = .deck N:=e2
 subst e3
 subst e4
 clear e1 e2
 refine e9_6 o.deck_inv λb k0 l0 i j t0 u0 vs ns h0 h1 h2 h3 h4 h5=>?_
 have h0':es=[(a,PySem.W.listOf #[.ref b,.int i t0,.int j u0] k0),(b,PySem.W.listOf vs.toArray l0)]:=h0
 subst h0'
 have hl:=(ZhV (ρ:=[]) h1).length
 have hd:look (Str.ofString "__debug__") (Zax ρ ls)=none:=by obtain ⟨m,led,F,N,R,Lc⟩:=y.ex;exact Lc.dbg
 have y2:=thaw (pre:=[]) (T:=[((a,ao),.list [.glob (.ref b),.int i,.int j],[(a,PySem.W.listOf #[.ref b,.int i t0,.int j u0] k0)]),((b,default),.list (ns.map .int),[(b,PySem.W.listOf vs.toArray l0)])]) (R:=R) (σ':=[.list [.ref 1,.int i,.int j],.list (ns.map .int)]) (ls':=Zax ρ ls) y
  (List.forall_mem_cons.mpr ⟨.list (.cons (.glob _ rfl) (.cons (.int _ _) (.cons (.int _ _)   .nil))) (by show 3≤2 ^ 20;decide),List.forall_mem_cons.mpr ⟨.list (ZhV h1) (by rw [←hl];exact Nat.le_trans h2 (by decide)),good⟩⟩) (.refl _)
  (by simp only [List.map_cons,List.map_nil,anfO,List.map_map];rfl) (LsTo.mono List.nil_prefix hd)
 have hls:∀ ρ',LsTo [] [] (Zax ρ' (Zax ρ ls)) (Zax ρ ls):=ZcM y
 have fin:codeAny G.M B.A (.call (.ref 516) ⟨[.ref a,.int k t],[]⟩) (Zo2 G B R (Zax ρ ls) k a b i j) rs->XX:=λz=>kX (codeAny_mono z λr rs' z=>by
  refine e10_7 z λq w j9 ms k1 k2 t u vs T e1 e2 e3 e4 e5 e6 z=>?_
  refine i2_3 q w e1 e2 (back ((a,ao),.deck (N+1),[(a,PySem.W.listOf #[.ref b,.int i t,.int j9 u] k1),(b,PySem.W.listOf vs.toArray k2)]) (.deck (N+1)) (flat T) rs' rfl rfl (.deck (ZfW e4) e5 ?_ ?_ h5) e6.noCell z)
  ·omega
  ·omega)
 cases h1 with
 | nil=>
  have b8:=ZdJ (a:=(0:Int)) (b:=(k:Int)) (Int.natCast_pos.mpr hk0.1)
  have b28:=ZdJ (a:=(nuD k 0 i j []).x 26) (b:=(k:Int)) (Int.natCast_pos.mpr hk0.1)
  exact fin (Zic (row:=[]) (ν:=nuD k 0 i j []) hK O y2 hls (Zm7 (λv hv=>by cases hv) (by decide)) (Zkt hk0.1 hk0.2) (Zid hk).1 rfl rfl rfl (λv hv=>by cases hv) (by show 0<64;decide) b8 b28)
 | @cons r t vs ns h1=>
  have b8:=ZdJ (a:=r) (b:=(k:Int)) (Int.natCast_pos.mpr hk0.1)
  have b28:=ZdJ (a:=(nuD k r i j (ns.map .int)).x 26) (b:=(k:Int)) (Int.natCast_pos.mpr hk0.1)
  have hlen:(ns.map SV.int).length<64:=by rw [←(ZhV (ρ:=[]) h1).length];exact h2
  have hg:∀ v ∈ ns.map SV.int,∃ i,v = .int i:=λv hv=>by refine e1_2 (List.mem_map.mp hv) λq _ e=>?_;exact ⟨q,e.symm⟩
  refine fin (Zic (row:=[.v (.int (.x 0)),.seg 0]) (ν:=nuD k r i j (ns.map .int)) hK O y2 hls (Zm7 hg (Nat.le_trans (Nat.le_of_lt hlen) (by decide))) (Zkt hk0.1 hk0.2) (Zid hk).2 ?_ rfl rfl hg hlen b8 b28)
  show SV.int ((Lin.x 0).ev _)::(ns.map SV.int++[])=_
  rw [ev_x,List.append_nil];rfl
end Mine
end
section
namespace Mine
set_option genInjectivity false in
set_option genSizeOf false in
structure Item where
 op:List Int
 be:Int
 le:Int
 wh:Option Int
 wo:Option Int
 st:Bool
 co:Bool
 ln:Bool
 sta:Option Int
 qu:Bool
 ha:Nat
noncomputable def Item.plain (op:List Int) (be le:Int) (wh wo:Option Int):Item:=⟨op,be,le,wh,wo,false,false,false,none,false,0⟩
noncomputable def Item.endWord (D:Item):Item:=match D.wo with | some w=>{ D with wh:=some w,wo:=none } | none=>D
noncomputable def Item.beginWord (D:Item) (p:Int):Item:=match D.wo with | some _=>D | none=>{ D with wo:=some p }
noncomputable def Zkd:List Int->Option Int
 | []=>none
 | [a]=>some a
 | _::r=>Zkd r
noncomputable def Ze6:List Int->List Int
 | []=>[]
 | [_]=>[]
 | a::r=>a::Ze6 r
noncomputable def Item.close (D:Item):Item:=match D.op with
 | []=>{ D with be:=D.be+1,wh:=none,le:=min D.le (0-(D.be+1)) }
 | a::r=>{ D with op:=Ze6 (a::r),wh:=Zkd (a::r),le:=min D.le (((Ze6 (a::r)).length:Int)-D.be) }
noncomputable def isWd (c:Nat):Bool:=Nat.beq c 97||Nat.beq c 98||Nat.beq c 95||Nat.beq c 48
noncomputable def Zfa (D:Item) (p:Int) (c n:Nat):Item:=match D.ha with
 | 1=>{ D.endWord with ha:=0,co:=true,ln:=Nat.beq c 47,sta:=some (p-1) }
 | 2=>{ D with ha:=0,co:=false,ln:=false,sta:=none }
 | _=>
  bif D.co then (bif D.ln then (bif Nat.beq c 10 then { D with co:=false,ln:=false,sta:=none } else D) else bif Nat.beq c 42&&Nat.beq n 47 then { D with ha:=2 } else D)
  else bif D.st then (bif D.qu then { D with qu:=false } else bif Nat.beq c 92 then { D with qu:=true } else bif Nat.beq c 34 then { D with wh:=D.sta,st:=false,sta:=none } else D)
  else bif D.qu then { D with qu:=false }
  else bif Nat.beq c 47 then { D.endWord with ha:=1 }
  else bif Nat.beq c 92 then { D.beginWord p with qu:=true }
  else bif isWd c then D.beginWord p
  else bif Nat.beq c 40 then { D.endWord with op:=D.op++[p],wh:=none }
  else bif Nat.beq c 41 then D.endWord.close
  else bif Nat.beq c 34 then { D.endWord with st:=true,sta:=some p }
  else D.endWord
set_option genInjectivity false in
set_option genSizeOf false in
inductive Ks where
 | op | cl | word | esc | blank | sign | str | line | block
set_option genInjectivity false in
set_option genSizeOf false in
structure Pc where
 k:Ks
 t:List Nat
 e:Bool
noncomputable def Pc.known (q:Pc) (D:Item) (p:Int):Item:=match q.k with
 | .word=>D.beginWord p
 | .esc=>D.beginWord p
 | .op=>{ D.endWord with op:=D.op++[p],wh:=none }
 | .cl=>D.endWord.close
 | _=>D.endWord
noncomputable def Zkp (l:List Nat):Bool:=l.foldl (λb c=>bif Nat.beq c 92 then !b else false) false
noncomputable def ZhX (D:Item) (p:Int) (t:List Nat):Nat->Nat->List Item
 | 0,_=>[]
 | n+1,a=>{ D with st:=true,sta:=some p,qu:=Zkp (t.take a) }::ZhX D p t n (a+1)
noncomputable def Zgo (D:Item) (p:Int) (ln:Bool) (half:Nat):Nat->Nat->List Item
 | 0,_=>[]
 | n+1,a=>(bif Nat.beq a 1 then { D with ha:=1 } else { D with co:=true,ln:=ln,sta:=some (p+1-1),ha:=bif Nat.beq a half then 2 else 0 })::Zgo D p ln half n (a+1)
noncomputable def Pc.inner (q:Pc) (D:Item) (p:Int):List Item:=
 let n:=bif q.e then q.t.length-1 else q.t.length
 match q.k with
 | .str=>ZhX D p q.t n 1
 | .line=>Zgo D p true 0 n 1
 | .block=>Zgo D p false (bif q.e then q.t.length-1 else 0) n 1
 | .esc=>[{ D with qu:=true }]
 | _=>List.replicate (q.t.length-1) D
noncomputable def Pc.last (q:Pc) (D:Item) (p:Int):Item:=match q.k with
 | .str=>{ D with wh:=some p }
 | _=>D
noncomputable def Pc.due (q:Pc) (D:Item) (p:Int):List Item:=let K:=q.known D p;bif q.e then q.inner K p++[q.last K p] else q.inner K p
noncomputable def pcs:List Pc:=
 ⟨.op,[40],true⟩::
 ⟨.cl,[41],true⟩::
 ⟨.word,[97],true⟩::
 ⟨.word,[98,95],true⟩::
 ⟨.word,[48],true⟩::
 ⟨.esc,[92,40],true⟩::
 ⟨.esc,[92,34],true⟩::
 ⟨.esc,[92,32],true⟩::
 ⟨.blank,[32],true⟩::
 ⟨.blank,[9],true⟩::
 ⟨.blank,[10],true⟩::
 ⟨.sign,[43],true⟩::
 ⟨.sign,[61],true⟩::
 ⟨.sign,[59],true⟩::
 ⟨.str,[34,34],true⟩::
 ⟨.str,[34],false⟩::
 ⟨.str,[34,92,34,34],true⟩::
 ⟨.str,[34,92,34],false⟩::
 ⟨.str,[34,92,92,34],true⟩::
 ⟨.str,[34,92,92],false⟩::
 ⟨.str,[34,40,34],true⟩::
 ⟨.str,[34,40],false⟩::
 ⟨.str,[34,40,92,34,34],true⟩::
 ⟨.str,[34,40,92,34],false⟩::
 ⟨.str,[34,40,92,92,34],true⟩::
 ⟨.str,[34,40,92,92],false⟩::
 ⟨.str,[34,97,41,34],true⟩::
 ⟨.str,[34,97,41],false⟩::
 ⟨.str,[34,97,41,92,34,34],true⟩::
 ⟨.str,[34,97,41,92,34],false⟩::
 ⟨.str,[34,97,41,92,92,34],true⟩::
 ⟨.str,[34,97,41,92,92],false⟩::
 ⟨.str,[34,47,47,34],true⟩::
 ⟨.str,[34,47,47],false⟩::
 ⟨.str,[34,47,47,92,34,34],true⟩::
 ⟨.str,[34,47,47,92,34],false⟩::
 ⟨.str,[34,47,47,92,92,34],true⟩::
 ⟨.str,[34,47,47,92,92],false⟩::
 ⟨.str,[34,47,42,34],true⟩::
 ⟨.str,[34,47,42],false⟩::
 ⟨.str,[34,47,42,92,34,34],true⟩::
 ⟨.str,[34,47,42,92,34],false⟩::
 ⟨.str,[34,47,42,92,92,34],true⟩::
 ⟨.str,[34,47,42,92,92],false⟩::
 ⟨.str,[34,42,34],true⟩::
 ⟨.str,[34,42],false⟩::
 ⟨.str,[34,42,92,34,34],true⟩::
 ⟨.str,[34,42,92,34],false⟩::
 ⟨.str,[34,42,92,92,34],true⟩::
 ⟨.str,[34,42,92,92],false⟩::
 ⟨.str,[34,47,32,42,34],true⟩::
 ⟨.str,[34,47,32,42],false⟩::
 ⟨.str,[34,47,32,42,92,34,34],true⟩::
 ⟨.str,[34,47,32,42,92,34],false⟩::
 ⟨.str,[34,47,32,42,92,92,34],true⟩::
 ⟨.str,[34,47,32,42,92,92],false⟩::
 ⟨.line,[47,47,10],true⟩::
 ⟨.line,[47,47],false⟩::
 ⟨.line,[47,47,40,10],true⟩::
 ⟨.line,[47,47,40],false⟩::
 ⟨.line,[47,47,97,41,10],true⟩::
 ⟨.line,[47,47,97,41],false⟩::
 ⟨.line,[47,47,47,47,10],true⟩::
 ⟨.line,[47,47,47,47],false⟩::
 ⟨.line,[47,47,47,42,10],true⟩::
 ⟨.line,[47,47,47,42],false⟩::
 ⟨.line,[47,47,42,10],true⟩::
 ⟨.line,[47,47,42],false⟩::
 ⟨.line,[47,47,47,32,42,10],true⟩::
 ⟨.line,[47,47,47,32,42],false⟩::
 ⟨.block,[47,42,42,47],true⟩::
 ⟨.block,[47,42],false⟩::
 ⟨.block,[47,42,40,42,47],true⟩::
 ⟨.block,[47,42,40],false⟩::
 ⟨.block,[47,42,97,41,42,47],true⟩::
 ⟨.block,[47,42,97,41],false⟩::
 ⟨.block,[47,42,47,47,42,47],true⟩::
 ⟨.block,[47,42,47,47],false⟩::
 ⟨.block,[47,42,47,42,42,47],true⟩::
 ⟨.block,[47,42,47,42],false⟩::
 ⟨.block,[47,42,42,42,47],true⟩::
 ⟨.block,[47,42,42],false⟩::
 ⟨.block,[47,42,47,42,47],true⟩::
 ⟨.block,[47,42,47],false⟩::
 []
end Mine
end
section
namespace Mine
noncomputable section
noncomputable def slashH:List MO:=
 .inst 225 [("parent",.none),("rows",(.ref 1))]::
 .dictI [(97,(.ref 3)),(98,(.ref 3)),(99,(.ref 3)),(100,(.ref 3)),(101,(.ref 3)),(102,(.ref 3)),(103,(.ref 3)),(104,(.ref 3)),(105,(.ref 3)),(106,(.ref 3)),(107,(.ref 3)),(108,(.ref 3)),(109,(.ref 3)),(110,(.ref 3)),(111,(.ref 3)),(112,(.ref 3)),(113,(.ref 3)),(114,(.ref 3)),(115,(.ref 3)),(116,(.ref 3)),(117,(.ref 3)),(118,(.ref 3)),(119,(.ref 3)),(120,(.ref 3)),(121,(.ref 3)),(122,(.ref 3)),(65,(.ref 3)),(66,(.ref 3)),(67,(.ref 3)),(68,(.ref 3)),(69,(.ref 3)),(70,(.ref 3)),(71,(.ref 3)),(72,(.ref 3)),(73,(.ref 3)),(74,(.ref 3)),(75,(.ref 3)),(76,(.ref 3)),(77,(.ref 3)),(78,(.ref 3)),(79,(.ref 3)),(80,(.ref 3)),(81,(.ref 3)),(82,(.ref 3)),(83,(.ref 3)),(84,(.ref 3)),(85,(.ref 3)),(86,(.ref 3)),(87,(.ref 3)),(88,(.ref 3)),(89,(.ref 3)),(90,(.ref 3)),(48,(.ref 3)),(49,(.ref 3)),(50,(.ref 3)),(51,(.ref 3)),(52,(.ref 3)),(53,(.ref 3)),(54,(.ref 3)),(55,(.ref 3)),(56,(.ref 3)),(57,(.ref 3)),(36,(.ref 3)),(37,(.ref 3)),(32,(.ref 5)),(9,(.ref 5)),(10,(.ref 5)),(13,(.ref 5)),(12,(.ref 5)),(95,(.ref 7)),(45,(.ref 7)),(43,(.ref 7)),(42,(.ref 7)),(47,(.ref 7)),(38,(.ref 7)),(124,(.ref 7)),(60,(.ref 7)),(62,(.ref 7)),(61,(.ref 7)),(46,(.ref 9)),(44,(.ref 9)),(59,(.ref 9)),(58,(.ref 9)),(63,(.ref 9)),(33,(.ref 9)),(35,(.ref 9)),(64,(.ref 9)),(126,(.ref 9)),(94,(.ref 9)),(39,(.ref 9)),(96,(.ref 9)),(40,(.ref 15)),(41,(.ref 17)),(91,(.ref 19)),(93,(.ref 21)),(123,(.ref 23)),(125,(.ref 25)),(34,(.ref 27)),(92,(.ref 29))]::
 .list []::
 .inst 144 [("kind",(.str [119])),("match",.none),("flags",(.str []))]::
 .list []::
 .inst 144 [("kind",(.str [32])),("match",.none),("flags",(.str []))]::
 .list []::
 .inst 144 [("kind",(.str [95])),("match",.none),("flags",(.str []))]::
 .list []::
 .inst 144 [("kind",(.str [46])),("match",.none),("flags",(.str []))]::
 .tuple [.v (.str [40]),.v (.str [41])]::
 .tuple [.v (.str [91]),.v (.str [93])]::
 .tuple [.v (.str [123]),.v (.str [125])]::
 .tuple [.v (.ref 10),.v (.ref 11),.v (.ref 12)]::
 .list []::
 .inst 144 [("kind",(.str [40])),("match",(.int (.k 41))),("flags",(.str []))]::
 .list []::
 .inst 144 [("kind",(.str [41])),("match",(.int (.k 40))),("flags",(.str []))]::
 .list []::
 .inst 144 [("kind",(.str [40])),("match",(.int (.k 93))),("flags",(.str []))]::
 .list []::
 .inst 144 [("kind",(.str [41])),("match",(.int (.k 91))),("flags",(.str []))]::
 .list []::
 .inst 144 [("kind",(.str [40])),("match",(.int (.k 125))),("flags",(.str []))]::
 .list []::
 .inst 144 [("kind",(.str [41])),("match",(.int (.k 123))),("flags",(.str []))]::
 .list []::
 .inst 144 [("kind",(.str [34])),("match",.none),("flags",(.str []))]::
 .list []::
 .inst 144 [("kind",(.str [92])),("match",.none),("flags",(.str []))]::
 .inst 225 [("parent",(.ref 0)),("rows",(.ref 31))]::
 .dictI [(43,(.ref 33)),(45,(.ref 33)),(61,(.ref 33)),(37,(.ref 33)),(60,(.ref 33)),(62,(.ref 33)),(38,(.ref 33)),(124,(.ref 33)),(46,(.ref 33)),(44,(.ref 33)),(59,(.ref 33)),(58,(.ref 33)),(63,(.ref 33)),(33,(.ref 33)),(126,(.ref 33)),(94,(.ref 33)),(35,(.ref 33)),(64,(.ref 33)),(47,(.ref 35)),(42,(.ref 37)),(10,(.ref 39)),(39,(.ref 41)),(95,(.ref 43))]::
 .list []::
 .inst 144 [("kind",(.str [46])),("match",.none),("flags",(.str []))]::
 .list [.v (.bool true),.v (.bool true),.v (.bool true),.v (.bool true)]::
 .inst 144 [("kind",(.str [46])),("match",.none),("flags",(.str [49,50,52,98]))]::
 .list [.v (.bool true),.v (.bool true)]::
 .inst 144 [("kind",(.str [46])),("match",.none),("flags",(.str [50,51]))]::
 .list [.v (.bool true)]::
 .inst 144 [("kind",(.str [62])),("match",.none),("flags",(.str [98]))]::
 .list []::
 .inst 144 [("kind",(.str [34])),("match",.none),("flags",(.str []))]::
 .list []::
 .inst 144 [("kind",(.str [95])),("match",.none),("flags",(.str []))]::
 []
set_option genInjectivity false in
set_option genSizeOf false in
structure IM where
 op:List ME
 be:Lin
 le:Lin
 wh:MV
 wo:MV
 st:Bool
 co:Bool
 ln:Bool
 sta:MV
 qu:Bool
 ha:Nat
noncomputable def haS:Nat->List Nat
 | 1=>[98,101,103,105,110]
 | 2=>[101,110,100]
 | _=>[]
noncomputable def IM.fl (D:IM):List MV:=[.int D.be,.int D.le,D.wh,D.wo,bif D.st then .int (.k 34) else .none,.int (.k (bif D.co then 1 else 0)),.str (bif D.ln then [98] else []),.bool false,D.sta,.bool D.qu,.str (haS D.ha)]
noncomputable def oSV:Option Int->SV
 | some i=>.int i
 | none=>.none
noncomputable def Item.fl (D:Item):List SV:=[.int D.be,.int D.le,oSV D.wh,oSV D.wo,bif D.st then .int 34 else .none,.int (bif D.co then 1 else 0),.str (bif D.ln then [98] else []),.bool false,oSV D.sta,.bool D.qu,.str (haS D.ha)]
noncomputable def IM.endWord (D:IM):IM:=match D.wo with | .none=>D | w=>{ D with wh:=w,wo:=.none }
noncomputable def IM.beginWord (D:IM) (p:Lin):IM:=match D.wo with | .none=>{ D with wo:=.int p } | _=>D
noncomputable def IM.close (D:IM) (least:Bool):IM:=match D.op with
 | []=>{ D with be:=D.be.add (.k 1),wh:=.none,le:=bif least then (Lin.k 0).sub (D.be.add (.k 1)) else D.le }
 | [.seg n,.v w]=>{ D with op:=[.seg n],wh:=w,le:=bif least then (lenL [.seg n]).sub D.be else D.le }
 | _=>D
noncomputable def ZkP (D:IM) (p:Lin) (c n:Nat) (least:Bool):IM:=match D.ha with
 | 1=>{ D.endWord with ha:=0,co:=true,ln:=Nat.beq c 47,sta:=.int (p.sub (.k 1)) }
 | 2=>{ D with ha:=0,co:=false,ln:=false,sta:=.none }
 | _=>
  bif D.co then (bif D.ln then (bif Nat.beq c 10 then { D with co:=false,ln:=false,sta:=.none } else D) else bif Nat.beq c 42&&Nat.beq n 47 then { D with ha:=2 } else D)
  else bif D.st then (bif D.qu then { D with qu:=false } else bif Nat.beq c 92 then { D with qu:=true } else bif Nat.beq c 34 then { D with wh:=D.sta,st:=false,sta:=.none } else D)
  else bif D.qu then { D with qu:=false }
  else bif Nat.beq c 47 then { D.endWord with ha:=1 }
  else bif Nat.beq c 92 then { D.beginWord p with qu:=true }
  else bif isWd c then D.beginWord p
  else bif Nat.beq c 40 then { D.endWord with op:=D.op++[.v (.int p)],wh:=.none }
  else bif Nat.beq c 41 then D.endWord.close least
  else bif Nat.beq c 34 then { D.endWord with st:=true,sta:=.int p }
  else D.endWord
noncomputable def modeM (op:List ME):Nat->IM
 | 0=>⟨op,.x 10,.x 12,.opq 0,.none,false,false,false,.none,false,0⟩
 | 1=>⟨op,.x 10,.x 12,.opq 0,.int (.x 14),false,false,false,.none,false,0⟩
 | 2=>⟨op,.x 10,.x 12,.opq 0,.int (.x 14),false,false,false,.none,true,0⟩
 | 3=>⟨op,.x 10,.x 12,.opq 0,.none,true,false,false,.int (.x 16),false,0⟩
 | 4=>⟨op,.x 10,.x 12,.opq 0,.none,true,false,false,.int (.x 16),true,0⟩
 | 5=>⟨op,.x 10,.x 12,.opq 0,.none,false,false,false,.none,false,1⟩
 | 6=>⟨op,.x 10,.x 12,.opq 0,.none,false,true,false,.int (.x 16),false,2⟩
 | 7=>⟨op,.x 10,.x 12,.opq 0,.none,false,true,true,.int (.x 16),false,0⟩
 | _=>⟨op,.x 10,.x 12,.opq 0,.none,false,true,false,.int (.x 16),false,0⟩
noncomputable def lawB:List Stmt:=stB (top 53)
noncomputable def ZcA:List Stmt:=match nth lawB 5 with | some (.For _ _ b _ _)=>b | _=>[]
noncomputable def lawS:Scope:=stS (top 53)
noncomputable def psN:List Str:=["opens","below","least","whole","word","string","comment","style","nests","start","quoted","half"].map Str.ofString
noncomputable def ZhP (so:MV) (op:List ME):List MO:=match so with
 | .ref _=>[.tuple op]
 | _=>[]
noncomputable def ZaK (codes due:List ME) (D:IM) (so:MV):List MO:=slashH++([.inst 500 [("codes",.ref 45),("place",.int (.k 1))],.list codes,.list due,.tuple (.v (.ref 48)::D.fl.map .v),.tuple D.op,.inst 68 (psN.zip (so::D.fl))]++ZhP so D.op)
noncomputable def Zhl (vs:List MV) (s:St):Option (Res MV):=match vs with
 | [.ref n,.int l]=>bif Nat.beq n 30&&l.eq (.x 20) then some (.ret (.unk 0) s) else none
 | _=>none
noncomputable def Zau (codes due:List ME) (D:IM) (so:MV):Tab:=tabT (ZaK codes due D so) [(208,Zhl)] []
noncomputable def lx1 (k:Int):Lin:=⟨k,[(1,1)]⟩
noncomputable def ZbO (off:Int) (fx:List (Cnd × Bool)):St:=⟨[],[("table",.ref 30),("text",.txt 0),("view",.ref 44),("due",.ref 46),("state",.ref 49),("at",.int (lx1 off))],
 (.pos ⟨-off,[(1,-1),(1000,1)]⟩,true)::(.pos ⟨-off,[(1,-1)]⟩,false)::(.pos ⟨-1-off,[(1,-1)]⟩,false)::(.pos ⟨0,[(1,-1)]⟩,false)::(.pos ⟨1,[(3,1)]⟩,true)::(.pos ⟨2,[(3,1)]⟩,true)::(.pos ⟨3,[(3,1)]⟩,true)::(.pos ⟨0,[(20,-1)]⟩,false)::fx⟩
noncomputable def nxM:Nat->List ME
 | 0=>[.v (.int (.x 20)),.seg 1]
 | 1=>[]
 | k+2=>[.v (.int (.k k)),.seg 1]
noncomputable def nxC:Nat->Nat
 | k+2=>k
 | _=>0
noncomputable def ZoS (a:Addr) (D:IM) (so:MV) (c nx:Nat) (fx:List (Cnd × Bool)):Res Fl:=match D.ha with
 | 1=>(run (Zau (.seg 0::.v (.int (.k 47))::.v (.int (.k c))::nxM nx) [.seg 100,.v (.glob (.ref a)),.v (.ref 47),.seg 103] D so) 80).blk 20 lawS ZcA (ZbO 1 fx)
 | _=>(run (Zau (.seg 0::.v (.int (.k c))::nxM nx) [.seg 100,.v (.ref 47),.seg 103] D so) 80).blk 20 lawS ZcA (ZbO 0 fx)
noncomputable def mvEq (a b:MV):Bool:=Zcw a b
noncomputable def Zi5:List MV->List MV->Bool
 | [],[]=>true
 | a::r,b::q=>mvEq a b&&Zi5 r q
 | _,_=>false
noncomputable def Zdz:List ME->List ME->Bool
 | [],[]=>true
 | .v a::r,.v b::q=>mvEq a b&&Zdz r q
 | .seg n::r,.seg k::q=>Nat.beq n k&&Zdz r q
 | _,_=>false
noncomputable def ZgU:List (Str × MV)->List Str->Bool
 | [],[]=>true
 | p::r,x::q=>seq p.1 x&&ZgU r q
 | _,_=>false
noncomputable def snds (l:List (Str × MV)):List MV:=l.map (·.2)
noncomputable def ZkF (x:String) (k:Nat) (s:St):Bool:=match look (Str.ofString x) s.ls with
 | some (.ref n)=>Nat.beq n k
 | _=>false
noncomputable def ZoV (s:St):Bool:=match look (Str.ofString "text") s.ls with
 | some (.txt n)=>Nat.beq n 0
 | _=>false
noncomputable def Zkh (s:St):Bool:=ZkF "table" 30 s&&(ZoV s&&(ZkF "view" 44 s&&ZkF "due" 46 s))
noncomputable def Zks (D:IM):Option MO->Bool
 | some (.tuple row)=>Zdz row D.op
 | _=>false
noncomputable def sndC (nb:Nat) (D:IM) (s:St):List MV->Bool
 | .ref m::fl=>Zi5 fl D.fl&&Nat.ble nb m&&Zks D (nth s.heap (m-nb))
 | _=>false
noncomputable def Zn6 (nb:Nat) (D:IM) (s:St):Option MO->Bool
 | some (.inst C at_)=>Nat.beq C 68&&ZgU at_ psN&&sndC nb D s (snds at_)
 | _=>false
noncomputable def refC (nb:Nat) (D:IM) (s:St):Option MV->Bool
 | some (.ref n)=>Nat.ble nb n&&Zn6 nb D s (nth s.heap (n-nb))
 | _=>false
noncomputable def ZmJ (nb:Nat) (D:IM) (f:Fl) (s:St):Bool:=ZgI f&&Zkh s&&refC nb D s (look (Str.ofString "state") s.ls)
noncomputable def Zcq (a:Addr) (op:List ME) (m c nx:Nat) (so:MV) (fx:List (Cnd × Bool)) (least:Bool):Bool:=(ZoS a (modeM op m) so c nx fx).chk (ZmJ (50+(ZhP so (modeM op m).op).length) (ZkP (modeM op m) (lx1 (bif Nat.beq m 5 then 2 else 1)) c (nxC nx) least))
end
end Mine
end
section
namespace Mine
noncomputable section
noncomputable abbrev so1:MV:=.ref 50
noncomputable abbrev so0:MV:=.glob (.ref 29)
noncomputable abbrev opL:List ME:=[.seg 2,.v (.int (.x 18))]
noncomputable abbrev fxE (b:Bool):List (Cnd × Bool):=[(.pos ⟨1,[(10,1),(12,1)]⟩,b)]
noncomputable abbrev fxL (b:Bool):List (Cnd × Bool):=[(.pos ⟨0,[(5,-1),(10,1),(12,1)]⟩,b)]
noncomputable def allK (f:Nat × Nat × Nat->Bool):List (Nat × Nat × Nat)->Bool
 | []=>true
 | j::r=>f j&&allK f r
theorem Zbl {f:Nat × Nat × Nat->Bool}:∀ {l:List (Nat × Nat × Nat)},allK f l=true->∀ j ∈ l,f j=true
 | [],_,j,h=>nomatch h
 | _::_,h,j,hm=>by
  have h':=Bool.and_eq_true_iff.mp h
  rcases List.mem_cons.mp hm with rfl | hm
  ·exact h'.1
  ·exact Zbl h'.2 j hm
noncomputable def ZhU (a:Addr) (j:Nat × Nat × Nat):Bool:=Zcq a [.seg 2] j.1 j.2.1 j.2.2 so1 [] false
noncomputable def Znm (a:Addr) (j:Nat × Nat × Nat):Bool:=Zcq a [] j.1 j.2.1 j.2.2 so0 [] false
noncomputable def ZgK:List (Nat × Nat × Nat):=[(0,9,0),(0,9,1),(0,10,0),(0,10,1),(0,32,0),(0,32,1),(0,34,0),(0,34,1),(0,40,0),(0,40,1),(0,43,0),(0,43,1),(0,48,0),(0,48,1),(0,59,0),(0,59,1),(0,61,0),(0,61,1),(0,92,0),(0,92,1),(0,97,0),(0,97,1),(0,98,0),(0,98,1),(0,47,49),(0,47,44)]
theorem Zp1 (a:Addr):allK (ZhU a) ZgK=true:=by kernel_rfl
noncomputable def ZfX:List (Nat × Nat × Nat):=[(1,9,0),(1,9,1),(1,10,0),(1,10,1),(1,32,0),(1,32,1),(1,34,0),(1,34,1),(1,40,0),(1,40,1),(1,43,0),(1,43,1),(1,48,0),(1,48,1),(1,59,0),(1,59,1),(1,61,0),(1,61,1),(1,92,0),(1,92,1),(1,97,0),(1,97,1),(1,98,0),(1,98,1),(1,95,0),(1,95,1),(1,47,49),(1,47,44)]
theorem Zp2 (a:Addr):allK (ZhU a) ZfX=true:=by kernel_rfl
noncomputable def ZfY:List (Nat × Nat × Nat):=[(2,32,0),(2,32,1),(2,34,0),(2,34,1),(2,40,0),(2,40,1),(4,34,0),(4,34,1),(4,92,0),(4,92,1),(5,42,0),(5,42,1),(5,47,0),(5,47,1),(6,47,0),(6,47,1)]
theorem Zp3 (a:Addr):allK (ZhU a) ZfY=true:=by kernel_rfl
noncomputable def ZgL:List (Nat × Nat × Nat):=[(3,40,0),(3,40,1),(3,41,0),(3,41,1),(3,32,0),(3,32,1),(3,47,0),(3,47,1),(3,42,0),(3,42,1),(3,34,0),(3,34,1),(3,92,0),(3,92,1),(3,97,0),(3,97,1)]
theorem Zp4 (a:Addr):allK (ZhU a) ZgL=true:=by kernel_rfl
noncomputable def ZgM:List (Nat × Nat × Nat):=[(7,10,0),(7,10,1),(7,40,0),(7,40,1),(7,41,0),(7,41,1),(7,32,0),(7,32,1),(7,97,0),(7,97,1),(7,42,12),(7,42,1),(7,47,12),(7,47,34),(7,47,44),(7,47,49),(7,47,1)]
theorem Zp5 (a:Addr):allK (ZhU a) ZgM=true:=by kernel_rfl
noncomputable def ZgN:List (Nat × Nat × Nat):=[(8,40,0),(8,40,1),(8,41,0),(8,41,1),(8,97,0),(8,97,1),(8,42,44),(8,42,49),(8,42,1),(8,47,44),(8,47,49),(8,47,1)]
theorem Zp6 (a:Addr):allK (ZhU a) ZgN=true:=by kernel_rfl
theorem Zp7 (a:Addr):allK (Znm a) ZgK=true:=by kernel_rfl
theorem Zk0 (a:Addr) (b:Bool):Zcq a [] 0 41 0 so1 (fxE b) b=true:=by cases b<;>kernel_rfl
theorem Zk4 (a:Addr) (b:Bool):Zcq a opL 0 41 0 so1 (fxL b) b=true:=by cases b<;>kernel_rfl
theorem Zk1 (a:Addr) (b:Bool):Zcq a [] 0 41 1 so1 (fxE b) b=true:=by cases b<;>kernel_rfl
theorem Zk5 (a:Addr) (b:Bool):Zcq a opL 0 41 1 so1 (fxL b) b=true:=by cases b<;>kernel_rfl
theorem Zk2 (a:Addr) (b:Bool):Zcq a [] 1 41 0 so1 (fxE b) b=true:=by cases b<;>kernel_rfl
theorem Zk6 (a:Addr) (b:Bool):Zcq a opL 1 41 0 so1 (fxL b) b=true:=by cases b<;>kernel_rfl
theorem Zk3 (a:Addr) (b:Bool):Zcq a [] 1 41 1 so1 (fxE b) b=true:=by cases b<;>kernel_rfl
theorem Zk7 (a:Addr) (b:Bool):Zcq a opL 1 41 1 so1 (fxL b) b=true:=by cases b<;>kernel_rfl
theorem ZoQ (a:Addr) (b:Bool):Zcq a [] 0 41 0 so0 (fxE b) b=true:=by cases b<;>kernel_rfl
theorem ZoR (a:Addr) (b:Bool):Zcq a [] 0 41 1 so0 (fxE b) b=true:=by cases b<;>kernel_rfl
end
end Mine
end
section
namespace Mine
noncomputable section
noncomputable def Pc.knownM (q:Pc) (D:IM) (p:Lin) (least:Bool):IM:=match q.k with
 | .word=>D.beginWord p
 | .esc=>D.beginWord p
 | .op=>{ D.endWord with op:=D.op++[.v (.int p)],wh:=.none }
 | .cl=>D.endWord.close least
 | _=>D.endWord
noncomputable def Zgp (D:IM) (p:Lin) (t:List Nat):Nat->Nat->List IM
 | 0,_=>[]
 | n+1,a=>{ D with st:=true,sta:=.int p,qu:=Zkp (t.take a) }::Zgp D p t n (a+1)
noncomputable def Zej (D:IM) (p:Lin) (ln:Bool) (half:Nat):Nat->Nat->List IM
 | 0,_=>[]
 | n+1,a=>(bif Nat.beq a 1 then { D with ha:=1 } else { D with co:=true,ln:=ln,sta:=.int ((p.add (.k 1)).sub (.k 1)),ha:=bif Nat.beq a half then 2 else 0 })::Zej D p ln half n (a+1)
noncomputable def Pc.innerM (q:Pc) (D:IM) (p:Lin):List IM:=
 let n:=bif q.e then q.t.length-1 else q.t.length
 match q.k with
 | .str=>Zgp D p q.t n 1
 | .line=>Zej D p true 0 n 1
 | .block=>Zej D p false (bif q.e then q.t.length-1 else 0) n 1
 | .esc=>[{ D with qu:=true }]
 | _=>List.replicate (q.t.length-1) D
noncomputable def Pc.lastM (q:Pc) (D:IM) (p:Lin):IM:=match q.k with
 | .str=>{ D with wh:=.int p }
 | _=>D
noncomputable def Pc.dueM (q:Pc) (D:IM) (p:Lin) (least:Bool):List IM:=let K:=q.knownM D p least;bif q.e then q.innerM K p++[q.lastM K p] else q.innerM K p
noncomputable def Ks.name:Ks->List Nat
 | .op=>[40]
 | .cl=>[41]
 | .word=>[119,111,114,100]
 | .esc=>[101,115,99,97,112,101]
 | .blank=>[98,108,97,110,107]
 | .sign=>[115,105,103,110]
 | .str=>[115,116,114,105,110,103]
 | .line=>[108,105,110,101]
 | .block=>[98,108,111,99,107]
noncomputable def stsB:List Stmt:=stB (top 52)
noncomputable def stsL:List Stmt:=match nth stsB 2 with | some (.For _ _ b _ _)=>b | _=>[]
noncomputable def stsS:Scope:=stS (top 52)
noncomputable def Zd8 (D:IM):Tab:=tabT [.tuple D.op] [] []
noncomputable def Zjk (D:IM) (q:Pc) (fx:List (Cnd × Bool)):St:=⟨[.list [.seg 100]],[("opens",.ref 0),("below",.int D.be),("least",.int D.le),("last_one",D.wh),("word",D.wo),("place",.int (.x 50)),("found",.ref 1),("sort",.str q.k.name),("text",.str q.t),("ends",.bool q.e)],fx⟩
noncomputable def stsR (D:IM) (q:Pc) (fx:List (Cnd × Bool)):Res Fl:=(run (Zd8 D) 60).blk 15 stsS stsL (Zjk D q fx)
noncomputable def Zpv (Γ:Tab) (s:St) (D:IM):Option MO->Bool
 | some (.tuple (.v (.ref k)::fl))=>Zks D (cell Γ s k)&&Zdz fl (D.fl.map .v)
 | _=>false
noncomputable def ZlF (Γ:Tab) (s:St) (v:MV) (D:IM):Bool:=match v with
 | .ref n=>Zpv Γ s D (cell Γ s n)
 | _=>false
noncomputable def Zfx (Γ:Tab) (s:St):List ME->List IM->Bool
 | [],[]=>true
 | .v v::r,D::q=>ZlF Γ s v D&&Zfx Γ s r q
 | _,_=>false
noncomputable def ZcI (f:MV->Bool) (x:String) (s:St):Bool:=match look (Str.ofString x) s.ls with | some v=>f v | none=>false
noncomputable def lastD (D:IM):List IM->IM
 | []=>D
 | [a]=>a
 | _::r=>lastD D r
noncomputable def ZmV (Γ:Tab) (s:St) (due:List IM):Option MO->Bool
 | some (.list (.seg k::r))=>Nat.beq k 100&&Zfx Γ s r due
 | _=>false
noncomputable def ZmU (Γ:Tab) (s:St) (due:List IM):MV->Bool
 | .ref n=>ZmV Γ s due (cell Γ s n)
 | _=>false
noncomputable def Zm9 (Γ:Tab) (s:St) (D:IM):MV->Bool
 | .ref n=>Zks D (cell Γ s n)
 | _=>false
noncomputable def stsC (Γ:Tab) (q:Pc) (due:List IM) (K:IM) (f:Fl) (s:St):Bool:=ZgI f
 && ZcI (ZmU Γ s due) "found" s
 && (bif q.e then ZcI (Zm9 Γ s K) "opens" s&&ZcI (mvEq (.int K.be)) "below" s&&ZcI (mvEq (.int K.le)) "least" s&&ZcI (mvEq K.wh) "last_one" s&&ZcI (mvEq K.wo) "word" s
     && ZcI (mvEq (.int ((Lin.x 50).add (.k q.t.length)))) "place" s else true)
noncomputable def stsK (op:List ME) (m:Nat) (q:Pc) (fx:List (Cnd × Bool)) (least:Bool):Bool:=
 let D:=modeM op m
 (stsR D q fx).chk (stsC (Zd8 D) q (q.dueM D (.x 50) least) (lastD D (q.dueM D (.x 50) least)))
end
end Mine
end
section
namespace Mine
noncomputable section
noncomputable def allQ (f:Pc->Bool):List Pc->Bool
 | []=>true
 | j::r=>f j&&allQ f r
theorem Zaq {f:Pc->Bool}:∀ {l:List Pc},allQ f l=true->∀ j ∈ l,f j=true
 | [],_,j,h=>nomatch h
 | _::_,h,j,hm=>by
  have h':=Bool.and_eq_true_iff.mp h
  rcases List.mem_cons.mp hm with rfl | hm
  ·exact h'.1
  ·exact Zaq h'.2 j hm
noncomputable def stsJ (m:Nat) (q:Pc):Bool:=stsK [.seg 2] m q [] false
theorem ZoE:allQ (stsJ 0) ((pcs.drop 2).take 12)=true:=by kernel_rfl
theorem Zmk:allQ (stsJ 0) ((pcs.drop 14).take 12)=true:=by kernel_rfl
theorem Zml:allQ (stsJ 0) ((pcs.drop 26).take 12)=true:=by kernel_rfl
theorem Zmm:allQ (stsJ 0) ((pcs.drop 38).take 12)=true:=by kernel_rfl
theorem Zmn:allQ (stsJ 0) ((pcs.drop 50).take 6)=true:=by kernel_rfl
theorem Zmo:allQ (stsJ 0) ((pcs.drop 56).take 8)=true:=by kernel_rfl
theorem Zmp:allQ (stsJ 0) ((pcs.drop 64).take 10)=true:=by kernel_rfl
theorem Zmq:allQ (stsJ 0) ((pcs.drop 74).take 10)=true:=by kernel_rfl
theorem ZoF:allQ (stsJ 1) ((pcs.drop 2).take 12)=true:=by kernel_rfl
theorem Zmr:allQ (stsJ 1) ((pcs.drop 14).take 12)=true:=by kernel_rfl
theorem Zms:allQ (stsJ 1) ((pcs.drop 26).take 12)=true:=by kernel_rfl
theorem Zmt:allQ (stsJ 1) ((pcs.drop 38).take 12)=true:=by kernel_rfl
theorem Zmu:allQ (stsJ 1) ((pcs.drop 50).take 6)=true:=by kernel_rfl
theorem Zmv:allQ (stsJ 1) ((pcs.drop 56).take 8)=true:=by kernel_rfl
theorem Zmw:allQ (stsJ 1) ((pcs.drop 64).take 10)=true:=by kernel_rfl
theorem Zmx:allQ (stsJ 1) ((pcs.drop 74).take 10)=true:=by kernel_rfl
theorem Znh:(stsK [] 0 ⟨.op,[40],true⟩ [] false&&stsK opL 0 ⟨.op,[40],true⟩ [] false)=true:=by kernel_rfl
theorem Zoy (b:Bool):stsK [] 0 ⟨.cl,[41],true⟩ (fxE b) b=true:=by cases b<;>kernel_rfl
theorem ZoA (b:Bool):stsK opL 0 ⟨.cl,[41],true⟩ (fxL b) b=true:=by cases b<;>kernel_rfl
theorem Zni:(stsK [] 1 ⟨.op,[40],true⟩ [] false&&stsK opL 1 ⟨.op,[40],true⟩ [] false)=true:=by kernel_rfl
theorem Zoz (b:Bool):stsK [] 1 ⟨.cl,[41],true⟩ (fxE b) b=true:=by cases b<;>kernel_rfl
theorem ZoB (b:Bool):stsK opL 1 ⟨.cl,[41],true⟩ (fxL b) b=true:=by cases b<;>kernel_rfl
theorem ZoG {q:Pc} (h:q ∈ pcs.drop 2):stsJ 0 q=true∧stsJ 1 q=true:=by
 have e:pcs.drop 2=(pcs.drop 2).take 12++(pcs.drop 14).take 12++(pcs.drop 26).take 12++(pcs.drop 38).take 12++(pcs.drop 50).take 6++(pcs.drop 56).take 8++(pcs.drop 64).take 10++(pcs.drop 74).take 10:=rfl
 rw [e] at h
 simp only [List.mem_append] at h
 rcases h with ((((((h | h) | h) | h) | h) | h) | h) | h
 ·exact ⟨Zaq ZoE _ h,Zaq ZoF _ h⟩
 ·exact ⟨Zaq Zmk _ h,Zaq Zmr _ h⟩
 ·exact ⟨Zaq Zml _ h,Zaq Zms _ h⟩
 ·exact ⟨Zaq Zmm _ h,Zaq Zmt _ h⟩
 ·exact ⟨Zaq Zmn _ h,Zaq Zmu _ h⟩
 ·exact ⟨Zaq Zmo _ h,Zaq Zmv _ h⟩
 ·exact ⟨Zaq Zmp _ h,Zaq Zmw _ h⟩
 ·exact ⟨Zaq Zmq _ h,Zaq Zmx _ h⟩
end
end Mine
end
section
namespace Mine
noncomputable section
noncomputable def Zfl (s:St):Nat->Res MV
 | 0=>.stuck "choice"
 | k+1=>match k with
  | 0=>.ret (.int (.k 0)) s
  | _=>.both (.ret (.int (.k k)) s) (Zfl s k)
noncomputable def Zik (k:Nat):Bool:=Nat.beq k 12||Nat.beq k 7||Nat.beq k 3||Nat.beq k 2
noncomputable def Zpk (s:St) (n:Nat):Option MO->Option Int->Option (Res MV)
 | some (.deck N),some (.ofNat k)=>bif Zik k then some (Zfl { s with heap:=Zcm s.heap n (.deck (N+1)) } k) else none
 | _,_=>none
noncomputable def ZdH (vs:List MV) (s:St):Option (Res MV):=match vs with
 | [.ref n,.int l]=>Zpk s n (nth s.heap n) l.const?
 | _=>none
noncomputable def Zbv:Tab:=tabT [] [(516,ZdH)] []
noncomputable def Zhb:PySem.Expr:=match nth lawB 1 with | some (.Assign _ (.ListComp e _ _ _) _)=>e | _=>.Constant .none 0 default
noncomputable def pieceSc:Scope:=match nth lawB 1 with | some (.Assign _ (.ListComp _ _ sc _) _)=>sc | _=>default
noncomputable def ZpM (N:Nat) (last:Bool):Res MV:=(run Zbv 60).ev 20 (Zai lawS pieceSc) Zhb ⟨[.deck N],[("nth",.int (.x 30)),("deck",.ref 0),("many",.int (.x 32))],[(.zer ⟨1,[(30,1),(32,-1)]⟩,last)]⟩
noncomputable def isPc (last:Bool) (x y:List Nat) (e:Bool):List Pc->Bool
 | []=>false
 | q::r=>(leq x q.k.name&&leq y q.t&&(e==q.e)&&(e||last))||isPc last x y e r
noncomputable def ZmS:Option MO->Bool
 | some (.deck _)=>true
 | _=>false
noncomputable def Znd (last:Bool):Option MO->Bool
 | some (.tuple [.v (.str x),.v (.str y),.v (.bool e)])=>isPc last x y e pcs
 | _=>false
noncomputable def ZpN (last:Bool) (s:St):MV->Bool
 | .ref n=>Znd last (nth s.heap n)
 | _=>false
noncomputable def Zkz (last:Bool) (v:MV) (s:St):Bool:=ZmS (nth s.heap 0)&&ZpN last s v
theorem ZkA (N:Nat) (last:Bool):(ZpM N last).chk (Zkz last)=true:=by cases last<;>kernel_rfl
end
end Mine
end
section
namespace Mine
variable {G:Gl} {B:Bs} {ν:Vn}
theorem Zfm {P:MV->St->Prop} {s:St}:∀ {k:Nat},(Zfl s k).All ν P->∀ i:Nat,i<k->P (.int (.k i)) s
 | 0,_,_,hi=>absurd hi (Nat.not_lt_zero _)
 | 1,h,i,hi=>by
  obtain rfl:i=0:=by omega
  exact h
 | k+2,h,i,hi=>by
  have h':P (.int (.k ((k+1:Nat):Int))) s∧(Zfl s (k+1)).All ν P:=h
  by_cases e:i=k+1
  ·subst e;exact h'.1
  ·exact Zfm h'.2 i (by omega)
theorem ZjI {s:St} {n:Nat} {o:Option MO} {w:Option Int} {r:Res MV} (h:Zpk s n o w=some r):∃ N k,o=some (.deck N)∧w=some (.ofNat k)∧Zik k=true∧Zfl { s with heap:=Zcm s.heap n (.deck (N+1)) } k=r:=by
 revert o;show Fa _ _;refine Opt.on_some zN0 (λo h=>?_)
 revert o;show Fa _ _;refine MO.on_deck zN2 zN1 zN1 zN1 zN1 zN2 (λN h=>?_)
 revert w;show Fa _ _;refine Opt.on_some zN0 (λw h=>?_)
 cases w with
 | negSucc _=>exact nN h
 | ofNat k=>exact e0_2 (bifN h) λh1 h2=>i2_4 N k rfl rfl h1 h2
theorem Zhu {s:St} {vs:List MV} {r:Res MV} (h:ZdH vs s=some r):∃ n l N k,vs=[.ref n,.int l]∧nth s.heap n=some (.deck N)∧l.const? = some (.ofNat k)∧Zik k=true∧Zfl { s with heap:=Zcm s.heap n (.deck (N+1)) } k=r:=by
 revert vs;show Fa _ _;refine Lis.on_cons zN0 (λv vs h=>?_)
 revert v;show Fa _ _;refine MV.on_ref zN0 zN1 zN1 zN1 zN1 zN1 zN1 zN1 (λn h=>?_)
 revert vs;show Fa _ _;refine Lis.on_cons zN0 (λv vs h=>?_)
 revert v;show Fa _ _;refine MV.on_int zN0 zN1 zN1 zN1 zN1 zN1 zN1 zN1 (λl h=>?_)
 revert vs;show Fa _ _;refine Lis.on_nil zN2 (λh=>?_)
 exact e2_4 (ZjI h) λN k h1 h2 h3 h4=>i4_5 n l N k rfl h1 h2 h3 h4
theorem ZiP {Pm:Params} (hK:G.K=KF Pm):SumOk G Zbv ν where
 ops:=λe he=>nomatch he
 keep:=λ{d a vs s r} h=>by
  unfold ZcZ at h
  generalize q:Nat.ble 10 d=wo at h
  revert q;revert wo;show Fa _ _;refine Boo.on_true zN0 (λh=>?_);intro q
  rw [cond_true] at h
  have h':(match (bif Nat.beq a 516 then some ZdH else none) with | some f=>f vs s | none=>none)=some r:=h
  cases q2:Nat.beq a 516 with
  | false=>rw [q2] at h';exact nN h'
  | true=>rw [Nat.eq_of_beq_eq_true q2,hK];exact (ZcV Pm).keep
 run:=λ{B ρ s rs d a vs rvs r P} hd O x hv h hA=>by
  unfold ZcZ at h
  rw [Nat.ble_eq_true_of_le hd,cond_true] at h
  have h':(match (bif Nat.beq a 516 then some ZdH else none) with | some f=>f vs s | none=>none)=some r:=h
  generalize q2:Nat.beq a 516=wo at h'
  revert q2;revert wo;show Fa _ _;refine Boo.on_true zN0 (λh'=>?_);intro q2
  have e:=Nat.eq_of_beq_eq_true q2
  refine byP λXX kX=>?_
  subst e
  replace h':ZdH vs s=some r:=h'
  refine e4_5 (Zhu h') λn l N k e0 e1 e2 q3 e3=>?_;clear h';subst e0 e3
  have hc:cell Zbv s n=some (.deck N):=e1
  refine e2_3 (VL.cons_inv hv) λ_ _ wq ha hn=>?_;clear hv;subst wq
  cases hn with
  | cons hl hn=>
   have wq:=VL.nil_inv hn;clear hn;subst wq
   refine e2_2 (vref ha) λa ao wq ha'=>?_;subst wq
   refine e1_1 (vint hl) λt wq=>?_;subst wq
   refine kX ?_
   rw [Zar ν.x e2]
   have hk:ZlR k:=by
    unfold Zik at q3
    simp only [Bool.or_eq_true] at q3
    rcases q3 with ((q | q) | q) | q<;>have:=Nat.eq_of_beq_eq_true q<;>subst this<;>simp [ZlR]
   refine codeAny_mono (ZnN (k:=k) (t:=t) hK (O.le (by omega)) x.hs (Zac (ν:=ν) hc) ha' hk) λr rs' z=>?_
   refine e2_3 z λi u hi wq hs'=>?_;clear z;subst wq
   refine i1_2 _ rfl (⟨ρ,_,_,List.prefix_refl _,Zfm hA i hi,by dsimp only [MV.sem,ev_k];exact .int _ _,x.fx,?_⟩)
   have:semH Zbv ν { heap:=Zcm s.heap n (.deck (N+1)),ls:=s.ls,facts:=s.facts } = (semH Zbv ν s).set n (.deck (N+1)):=by
    show (Zcm s.heap n (.deck (N+1))).map (MO.sem ν)=(s.heap.map (MO.sem ν)).set n (.deck (N+1))
    rw [ZdR,List.map_set];rfl
   rw [this]
   exact hs'
end Mine
end
section
namespace Mine
variable {G:Gl} {B:Bs} {ρ:List (Addr × Obj)} {σ:List SO} {ls:List (Str × SV)} {rs:Shared} {d:Nat}
theorem Zfk {cm:Str->Option Value} {cs:List (Str × Addr)} {cells:List (Addr × Obj)} (h:CellsAre cm cs cells):cells.map (·.1)=cs.map (·.2):=by
 induction h with
 | nil=>rfl
 | cons _ _ ih=>rw [List.map_cons,List.map_cons,ih]
theorem Hs.callCC (O:Ok G B (d+1)) (x:Hs G B ρ σ ls rs) {a:Addr} {name qual:Str} {params:Arguments} {body:List Stmt} {sc:Scope} {dV kV doc pm cdv ct oc:Value} {an od:Option Addr} {osl:Array (Option Value)} {args:Args} {binds:List (Str × Value)} {P:Value->List (Addr × Obj)->List SO->Prop}
 (ho:List.lookup a G.K=some ⟨oc,od,.func (PySem.W.fnOf name qual params body sc dV kV doc pm an cdv ct),osl⟩) (hcd:codeIn G.K cdv qual=true)
 (hbind:∀ s:Shared,G.K.In s.heap->BindsTo s (PySem.W.fnOf name qual params body sc dV kV doc pm an cdv ct) args binds)
 (hkind:∀ n,∀ x ∈ binds,sc.names.lookup x.1=some .local∨(sc.names.lookup x.1=some .cell∧((cellsFrom n sc.names []).lookup x.1).isSome=true))
 (hnd:((cellsFrom 0 sc.names []).map (·.1)).Nodup) (hnd2:∀ L:Addr,((cellsFrom (L+1) sc.names []).map (·.2)).Nodup) (hco:sc.isCoroutine=false) (hgen:sc.isGenerator=false) (hk:sc.kind = .function)
 (bodyH:∀ (B':Bs) rs1 (L:Addr) (cells:List (Addr × Obj)),Ok G B' d->B'.sc=sc->B'.L=L->B'.cl=cellsFrom (L+1) sc.names []->B'.cs=cells->CellsAre (bindC (envOfC qual sc L a cdv).kindOf binds λ_=>none) (cellsFrom (L+1) sc.names []) cells->(∀ b o,B.h₀.get? b=some o->B'.h₀.get? b=some o)->
  (∀ ls',Loc B' ρ (bindL (envOfC qual sc L a cdv).kindOf binds λ_=>none) ls'->Hs G B' ρ σ ls' rs1)->
  wpAny G.M B'.A (execs body B'.env) (λfl rs'=>∃ ρ' σ' ls',ρ <+: ρ'∧P (match fl with | .ret v=>v | _=>.none) ρ' σ'∧Hs G B' ρ' σ' ls' rs') (λ_ _=>False) rs1):
 codeAny G.M B.A (.call (.ref a) args) (λr rs'=>∃ rv,r = .ok (.ret rv)∧∃ ρ' σ',ρ <+: ρ'∧P rv ρ' σ'∧Hs G B ρ' σ' ls rs') rs:=by
 obtain ⟨m,led,F,N,R,Lc⟩:=x.ex
 have Nl:News B.h₀ B.L rs.heap led.flatten:=λp hp=>N p (List.mem_append_right _ hp)
 have X:G.K.In rs.heap:=O.kin.keeps F.keep
 refine codeAny_call_function (by have:=O.dep;omega) (X _ _ ho) rfl hco hgen rfl (codeRec_of X hcd) (hbind rs X _ _ _ _ ?_)
 refine wpAny_newFunctionEnv_cells hk (hkind _) λenv' he s' y=>?_
 subst he
 refine i0_2 ((O.top.nolimit.keeps F.keep).keeps y.toInCall.keep) (codeAny_func ?_)
 refine e2_2 (y.done) λh₁ tk wq _=>?_;subst wq
 have hk₁:=y.toInCall.keep
 refine e1_2 (Cl.news (h₀:=rs.heap) (Nat.le_refl _) λn c hm=>⟨y.cell n c (lookup_of_mem_nodup (cellsFrom_names sc.names 0 (rs.heap.objs.size+1) [] [] rfl ▸ hnd) hm),y.above n c hm⟩) λcells NC Y=>?_
 have F₁:Fr (hideAll rs.heap (led.flatten.map (·.1))) rs.heap.objs.size h₁ _:=⟨y.toInCall.ns,λb o e=>hk₁ b o (of_hideAll _ e),Nat.le_of_eq (hideAll_size _ _)⟩
 have N₁:News (hideAll rs.heap (led.flatten.map (·.1))) rs.heap.objs.size h₁ (cells++led.flatten):=λp hp=>by
  rcases List.mem_append.mp hp with hp | hp
  ·refine i0_3 ((NC p hp).1) ((NC p hp).2.1) ?_
   cases q:(hideAll rs.heap (led.flatten.map (·.1))).get? p.1 with
   | none=>rfl
   | some o=>have:=of_hideAll _ q;rw [(NC p hp).2.2] at this;exact nN this
  ·exact i0_3 (hk₁ _ _ (Nl p hp).1) (Nat.ne_of_lt (Heap.lt_size (Nl p hp).1)) (hideAll_none _ (List.mem_map_of_mem hp))
 have O₁:=Zgt O F Nl (qual:=qual) (a:=a) (cd:=cdv) (cl:=cellsFrom (rs.heap.objs.size+1) sc.names []) (cs:=cells) hk
 have nd1:((cells++led.flatten).map (·.1)).Nodup:=by
  rw [List.map_append,List.nodup_append]
  have q:=R.nd
  rw [List.map_append,List.nodup_append] at q
  refine i0_3 ?_ (q.2.1) ?_
  ·rw [Zfk Y];exact hnd2 _
  ·intro u hu v hv e
   refine e1_2 (List.mem_map.mp hu) λp1 hp1 wq=>?_;subst wq
   refine e1_2 (List.mem_map.mp hv) λp2 hp2 wq=>?_;subst wq
   have z:=(NC p1 hp1).2.2
   rw [e,(Nl p2 hp2).1] at z;exact nS z
 refine wpAny_mono (bodyH (Zh6 B rs led.flatten qual sc a cdv (cellsFrom (rs.heap.objs.size+1) sc.names []) cells) _ rs.heap.objs.size cells O₁ rfl rfl rfl rfl Y (Zcx F Nl) (λls' hl=>⟨⟨_,led,F₁,N₁,⟨R.l1,R.l2,R.obj,nd1⟩,hl⟩,x.gens,x.drawn,x.os⟩)) (λfl rs' q=>?_) λ_ _ q=>q.elim
 refine byP λXX kX=>?_
 refine e3_3 q λρ' σ' ls' hp hP y'=>?_;clear q
 refine kX ?_
 have z:=Hs.back (G:=G) F N R Lc hp y'
 exact i1_2 _ rfl (⟨ρ',σ',hp,hP,z⟩)
end Mine
end
section
namespace Mine
variable {G:Gl} {B:Bs} {ρ:List (Addr × Obj)} {σ:List SO} {ls:List (Str × SV)} {rs:Shared} {d:Nat}
theorem Znt (x:Hs G B ρ σ ls rs):∃ c,(∀ q ∈ c,∀ w,q.2.data ≠ .cell w)∧Hs G (B.mid [] c) [] [] (Zax ρ ls) rs∧(∀ g rs',(∀ q ∈ g,∀ w,q.2.data ≠ .cell w)->Hs G (B.mid [] (g++c)) [] [] (Zax ρ ls) rs'->Hs G B ρ σ ls rs')∧
 ∀ g rs' ls1,(∀ q ∈ g,∀ w,q.2.data ≠ .cell w)->Hs G (B.mid [] (g++c)) [] [] ls1 rs'->Hs G B ρ σ [] rs':=by
 have hd:look (Str.ofString "__debug__") ls=none:=by obtain ⟨m,led,F,N,R,Lc⟩:=x.ex;exact Lc.dbg
 refine e1_4 (ZaD (pre:=[]) (c0:=[]) x) λT e1 e2 good y=>?_
 rw [List.append_nil] at y
 have key:∀ {g:List (Addr × Obj)} {rs':Shared} {ls1 ls2:List (Str × SV)},(∀ q ∈ g,∀ w,q.2.data ≠ .cell w)->Hs G (B.mid [] (g++flat T)) [] [] ls1 rs'->LsTo [] (T.map (·.1)) ls1 ls2->Hs G B ρ σ ls2 rs':=by
  intro g rs' ls1 ls2 hg z hl
  have:=thaw (pre:=[]) (T:=T) (R:=[]) (σ':=σ) (ls':=ls2) (Hs.drop hg z) good (by rw [List.append_nil]) (by rw [e1,e2]) hl
  rw [e1] at this
  exact this
 refine i1_4 (flat T) (good.noCell) y (λg rs' hg z=>key hg z (by rw [e1];exact Zm3 hd)) (λg rs' ls1 hg z=>key hg z ⟨rfl,λy v e=>by cases e⟩)
noncomputable section
noncomputable def flagsX:List (List Nat):=[[],[49,50,52,98],[50,51],[98]]
noncomputable def Zca (vs:List MV) (s:St):Option (Res MV):=match vs with
 | [.str x]=>bif anyL x flagsX then some (.ret (.str x) s) else none
 | _=>none
noncomputable def Zn3 (x:List Nat) (f:Fl) (_:St):Bool:=match f with
 | .ret (.str y)=>leq y x
 | _=>false
noncomputable def Zpn:List Stmt:=stB (top 25)
noncomputable def flagS:Scope:=stS (top 25)
noncomputable def tabN:Tab:=tabT [] [] []
noncomputable def Zpo (x:List Nat):Res Fl:=(run tabN 40).blk 9 flagS Zpn ⟨[],[("text",.str x)],[]⟩
theorem Zlx:∀ x ∈ flagsX,(Zpo x).chk (Zn3 x)=true:=AllP.mem (Q:=λx=>(Zpo x).chk (Zn3 x)=true) ⟨by kernel_rfl,by kernel_rfl,by kernel_rfl,by kernel_rfl,trivial⟩
theorem Zh1 {x:List Nat}:∀ {l:List (List Nat)},anyL x l=true->x ∈ l
 | [],h=>by exact nB h
 | y::r,h=>by
  have h':(leq y x||anyL x r)=true:=h
  rw [Bool.or_eq_true] at h'
  rcases h' with h' | h'
  ·rw [leq_eq.mp h'];exact .head _
  ·exact .tail _ (Zh1 h')
theorem Zcs (L:Addr):cellsFrom L flagS.names []=[(Str.ofString "text",L)]:=by kernel_rfl
theorem Zlh {Γ:Tab} {ν:Vn} {ih:Ih} (H:IhOk G Γ ν ih) (O:Ok G B d) {b:List Stmt} {sc:Scope} (e:B.sc=sc) {s:St} {P:Fl->St->Prop} (g:Gd G B Γ ν ρ s rs) (h:(ih.blk d sc b s).All ν P):wpAny G.M B.A (execs b B.env) (RF G B Γ ν ρ P) NoE rs:=by
 subst e;exact H.blk O g h
theorem Zly {Pm:Params} (hK:G.K=KF Pm) (O:Ok G B 10) (x:Hs G B ρ σ ls rs) {y:List Nat} {t:Tok} (hy:y ∈ flagsX):
 codeAny G.M B.A (.call (.ref 153) ⟨[.str ⟨y.toArray⟩ t],[]⟩) (λr rs'=>∃ u,r = .ok (.ret (.str ⟨y.toArray⟩ u))∧Hs G B ρ σ ls rs') rs:=by
 refine codeAny_mono (x.callCC (d:=9) O (a:=153) (name:="sorted_flags") (qual:="sorted_flags") (params:=stA (top 25)) (body:=Zpn) (sc:=flagS) (dV:=.none) (kV:=.none) (doc:=.none) (pm:=.str "emacs.syntax" 333) (an:=none) (cdv:=.ref 152) (ct:=.none) (oc:=.type "function") (od:=none) (osl:=#[])
  (binds:=[(Str.ofString "text",.str ⟨y.toArray⟩ t)]) (P:=λrv ρ' σ'=>(∃ u,rv = .str ⟨y.toArray⟩ u)∧ρ'=ρ∧σ'=σ) (by rw [hK];kernel_rfl) (by rw [hK];kernel_rfl) (λs hs=>BindsTo.of_eq (by kernel_rfl)) (λn z hz=>?_) (by rw [Zcs];simp) (λL=>by rw [Zcs];simp) (by kernel_rfl) (by kernel_rfl) (by kernel_rfl) ?_) λr rs' z=>?_
 ·obtain rfl:=List.mem_singleton.mp hz
  exact .inr ⟨by kernel_rfl,by rw [Zcs];kernel_rfl⟩
 ·intro B' rs1 L cells O' e1 e2 e3 e4 hc _ mk
  rw [Zcs] at hc e3
  refine byP λXX kX=>?_
  refine e1_2 (hc.one) λo wq ho=>?_;subst wq
  have hcm:o.data = .cell (some (.str ⟨y.toArray⟩ t)):=ho
  have x1:=mk [(Str.ofString "text",.str y)] ⟨λz v e=>by
   rw [Zab] at e
   generalize q:seq z (Str.ofString "text")=wo at e
   revert q;revert wo;show Fa _ _;refine Boo.on_true zN0 (λe=>?_);intro q
   have wq:=Option.some.inj e;clear e;subst wq
   rw [seq_iff.mp q]
   refine ⟨_,.str y t,.inr ⟨by rw [e1];kernel_rfl,L+1,o,by rw [e3];kernel_rfl,by rw [e4];exact .head _,hcm⟩⟩,by kernel_rfl⟩
  refine e1_4 (Znt x1) λc hcc z _ back=>?_
  have hν:(mkN [] [] [] (λ_=>0) []).ok:=Zb2 (λ_ h=>nomatch h) (λ_ h=>nomatch h) (λ_ h=>nomatch h) (λ_ h=>nomatch h) (λ_ h=>nomatch h)
  have H:=Zbw (tOk Pm (G:=G) hK (base:=[]) (sums:=[]) (ops:=[])) (ZcK (Γ:=tabN) rfl λ_ h=>nomatch h) hν 40
  have g:Gd G (B'.mid [] c) tabN (mkN [] [] [] (λ_=>0) []) [] ⟨[],[("text",.str y)],[]⟩ rs1:=⟨λ_ h=>(nomatch h),z⟩
  refine kX ?_
  refine wpAny_mono (Zlh H (O'.mid (c0:=c)) e1 g (Zbx (Zlx y hy))) (λf rs2 w=>?_) λ_ _ e=>e
  refine byP λXX kX=>?_
  obtain ⟨ρ2,fl,s2,hp,hC,hf,g2⟩:=w
  cases hf with
  | ret hv=>
   unfold Zn3 at hC
   split at hC
   ·rename_i y2 e
    cases e
    refine e1_1 (vstr hv) λu wq=>?_;subst wq
    refine kX ?_
    rw [leq_eq.mp hC]
    refine e1_4 (ZaD (pre:=[]) g2.hs) λT _ _ gT z2=>?_
    exact i3_3 (ρ) (σ) ([]) (List.prefix_refl _) (⟨⟨u,rfl⟩,rfl,rfl⟩) (back _ _ _ gT.noCell z2)
   ·exact nB hC
  | _=>exact nB hC
 ·refine e1_2 z λrv wq wqb=>?_;clear z;subst wq;obtain ⟨ρ',σ',hp,⟨⟨u,rfl⟩,rfl,rfl⟩,hs⟩:=wqb
  exact i1_2 u rfl hs
end
end Mine
end
section
namespace Mine
variable {G:Gl} {B:Bs} {ρ:List (Addr × Obj)} {σ:List SO} {ls:List (Str × SV)} {rs:Shared} {d:Nat} {ν:Vn}
noncomputable section
noncomputable def tabS:Tab:=tabT [] [(153,Zca)] []
theorem Zhx {s:St} {vs:List MV} {r:Res MV} (h:Zca vs s=some r):∃ x,vs=[.str x]∧anyL x flagsX=true∧.ret (.str x) s=r:=by
 revert vs;show Fa _ _;refine Lis.on_cons zN0 (λv vs h=>?_)
 revert v;show Fa _ _;refine MV.on_str zN0 zN1 zN1 zN1 zN1 zN1 zN1 zN1 (λx h=>?_)
 revert vs;show Fa _ _;refine Lis.on_nil zN2 (λh=>?_)
 exact e0_2 (bifN h) λh1 h2=>i1_3 x rfl h1 h2
theorem ZiR {Pm:Params} (hK:G.K=KF Pm):SumOk G tabS ν where
 ops:=λe he=>nomatch he
 keep:=λ{d a vs s r} h=>by
  unfold ZcZ at h
  generalize q:Nat.ble 10 d=wo at h
  revert q;revert wo;show Fa _ _;refine Boo.on_true zN0 (λh=>?_);intro q
  rw [cond_true] at h
  have h':(match (bif Nat.beq a 153 then some Zca else none) with | some f=>f vs s | none=>none)=some r:=h
  cases q2:Nat.beq a 153 with
  | false=>rw [q2] at h';exact nN h'
  | true=>rw [Nat.eq_of_beq_eq_true q2,hK];kernel_rfl
 run:=λ{B ρ s rs d a vs rvs r P} hd O x hv h hA=>by
  unfold ZcZ at h
  rw [Nat.ble_eq_true_of_le hd,cond_true] at h
  have h':(match (bif Nat.beq a 153 then some Zca else none) with | some f=>f vs s | none=>none)=some r:=h
  generalize q2:Nat.beq a 153=wo at h'
  revert q2;revert wo;show Fa _ _;refine Boo.on_true zN0 (λh'=>?_);intro q2
  have e:=Nat.eq_of_beq_eq_true q2
  refine byP λXX kX=>?_
  subst e
  replace h':Zca vs s=some r:=h'
  refine e1_3 (Zhx h') λy e0 q3 e3=>?_;clear h';subst e0 e3
  refine e2_3 (VL.cons_inv hv) λ_ _ wq ha hn=>?_;clear hv;subst wq
  have wq:=VL.nil_inv hn;clear hn;subst wq
  refine e1_1 (vstr ha) λt wq=>?_;subst wq
  refine kX ?_
  refine codeAny_mono (Zly hK (O.le (by omega)) x.hs (Zh1 q3)) λr rs' z=>?_
  refine e1_2 z λu wq hs'=>?_;clear z;subst wq
  exact i1_2 _ rfl (⟨ρ,_,_,List.prefix_refl _,hA,.str y u,x.fx,hs'⟩)
theorem ZkM:ZfT (run tabS 300) 20 Za0 [] ⟨[],[],[]⟩ = .ret (.ref 30) ⟨slashH,[],[]⟩:=by kernel_rfl
theorem ZkN (ν ν':Vn):slashH.map (MO.sem ν)=slashH.map (MO.sem ν'):=by kernel_rfl
noncomputable abbrev nu0:Vn:=mkN [] [] [] (λ_=>0) []
theorem Zdn:nu0.ok:=Zb2 (λ_ h=>nomatch h) (λ_ h=>nomatch h) (λ_ h=>nomatch h) (λ_ h=>nomatch h) (λ_ h=>nomatch h)
theorem Zmf {Pm:Params} (hK:G.K=KF Pm) (O:Ok G B 21) (x:Hs G B [] [] ls rs):
 codeAny G.M B.A (.call (.ref 250) ⟨[],[]⟩) (λr rs'=>∃ a ρ',r = .ok (.ret (.ref a))∧(∃ o,ρ'[30]? = some (a,o))∧Hs G B ρ' (slashH.map (MO.sem nu0)) ls rs') rs:=by
 have H:=Zbw (tOk Pm (G:=G) hK (base:=[]) (sums:=[(153,Zca)]) (ops:=[])) (ZiR hK) Zdn 300
 refine codeAny_mono (ZjJ H O x (hK ▸ ZbA Pm) (vs:=[]) (rvs:=[]) (s:=⟨[],[],[]⟩) (P:=λv s=>v = .ref 30∧s.heap=slashH) .nil rfl (λ_ h=>nomatch h) (by rw [show ZfT (run (tabT [] [(153,Zca)] []) 300) 20 Za0 [] ⟨[],[],[]⟩ = .ret (.ref 30) ⟨slashH,[],[]⟩ from ZkM];exact i0_2 rfl rfl)) λr rs' z=>?_
 refine byP λXX kX=>?_
 refine e1_2 z λrv wq wqb=>?_;clear z;subst wq;obtain ⟨ρ',w,s',hp,hw,⟨rfl,hh⟩,_,hs'⟩:=wqb
 refine e2_2 (vref hw) λa o wq ha=>?_;subst wq
 refine kX ?_
 refine i2_3 a (ρ') rfl (⟨o,ha⟩) ?_
 have:semH (tabT [] [(153,Zca)] []) nu0 s'=slashH.map (MO.sem nu0):=by
  show s'.heap.map _=_
  have hh':s'.heap=slashH:=hh
  rw [hh']
 rw [this] at hs'
 exact hs'
end
end Mine
end
section
namespace Mine
variable {G:Gl} {B:Bs} {ρ:List (Addr × Obj)} {σ:List SO} {ls:List (Str × SV)} {rs:Shared} {d:Nat} {ν:Vn}
noncomputable section
noncomputable def atTab:List (Nat × Nat):=[(9,5),(10,39),(32,5),(34,27),(40,15),(41,17),(42,37),(43,33),(47,35),(48,3),(59,33),(61,33),(92,29),(95,43),(97,3),(98,3)]
theorem Zo8 (ext:List MO) (sums) (s:St) (hs:sums=[]):AllP (λp:Nat × Nat=>ZfT (run (tabT (slashH++ext) sums []) 40) 9 ZaU [.ref 30,.int (.k (p.1:Int))] s = .ret (.ref p.2) s) atTab:=by
 subst hs
 exact i0_17 (by kernel_rfl) (by kernel_rfl) (by kernel_rfl) (by kernel_rfl) (by kernel_rfl) (by kernel_rfl) (by kernel_rfl) (by kernel_rfl) (by kernel_rfl) (by kernel_rfl) (by kernel_rfl) (by kernel_rfl) (by kernel_rfl) (by kernel_rfl) (by kernel_rfl) (by kernel_rfl) trivial
theorem Zjy {s:St} {vs:List MV} {r:Res MV} (h:Zhl vs s=some r):∃ l,vs=[.ref 30,.int l]∧l.eq (.x 20)=true∧.ret (.unk 0) s=r:=by
 revert vs;show Fa _ _;refine Lis.on_cons zN0 (λv vs h=>?_)
 revert v;show Fa _ _;refine MV.on_ref zN0 zN1 zN1 zN1 zN1 zN1 zN1 zN1 (λn h=>?_)
 revert vs;show Fa _ _;refine Lis.on_cons zN0 (λv vs h=>?_)
 revert v;show Fa _ _;refine MV.on_int zN0 zN1 zN1 zN1 zN1 zN1 zN1 zN1 (λl h=>?_)
 revert vs;show Fa _ _;refine Lis.on_nil zN2 (λh=>?_)
 refine e0_2 (bifN h) λh1 h2=>?_
 have h3:=Bool.and_eq_true_iff.mp h1
 exact i1_3 l (by rw [Nat.eq_of_beq_eq_true h3.1]) h3.2 h2
theorem Zh3 {Pm:Params} (hK:G.K=KF Pm) (hν:ν.ok) {ext:List MO} {k i:Nat} (hk:(k,i) ∈ atTab) (h20:ν.x 20=k) (hr:ν.r 0=i):SumOk G (tabT (slashH++ext) [(208,Zhl)] []) ν where
 ops:=λe he=>nomatch he
 keep:=λ{d a vs s r} h=>by
  unfold ZcZ at h
  generalize q:Nat.ble 10 d=wo at h
  revert q;revert wo;show Fa _ _;refine Boo.on_true zN0 (λh=>?_);intro q
  rw [cond_true] at h
  have h':(match (bif Nat.beq a 208 then some Zhl else none) with | some f=>f vs s | none=>none)=some r:=h
  cases q2:Nat.beq a 208 with
  | false=>rw [q2] at h';exact nN h'
  | true=>rw [Nat.eq_of_beq_eq_true q2,hK];exact (ZaW Pm).keep
 run:=λ{B ρ s rs d a vs rvs r P} hd O x hv h hA=>by
  unfold ZcZ at h
  rw [Nat.ble_eq_true_of_le hd,cond_true] at h
  have h':(match (bif Nat.beq a 208 then some Zhl else none) with | some f=>f vs s | none=>none)=some r:=h
  generalize q2:Nat.beq a 208=wo at h'
  revert q2;revert wo;show Fa _ _;refine Boo.on_true zN0 (λh'=>?_);intro q2
  have e:=Nat.eq_of_beq_eq_true q2
  refine byP λXX kX=>?_
  subst e
  replace h':Zhl vs s=some r:=h'
  refine e1_3 (Zjy h') λl e0 q3 e3=>?_;clear h';subst e0 e3
  have H:=Zbw (tOk Pm (G:=G) hK (base:=slashH++ext) (sums:=[]) (ops:=[])) (ZcK rfl λ_ h=>nomatch h) hν 40
  refine kX ?_
  have hv':VL ρ (([.ref 30,.int (.k (k:Int))]:List MV).map (MV.sem ν)) rvs:=by
   have:([.ref 30,.int l]:List MV).map (MV.sem ν)=([.ref 30,.int (.k (k:Int))]:List MV).map (MV.sem ν):=by
    simp only [List.map_cons,List.map_nil,MV.sem,Lin.eq_eq q3,ev_x,ev_k,h20]
   rw [←this];exact hv
  have hrun:=(Zo8 ext [] s rfl).mem _ hk
  refine codeAny_mono (ZjJ (d:=9) (O:=O.le (by omega)) H (x:=x.hs) (hf:=hK ▸ ZaW Pm) (vs:=[.ref 30,.int (.k (k:Int))]) (s:=s) (P:=λv s'=>v = .ref i∧s'.heap=s.heap∧s'.facts=s.facts) hv' rfl x.fx (by rw [hrun];exact i0_3 rfl rfl rfl)) λr rs' z=>?_
  refine e1_2 z λrv wq wqb=>?_;clear z;subst wq;obtain ⟨ρ',w,s',hp,hw,⟨rfl,hh,hf⟩,_,hs'⟩:=wqb
  refine i1_2 rv rfl (⟨ρ',.unk 0,s,hp,hA,?_,x.fx,?_⟩)
  ·show V ρ' (.ref (ν.r 0)) rv
   rw [hr];exact hw
  ·have:semH (tabT (slashH++ext) [(208,Zhl)] []) ν s=semH (tabT (slashH++ext) [] []) ν s':=by
    show (slashH++ext++s.heap).map _=(slashH++ext++s'.heap).map _
    have hh':s'.heap=s.heap:=hh
    rw [hh']
   rw [this];exact hs'
end
end Mine
end
section
namespace Mine
variable {G:Gl} {d:Nat}
theorem ZmG {A:Around} {rs:Shared} (kin:G.K.In rs.heap) (top:TopRead G.p G.loose G.mg G.mb rs.heap) (hand:A.handled=none) (dep:A.depth+3 * (d+1)+3<recursionLimit) (uni:A.units+20 * (d+1)+100<cLine)
 {a:Addr} {name qual:Str} {params:Arguments} {body:List Stmt} {sc:Scope} {dV kV doc pm cdv ct oc:Value} {an od:Option Addr} {osl:Array (Option Value)} {args:Args} {binds:List (Str × Value)} {R:Result->Shared->Prop}
 (ho:List.lookup a G.K=some ⟨oc,od,.func (PySem.W.fnOf name qual params body sc dV kV doc pm an cdv ct),osl⟩) (hcd:codeIn G.K cdv qual=true)
 (hbind:∀ s:Shared,G.K.In s.heap->BindsTo s (PySem.W.fnOf name qual params body sc dV kV doc pm an cdv ct) args binds)
 (hkind:∀ n,∀ x ∈ binds,sc.names.lookup x.1=some .local∨(sc.names.lookup x.1=some .cell∧((cellsFrom n sc.names []).lookup x.1).isSome=true))
 (hnd:((cellsFrom 0 sc.names []).map (·.1)).Nodup) (hnd2:∀ L:Addr,((cellsFrom (L+1) sc.names []).map (·.2)).Nodup) (hco:sc.isCoroutine=false) (hgen:sc.isGenerator=false) (hk:sc.kind = .function)
 (bodyH:∀ (B':Bs) rs1 (L:Addr) (cells:List (Addr × Obj)),Ok G B' d->B'.sc=sc->B'.L=L->B'.cl=cellsFrom (L+1) sc.names []->B'.cs=cells->B'.h₀=rs.heap->B'.gens=rs.gens->B'.os=rs.os->CellsAre (bindC (envOfC qual sc L a cdv).kindOf binds λ_=>none) (cellsFrom (L+1) sc.names []) cells->
  (∀ ls',Loc B' [] (bindL (envOfC qual sc L a cdv).kindOf binds λ_=>none) ls'->Hs G B' [] [] ls' rs1)->
  wpAny G.M B'.A (execs body B'.env) (λfl rs'=>R (.ok (.ret (match fl with | .ret v=>v | _=>.none))) rs') (λ_ _=>False) rs1):
 codeAny G.M A (.call (.ref a) args) R rs:=by
 refine codeAny_call_function (by omega) (kin _ _ ho) rfl hco hgen rfl (codeRec_of kin hcd) (hbind rs kin _ _ _ _ ?_)
 refine wpAny_newFunctionEnv_cells hk (hkind _) λenv' he s' y=>?_
 subst he
 refine i0_2 (top.nolimit.keeps y.toInCall.keep) (codeAny_func ?_)
 refine e2_2 (y.done) λh₁ tk wq _=>?_;subst wq
 have hk₁:=y.toInCall.keep
 refine e1_2 (Cl.news (h₀:=rs.heap) (Nat.le_refl _) λn c hm=>⟨y.cell n c (lookup_of_mem_nodup (cellsFrom_names sc.names 0 (rs.heap.objs.size+1) [] [] rfl ▸ hnd) hm),y.above n c hm⟩) λcells NC Y=>?_
 let B':Bs:={ A:=A.deeper (envX qual sc rs.heap.objs.size a cdv (cellsFrom (rs.heap.objs.size+1) sc.names [])),h₀:=rs.heap,L:=rs.heap.objs.size,qu:=qual++".<locals>.",sc:=sc,fn:=some a,fr:=some rs.heap.objs.size,cd:=cdv,cl:=cellsFrom (rs.heap.objs.size+1) sc.names [],cs:=cells,gens:=rs.gens,drawn:=rs.drawn,os:=rs.os }
 have O':Ok G B' d:=by
  refine ⟨kin,top,hk,hand,?_,?_⟩
  ·show A.depth+1+3 * d+3<recursionLimit;omega
  ·show A.units+3+20 * d+100<cLine;omega
 refine wpAny_mono (bodyH B' _ rs.heap.objs.size cells O' rfl rfl rfl rfl rfl rfl rfl Y (λls' hl=>⟨⟨_,[],⟨y.toInCall.ns,hk₁,Nat.le_refl _⟩,λp hp=>?_,⟨rfl,rfl,λn o e=>by simp at e,?_⟩,hl⟩,rfl,rfl,rfl⟩)) (λfl rs' q=>?_) λ_ _ q=>q.elim
 ·exact NC p (by simpa using hp)
 ·rw [List.flatten_nil,List.append_nil]
  show (cells.map (·.1)).Nodup
  rw [Zfk Y];exact hnd2 _
 ·cases fl<;>exact q
end Mine
end
section
set_option tactic.hygienic true
namespace Mine
theorem ZeE (L:Addr):cellsFrom L lawS.names []=[(Str.ofString "many",L+1),(Str.ofString "deck",L)]:=by kernel_rfl
noncomputable def Zjq:Prop:=∀ (G:Gl) (Pm:Params),G.K=KF Pm->∀ (B:Bs) (rs:Shared) (c1 c2:Addr) (o1 o2:Obj) (l:Addr) (vs:List Value) (ns:List Int),Ok G B 60->B.sc=lawS->B.cl=[(Str.ofString "many",c2),(Str.ofString "deck",c1)]->c1 ≠ c2->B.cs=[(c2,o2),(c1,o1)]->o1.data = .cell none->o2.data = .cell none->B.gens = #[]->
 B.h₀.IsList l vs.toArray->IntsAre vs ns->ns.length≤63->Hs G B [] [] [(Str.ofString "script",.glob (.ref l))] rs->
 wpAny G.M B.A (execs lawB B.env) (λfl rs'=>fl = .ret (.bool true)∧∃ c ρ σ ls,Hs G { B with cs:=c } ρ σ ls rs') (λ_ _=>False) rs
theorem Zo1 (H:Zjq):WalkO qv Zd2 (XL qv []) (InK KF) lawRow lawD ZlI λf vs=>PySem.call f vs:=by
 intro w s₀ s₁ mg mb G Y fa o pm cd doc dV kV ho hd hcd hD hmg hg args vals as hpre hlay hrd hwl hlo
 have KX:(KF w.params).In s₁.heap:=Y
 refine Ground.open G ?_
 intro T B D TE TW
 have hfa:fa=555:=by
  have e:=mg_of KX T.g (show nsIn (KF w.params) mainGlobals (Str.ofString "law")=some (some (.ref 555)) by kernel_rfl)
  have e2:mg (Str.ofString "law")=some (.ref fa):=hmg
  rw [e] at e2;cases e2;rfl
 subst hfa
 wrow_args hpre hlay hrd hwl hlo
 rename_i ns _ _ _ _ _ _ _ l vs _ hL _ _ _ hI _ hlen _
 refine enter_call ?_
 let GG:Gl:={ K:=KF w.params,p:=qv,loose:=looseW qv Zd2,mg:=mg,mb:=mb,prog:=lawRow.prog,w:=w }
 refine ZmG (G:=GG) (d:=60) KX (topRead_of T) rfl (by decide) (by decide) (a:=555) (name:="law") (qual:="law") (params:=stA (top 53)) (body:=lawB) (sc:=lawS) (dV:=.none) (kV:=.none) (doc:=.none) (pm:=.str "law_np0083_01" 915) (an:=none) (cdv:=.ref 554) (ct:=.none) (oc:=.type "function") (od:=none) (osl:=#[])
  (binds:=[(Str.ofString "script",.ref l)]) (by kernel_rfl) (by kernel_rfl) (λs hs=>BindsTo.of_eq (by kernel_rfl)) (λn z hz=>?_) (by rw [ZeE];exact ZcX (by kernel_rfl)) (λL=>by rw [ZeE];simp) (by kernel_rfl) (by kernel_rfl) (by kernel_rfl) ?_
 ·obtain rfl:=List.mem_singleton.mp hz
  exact .inl (by kernel_rfl)
 ·intro B' rs1 L cells O' e1 e2 e3 e4 e5 e6 e7 hc mk
  rw [ZeE] at hc e3
  refine e2_3 (hc.two) λo2 o1 wq h2 h1=>?_;subst wq
  have x1:=mk [(Str.ofString "script",.glob (.ref l))] ⟨λz v e=>by
   rw [Zab] at e
   generalize q:seq z (Str.ofString "script")=wo at e
   revert q;revert wo;show Fa _ _;refine Boo.on_true zN0 (λe=>?_);intro q
   have wq:=Option.some.inj e;clear e;subst wq
   rw [seq_iff.mp q]
   exact ⟨_,.glob _ rfl,.inl ⟨by rw [e1];kernel_rfl,by kernel_rfl⟩⟩,by kernel_rfl⟩
  refine wpAny_mono (H GG w.params rfl B' rs1 (L+1) (L+1+1) o1 o2 l vs ns O' e1 e3 (Nat.ne_of_lt (Nat.lt_succ_self _)) e4 h1 h2 (by rw [e6,hg]) (by rw [e5];exact hL) hI (by omega) x1) (λfl rs' q=>?_) λ_ _ q=>q
  refine byP λXX kX=>?_
  refine e0_2 q λwq wqb=>?_;clear q;subst wq;obtain ⟨c,ρ,σ,ls,hs⟩:=wqb
  obtain ⟨m,led,F,N,R,Lc⟩:=hs.ex
  have F':Fr B'.h₀ B'.L rs'.heap m:=F
  rw [e5] at F'
  refine kX ?_
  refine GoodW.toG ⟨.inl ⟨_,.bool true,[],rfl,λcls=>rfl,.bool true,?_,λ_=>⟨.nil,λa ha=>nomatch ha⟩⟩,F'.keep,?_,?_⟩
  ·first | exact postW_of (X:=true) (by rfl) (by rfl) rfl | kernel_rfl
  ·exact hs.os.trans e7
  ·exact (hs.gens.trans e6).trans hg
end Mine
end
section
namespace Mine
variable {G:Gl} {B:Bs} {ρ:List (Addr × Obj)} {σ:List SO} {ls:List (Str × SV)} {rs:Shared} {d:Nat}
theorem Zip (O:Ok G B d) {elt iter:PySem.Expr} {x:Str} {px pos p0:Pos} {ifs:List PySem.Expr} {sc2:Scope} (hk2:sc2.kind = .function) (hnm:sc2.names.all (λp=>match p.2 with | .cell=>false | .free=>false | .local=>Zah sc2 p.1 | _=>true)=true) (hx:Zah sc2 x=true) (hxd:seq x (Str.ofString "__debug__")=false) (hp:Zae iter=true)
 {n:Nat} {it:Nat->SV} {J:List (Addr × Obj)->Addr->Nat->List (Addr × Obj)->List (Addr × Obj)->List SO->Prop} {Q:Value->Shared->Prop} {use:Option (Value->Sem Unit)}
 (hiter:wpAny G.M B.A (eval iter B.env) (λv rs1=>∃ (l:Addr) (vs:List Value) (c1:List (Addr × Obj)) (o:Obj),v = .ref l∧vs.length=n∧rs1.heap.IsList l vs.toArray∧((l,o) ∈ (B.ext c1).cs∨B.h₀.get? l=some o)∧Hs G (B.ext c1) ρ σ ls rs1∧
  (∀ i v,vs[i]? = some v->∀ ρ',V ρ' (it i) v)∧(∀ D,J c1 D 0 [] (ρ++[(D,default)]) (σ++[.list []]))) NoE rs)
 (body:∀ (cl:List (Str × Addr)) (c1:List (Addr × Obj)) (C I D:Addr) (oL oI:Obj) (i:Nat) (c0 ρ':List (Addr × Obj)) (σ':List SO) (rs':Shared),i<n->J c1 D i c0 ρ' σ'->Ok G (((B.ext c1).ext c0).comp sc2 cl C oL I oI) d->Hs G (((B.ext c1).ext c0).comp sc2 cl C oL I oI) ρ' σ' (put x (it i) []) rs'->
  wpAny G.M B.A (forIn ifs true λc r=>if r=true then do let ok ←isTrue c (compEnvC sc2 cl C B.env) (eval c (compEnvC sc2 cl C B.env));pure (ForInStep.yield ok) else pure (ForInStep.yield r)) (λok rs2=>
   if ok=true then wpAny G.M B.A (eval elt (compEnvC sc2 cl C B.env)) (EltR G (λc3=>((B.ext c1).ext c3).comp sc2 cl C oL I oI) D (J c1 D (i+1))) NoE rs2
   else SkipR G (λc3=>((B.ext c1).ext c3).comp sc2 cl C oL I oI) (J c1 D (i+1)) rs2) NoE rs')
 (fin:∀ (c1:List (Addr × Obj)) (C D:Addr) (oC:Obj) (c0 ρ':List (Addr × Obj)) (σ':List SO) (rs':Shared) (m:Str->Option Value),J c1 D n c0 ρ' σ'->LCg.NsObj oC m->(∀ w,oC.data ≠ .cell w)->(∀ ls',LsTo ρ ρ' ls ls'->Hs G { B with cs:=(C,oC)::((B.ext c1).ext c0).cs } ρ' σ' ls' rs')->compPost G.M B.A NoE use Q (.ref D) C (.ok .next) rs'):
 wpAny G.M B.A (comprehension (.ListComp elt [⟨.Name x px,iter,ifs,0⟩] sc2 pos) sc2 B.env p0 (newList []) false (eval iter B.env) use) Q NoE rs:=by
 have hfold:∀ z,foldedSetIterable iter B.env z=pure z:=by
  intro z;cases iter<;>first | rfl | exact nB hp
 rw [List.all_eq_true] at hnm
 refine byP λXX kX=>?_
 have hcell:∀ z ∈ sc2.names,z.2 ≠ .cell:=λz hz e=>by have:=hnm z hz;rw [e] at this;exact nB this
 have hfree:∀ z ∈ sc2.names,z.2 ≠ .free:=λz hz e=>by have:=hnm z hz;rw [e] at this;exact nB this
 have hnames:∀ z ∈ sc2.names,z.2 = .local->sc2.names.lookup z.1=some .local:=λz hz e=>by
  have:=hnm z hz
  rw [e] at this
  exact Zay this
 refine e1_2 (Zcr (env:=B.env) (sc2:=sc2) λz hz e=>absurd e (hfree z hz)) λcl hcl hclk=>?_
 refine kX ?_
 refine wpAny_comprehension_free (use:=use) rfl hfold hcl hk2 hnames (wpAny_mono hiter (λxv rs1 y=>?_) λ_ _ e=>e)
 refine e4_7 y λl vs c1 o wq hlen hl hst x1 hit hJ=>?_;clear y;subst wq
 refine wpAny_pyIter_list hl ?_
 obtain ⟨m,led,F,N,R,Lc⟩:=x1.ex
 have hgl:rs1.heap.get? l=some o:=by
  refine byP λXX kX=>?_
  rcases hst with h | h
  ·refine kX ?_
   exact (N _ (List.mem_append_left _ h)).1
  ·refine kX ?_
   exact F.keep _ _ h
 have hne:l ≠ rs1.heap.objs.size:=Nat.ne_of_lt (Heap.lt_size hgl)
 have hsz:vs.toArray.size=n:=by rw [List.size_toArray,hlen]
 have hl2:(rs1.heap.push { cls:=.type "list_iterator",data:=.fields #[.ref l,.int 0 0] }).IsList l vs.toArray:=by
  refine e1_2 hl λo' a b=>?_;clear hl
  exact i1_2 o' (Heap.get?_push_of_some _ a) b
 refine Zed (B:=B.ext c1) (E:=NoE) (it:=it) (n:=n) (Pv:=λi v=>vs.toArray[i]? = some v) (St:=λi h=>h.IsListIter rs1.heap.objs.size l i∧h.IsList l vs.toArray) (fp:=[rs1.heap.objs.size,l])
  (J:=J c1) (lsC:=[]) (RR:=λacc C=>compPost G.M B.A NoE use Q acc C)
  ⟨O.kin,O.top,O.kind,O.hand,O.dep,O.uni⟩ x1 hcell hk2 (Zay hx) (Zaj hxd) rfl (by rw [←hsz];exact Walks.list O.hand _ _ hne _) ⟨⟨_,Heap.get?_push_size _ rfl,rfl,rfl⟩,hl2⟩ (λi h st=>by refine e1_2 (st.1) λo e _=>?_;exact i1_1 o e) (λb hb=>?_) (λi v hi hv D c0 ρ' σ' _=>hit i v (by simpa using hv) ρ') (λy v e=>by exact nN e) rfl hJ ?_ ?_
 ·simp only [List.mem_cons,List.not_mem_nil,or_false] at hb
  refine byP λXX kX=>?_
  rcases hb with rfl | rfl
  ·refine kX ?_
   exact .inl rfl
  ·rcases hst with h | h
   ·refine kX ?_
    exact .inr (.inl ⟨o,h⟩)
   ·refine kX ?_
    exact .inr (.inr ⟨o,h⟩)
 ·exact λC I D oL oI i c0 ρ' σ' rs' hi hJ' O' hs'=>body cl c1 C I D oL oI i c0 ρ' σ' rs' hi hJ' O' hs'
 ·intro C D oC c0 ρ' σ' rs' m' hJ' hoC hnc hh
  exact fin c1 C D oC c0 ρ' σ' rs' m' hJ' hoC hnc hh
theorem Hs.ns_of {C:Addr} {oC:Obj} {c:List (Addr × Obj)} {m:Str->Option Value} (x:Hs G { B with cs:=(C,oC)::c } ρ σ ls rs) (h:LCg.NsObj oC m):rs.heap.Ns C m:=by
 obtain ⟨m3,led3,F3,N3,R3,Lc3⟩:=x.ex
 exact h.ns (N3 (C,oC) (by simp)).1
theorem Zdx {Q:Value->Shared->Prop} {C D:Addr} {oC:Obj} {c:List (Addr × Obj)} {m:Str->Option Value} (h:LCg.NsObj oC m) (hc:∀ w,oC.data ≠ .cell w) (x:Hs G { B with cs:=(C,oC)::c } ρ σ ls rs) (k:∀ rs',Hs G { B with cs:=c } ρ σ ls rs'->Q (.ref D) rs'):
 compPost G.M B.A NoE none Q (.ref D) C (.ok .next) rs:=⟨m,x.ns_of h,λ_ hsb=>k _ (x.letGo hc hsb)⟩
theorem Hs.store (O:Ok G B d) (x:Hs G B ρ σ ls rs) {y:Str} {v:SV} {rv:Value} (hl:Zah B.sc y=true) (hd:seq y (Str.ofString "__debug__")=false) (hv:V ρ v rv):wpAny G.M B.A (storeName B.env y rv) (λ_ rs'=>Hs G B ρ σ (put y v ls) rs') NoE rs:=by
 have hl:=Zay hl
 obtain ⟨m,led,F,N,R,Lc⟩:=x.ex
 refine wpAny_storeName_local (env:=B.env) hl F.ns (λh' hn hs=>?_) (by show (B.sc.kind == .class||(B.sc.kind == .module&&B.L != mainGlobals))=false;rw [O.kind];rfl)
 refine ⟨⟨_,led,F.set hn hs,N.set hs,R,⟨λz w e=>?_,?_⟩⟩,x.gens,x.drawn,x.os⟩
 ·rw [ZaJ] at e
  by_cases hy:z=y
  ·rw [if_pos hy] at e
   have wq:=Option.some.inj e;clear e;subst wq
   exact i1_2 rv hv (.inl ⟨by rw [hy];exact hl,by rw [if_pos hy]⟩)
  ·rw [if_neg hy] at e
   refine e1_2 (Lc.at_ z w e) λrw' h1 h2=>?_
   exact i1_2 rw' h1 (h2.imp (λz=>⟨z.1,by rw [if_neg hy];exact z.2⟩) id)
 ·rw [ZaJ,if_neg (λe=>Zaj hd e.symm)]
  exact Lc.dbg
theorem Ziz (O:Ok G B d) {Q:Value->Shared->Prop} {C D:Addr} {oC:Obj} {c:List (Addr × Obj)} {m:Str->Option Value} (h:LCg.NsObj oC m) (hc:∀ w,oC.data ≠ .cell w) (x:Hs G { B with cs:=(C,oC)::c } ρ σ ls rs)
 {y:Str} {py:Pos} {v:SV} (hl:Zah B.sc y=true) (hd:seq y (Str.ofString "__debug__")=false) (hv:V ρ v (.ref D)) (k:∀ rs',Hs G { B with cs:=c } ρ σ (put y v ls) rs'->Q .none rs'):
 compPost G.M B.A NoE (some (assign (.Name y py) B.env)) Q (.ref D) C (.ok .next) rs:=by
 show wpAny G.M B.A (assign (.Name y py) B.env (.ref D)) _ _ rs
 refine wpAny_assign_Name (wpAny_mono (Hs.store (B:={ B with cs:=(C,oC)::c }) ⟨O.kin,O.top,O.kind,O.hand,O.dep,O.uni⟩ x hl hd hv) (λ_ rs' z=>⟨m,z.ns_of h,λ_ hsb=>k _ (z.letGo hc hsb)⟩) λ_ _ e=>e)
theorem ZfG {elt:PySem.Expr} {gs:List Comprehension} {sc sc2:Scope} {pos py:Pos} {y:Str} {n:Nat} {env:Env} (hs:env.scope=sc) (h1:((if sc.kind.isAnnotationScope then ScopeKind.function else sc.kind) == .function&&sc.names.lookup y==some .local)=true) (h2:(py.line==pos.line)=true) (h3:(sc2.names.any λ(n,k)=>n==y&&(k == .local||k == .cell))=false):
 swapsWith (.ListComp elt gs sc2 pos) (some (.Name y py)) n env=pure true:=by
 subst hs
 unfold swapsWith
 show (pure (((if env.scope.kind.isAnnotationScope then ScopeKind.function else env.scope.kind) == .function&&env.scope.names.lookup y==some .local)&&py.line==pos.line && !(sc2.names.any λ(n,k)=>n==y&&(k == .local||k == .cell))):Sem Bool)=_
 rw [h1,h2,h3];rfl
theorem Zek {elt iter:PySem.Expr} {x:Str} {px:Pos} {ifs:List PySem.Expr} {sc2:Scope} {pos py spos:Pos} {y:Str} {Q:Flow->Shared->Prop} (hsw:swapsWith (.ListComp elt [⟨.Name x px,iter,ifs,0⟩] sc2 pos) (some (.Name y py)) spos.line B.env=pure true)
 (h:∀ p0,wpAny G.M B.A (comprehension (.ListComp elt [⟨.Name x px,iter,ifs,0⟩] sc2 pos) sc2 B.env p0 (newList []) false (eval iter B.env) (some (assign (.Name y py) B.env))) (λ_ rs'=>Q .next rs') NoE rs):
 wpAny G.M B.A (exec (.Assign [.Name y py] (.ListComp elt [⟨.Name x px,iter,ifs,0⟩] sc2 pos) spos) B.env) Q NoE rs:=by
 rw [exec_Assign_Name_used _ _ _ _ hsw]
 refine wpAny_bind (wpAny_standAt (wpAny_bind ?_))
 show wpAny _ B.A (do let _ ←comprehension (.ListComp elt [⟨.Name x px,iter,ifs,0⟩] sc2 pos) sc2 B.env _ (newList []) false (eval iter B.env) (some (assign (.Name y py) B.env))) _ _ rs
 exact wpAny_bind (wpAny_mono (h _) (λ_ s' hq=>wpAny_pure (wpAny_pure hq)) λ_ _ e=>e)
theorem Zdj {elt iter:PySem.Expr} {x:Str} {px pos:Pos} {ifs:List PySem.Expr} {sc2:Scope} {Q:Value->Shared->Prop}
 (h:∀ p0,wpAny G.M B.A (comprehension (.ListComp elt [⟨.Name x px,iter,ifs,0⟩] sc2 pos) sc2 B.env p0 (newList []) false (eval iter B.env) none) Q NoE rs):wpAny G.M B.A (eval (.ListComp elt [⟨.Name x px,iter,ifs,0⟩] sc2 pos) B.env) Q NoE rs:=by
 rw [eval_ListComp];exact h _
end Mine
end
section
namespace Mine
variable {G:Gl} {B:Bs} {Γ:Tab} {ν:Vn} {ρ:List (Addr × Obj)} {s:St} {rs:Shared} {d:Nat}
theorem Zmh {ih:Ih} (H:IhOk G Γ ν ih) (O:Ok G B d) (g:Gd G B Γ ν ρ s rs) {v hi:PySem.Expr} {p p':Pos} {l:Addr} {vs:List Value} {ns:List Int} {c:Nat} (hv0:∀ r,letTemporaryGo v (.ref l) r=pure ())
 (h1:(ih.ev d B.sc v s).All ν λw s'=>w = .glob (.ref l)∧s'=s) (h2:(ih.ev d B.sc hi s).All ν λw s'=>w = .int (.k c)∧s'=s) (hl:B.h₀.IsList l vs.toArray) (hi':IntsAre vs ns) (hz:ns.length≤2 ^ 20):
 wpAny G.M B.A (eval (.Subscript v (.Slice none (some hi) none p') p) B.env) (λrv rs'=>∃ D ws ρ',ρ <+: ρ'∧rv = .ref D∧IntsAre ws (ns.take c)∧Hs G (B.ext [(D,PySem.W.listOf ws.toArray 0)]) ρ' (semH Γ ν s) (semL ν s.ls) rs') NoE rs:=by
 refine Subscript_ (wpAny_mono (H.ev O g h1) (λrv rs1 z=>?_) λ_ _ e=>e)
 refine byP λXX kX=>?_
 obtain ⟨ρ1,w,s1,hp,⟨rfl,rfl⟩,hv,g1⟩:=z
 refine e0_2 (V.glob_inv hv) λwq _=>?_;clear hv;subst wq
 refine kX ?_
 refine wpAny_Slice ?_
 rw [evalPart_none]
 refine wpAny_pure ?_
 rw [evalPart_some]
 refine wpAny_mono (H.ev O g1 h2) (λvu rs2 z=>?_) λ_ _ e=>e
 refine byP λXX kX=>?_
 obtain ⟨ρ2,w2,s2,hp2,⟨rfl,rfl⟩,hv2,g2⟩:=z
 refine e1_1 (vint hv2) λu wq=>?_;subst wq
 refine kX ?_
 rw [ev_k]
 refine wpAny_pure ?_
 obtain ⟨m,led,F,N,R,Lc⟩:=g2.hs.ex
 have hl2:rs2.heap.IsList l vs.toArray:=by refine e1_2 hl λo a b=>?_;clear hl;exact i1_2 o (F.keep _ _ a) b
 have hlen:=hi'.length
 refine kmk_slice_ints (lo:=none) (hi:=some (c:Int)) F N hl2 (by first | exact .none | exact IsPart.none | constructor) (by first | exact .int _ _ | exact IsPart.int _ _ | constructor) hi' (kmk_upto hi' (by omega)) rfl (λD ws h' F' N' l1 hw hc hle=>?_) (subS _ _ _ _ _) hv0 (by rw [List.size_toArray,hlen,sizeLine_eq];omega)
 refine i3_4 D ws (ρ2) (hp.trans hp2) rfl hw (⟨⟨m,led,F',N',⟨R.l1,R.l2,R.obj,?_⟩,⟨λy v e=>?_,Lc.dbg⟩⟩,g2.hs.gens,g2.hs.drawn,g2.hs.os⟩)
 ·show (((D,PySem.W.listOf ws.toArray 0)::(B.cs++led.flatten)).map (·.1)).Nodup
  rw [List.map_cons,List.nodup_cons]
  refine i0_2 (λhm=>?_) (R.nd)
  refine e1_2 (List.mem_map.mp hm) λq hq e=>?_
  have:=l1 q hq
  exact absurd e (Nat.ne_of_lt this)
 ·refine e1_2 (Lc.at_ y v e) λrv a b=>?_
  exact i1_2 rv a (b.imp id λ⟨k1,c,o,k3,k4,k5⟩=>⟨k1,c,o,k3,List.mem_cons_of_mem _ k4,k5⟩)
end Mine
end
section
namespace Mine
variable {G:Gl} {B:Bs} {Γ:Tab} {ν:Vn} {ρ:List (Addr × Obj)} {σ:List SO} {ls:List (Str × SV)} {s:St} {rs:Shared} {d:Nat}
theorem evAt {ih:Ih} (H:IhOk G Γ ν ih) (O:Ok G B d) {e:PySem.Expr} {sc:Scope} (q:B.sc=sc) {P:MV->St->Prop} (g:Gd G B Γ ν ρ s rs) (h:(ih.ev d sc e s).All ν P):wpAny G.M B.A (eval e B.env) (RV G B Γ ν ρ P) NoE rs:=by
 subst q;exact H.ev O g h
theorem Zqy {ih:Ih} (H:IhOk G Γ ν ih) (O:Ok G B d) {e:PySem.Expr} {sc:Scope} (q:B.sc=sc) {P:Bool->St->Prop} (g:Gd G B Γ ν ρ s rs) (h:(ih.tst d sc e s).All ν P):wpAny G.M B.A (isTrue e B.env (eval e B.env)) (RB G B Γ ν ρ P) NoE rs:=by
 subst q;exact H.tst O g h
theorem evA {ih:Ih} (H:IhOk G Γ ν ih) (hb:Γ.base=[]) (O:Ok G B d) (x:Hs G B ρ σ ls rs) {e:PySem.Expr} {sc:Scope} (q:B.sc=sc) {lsM:List (Str × MV)} {fx:List (Cnd × Bool)} (hl:semL ν lsM=Zax ρ ls) (hx:FxOk ν fx) {P:MV->Prop}
 (h:(ih.ev d sc e ⟨[],lsM,fx⟩).All ν λv s'=>P v∧s'.ls=lsM):wpAny G.M B.A (eval e B.env) (λrv rs'=>∃ v ρ',P v∧V ρ' (v.sem ν) rv∧Hs G B ρ σ ls rs') NoE rs:=by
 refine e1_4 (Znt x) λc hc z back _=>?_
 have g:Gd G (B.mid [] c) Γ ν [] ⟨[],lsM,fx⟩ rs:=⟨hx,by
  have:semH Γ ν ⟨[],lsM,fx⟩=[]:=by show (Γ.base++[]).map _=_;rw [hb];rfl
  rw [this]
  show Hs G (B.mid [] c) [] [] (semL ν lsM) rs
  rw [hl];exact z⟩
 refine wpAny_mono (evAt H (O.mid (c0:=c)) q g h) (λrv rs' w=>?_) λ_ _ e=>e
 refine byP λXX kX=>?_
 obtain ⟨ρ',v,s',hp,⟨hP,hs⟩,hv,g'⟩:=w
 refine e1_4 (ZaD (pre:=[]) g'.hs) λT _ _ gT z2=>?_
 refine kX ?_
 rw [hs,hl] at z2
 exact i2_3 v (ρ') hP hv (back _ _ gT.noCell (z2.lsTo (ZcM z ρ')))
theorem tstA {ih:Ih} (H:IhOk G Γ ν ih) (hb:Γ.base=[]) (O:Ok G B d) (x:Hs G B ρ σ ls rs) {e:PySem.Expr} {sc:Scope} (q:B.sc=sc) {lsM:List (Str × MV)} {fx:List (Cnd × Bool)} (hl:semL ν lsM=Zax ρ ls) (hx:FxOk ν fx) {P:Bool->Prop}
 (h:(ih.tst d sc e ⟨[],lsM,fx⟩).All ν λv s'=>P v∧s'.ls=lsM):wpAny G.M B.A (isTrue e B.env (eval e B.env)) (λb rs'=>P b∧Hs G B ρ σ ls rs') NoE rs:=by
 refine e1_4 (Znt x) λc hc z back _=>?_
 have g:Gd G (B.mid [] c) Γ ν [] ⟨[],lsM,fx⟩ rs:=⟨hx,by
  have:semH Γ ν ⟨[],lsM,fx⟩=[]:=by show (Γ.base++[]).map _=_;rw [hb];rfl
  rw [this]
  show Hs G (B.mid [] c) [] [] (semL ν lsM) rs
  rw [hl];exact z⟩
 refine wpAny_mono (Zqy H (O.mid (c0:=c)) q g h) (λb rs' w=>?_) λ_ _ e=>e
 refine byP λXX kX=>?_
 obtain ⟨ρ',s',hp,⟨hP,hs⟩,g'⟩:=w
 refine e1_4 (ZaD (pre:=[]) g'.hs) λT _ _ gT z2=>?_
 refine kX ?_
 rw [hs,hl] at z2
 exact i0_2 hP (back _ _ gT.noCell (z2.lsTo (ZcM z ρ')))
end Mine
end
section
namespace Mine
variable {G:Gl} {B:Bs} {ρ:List (Addr × Obj)} {σ:List SO} {ls:List (Str × SV)} {rs:Shared} {d:Nat}
noncomputable def Zjp (G:Gl) (d:Nat) (sc:Scope) (x:Str) (elt:PySem.Expr) (f:Int->Int) (n:Int):Prop:=
 ∃ (Γ:Tab) (ν:Vn) (ih:Ih),IhOk G Γ ν ih∧Γ.base=[]∧ν.x 0=n∧(ih.ev d sc elt ⟨[],[(x,.int (.x 0))],[]⟩).All ν λv s'=>(∃ l,v = .int l∧l.ev ν.x=f n)∧s'.ls=[(x,.int (.x 0))]
noncomputable def Znp (G:Gl) (d:Nat) (sc:Scope) (x:Str) (c:PySem.Expr) (p:Int->Bool) (n:Int):Prop:=
 ∃ (Γ:Tab) (ν:Vn) (ih:Ih),IhOk G Γ ν ih∧Γ.base=[]∧ν.x 0=n∧(ih.tst d sc c ⟨[],[(x,.int (.x 0))],[]⟩).All ν λb s'=>b=p n∧s'.ls=[(x,.int (.x 0))]
noncomputable def resI (p:Int->Bool) (f:Int->Int) (ns:List Int):List SV:=(ns.filter p).map λn=>SV.int (f n)
theorem ZlD {vs:List Value} {ns:List Int} (h:IntsAre vs ns):∀ {i:Nat} {v:Value},vs[i]? = some v->∃ t,v = .int (ns.getD i 0) t:=by
 induction h with
 | nil=>intro i v e;simp at e
 | cons n t _ ih=>
  intro i v e
  cases i with
  | zero=>simp at e;subst e;exact i1_1 t rfl
  | succ i=>simpa using ih (by simpa using e)
theorem Zhe {p:Int->Bool} {f:Int->Int} {ns:List Int} {i:Nat} (hi:i<ns.length):resI p f (ns.take (i+1))=bif p ns[i] then resI p f (ns.take i)++[SV.int (f ns[i])] else resI p f (ns.take i):=by
 unfold resI
 rw [List.take_succ_eq_append_getElem hi,List.filter_append,List.map_append]
 cases q:p ns[i]<;>simp [q]
theorem ZeB (O:Ok G B d) {elt iter:PySem.Expr} {x:Str} {px pos p0:Pos} {use:Option (Value->Sem Unit)} {ifs:List PySem.Expr} {sc2:Scope} (hk2:sc2.kind = .function) (hnm:sc2.names.all (λp=>match p.2 with | .cell=>false | .free=>false | .local=>Zah sc2 p.1 | _=>true)=true) (hx:Zah sc2 x=true) (hxd:seq x (Str.ofString "__debug__")=false) (hp:Zae iter=true)
 {ns:List Int} {f:Int->Int} {p:Int->Bool} {Q:Value->Shared->Prop} (hlen:ns.length≤1000) (hdb:look (Str.ofString "__debug__") ls=none)
 (hiter:wpAny G.M B.A (eval iter B.env) (λv rs1=>∃ (l:Addr) (vs:List Value) (c1:List (Addr × Obj)) (o:Obj),v = .ref l∧IntsAre vs ns∧rs1.heap.IsList l vs.toArray∧((l,o) ∈ (B.ext c1).cs∨B.h₀.get? l=some o)∧Hs G (B.ext c1) ρ σ ls rs1∧∀ q ∈ c1,∀ w,q.2.data ≠ .cell w) NoE rs)
 (hE:∀ n ∈ ns,p n=true->Zjp G d (Zai B.sc sc2) x elt f n)
 (hT:(ifs=[]∧∀ n,p n=true)∨∃ c,ifs=[c]∧∀ n ∈ ns,Znp G d (Zai B.sc sc2) x c p n)
 (fin:∀ (c1:List (Addr × Obj)) (C D:Addr) (oC:Obj) (rs':Shared) (m:Str->Option Value),(∀ q ∈ c1,∀ w,q.2.data ≠ .cell w)->LCg.NsObj oC m->(∀ w,oC.data ≠ .cell w)->Hs G { B with cs:=(C,oC)::(B.ext c1).cs } (ρ++[(D,default)]) (σ++[.list (resI p f ns)]) ls rs'->compPost G.M B.A NoE use Q (.ref D) C (.ok .next) rs'):
 wpAny G.M B.A (comprehension (.ListComp elt [⟨.Name x px,iter,ifs,0⟩] sc2 pos) sc2 B.env p0 (newList []) false (eval iter B.env) use) Q NoE rs:=by
 refine Zip (ρ:=ρ) (σ:=σ) (ls:=ls) O hk2 hnm hx hxd hp (n:=ns.length) (it:=λi=>.int (ns.getD i 0)) (J:=λc1 D i c0 ρ' σ'=>(∀ q ∈ c1,∀ w,q.2.data ≠ .cell w)∧c0=[]∧ρ'=ρ++[(D,default)]∧σ'=σ++[.list (resI p f (ns.take i))])
  (wpAny_mono hiter (λv rs1 z=>?_) λ_ _ e=>e) ?_ λc1 C D oC c0 ρ' σ' rs' m hJ hoC hnc hh=>?_
 ·refine e4_6 z λl vs c1 o e1 e2 e3 e4 e5 e6=>?_;clear z
  refine i4_7 l vs c1 o e1 (e2.length) e3 e4 e5 (λi v e ρ'=>?_) (λD=>⟨e6,rfl,rfl,rfl⟩)
  refine e1_1 (ZlD e2 e) λt wq=>?_;subst wq
  exact .int _ _
 ·intro cl c1 C I D oL oI i c0 ρ' σ' rs' hi hJ O' hs'
  refine byP λXX kX=>?_
  refine e0_4 hJ λhnc1 wq wqb wqc=>?_;clear hJ;subst wq;subst wqb;subst wqc
  refine kX ?_
  have hn:ns.getD i 0=ns[i]:=by rw [List.getD_eq_getElem?_getD,List.getElem?_eq_getElem hi];rfl
  have hmem:ns[i] ∈ ns:=List.getElem_mem hi
  have hs2:Hs G (((B.ext c1).ext []).comp sc2 cl C oL I oI) (ρ++[(D,default)]) (σ++[.list (resI p f (ns.take i))]) [(x,.int ns[i])] rs':=by
   rw [←hn];exact hs'
  have hsc:(((B.ext c1).ext []).comp sc2 cl C oL I oI).sc=Zai B.sc sc2:=Zcv (env:=B.env) O.kind
  have hll:ρ.length=σ.length:=by
   refine byP λXX kX=>?_
   obtain ⟨m,led,F,N,R,Lc⟩:=hs2.ex
   refine kX ?_
   have:=R.l1;simpa using this
  have elt2:∀ rs2,p ns[i]=true->Hs G (((B.ext c1).ext []).comp sc2 cl C oL I oI) (ρ++[(D,default)]) (σ++[.list (resI p f (ns.take i))]) [(x,.int ns[i])] rs2->wpAny G.M B.A (eval elt (compEnvC sc2 cl C B.env)) (EltR G (λc3=>((B.ext c1).ext c3).comp sc2 cl C oL I oI) D (λc3 ρ3 σ4=>(∀ q ∈ c1,∀ w,q.2.data ≠ .cell w)∧c3=[]∧ρ3=ρ++[(D,default)]∧σ4=σ++[.list (resI p f (ns.take (i+1)))])) NoE rs2:=by
   intro rs2 hpn hs3
   refine e3_4 (hE _ hmem hpn) λΓ ν ih H hb h0 hA=>?_
   refine wpAny_mono (evA H hb O' hs3 hsc (lsM:=[(x,.int (.x 0))]) (fx:=[]) (by show [(x,SV.int ((Lin.x 0).ev ν.x))]=[(x,SV.int ns[i])];rw [ev_x,h0]) (λ_ h=>nomatch h) hA) (λy rs3 z=>?_) λ_ _ e=>e
   refine byP λXX kX=>?_
   refine e2_3 z λv ρ2 wq hv hs4=>?_;clear z;obtain ⟨l,rfl,hl⟩:=wq
   refine e1_1 (vint hv) λt wq=>?_;subst wq
   refine kX ?_
   refine ⟨[],_,.int (f ns[i]),_,σ.length,resI p f (ns.take i),_,by rw [hl];exact .int _ _,by simp,.ref (o:=default) (by rw [←hll];simp),?_,hs4,hnc1,rfl,rfl,?_⟩
   ·have h1:=List.length_filter_le p (ns.take i)
    have h2:(resI p f (ns.take i)).length=((ns.take i).filter p).length:=by simp [resI]
    have h3:=List.length_take_le i ns
    omega
   ·rw [List.set_append_right _ _ (Nat.le_refl _),Nat.sub_self,Zhe hi,hpn];rfl
  rcases hT with ⟨rfl,hall⟩ | ⟨c,rfl,hT⟩
  ·refine wpAny_tests_nil ?_
   rw [if_pos rfl]
   exact elt2 _ (hall _) hs2
  ·refine e3_4 (hT _ hmem) λΓ ν ih H hb h0 hA=>?_
   refine wpAny_tests_one (wpAny_mono (tstA H hb O' hs2 hsc (lsM:=[(x,.int (.x 0))]) (fx:=[]) (by show [(x,SV.int ((Lin.x 0).ev ν.x))]=[(x,SV.int ns[i])];rw [ev_x,h0]) (λ_ h=>nomatch h) hA) (λok rs2 z=>?_) λ_ _ e=>e)
   refine e0_2 z λhok hs3=>?_;clear z
   cases ok with
   | true=>rw [if_pos rfl];exact elt2 _ hok.symm hs3
   | false=>
    rw [if_neg (by simp)]
    refine ⟨[],_,_,_,hs3,hnc1,rfl,rfl,?_⟩
    rw [Zhe hi,←hok];rfl
 ·refine e0_4 hJ λhnc1 wq wqb wqc=>?_;clear hJ;subst wq;subst wqb;subst wqc
  refine fin c1 C D oC rs' m hnc1 hoC hnc ?_
  have:=hh ls (LsTo.mono (List.prefix_append _ _) hdb)
  rw [List.take_of_length_le (Nat.le_refl _)] at this
  exact this
end Mine
end
section
namespace Mine
variable {G:Gl} {d:Nat}
noncomputable section
noncomputable def ZnG (s:Option Stmt):PySem.Expr:=match s with | some (.Assign _ e _)=>e | _=>.Constant .none 0 default
noncomputable def ZaT (e:PySem.Expr):PySem.Expr:=match e with | .ListComp x _ _ _=>x | _=>e
noncomputable def compSc2 (e:PySem.Expr):Scope:=match e with | .ListComp _ _ sc _=>sc | _=>default
noncomputable def Zlm:List Stmt:=stB (top 45)
noncomputable def Ze5:Scope:=stS (top 45)
noncomputable def Zfq:PySem.Expr:=ZnG (nth Zlm 0)
noncomputable def opsA:List (Operator × Lin × Lin × Nat):=[(.Mod,.x 0,.k (10 ^ 90),6),(.Mod,⟨0,[(0,-1)]⟩,.k (10 ^ 90),8)]
noncomputable def tabA:Tab:=tabT [] [] opsA
theorem Zpe (d:Nat):(run tabA 20).ev d (Zai Ze5 (compSc2 Zfq)) (ZaT Zfq) ⟨[],[(Str.ofString "cell",.int (.x 0))],[]⟩ =
 .fork (.pos ⟨0,[(0,-1)]⟩) (.ret (.int (.x 8)) ⟨[],[(Str.ofString "cell",.int (.x 0))],[(.pos ⟨0,[(0,-1)]⟩,true)]⟩) (.ret (.int (.x 6)) ⟨[],[(Str.ofString "cell",.int (.x 0))],[(.pos ⟨0,[(0,-1)]⟩,false)]⟩):=by kernel_rfl
noncomputable def nuA (n:Int):Vn:=mkN [(0,n),(6,n.fmod (10 ^ 90)),(8,(-n).fmod (10 ^ 90))] [] [] (λ_=>0) []
theorem ZpE (n:Int):(nuA n).ok:=Zb2 (λ_ h=>nomatch h) (λ_ h=>nomatch h) (λ_ h=>nomatch h) (λ_ h=>nomatch h) (λ_ h=>nomatch h)
theorem Zoq (n:Int):ZdE tabA (nuA n):=by
 refine AllP.mem (Q:=OpOk (nuA n)) ⟨⟨?_,?_⟩,⟨?_,?_⟩,trivial⟩
 ·simp only [ev_k];decide
 ·simp only [ev_k,ev_x];rfl
 ·simp only [ev_k];decide
 ·dsimp only [ev_k]
  show (nuA n).x 8=Int.fmod (0+(-1 * n+0)) _
  rw [show (0:Int)+(-1 * n+0) = -n by omega];rfl
noncomputable def absI (n:Int):Int:=if n<0 then -n else n
theorem ZnP {Pm:Params} (hK:G.K=KF Pm) (n:Int):Zjp G d (Zai Ze5 (compSc2 Zfq)) (Str.ofString "cell") (ZaT Zfq) (λn=>(absI n).fmod (10 ^ 90)) n:=by
 refine i3_4 tabA (nuA n) (run tabA 20) (Zbw (tOk Pm (G:=G) hK) (ZcK rfl (Zoq n)) (ZpE n) 20) rfl rfl ?_
 rw [Zpe]
 have hc:(Cnd.pos ⟨0,[(0,-1)]⟩).holds (nuA n) ↔ n<0:=by
  show 0<(0:Int)+(-1 * n+0) ↔ _
  omega
 refine i0_2 (λh=>⟨⟨_,rfl,?_⟩,rfl⟩) (λh=>⟨⟨_,rfl,?_⟩,rfl⟩)
 ·have:=hc.mp h
  rw [ev_x];show (-n).fmod _=(absI n).fmod _;unfold absI;rw [if_pos this]
 ·have:¬n<0:=λq=>h (hc.mpr q)
  rw [ev_x];show n.fmod _=(absI n).fmod _;unfold absI;rw [if_neg this]
end
end Mine
end
section
namespace Mine
variable {G:Gl} {B:Bs} {ρ:List (Addr × Obj)} {σ:List SO} {ls:List (Str × SV)} {rs:Shared} {d:Nat}
noncomputable section
noncomputable def retL (s:Option Stmt):List PySem.Expr:=match s with | some (.Return (some (.List es _)) _)=>es | _=>[]
noncomputable def ZnF (e:PySem.Expr):List PySem.Expr:=match e with | .ListComp _ [⟨_,_,ifs,_⟩] _ _=>ifs | _=>[]
noncomputable def ZnJ:List PySem.Expr:=retL (nth Zlm 1)
noncomputable def Zb8:PySem.Expr:=(nth ZnJ 0).getD default
noncomputable def ZjD:PySem.Expr:=(nth (ZnF Zb8) 0).getD default
noncomputable def ZfS:PySem.Expr:=(nth ZnJ 1).getD default
noncomputable def Zln:PySem.Expr:=(nth ZnJ 2).getD default
noncomputable def big (n:Int):Bool:=! decide (n<1000000000000000000)
noncomputable def nu1 (n:Int):Vn:=mkN [(0,n)] [] [] (λ_=>0) []
theorem Ziv (n:Int):(nu1 n).ok:=Zb2 (λ_ h=>nomatch h) (λ_ h=>nomatch h) (λ_ h=>nomatch h) (λ_ h=>nomatch h) (λ_ h=>nomatch h)
theorem Zph (d:Nat):(run tabN 20).tst d (Zai Ze5 (compSc2 Zb8)) ZjD ⟨[],[(Str.ofString "cell",.int (.x 0))],[]⟩ =
 .fork (.pos ⟨1000000000000000000,[(0,-1)]⟩) (.ret false ⟨[],[(Str.ofString "cell",.int (.x 0))],[(.pos ⟨1000000000000000000,[(0,-1)]⟩,true)]⟩) (.ret true ⟨[],[(Str.ofString "cell",.int (.x 0))],[(.pos ⟨1000000000000000000,[(0,-1)]⟩,false)]⟩):=by kernel_rfl
theorem Zpf (d:Nat):(run tabN 20).ev d (Zai Ze5 (compSc2 Zb8)) (ZaT Zb8) ⟨[],[(Str.ofString "cell",.int (.x 0))],[]⟩ = .ret (.int (.x 0)) ⟨[],[(Str.ofString "cell",.int (.x 0))],[]⟩:=by kernel_rfl
theorem ZoO {Pm:Params} (hK:G.K=KF Pm) (n:Int):Znp G d (Zai Ze5 (compSc2 Zb8)) (Str.ofString "cell") ZjD big n:=by
 refine i3_4 tabN (nu1 n) (run tabN 20) (Zbw (tOk Pm (G:=G) hK) (ZcK (Γ:=tabN) rfl λ_ h=>nomatch h) (Ziv n) 20) rfl rfl ?_
 rw [Zph]
 have hc:(Cnd.pos ⟨1000000000000000000,[(0,-1)]⟩).holds (nu1 n) ↔ n<1000000000000000000:=by
  show 0<(1000000000000000000:Int)+(-1 * n+0) ↔ _
  omega
 refine i0_2 (λh=>⟨?_,rfl⟩) (λh=>⟨?_,rfl⟩)
 ·unfold big;rw [decide_eq_true (hc.mp h)];rfl
 ·unfold big;rw [decide_eq_false (λq=>h (hc.mpr q))];rfl
theorem ZnQ {Pm:Params} (hK:G.K=KF Pm) (n:Int):Zjp G d (Zai Ze5 (compSc2 Zb8)) (Str.ofString "cell") (ZaT Zb8) (λn=>n) n:=by
 refine i3_4 tabN (nu1 n) (run tabN 20) (Zbw (tOk Pm (G:=G) hK) (ZcK (Γ:=tabN) rfl λ_ h=>nomatch h) (Ziv n) 20) rfl rfl ?_
 rw [Zpf]
 exact i0_2 (⟨_,rfl,by rw [ev_x];rfl⟩) rfl
set_option genInjectivity false in
set_option genSizeOf false in
inductive DeckshapeR:Prop
 | mk:∀ py px p1 p2 p3 pos spos k24 pc px2 p5 pos2 p6 rp,Zlm=[.Assign [.Name (Str.ofString "cells") py] (.ListComp (ZaT Zfq) [⟨.Name (Str.ofString "cell") px,.Subscript (.Name (Str.ofString "script") p1) (.Slice none (some (.Constant (.int 24) k24 pc)) none p2) p3,[],0⟩] (compSc2 Zfq) pos) spos,
  .Return (some (.List [.ListComp (ZaT Zb8) [⟨.Name (Str.ofString "cell") px2,.Name (Str.ofString "cells") p5,[ZjD],0⟩] (compSc2 Zb8) pos2,ZfS,Zln] p6)) rp]->(py.line==pos.line)=true->DeckshapeR
theorem ZiN:DeckshapeR:=.mk _ _ _ _ _ _ _ _ _ _ _ _ _ _ (rfl) (rfl)
theorem ZbJ {t:Tr} {xs:List SV} (g:OR G [] t.2.1 t.1 t.2.2) (h:t.2.1 = .list xs):∃ vs k,VL [] xs vs∧t.2.2=[(t.1.1,PySem.W.listOf vs.toArray k)]:=by
 obtain ⟨⟨a,ob⟩,so,es⟩:=t
 dsimp only at g h ⊢
 refine byP λXX kX=>?_
 subst h
 refine e2_3 (g.list_inv) λ_ _ wq y z=>?_;clear g;subst wq
 refine kX ?_
 exact i2_2 _ _ y rfl
theorem ZoM (x:Hs G B ρ σ ls rs) {p q:Nat} {ns:List Int} {i:Int} {a:Addr} {o:Obj} (hp:σ[p]? = some (.list (ns.map .int))) (hq:σ[q]? = some (.list [.ref p,.int i,.int 0])) (hn:ns.length≤64) (hi:0≤i) (ha:ρ[q]? = some (a,o)):Hs G B [(a,o)] [.deck 0] [] rs:=by
 refine e1_4 (ZaD (pre:=[]) (c0:=[]) x) λT e1 e2 good y=>?_
 have len:∀ {n:Nat} {o:SO},σ[n]? = some o->∃ t,T[n]? = some t∧t.2.1=anfO ρ o∧ρ[n]? = some t.1:=by
  intro n o h
  have hn:n<T.length:=by
   have:=congrArg List.length e2
   simp only [List.length_map] at this
   rw [this];exact (List.getElem?_eq_some_iff.mp h).1
  refine i1_3 (T[n]) (List.getElem?_eq_getElem hn) ?_ (by rw [←e1];simp [hn])
  have:=congrArg (λl=>l[n]?) e2
  simp only [List.getElem?_map,h,Option.map_some,List.getElem?_eq_getElem hn,Option.some.injEq] at this
  exact this
 refine byP λXX kX=>?_
 refine e1_3 (len hp) λt1 f1 f2 f3=>?_
 refine e1_3 (len hq) λt2 g1 g2 g3=>?_
 rw [ha] at g3
 have g4:t2.1=(a,o):=(Option.some.inj g3).symm
 have m1:=List.mem_of_getElem? f1
 have m2:=List.mem_of_getElem? g1
 refine kX ?_
 have f2':t1.2.1 = .list (ns.map .int):=by rw [f2];simp only [anfO,List.map_map];rfl
 have g2':t2.2.1 = .list [.glob (.ref t1.1.1),.int i,.int 0]:=by rw [g2];simp only [anfO,List.map_cons,List.map_nil,anfV,f3]
 refine byP λXX kX=>?_
 refine e2_2 (ZbJ (good t1 m1) f2') λvs k1 v1 es1=>?_
 refine e2_2 (ZbJ (good t2 m2) g2') λws k2 v2 es2=>?_
 refine e1_1 (pick (K:=T) (T:=[]) (R:=T) (.refl _) m1 (by simp)) λR pr=>?_
 refine e1_1 (pick pr m2 (by
  intro h
  refine byP λXX kX=>?_
  obtain rfl:=List.mem_singleton.mp h
  rw [f2'] at g2'
  cases ns with
  | nil=>cases g2'
  | cons n r=>cases g2')) λR pr=>?_
 cases v2 with
 | cons u0 v2=>
  cases v2 with
  | cons u1 v2=>
   cases v2 with
   | cons u2 v2=>
    have wq:=VL.nil_inv v2;clear v2;subst wq
    cases u0 with
    | glob _ _=>
     refine e1_1 (vint u1) λs1 wq=>?_;subst wq
     refine e1_1 (vint u2) λs2 wq=>?_;subst wq
     let u:Tr:=(t2.1,.deck 0,t2.2.2++t1.2.2)
     have hlen:=v1.length
     rw [List.length_map] at hlen
     have gu:OR G [] u.2.1 u.1 u.2.2:=by
      show OR G [] (.deck 0) t2.1 (t2.2.2++t1.2.2)
      rw [es1,es2]
      exact .deck (ob:=t2.1.2) (ZfW v1) (by omega) (Int.le_refl 0) (Int.le_refl 0) hi
     have z:Hs G (B.mid [] (flat [u])) [] [] [] rs:=by
      have hpm:(flat T++[]).Perm (flat R++flat [u]):=by
       rw [List.append_nil]
       have:=pr.flatMap_right (·.2.2)
       refine List.Perm.trans this ?_
       rw [List.flatMap_append]
       refine List.perm_append_comm.trans (List.Perm.append_left _ ?_)
       show ([]++[t1]++[t2]:List Tr).flatMap (·.2.2) |>.Perm ((t2.2.2++t1.2.2)++[])
       simp only [List.nil_append,List.singleton_append,List.flatMap_cons,List.flatMap_nil,List.append_nil]
       exact List.perm_append_comm
      refine Hs.lsTo (Hs.drop ?_ (Hs.permc hpm y)) ⟨rfl,λy v e=>by cases e⟩
      refine Good.noCell (G:=G) λt ht=>good t (pr.mem_iff.mpr (List.mem_append_right _ ht))
     have w:=thaw (pre:=[]) (T:=[u]) (R:=[]) (σ':=[.deck 0]) (ls':=[]) z (λt ht=>by obtain rfl:=List.mem_singleton.mp ht;exact gu) (.refl _) rfl ⟨rfl,λy v e=>by cases e⟩
     refine kX ?_
     have e0:[u].map (·.1)=[(a,o)]:=by show [t2.1]=_;rw [g4]
     rw [e0] at w
     exact w
end
end Mine
end
section
namespace Mine
variable {G:Gl} {B:Bs} {ρ:List (Addr × Obj)} {σ:List SO} {ls:List (Str × SV)} {rs:Shared} {d:Nat}
noncomputable section
noncomputable def Zpb (n:Int):Int:=(absI n).fmod (10 ^ 90)
theorem Zgd {p:Int->Bool} {f:Int->Int} {ns:List Int}:resI p f ns=((ns.filter p).map f).map SV.int:=by unfold resI;rw [List.map_map];rfl
theorem ZeC:∀ {l:List Int},(∀ n ∈ l,0≤n)->0≤ZbH (l.map .int)
 | [],_=>Int.le_refl 0
 | n::r,h=>by
  have h1:=h n (.head _)
  have h2:=ZeC (l:=r) λm hm=>h m (.tail _ hm)
  show 0≤n+ZbH (r.map .int)
  omega
theorem runN {Pm:Params} (hK:G.K=KF Pm) {ν:Vn} (hν:ν.ok) (n:Nat):IhOk G tabN ν (run tabN n):=Zbw (tOk Pm (G:=G) hK) (ZcK (Γ:=tabN) rfl λ_ h=>nomatch h) hν n
theorem ZgZ (d:Nat) (sc:Scope) (x:Str) (p:Pos) (v:Value) (ls:List (Str × MV)) (h:look x ls=some (.glob v)):(run tabN 20).ev d sc (.Name x p) ⟨[],ls,[]⟩ = .ret (.glob v) ⟨[],ls,[]⟩:=by
 show Zbn tabN sc x ⟨[],ls,[]⟩=_
 unfold Zbn
 dsimp only
 rw [h]
noncomputable def nuB (l1 l2:List Int):Vn:=mkN [] [(0,l1.map .int),(1,l2.map .int)] [] (λ_=>0) []
theorem ZpF {l1 l2:List Int} (h1:l1.length≤64) (h2:l2.length≤64):(nuB l1 l2).ok:=by
 refine Zb2 (λ_ h=>nomatch h) (λp hp _=>?_) (λp hp h1=>?_) (λp hp=>?_) (λ_ h=>nomatch h)
 ·simp only [List.mem_cons,List.not_mem_nil,or_false] at hp
  intro v hv
  rcases hp with rfl | rfl<;>(refine e1_2 (List.mem_map.mp hv) λn _ wq=>?_;subst wq;exact i1_1 n rfl)
 ·simp only [List.mem_cons,List.not_mem_nil,or_false] at hp
  refine byP λXX kX=>?_
  rcases hp with rfl | rfl
  ·exact absurd h1 (by decide:¬100≤0)
  ·exact absurd h1 (by decide:¬100≤1)
 ·simp only [List.mem_cons,List.not_mem_nil,or_false] at hp
  rcases hp with rfl | rfl<;>(simp only [List.length_map];omega)
noncomputable def stB2:St:=⟨[.list [.seg 0],.list [.seg 1]],[(Str.ofString "cells",.ref 0)],[]⟩
theorem Zpg (d:Nat):ZaF ((run tabN 20).ev d Ze5) [ZfS,Zln] stB2 = .ret [.int ⟨0,[(1,1),(500,1)]⟩,.int (.k 0)] stB2:=by kernel_rfl
theorem ZiY {σ:List SO} (y:Hs G B ρ σ ls rs) (h:σ.length=0):ρ=[]:=by
 obtain ⟨m,led,F,N,R,Lc⟩:=y.ex
 exact List.eq_nil_of_length_eq_zero (R.l1.trans h)
theorem rho1 {o:SO} {p:Addr × Obj} (y:Hs G B ρ [o] ls rs) (h:ρ[0]? = some p):ρ=[p]:=by
 obtain ⟨m,led,F,N,R,Lc⟩:=y.ex
 have l1:=R.l1
 cases ρ with
 | nil=>exact nN h
 | cons q r=>cases r with
  | nil=>simpa using h
  | cons _ _=>simp at l1
theorem Zj0 {pre c0:List (Addr × Obj)} {D:Addr} {xs:List Int} (x:Hs G (B.mid pre c0) [(D,default)] [.list (xs.map .int)] ls rs):∃ (t:Tr) (vs:List Value) (k:Nat),t.1=(D,default)∧t.2.1 = .list (xs.map .int)∧IntsAre vs xs∧t.2.2=[(D,PySem.W.listOf vs.toArray k)]∧Good G [t]∧Hs G (B.mid pre (t.2.2++c0)) [] [] (Zax [(D,default)] ls) rs:=by
 refine byP λXX kX=>?_
 refine e1_4 (ZaD x) λT f1 f2 good y=>?_
 refine e1_1 (show ∃ t,T=[t] from by
  cases T with
  | nil=>cases f1
  | cons t r=>cases r with
   | nil=>exact ⟨t,rfl⟩
   | cons _ _=>simp at f1) λt wq=>?_;subst wq
 refine kX ?_
 have ft:t.2.1 = .list (xs.map .int):=by
  have:t.2.1=anfO [(D,default)] (.list (xs.map .int)):=by simpa using f2
  rw [this];simp only [anfO,List.map_map];rfl
 have fa:t.1=(D,default):=by simpa using f1
 refine e2_2 (ZbJ (good t (.head _)) ft) λvs1 k1 hv1 es1=>?_
 rw [fa] at es1
 have hflat:flat [t]=t.2.2:=by show t.2.2++[]=_;rw [List.append_nil]
 rw [hflat] at y
 exact i3_6 t vs1 k1 fa ft (ZfW hv1) es1 good y
theorem Zlo {Pm:Params} (hK:G.K=KF Pm) (O:Ok G B 40) (e1:B.sc=Ze5) {t t2:Tr} {D D2:Addr} {cI bI:List Int} {p:Pos} (fa:t.1=(D,default)) (fa2:t2.1=(D2,default)) (ft:t.2.1 = .list (cI.map .int)) (ft2:t2.2.1 = .list (bI.map .int)) (good:Good G [t]) (good2:Good G [t2])
 (z:Hs G (B.mid [] (flat [t,t2])) [] [] [(Str.ofString "cells",.glob (.ref D))] rs) (hcl:cI.length≤24) (hbl:bI.length≤24) (hcp:∀ n ∈ cI,0≤n):
 wpAny G.M B.A (spliced (backTo p (starEach [ZfS,Zln] B.env))) (λvs rs'=>wpAny G.M B.A (PySem.newList (.ref D2::vs)) (λrv rs'=>∃ a o,rv = .ref a∧Hs G B [(a,o)] [.deck 0] [] rs') NoE rs') NoE rs:=by
 have w:=thaw (pre:=[]) (T:=[t,t2]) (R:=[]) (σ':=[.list (cI.map .int),.list (bI.map .int)]) (ls':=[(Str.ofString "cells",.ref 0)]) z (λu hu=>by
  rcases List.mem_cons.mp hu with rfl | hu
  ·exact good _ (.head _)
  ·exact good2 _ hu) (.refl _) (by simp only [List.map_cons,List.map_nil,anfO,List.map_map,ft,ft2];rfl) ⟨by kernel_rfl,λy v e=>by
   rw [Zab] at e
   generalize q:seq y (Str.ofString "cells")=wo at e
   revert q;revert wo;show Fa _ _;refine Boo.on_true zN0 (λe=>?_);intro q
   have wq:=Option.some.inj e;clear e;subst wq
   refine i1_2 (.glob (.ref D)) (by rw [Zab,q];rfl) (λrv h=>?_)
   refine e0_2 (V.glob_inv h) λwq _=>?_;clear h;subst wq
   exact .ref (o:=default) (by simp [fa])⟩
 have hν:=ZpF (l1:=cI) (l2:=bI) (by omega) (by omega)
 have e:semH tabN (nuB cI bI) stB2=[.list (cI.map .int),.list (bI.map .int)]:=by
  show [SO.list (cI.map .int++[]),.list (bI.map .int++[])]=_
  rw [List.append_nil,List.append_nil]
 have g3:Gd G B tabN (nuB cI bI) [t.1,t2.1] stB2 rs:=⟨(λ_ h=>nomatch h),by rw [e];exact w⟩
 refine wpAny_mono (ZbQ (P:=λl s'=>l=[.int ⟨0,[(1,1),(500,1)]⟩,.int (.k 0)]∧s'=stB2) (runN (G:=G) hK hν 20) O g3 (by rw [e1,Zpg];exact i0_2 rfl rfl)) (λws rs7 u=>?_) λ_ _ e=>e
 obtain ⟨ρ',lw,s',hp,⟨rfl,rfl⟩,hw,g7⟩:=u
 have hD2:V ρ' (.ref 1) (.ref D2):=V.mono hp (.ref (o:=default) (by simp [fa2]))
 refine wpAny_mono (g7.hs.newList (vs:=[.ref 1,.int (cI.length+ZbH (cI.map .int)),.int 0]) (.cons hD2 ?_) (by simp)) (λrv rs8 u=>?_) λ_ _ e=>e
 ·have e:([.int ⟨0,[(1,1),(500,1)]⟩,.int (.k 0)]:List MV).map (MV.sem (nuB cI bI))=[.int (cI.length+ZbH (cI.map .int)),.int 0]:=by
   have h1:(nuB cI bI).x 1=cI.length:=by show ((((cI.map SV.int)).length:Nat):Int)=_;rw [List.length_map]
   have h2:(nuB cI bI).x 500=ZbH (cI.map .int):=rfl
   show [SV.int ((0:Int)+(1 * (nuB cI bI).x 1+(1 * (nuB cI bI).x 500+0))),.int (0+0)]=_
   rw [h1,h2,show (0:Int)+(1 * (cI.length:Int)+(1 * ZbH (cI.map .int)+0))=cI.length+ZbH (cI.map .int) by omega]
   rfl
  rw [e] at hw
  exact hw
 ·refine e1_3 u λρ2 hp2 hr x8=>?_;clear u
  refine e2_2 (vref hr) λa o wq ha=>?_;subst wq
  rw [e] at x8 ha
  have hs:=ZeC hcp
  exact i2_2 a o rfl (ZoM x8 (p:=1) (q:=2) (ns:=bI) rfl rfl (by omega) (by omega) ha)
theorem ZiC {Pm:Params} (hK:G.K=KF Pm) {sc:Scope} (O:Ok G B d) {lsM:List (Str × MV)} (x:Hs G B [] [] (semL nu0 lsM) rs) {l:Addr} {vs:List Value} {ns:List Int} (hl:B.h₀.IsList l vs.toArray) (hi:IntsAre vs ns) (hn:ns.length≤64) (e1:B.sc=sc) {p1 p2 p3 pc:Pos} {k24:Nat} (hls:look (Str.ofString "script") lsM=some (.glob (.ref l)):=by kernel_rfl):
 wpAny G.M B.A (eval (.Subscript (.Name (Str.ofString "script") p1) (.Slice none (some (.Constant (.int 24) k24 pc)) none p2) p3) B.env) (λv rs1=>∃ (l:Addr) (vs:List Value) (c1:List (Addr × Obj)) (o:Obj),v = .ref l∧IntsAre vs (ns.take 24)∧rs1.heap.IsList l vs.toArray∧((l,o) ∈ (B.ext c1).cs∨B.h₀.get? l=some o)∧Hs G (B.ext c1) [] [] (semL nu0 lsM) rs1∧∀ q ∈ c1,∀ w,q.2.data ≠ .cell w) NoE rs:=by
 have H:=runN (G:=G) hK Zdn 20
 refine wpAny_mono (Zmh (Γ:=tabN) (ν:=nu0) (ρ:=[]) (s:=⟨[],lsM,[]⟩) (l:=l) (c:=24) H O ⟨(λ_ h=>nomatch h),x⟩ (λ_=>rfl) ?_ ?_ hl hi (by omega)) (λrv rs2 z=>?_) λ_ _ e=>e
 ·rw [ZgZ _ _ _ _ (.ref l) _ hls];exact i0_2 rfl rfl
 ·exact i0_2 rfl rfl
 ·refine e3_4 z λD ws ρ' hp wq hw y=>?_;clear z;subst wq
  obtain rfl:=ZiY y rfl
  obtain ⟨m,led,F,N,R,Lc⟩:=y.ex
  exact i4_6 D ws ([(D,PySem.W.listOf ws.toArray 0)]) (PySem.W.listOf ws.toArray 0) rfl hw (Zan (k:=0) (N (D,PySem.W.listOf ws.toArray 0) (.head _)).1) (.inl (.head _)) y (λq hq w=>by obtain rfl:=List.mem_singleton.mp hq;intro e;cases e)
noncomputable abbrev dls (l:Addr):List (Str × SV):=[(Str.ofString "script",.glob (.ref l))]
noncomputable abbrev dls2 (l D:Addr):List (Str × SV):=[(Str.ofString "script",.glob (.ref l)),(Str.ofString "cells",.glob (.ref D))]
theorem Zlp {Pm:Params} (hK:G.K=KF Pm) (O:Ok G B 40) (e1:B.sc=Ze5) {D l:Addr} {cI:List Int} {c1:List (Addr × Obj)} {px2 p5 pos2 p6:Pos} (hnc1:∀ q ∈ c1,∀ w,q.2.data ≠ .cell w) (hcl:cI.length≤24) (hcp:∀ n ∈ cI,0≤n)
 (x3:Hs G (B.mid [] c1) [(D,default)] [.list (cI.map .int)] [(Str.ofString "script",.glob (.ref l)),(Str.ofString "cells",.ref 0)] rs):
 wpAny G.M B.A (eval (.List [.ListComp (ZaT Zb8) [⟨.Name (Str.ofString "cell") px2,.Name (Str.ofString "cells") p5,[ZjD],0⟩] (compSc2 Zb8) pos2,ZfS,Zln] p6) B.env) (λrv rs'=>∃ a o,rv = .ref a∧Hs G B [(a,o)] [.deck 0] [] rs') NoE rs:=by
 refine e3_6 (Zj0 x3) λt vs1 k1 fa ft hv1 es1 good y=>?_
 have H:=runN (G:=G) hK Zdn 20
 have y:Hs G (B.mid [] (t.2.2++c1)) [] [] (dls2 l D) rs:=y
 have hin:(D,PySem.W.listOf vs1.toArray k1) ∈ (B.mid [] (t.2.2++c1)).cs:=by show _ ∈ (t.2.2++c1)++_;rw [es1];exact .head _
 refine List_ (wpAny_items_cons (Zdj λp0=>?_) rfl)
 refine ZeB (B:=B.mid [] (t.2.2++c1)) (ns:=cI) (f:=λn=>n) (p:=big) O.mid (by kernel_rfl) (by kernel_rfl) (by kernel_rfl) (by kernel_rfl) rfl (ρ:=[]) (σ:=[]) (ls:=dls2 l D) (by omega) (by kernel_rfl) (wpAny_mono (evAt (Γ:=tabN) (ν:=nu0) (ρ:=[]) (s:=⟨[],[(Str.ofString "script",.glob (.ref l)),(Str.ofString "cells",.glob (.ref D))],[]⟩) (P:=λv s'=>v = .glob (.ref D)∧s'=⟨[],[(Str.ofString "script",.glob (.ref l)),(Str.ofString "cells",.glob (.ref D))],[]⟩) H O.mid e1 ⟨(λ_ h=>nomatch h),y⟩ ?_) (λrv rs4 z=>?_) λ_ _ e=>e) (λn _ _=>by show Zjp G 40 (Zai B.sc _) _ _ _ n;rw [e1];exact ZnQ hK n) (.inr ⟨ZjD,rfl,λn _=>by show Znp G 40 (Zai B.sc _) _ _ _ n;rw [e1];exact ZoO hK n⟩) λc2 C2 D2 oC2 rs5 m2 hnc2 hoC2 hncC2 hh2=>?_
 ·rw [ZgZ _ _ _ _ (.ref D) _ (by kernel_rfl)];exact i0_2 rfl rfl
 ·refine byP λXX kX=>?_
  obtain ⟨ρ',v,s',hp,⟨rfl,rfl⟩,hv,g⟩:=z
  refine e0_2 (V.glob_inv hv) λwq _=>?_;clear hv;subst wq
  have y2:=g.hs
  obtain rfl:=ZiY y2 rfl
  obtain ⟨m,led,F,N,R,Lc⟩:=y2.ex
  refine kX ?_
  exact i4_6 D vs1 ([]) (PySem.W.listOf vs1.toArray k1) rfl hv1 (Zan (N _ (List.mem_append_left _ hin)).1) (.inl hin) y2 (λq hq=>nomatch hq)
 ·refine Zdx hoC2 hncC2 hh2 λrs6 x6=>?_
  have x6:Hs G ((B.mid [] (t.2.2++c1)).mid [] c2) [(D2,default)] [.list (resI big (λn=>n) cI)] (dls2 l D) rs6:=x6
  rw [Zgd] at x6
  generalize hbI:((cI.filter big).map λn=>n)=bI at x6
  have hbl:bI.length≤24:=by
   rw [←hbI,List.length_map]
   exact Nat.le_trans (List.length_filter_le _ _) hcl
  refine byP λXX kX=>?_
  refine e3_6 (Zj0 x6) λt2 vs2 k2 fa2 ft2 hv2 es2 good2 y6=>?_
  have hB:((B.mid [] (t.2.2++c1)).mid [] (t2.2.2++c2))=B.mid [] (t2.2.2++(c2++(t.2.2++c1))):=by unfold Bs.mid;simp only [List.append_assoc,List.nil_append,List.append_nil]
  rw [hB] at y6
  have z:Hs G (B.mid [] (flat [t,t2])) [] [] [(Str.ofString "cells",.glob (.ref D))] rs6:=by
   refine Hs.lsTo (Hs.drop (c:=c2++c1) (λq hq=>(List.mem_append.mp hq).elim (hnc2 q) (hnc1 q)) (Hs.permc ?_ y6)) ⟨by kernel_rfl,λy v e=>?_⟩
   ·show (t2.2.2++(c2++(t.2.2++c1))).Perm ((c2++c1)++(t.2.2++(t2.2.2++[])))
    rw [List.append_nil]
    refine List.perm_append_comm.trans ?_
    rw [List.append_assoc,List.append_assoc,List.append_assoc]
    refine List.Perm.append_left _ ?_
    exact (List.perm_append_comm_assoc _ _ _)
   ·refine i1_2 v ?_ (λrv h=>h)
    rw [Zab] at e
    generalize q:seq y (Str.ofString "cells")=wo at e
    revert q;revert wo;show Fa _ _;refine Boo.on_true zN0 (λe=>?_);intro q
    have wq:=Option.some.inj e;clear e;subst wq
    rw [seq_iff.mp q]
    kernel_rfl
  refine kX ?_
  exact Zlo hK O e1 fa fa2 ft ft2 good good2 z hcl hbl hcp
theorem ZnK {Pm:Params} (hK:G.K=KF Pm) (O:Ok G B 41) (x:Hs G B [] [] ls rs) {l:Addr} {vs:List Value} {ns:List Int} (hl:B.h₀.IsList l vs.toArray) (hi:IntsAre vs ns) (hn:ns.length≤63):
 codeAny G.M B.A (.call (.ref 509) ⟨[.ref l],[]⟩) (λr rs'=>∃ a o,r = .ok (.ret (.ref a))∧Hs G B [(a,o)] [.deck 0] ls rs') rs:=by
 refine codeAny_mono (x.callK (d:=40) O (hK ▸ ZcU Pm) (vs:=[.glob (.ref l)]) (rvs:=[.ref l]) (.cons (.glob _ rfl) .nil) (by show 1 ∈ [1];simp) (ν:=nu0) (P:=λv _ σ'=>v=some (.ref 0)∧σ'=[.deck 0]) λB' rs1 O' e1 keep x1=>?_) λr rs' z=>?_
 ·have e1:B'.sc=Ze5:=e1
  have x1:Hs G B' [] [] (dls l) rs1:=x1
  obtain ⟨py,px,p1,p2,p3,pos,spos,k24,pc,px2,p5,pos2,p6,rp,hb,hline⟩:=ZiN
  have hl':B'.h₀.IsList l vs.toArray:=by refine e1_2 hl λo a b=>?_;clear hl;exact i1_2 o (keep _ _ (.inl a)) b
  show wpAny G.M B'.A (execs Zlm B'.env) _ _ rs1
  rw [hb]
  have hlen:(ns.take 24).length≤24:=List.length_take_le _ _
  refine wpAny_execs_cons (Zek (ZfG e1 (by kernel_rfl) hline (by kernel_rfl)) λp0=>?_)
  refine ZeB (ns:=ns.take 24) (f:=Zpb) (p:=λ_=>true) O' (by kernel_rfl) (by kernel_rfl) (by kernel_rfl) (by kernel_rfl) rfl (ρ:=[]) (σ:=[]) (ls:=dls l) (by omega) (by kernel_rfl) (ZiC (lsM:=[(Str.ofString "script",.glob (.ref l))]) hK O' x1 hl' hi (by omega) e1) (λn _ _=>by rw [e1];exact ZnP hK n) (.inl ⟨rfl,λ_=>rfl⟩) λc1 C D oC rs2 m hnc1 hoC hnc hh=>?_
  refine Ziz O' hoC hnc hh (v:=.ref 0) (by rw [e1];kernel_rfl) (by kernel_rfl) (.ref (o:=default) rfl) λrs3 x3=>?_
  have x3:Hs G (B'.mid [] c1) [(D,default)] [.list (resI (λ_=>true) Zpb (ns.take 24))] [(Str.ofString "script",.glob (.ref l)),(Str.ofString "cells",.ref 0)] rs3:=x3
  rw [Zgd] at x3
  refine wpAny_execs_cons (wpAny_Return_some (wpAny_mono (Zlp hK O' e1 hnc1 ?_ ?_ x3) (λrv rs4 u=>?_) λ_ _ e=>e))
  ·rw [List.length_map]
   exact Nat.le_trans (List.length_filter_le _ _) hlen
  ·intro n hn
   refine e1_2 (List.mem_map.mp hn) λk _ wq=>?_;subst wq
   exact Int.fmod_nonneg_of_pos _ (by decide)
  ·refine e2_2 u λa o wq x9=>?_;clear u;subst wq
   exact i4_4 ([(a,o)]) (some (.ref 0)) ([.deck 0]) ([]) (List.nil_prefix) (.ret (.ref (o:=o) rfl)) (⟨rfl,rfl⟩) x9
 ·refine byP λXX kX=>?_
  refine e1_2 z λrv wq wqb=>?_;clear z;subst wq;obtain ⟨ρ',v,σ',hp,hv,⟨rfl,rfl⟩,hs⟩:=wqb
  have hv:V ρ' (.ref 0) rv:=hv
  refine e2_2 (vref hv) λa o wq ha=>?_;subst wq
  rw [rho1 hs ha] at hs
  refine kX ?_
  exact i2_2 a o rfl hs
end
end Mine
end
section
namespace Mine
variable {G:Gl} {B:Bs} {ρ:List (Addr × Obj)} {σ:List SO} {ls:List (Str × SV)} {rs:Shared} {d:Nat}
noncomputable section
noncomputable def manyB:List Stmt:=stB (top 47)
noncomputable def ZhG:Scope:=stS (top 47)
noncomputable def Zgm (s:Option Stmt) (i:Nat):PySem.Expr:=match s with | some (.Assign _ (.Tuple es _ _) _)=>(nth es i).getD default | _=>default
noncomputable def Zhq (e:PySem.Expr) (i:Nat):PySem.Expr:=match e with | .Call _ es _ _=>(nth es i).getD default | _=>default
noncomputable def Zi4:PySem.Expr:=Zhq (Zgm (nth manyB 0) 1) 0
noncomputable def opsM:List (Operator × Lin × Lin × Nat):=[(.FloorDiv,.x 0,.k 1000,2),(.FloorDiv,.x 2,.k 1000,4),(.FloorDiv,.x 4,.k 1000,6),(.FloorDiv,.x 6,.k 1000,8),(.FloorDiv,.x 8,.k 1000,10),(.FloorDiv,.x 10,.k 1000,12),(.FloorDiv,.x 12,.k 1000,14),(.FloorDiv,.x 14,.k 1000,16),(.FloorDiv,.x 16,.k 1000,18)]
noncomputable def tabM:Tab:=tabT [] [] opsM
noncomputable def fd (n:Int):Int:=n.fdiv 1000
noncomputable def nuM (n:Int) (l:List Int):Vn:=mkN [(0,n),(2,fd n),(4,fd (fd n)),(6,fd (fd (fd n))),(8,fd (fd (fd (fd n)))),(10,fd (fd (fd (fd (fd n))))),(12,fd (fd (fd (fd (fd (fd n)))))),(14,fd (fd (fd (fd (fd (fd (fd n))))))),(16,fd (fd (fd (fd (fd (fd (fd (fd n)))))))),(18,fd (fd (fd (fd (fd (fd (fd (fd (fd n)))))))))] [(0,l.map .int)] [] (λ_=>0) []
theorem Zm8 (n:Int) {l:List Int} (h:l.length≤64):(nuM n l).ok:=by
 refine Zb2 (λ_ h=>nomatch h) (λp hp _=>?_) (λp hp h1=>?_) (λp hp=>?_) (λ_ h=>nomatch h)
 ·obtain rfl:=List.mem_singleton.mp hp
  intro v hv
  refine e1_2 (List.mem_map.mp hv) λn _ wq=>?_;subst wq
  exact i1_1 n rfl
 ·obtain rfl:=List.mem_singleton.mp hp
  exact absurd h1 (by decide:¬100≤0)
 ·obtain rfl:=List.mem_singleton.mp hp
  simp only [List.length_map];omega
theorem Zku (n:Int) (l:List Int):ZdE tabM (nuM n l):=by
 have key:∀ {i k:Nat},(nuM n l).x k=fd ((nuM n l).x i)->OpOk (nuM n l) (.FloorDiv,.x i,.k 1000,k):=λ{i k} h=>by
  refine i0_2 (⟨by simp only [ev_k];decide,PyProof.noPylong_small (by simp only [ev_k];decide)⟩) ?_
  simp only [ev_k,ev_x];exact h
 exact AllP.mem (Q:=OpOk (nuM n l)) ⟨key rfl,key rfl,key rfl,key rfl,key rfl,key rfl,key rfl,key rfl,key rfl,trivial⟩
noncomputable def Zoh (l:Addr):List (Str × MV):=[(Str.ofString "script",.glob (.ref l)),(Str.ofString "least",.int (.k 3)),(Str.ofString "most",.int (.k 12)),(Str.ofString "many",.int (.k 3)),(Str.ofString "size",.int (.x 0))]
noncomputable def Zqk (l:Addr):Res Fl:=(run tabM 60).blk 30 ZhG manyB.tail ⟨[],Zoh l,[]⟩
noncomputable def ZlS (f:Fl) (_:St):Bool:=match f with
 | .ret (.int l)=>match l.const? with
  | some (.ofNat c)=>Nat.ble 3 c&&Nat.ble c 12
  | _=>false
 | _=>false
theorem ZlT (l:Addr):(Zqk l).chk ZlS=true:=by kernel_rfl
theorem Zkj {v:MV} {s:St} (h:ZlS (.ret v) s=true):∃ l c,v = .int l∧l.const? = some (.ofNat c)∧3≤c∧c≤12:=by
 revert v;show Fa _ _;refine MV.on_int zB0 zB1 zB1 zB1 zB1 zB1 zB1 zB1 (λl h=>?_)
 unfold ZlS at h
 dsimp only at h
 generalize e:l.const? = wo at h
 revert e;revert wo;show Fa _ _;refine Opt.on_some zB0 (λc h=>?_);intro e
 cases c with
 | negSucc _=>exact nB h
 | ofNat c=>
  have h1:=Bool.and_eq_true_iff.mp h
  exact ⟨l,c,rfl,e,Nat.le_of_ble_eq_true h1.1,Nat.le_of_ble_eq_true h1.2⟩
theorem absR (d:Nat):(run tabN 20).ev d (Zai ZhG (compSc2 Zi4)) (ZaT Zi4) ⟨[],[(Str.ofString "cell",.int (.x 0))],[]⟩ =
 .fork (.pos ⟨0,[(0,-1)]⟩) (.ret (.int ⟨0,[(0,-1)]⟩) ⟨[],[(Str.ofString "cell",.int (.x 0))],[(.pos ⟨0,[(0,-1)]⟩,true)]⟩) (.ret (.int (.x 0)) ⟨[],[(Str.ofString "cell",.int (.x 0))],[(.pos ⟨0,[(0,-1)]⟩,false)]⟩):=by kernel_rfl
noncomputable def Zee:PySem.Expr:=Zgm (nth manyB 0) 1
set_option genInjectivity false in
set_option genSizeOf false in
inductive ManyshapeR:Prop
 | mk:∀ pm pz k0 tp ln1 px p1 p2 p3 pos k24 pc ps pcall k2 p5 spos,manyB = .Assign [.Tuple [.Name (Str.ofString "many") pm,.Name (Str.ofString "size") pz] k0 tp] (.Tuple [.Name (Str.ofString "least") ln1,Zee] k2 p5) spos::manyB.tail->Zee = .Call (.Name (Str.ofString "sum") ps) [.ListComp (ZaT Zi4) [⟨.Name (Str.ofString "cell") px,.Subscript (.Name (Str.ofString "script") p1) (.Slice none (some (.Constant (.int 24) k24 pc)) none p2) p3,[],0⟩] (compSc2 Zi4) pos] [] pcall->(Zcu [.Name (Str.ofString "many") pm,.Name (Str.ofString "size") pz] [.Name (Str.ofString "least") ln1,Zee]&&Nat.ble [PySem.Expr.Name (Str.ofString "many") pm,.Name (Str.ofString "size") pz].length 200)=true->ManyshapeR
theorem Zfz:ManyshapeR:=.mk _ _ _ _ _ _ _ _ _ _ _ _ _ _ _ _ _ (rfl) (rfl) (by kernel_rfl)
theorem ZaO {w:Value} {rfirst:List Value} {es:List PySem.Expr} {pos:Pos} {Q:Value->Shared->Prop} (hk:keepIn G.K w=true∨∀ a,w ≠ .ref a) (hp:es.all Zae=true)
 (h:wpAny G.M B.A (spliced (backTo pos (starEach es B.env))) (λvs rs1=>G.K.In rs1.heap∧wpAny G.M B.A (PySem.call w (rfirst++vs)) Q NoE rs1) NoE rs):wpAny G.M B.A (callWith pos w rfirst (backTo pos (starEach es B.env)) []) Q NoE rs:=by
 have hp:=Zdw hp pos B.env
 refine callWith_of (P:=λhp=>∃ k,(k=Keeper.frame∨k=Keeper.machine∨k=Keeper.boundFrame)∧Looks G.M hp (keeperOf w) k) (by rw [hp];rfl) (λ_ q=>q) (ZbS hp (wpAny_mono h (λvs rs1 z=>?_) λ_ _ e=>e))
 exact i0_2 (ZgS hk _ z.1) (z.2)
theorem Hs.kin (O:Ok G B d) (x:Hs G B ρ σ ls rs):G.K.In rs.heap:=by
 obtain ⟨m,led,F,N,R,Lc⟩:=x.ex
 exact O.kin.keeps F.keep
theorem Hs.clean {c:List (Addr × Obj)} {rs0:Shared} (x:Hs G (B.mid [] c) ρ σ ls rs) (hc:∀ q ∈ c,∀ w,q.2.data ≠ .cell w) (x0:Hs G B [] [] ls rs0):Hs G B [] [] ls rs:=by
 refine e1_4 (ZaD (pre:=[]) x) λT _ _ gT z2=>?_
 have z3:Hs G (B.mid [] ((flat T++c)++[])) [] [] (Zax ρ ls) rs:=by rw [List.append_nil];exact z2
 exact Hs.lsTo (Hs.drop (λq hq=>(List.mem_append.mp hq).elim (gT.noCell q) (hc q)) z3) (ZcM x0 ρ)
theorem ZnR {Pm:Params} (hK:G.K=KF Pm) (n:Int):Zjp G d (Zai ZhG (compSc2 Zi4)) (Str.ofString "cell") (ZaT Zi4) absI n:=by
 refine i3_4 tabN (nu1 n) (run tabN 20) (runN hK (Ziv n) 20) rfl rfl ?_
 rw [absR]
 have hc:(Cnd.pos ⟨0,[(0,-1)]⟩).holds (nu1 n) ↔ n<0:=by
  show 0<(0:Int)+(-1 * n+0) ↔ _
  omega
 refine i0_2 (λh=>⟨⟨_,rfl,?_⟩,rfl⟩) (λh=>⟨⟨_,rfl,?_⟩,rfl⟩)
 ·show (0:Int)+(-1 * n+0)=absI n
  unfold absI;rw [if_pos (hc.mp h)];omega
 ·rw [ev_x];show n=absI n
  unfold absI;rw [if_neg (λq=>h (hc.mpr q))]
noncomputable def Zbh (l:Addr):List (Str × MV):=[(Str.ofString "script",.glob (.ref l)),(Str.ofString "least",.int (.k 3)),(Str.ofString "most",.int (.k 12))]
theorem sumR (l:Addr) (d:Nat):(run tabM 60).call d (.glob (.builtin "sum")) [.ref 0] ⟨[.list [.seg 0]],Zbh l,[]⟩ = .ret (.int (.x 500)) ⟨[.list [.seg 0]],Zbh l,[]⟩:=by kernel_rfl
theorem ZoK {Pm:Params} (hK:G.K=KF Pm) (O:Ok G B d) (e1:B.sc=ZhG) {l:Addr} {vs:List Value} {ns:List Int} {L:List Int} (hL:L=((ns.take 24).filter λ_=>true).map absI) (x:Hs G B [] [] (semL nu0 (Zbh l)) rs) (hl:B.h₀.IsList l vs.toArray) (hi:IntsAre vs ns) (hn:ns.length≤63):
 wpAny G.M B.A (eval Zee B.env) (λrv rs'=>(∃ t,rv = .int (ZbH (L.map .int)) t)∧Hs G B [] [] (semL nu0 (Zbh l)) rs') NoE rs:=by
 obtain ⟨pm,pz,k0,tp,ln1,px,p1,p2,p3,pos,k24,pc,ps,pcall,k2,p5,spos,_,hc,_⟩:=Zfz
 have hlen:(ns.take 24).length≤24:=List.length_take_le _ _
 have hLl:L.length≤24:=by rw [hL,List.length_map];exact Nat.le_trans (List.length_filter_le _ _) hlen
 have hν:=Zm8 (ZbH (L.map .int)) (l:=L) (by omega)
 have T:=tOk Pm (G:=G) hK (base:=[]) (sums:=[]) (ops:=opsM)
 have H:=Zbw T (ZcK (Γ:=tabM) rfl (Zku (ZbH (L.map .int)) L)) hν 60
 rw [hc]
 refine wpAny_Call_NameR (wpAny_mono (ZdO (Γ:=tabM) (ν:=nu0) (s:=⟨[],Zbh l,[]⟩) (P:=λv s'=>v = .glob (.builtin "sum")∧s'=⟨[],Zbh l,[]⟩) O T ⟨(λ_ h=>nomatch h),x⟩ ?_) (λfv rs1 y=>?_) λ_ _ e=>e)
 ·rw [e1,show Zbn tabM ZhG (Str.ofString "sum") ⟨[],Zbh l,[]⟩ = .ret (.glob (.builtin "sum")) ⟨[],Zbh l,[]⟩ by kernel_rfl];exact i0_2 rfl rfl
 ·refine byP λXX kX=>?_
  obtain ⟨ρ1,w,s1,hp1,⟨rfl,rfl⟩,hw,g1⟩:=y
  refine e0_2 (V.glob_inv hw) λwq _=>?_;clear hw;subst wq
  have x1:Hs G B ρ1 [] (semL nu0 (Zbh l)) rs1:=g1.hs
  obtain rfl:=ZiY x1 rfl
  refine kX ?_
  refine ZaO (.inr λa e=>by cases e) rfl (wpAny_items_cons (Zdj λp0=>?_) rfl)
  refine ZeB (ns:=ns.take 24) (f:=absI) (p:=λ_=>true) O (by kernel_rfl) (by kernel_rfl) (by kernel_rfl) (by kernel_rfl) rfl (ρ:=[]) (σ:=[]) (ls:=semL nu0 (Zbh l)) (by omega) (by kernel_rfl) (ZiC (lsM:=Zbh l) hK O x1 hl hi (by omega) e1) (λn _ _=>by rw [e1];exact ZnR hK n) (.inl ⟨rfl,λ_=>rfl⟩) λc1 C D oC rs2 m hnc1 hoC hnc hh=>?_
  refine Zdx hoC hnc hh λrs3 x3=>wpAny_items_nil ⟨x3.kin (B:=B.ext c1) ⟨O.kin,O.top,O.kind,O.hand,O.dep,O.uni⟩,?_⟩
  have x3:Hs G (B.mid [] c1) [(D,default)] [.list (resI (λ_=>true) absI (ns.take 24))] (semL nu0 (Zbh l)) rs3:=x3
  rw [Zgd,←hL] at x3
  have g3:Gd G (B.mid [] c1) tabM (nuM (ZbH (L.map .int)) L) [(D,default)] ⟨[.list [.seg 0]],Zbh l,[]⟩ rs3:=⟨(λ_ h=>nomatch h),by
   have e:semH tabM (nuM (ZbH (L.map .int)) L) ⟨[.list [.seg 0]],Zbh l,[]⟩=[.list (L.map .int)]:=by
    show [SO.list (L.map .int++[])]=_
    rw [List.append_nil]
   rw [e];exact x3⟩
  refine wpAny_mono (H.call (B:=B.mid [] c1) (d:=d) (s:=⟨[.list [.seg 0]],Zbh l,[]⟩) (P:=λv s'=>v = .int (.x 500)∧s'=⟨[.list [.seg 0]],Zbh l,[]⟩) (vs:=[.ref 0]) (rvs:=[.ref D]) O.mid g3 (.cons (.ref (o:=default) rfl) .nil) (by rw [show tabT [] [] opsM=tabM from rfl,sumR];exact i0_2 rfl rfl)) (λrv rs4 u=>?_) λ_ _ e=>e
  refine byP λXX kX=>?_
  obtain ⟨ρ2,w,s2,hp2,⟨rfl,rfl⟩,hw,g4⟩:=u
  refine e1_1 (vint hw) λt wq=>?_;subst wq
  refine kX ?_
  refine i0_2 (⟨t,by rw [ev_x];rfl⟩) (Hs.clean (ls:=semL nu0 (Zbh l)) g4.hs hnc1 x1)
theorem Zoi {Pm:Params} (hK:G.K=KF Pm) (O:Ok G B 31) (x:Hs G B [] [] ls rs) {l:Addr} {vs:List Value} {ns:List Int} {t3 t12:Tok} (hl:B.h₀.IsList l vs.toArray) (hi:IntsAre vs ns) (hn:ns.length≤63):
 codeAny G.M B.A (.call (.ref 521) ⟨[.ref l,.int 3 t3,.int 12 t12],[]⟩) (λr rs'=>∃ (m:Nat) (t:Tok),3≤m∧m≤12∧r = .ok (.ret (.int m t))∧Hs G B [] [] ls rs') rs:=by
 refine codeAny_mono (x.callK (d:=30) O (hK ▸ ZcW Pm) (vs:=[.glob (.ref l),.int 3,.int 12]) (rvs:=[.ref l,.int 3 t3,.int 12 t12]) (.cons (.glob _ rfl) (.cons (.int _ _) (.cons (.int _ _) .nil))) (by show 3 ∈ [3];simp) (ν:=nu0) (P:=λv _ σ'=>(∃ m:Nat,3≤m∧m≤12∧v=some (.int m))∧σ'=[]) λB' rs1 O' e1 keep x1=>?_) λr rs' z=>?_
 ·have e1:B'.sc=ZhG:=e1
  have x1:Hs G B' [] [] (semL nu0 (Zbh l)) rs1:=x1
  obtain ⟨pm,pz,k0,tp,ln1,px,p1,p2,p3,pos,k24,pc,ps,pcall,k2,p5,spos,hb,_,ho⟩:=Zfz
  have hl':B'.h₀.IsList l vs.toArray:=by refine e1_2 hl λo a b=>?_;clear hl;exact i1_2 o (keep _ _ (.inl a)) b
  have hlen:(ns.take 24).length≤24:=List.length_take_le _ _
  generalize hL:((ns.take 24).filter λ_=>true).map absI=L
  have hLl:L.length≤24:=by rw [←hL,List.length_map];exact Nat.le_trans (List.length_filter_le _ _) hlen
  generalize hS:ZbH (L.map .int)=S
  have hν:=Zm8 S (l:=L) (by omega)
  have T:=tOk Pm (G:=G) hK (base:=[]) (sums:=[]) (ops:=opsM)
  have H:=Zbw T (ZcK (Γ:=tabM) rfl (Zku S L)) hν 60
  show wpAny G.M B'.A (execs manyB B'.env) _ _ rs1
  rw [hb]
  have g1:Gd G B' tabM (nuM S L) [] ⟨[],Zbh l,[]⟩ rs1:=⟨(λ_ h=>nomatch h),x1⟩
  refine wpAny_execs_cons (wpAny_mono (ZfL (Γ:=tabM) (ν:=nuM S L) (ρ:=[]) (P:=λf s=>f = .next∧s=⟨[],Zoh l,[]⟩) O' ho (wpAny_items_cons (wpAny_mono (ZdO (P:=λv s'=>v = .int (.k 3)∧s'=⟨[],Zbh l,[]⟩) O' T g1 ?_) (λv3 rs2 y=>?_) λ_ _ e=>e) rfl)) (λf rs4 u=>?_) λ_ _ e=>e)
  ·exact i0_2 rfl rfl
  ·refine byP λXX kX=>?_
   obtain ⟨ρ2,w,s2,hp2,⟨rfl,rfl⟩,hw,g2⟩:=y
   have x2:Hs G B' ρ2 [] (semL nu0 (Zbh l)) rs2:=g2.hs
   obtain rfl:=ZiY x2 rfl
   refine kX ?_
   refine wpAny_items_cons (wpAny_mono (ZoK hK O' e1 hL.symm x2 hl' hi hn) (λrv rs3 z=>wpAny_items_nil ?_) λ_ _ e=>e) rfl
   refine e0_2 z λwq x3=>?_;clear z;obtain ⟨t,rfl⟩:=wq
   refine ⟨[],[.int (.k 3),.int (.x 0)],⟨[],Zbh l,[]⟩,List.prefix_refl _,?_,.cons hw (.cons ?_ .nil),⟨(λ_ h=>nomatch h),x3⟩⟩
   ·rw [e1]
    rw [show ((Zao ZhG [.Name (Str.ofString "many") pm,.Name (Str.ofString "size") pz] ([.int (.k 3),.int (.x 0)].map ME.v) ⟨[],Zbh l,[]⟩).bind λ_ s=>(.ret .next s:Res Fl)) = .ret .next ⟨[],Zoh l,[]⟩ by kernel_rfl]
    exact i0_2 rfl rfl
   ·rw [hS];simp only [MV.sem,ev_x];exact .int _ _
  ·refine byP λXX kX=>?_
   obtain ⟨ρ4,fl,s4,hp4,⟨rfl,rfl⟩,hf,g4⟩:=u
   cases hf
   refine kX ?_
   refine wpAny_mono (Zlh (P:=λf s=>ZlS f s=true) H O' e1 g4 (Zbx (ZlT l))) (λf rs5 w=>?_) λ_ _ e=>e
   refine byP λXX kX=>?_
   obtain ⟨ρ5,fl,s5,hp5,hC,hf,g5⟩:=w
   cases hf with
   | ret hv=>
    refine e2_4 (Zkj hC) λlin c wq hc hC1 hC2=>?_;subst wq
    refine e1_4 (ZaD (pre:=[]) (c0:=[]) g5.hs) λT5 _ _ gT z2=>?_
    refine kX ?_
    refine i4_4 ([]) (some (.int c)) ([]) ([]) (List.nil_prefix) (.ret ?_) (⟨⟨c,hC1,hC2,rfl⟩,rfl⟩) ?_
    ·have:=Zar (nuM S L).x hc
     refine e1_1 (vint hv) λt wq=>?_;subst wq
     rw [this];exact .int _ _
    ·exact Hs.lsTo (Hs.drop gT.noCell z2) ⟨rfl,λy v e=>by cases e⟩
   | _=>exact nB hC
 ·refine byP λXX kX=>?_
  refine e1_2 z λrv wq wqb=>?_;clear z;subst wq;obtain ⟨ρ',v,σ',hp,hv,⟨⟨m,h3,h12,rfl⟩,rfl⟩,hs⟩:=wqb
  refine e1_1 (vint (ρ:=ρ') hv) λt wq=>?_;subst wq
  obtain rfl:=ZiY hs rfl
  refine kX ?_
  exact i2_4 m t h3 h12 rfl hs
end
end Mine
end
section
namespace Mine
variable {G:Gl} {B:Bs} {ρ:List (Addr × Obj)} {σ:List SO} {ls:List (Str × SV)} {rs:Shared} {d:Nat}
noncomputable section
theorem ZfK (x:Hs G B ρ σ ls rs) {rvs:List Value} (hl:rvs.length≤1000):wpAny G.M B.A (PySem.newTuple rvs) (λv rs'=>∃ a,v = .ref a∧IsTup rs'.heap a rvs.toArray∧Hs G B ρ σ ls rs') NoE rs:=by
 obtain ⟨m,led,F,N,R,Lc⟩:=x.ex
 refine newTuple_N F N (λh' F' N'=>⟨_,rfl,?_,?_⟩) (by rw [sizeLine_eq];omega)
 ·exact Zam (N' _ (.head _)).1
 ·exact ⟨⟨m,led,F',λp hp=>N' p (List.mem_cons_of_mem _ hp),R,Lc⟩,x.gens,x.drawn,x.os⟩
theorem Zc2 (O:Ok G B d) (x:Hs G B ρ σ ls rs) {rvs:List Value} {a:Addr} {ts:List PySem.Expr} {k:Nat} {p:Pos} {Q:Unit->Shared->Prop} (ht:IsTup rs.heap a rvs.toArray) (hn:(assignEach ts B.env).length=rvs.length) (hs:(assignEach ts B.env).findIdx? (·.1)=none)
 (h:∀ rs',Hs G B ρ σ ls rs'->wpAny G.M B.A (assignInOrder ((assignEach ts B.env).map (·.2)) rvs) Q NoE rs'):wpAny G.M B.A (assign (.Tuple ts k p) B.env (.ref a)) Q NoE rs:=by
 obtain ⟨m,led,F,N,R,Lc⟩:=x.ex
 exact unpackN_ F N ht O.hand (by simpa using hn) hs λh' F' N'=>h _ ⟨⟨m,led,F',N',R,Lc⟩,x.gens,x.drawn,x.os⟩
theorem Hs.storeCell {pre post:List (Addr × Obj)} {c:Addr} {o:Obj} (O:Ok G B d) (x:Hs G { B with cs:=pre++(c,o)::post } ρ σ ls rs) {y:Str} {v:SV} {rv:Value} (hl:ZbG B.sc y=true) (hc:B.cl.lookup y=some c) (ho:o.data = .cell none) (hd:seq y (Str.ofString "__debug__")=false) (hv:V ρ v rv) {Q:Unit->Shared->Prop}
 (k:∀ o' rs',o'.data = .cell (some rv)->Hs G { B with cs:=pre++(c,o')::post } ρ σ (put y v ls) rs'->Q () rs'):wpAny G.M B.A (storeName B.env y rv) Q NoE rs:=by
 have hl:=isCell_iff.mp hl
 obtain ⟨m,led,F,N,R,Lc⟩:=x.ex
 have zc:=N (c,o) (List.mem_append_left _ (List.mem_append_right _ (.head _)))
 refine wpAny_storeName_cell (env:=B.env) O.kind hl hc ⟨o,zc.1,ho⟩ λh' hv' hsb=>?_
 refine e1_2 hv' λo' e' d'=>?_;clear hv'
 have nd:(((pre++(c,o)::post)++led.flatten).map (·.1)).Nodup:=R.nd
 have nd2:=nd
 rw [List.append_assoc,List.cons_append,List.map_append,List.map_cons,List.nodup_append,List.nodup_cons] at nd2
 have off:∀ q ∈ (pre++post)++led.flatten,q.1 ≠ c:=by
  intro q hq e
  simp only [List.mem_append] at hq
  rcases hq with (hq | hq) | hq
  ·exact nd2.2.2 _ (List.mem_map_of_mem hq) c (.head _) e
  ·exact nd2.2.1.1 (List.mem_map.mpr ⟨q,List.mem_append_left _ hq,e⟩)
  ·exact nd2.2.1.1 (List.mem_map.mpr ⟨q,List.mem_append_right _ hq,e⟩)
 refine k o' _ d' ⟨⟨m,led,⟨F.ns.sameBut hsb (Ne.symm zc.2.1),λb o2 e=>hsb.extBut b o2 (λq=>?_) (F.keep b o2 e),F.above⟩,λq hq=>?_,⟨R.l1,R.l2,R.obj,?_⟩,⟨λz w e=>?_,?_⟩⟩,x.gens,x.drawn,x.os⟩
 ·have zn:B.h₀.get? c=none:=zc.2.2
  rw [q,zn] at e;exact nN e
 ·have hq':q ∈ (pre++(c,o')::post)++led.flatten:=hq
  by_cases hqc:q=(c,o')
  ·subst hqc;exact i0_2 e' (zc.2)
  ·have hq2:q ∈ (pre++post)++led.flatten:=by
    simp only [List.mem_append,List.mem_cons] at hq' ⊢
    rcases hq' with (h | h | h) | h
    ·exact .inl (.inl h)
    ·exact absurd h hqc
    ·exact .inl (.inr h)
    ·exact .inr h
   have hq3:q ∈ (pre++(c,o)::post)++led.flatten:=by
    simp only [List.mem_append,List.mem_cons] at hq2 ⊢
    rcases hq2 with (h | h) | h
    ·exact .inl (.inl h)
    ·exact .inl (.inr (.inr h))
    ·exact .inr h
   have z:=N q hq3
   exact i0_2 (hsb.extBut _ _ (off q hq2) z.1) (z.2)
 ·show (((pre++(c,o')::post)++led.flatten).map (·.1)).Nodup
  have:((pre++(c,o')::post)++led.flatten).map (·.1)=((pre++(c,o)::post)++led.flatten).map (·.1):=by simp
  rw [this];exact nd
 ·rw [ZaJ] at e
  by_cases hy:z=y
  ·rw [if_pos hy] at e
   have wq:=Option.some.inj e;clear e;subst wq
   exact i1_2 rv hv (.inr ⟨by rw [hy];exact hl,c,o',by rw [hy];exact hc,List.mem_append_right _ (.head _),d'⟩)
  ·rw [if_neg hy] at e
   refine e1_2 (Lc.at_ z w e) λrw' h1 h2=>?_
   refine i1_2 rw' h1 (h2.imp id λ⟨k1,c3,o3,k3,k4,k5⟩=>⟨k1,c3,o3,k3,?_,k5⟩)
   have k4':(c3,o3) ∈ pre++(c,o)::post:=k4
   simp only [List.mem_append,List.mem_cons] at k4' ⊢
   rcases k4' with h | h | h
   ·exact .inl h
   ·cases h;rw [ho] at k5;cases k5
   ·exact .inr (.inr h)
 ·rw [ZaJ,if_neg (λe=>Zaj hd e.symm)]
  exact Lc.dbg
noncomputable def lawE (i:Nat):PySem.Expr:=Zgm (nth lawB 0) i
set_option genInjectivity false in
set_option genSizeOf false in
inductive S1shapeR:Prop
 | mk:∀ pd pt pm k0 tp k2 p5 spos f1 a1 q1 f2 q2 f3 a3 n3 m3 k3 l3 q3,nth lawB 0=some (.Assign [.Tuple [.Name (Str.ofString "deck") pd,.Name (Str.ofString "table") pt,.Name (Str.ofString "many") pm] k0 tp] (.Tuple [lawE 0,lawE 1,lawE 2] k2 p5) spos)->lawE 0 = .Call (.Name (Str.ofString "_law_deck") f1) [.Name (Str.ofString "script") a1] [] q1->lawE 1 = .Call (.Name (Str.ofString "slash_table") f2) [] [] q2->lawE 2 = .Call (.Name (Str.ofString "_law_many") f3) [.Name (Str.ofString "script") a3,.Constant (.int 3) n3 m3,.Constant (.int 12) k3 l3] [] q3->[lawE 0,lawE 1,lawE 2].all (constantsAlone 8)=false->S1shapeR
theorem Zmb:S1shapeR:=.mk _ _ _ _ _ _ _ _ _ _ _ _ _ _ _ _ _ _ _ _ (rfl) (rfl) (rfl) (rfl) (by kernel_rfl)
theorem Zeq {Pm:Params} (hK:G.K=KF Pm) (O:Ok G B d) {lsM:List (Str × MV)} {sc:Scope} (e1:B.sc=sc) (x:Hs G B [] [] (semL nu0 lsM) rs) {y:Str} {p pos:Pos} {a:Addr} {es:List PySem.Expr} {ws:List MV} {Q:Value->Shared->Prop} (hn:Zbn tabN sc y ⟨[],lsM,[]⟩ = .ret (.glob (.ref a)) ⟨[],lsM,[]⟩) (hk:keepIn G.K (.ref a)=true) (ha:ZaF ((run tabN 20).ev d sc) es ⟨[],lsM,[]⟩ = .ret ws ⟨[],lsM,[]⟩)
 (h:∀ rs1 vs,VL [] (ws.map (MV.sem nu0)) vs->Hs G B [] [] (semL nu0 lsM) rs1->codeAny G.M B.A (.call (.ref a) ⟨vs,[]⟩) (λr rs'=>∃ rv,r = .ok (.ret rv)∧Q rv rs') rs1):wpAny G.M B.A (eval (.Call (.Name y p) es [] pos) B.env) Q NoE rs:=by
 have T:=tOk Pm (G:=G) hK (base:=[]) (sums:=[]) (ops:=[])
 have H:=runN (G:=G) hK Zdn 20
 have hg:=ZbC (ν:=nu0) (P:=λ_ _=>True) (s:=⟨[],lsM,[]⟩) (es:=es) (ev:=(run tabN 20).ev d sc) (by rw [ha];trivial)
 subst e1
 refine wpAny_Call_NameR (wpAny_mono (ZdO (Γ:=tabN) (ν:=nu0) (s:=⟨[],lsM,[]⟩) (P:=λv s'=>v = .glob (.ref a)∧s'=⟨[],lsM,[]⟩) O T ⟨(λ_ h=>nomatch h),x⟩ (by rw [hn];exact i0_2 rfl rfl)) (λfv rs1 u=>?_) λ_ _ e=>e)
 refine byP λXX kX=>?_
 obtain ⟨ρ1,w,s1,hp1,⟨rfl,rfl⟩,hw,g1⟩:=u
 refine e0_2 (V.glob_inv hw) λwq _=>?_;clear hw;subst wq
 refine kX ?_
 refine ZaO (.inl hk) hg (wpAny_mono (ZbQ (P:=λl s'=>l=ws∧s'=⟨[],lsM,[]⟩) H O g1 (by rw [ha];exact i0_2 rfl rfl)) (λvs rs2 u=>?_) λ_ _ e=>e)
 refine byP λXX kX=>?_
 obtain ⟨ρ2,l2,s2,hp2,⟨rfl,rfl⟩,hv,g2⟩:=u
 obtain rfl:=ZiY (σ:=[]) g2.hs rfl
 refine kX ?_
 refine i0_2 (g2.hs.kin O) (wpAny_call (codeAny_mono (h _ _ hv g2.hs) λr rs3 u=>?_))
 refine e1_2 u λrv wq hq=>?_;clear u;subst wq
 exact hq
noncomputable def ZdF (K0:List Tr) (tb:Addr):Prop:=K0.map (·.2.1)=(slashH.map (MO.sem nu0)).map (anfO (K0.map (·.1)))∧∃ o,(K0.map (·.1))[30]? = some (tb,o)
noncomputable abbrev ls1 (l:Addr):List (Str × MV):=[(Str.ofString "script",.glob (.ref l))]
theorem Zpl (l:Addr):Zbn tabN lawS (Str.ofString "_law_deck") ⟨[],ls1 l,[]⟩ = .ret (.glob (.ref 509)) ⟨[],ls1 l,[]⟩:=by kernel_rfl
theorem ZnX (l:Addr):Zbn tabN lawS (Str.ofString "slash_table") ⟨[],ls1 l,[]⟩ = .ret (.glob (.ref 250)) ⟨[],ls1 l,[]⟩:=by kernel_rfl
theorem Zpm (l:Addr):Zbn tabN lawS (Str.ofString "_law_many") ⟨[],ls1 l,[]⟩ = .ret (.glob (.ref 521)) ⟨[],ls1 l,[]⟩:=by kernel_rfl
theorem Zqp {Pm:Params} (hK:G.K=KF Pm) (O:Ok G B 60) {c1 c2:Addr} {o1 o2:Obj} (hsc:B.sc=lawS) (hcl:B.cl=[(Str.ofString "many",c2),(Str.ofString "deck",c1)]) (hcs:B.cs=[(c2,o2),(c1,o1)]) (h1:o1.data = .cell none) (h2:o2.data = .cell none)
 {l:Addr} {vs:List Value} {ns:List Int} (hl:B.h₀.IsList l vs.toArray) (hi:IntsAre vs ns) (hn:ns.length≤63) (x:Hs G B [] [] (semL nu0 (ls1 l)) rs) {Q:Flow->Shared->Prop}
 (k:∀ o1' o2' (m:Nat) t (dk:Addr) (t0:Tr) (K0:List Tr) (tb:Addr) rs',o1'.data = .cell (some (.ref dk))->o2'.data = .cell (some (.int m t))->3≤m->m≤12->t0.1.1=dk->t0.2.1 = .deck 0->Good G (t0::K0)->ZdF K0 tb->
  Hs G (({ B with cs:=[(c2,o2'),(c1,o1')] }:Bs).mid [] (flat (t0::K0))) [] [] [(Str.ofString "script",.glob (.ref l)),(Str.ofString "deck",.glob (.ref dk)),(Str.ofString "table",.glob (.ref tb)),(Str.ofString "many",.int m)] rs'->Q .next rs'):
 ∀ st,nth lawB 0=some st->wpAny G.M B.A (exec st B.env) Q NoE rs:=by
 obtain ⟨pd,pt,pm,k0,tp,k2,p5,spos,f1,a1,q1,f2,q2,f3,a3,n3,m3p,k3,l3,q3,hb,e0,e1,e2,hca⟩:=Zmb
 rintro st hst
 rw [hb] at hst
 have wq:=Option.some.inj hst;clear hst;subst wq
 have hkd:B.env.kindOf (Str.ofString "deck")=some .cell:=by show B.sc.names.lookup _=_;rw [hsc];kernel_rfl
 have hkt:Zah B.sc (Str.ofString "table")=true:=by rw [hsc];kernel_rfl
 have hkm:B.env.kindOf (Str.ofString "many")=some .cell:=by show B.sc.names.lookup _=_;rw [hsc];kernel_rfl
 have hsw:swappedStores [.Tuple [.Name (Str.ofString "deck") pd,.Name (Str.ofString "table") pt,.Name (Str.ofString "many") pm] k0 tp] (.Tuple [lawE 0,lawE 1,lawE 2] k2 p5) B.env=pure none:=by
  refine byP λXX kX=>?_
  rcases sw_gen (ts:=[.Name (Str.ofString "deck") pd,.Name (Str.ofString "table") pt,.Name (Str.ofString "many") pm]) (k:=k0) (p:=tp) (k2:=k2) (p2:=p5) (env:=B.env) hca with hw | ⟨names,line,hw,f1,f2,f3⟩
  ·refine kX ?_
   exact hw
  ·refine kX ?_
   have hz:ZbN B.env line (.Name (Str.ofString "deck") pd)=none:=by
    show (if (B.env.kindOf (Str.ofString "deck")==some .local&&pd.line==line)=true then some (Str.ofString "deck") else none)=none
    rw [hkd];rfl
   rw [f1] at f2
   rw [List.filterMap_cons,hz] at f2
   have:=List.length_filterMap_le (ZbN B.env line) [.Name (Str.ofString "table") pt,.Name (Str.ofString "many") pm]
   simp only [List.length_cons,List.length_nil] at f2 this
   omega
 refine Assign_Tuple (Tuple_ ?_) rfl hsw
 refine wpAny_items_cons (e0 ▸ Zeq hK O hsc x (Zpl l) (by rw [hK];exact (ZcU Pm).keep) (ws:=[.glob (.ref l)]) rfl λrs1 us hu x1=>?_) (by rw [e0];rfl)
 obtain ⟨rfl⟩:us=[.ref l]:=by
  refine e2_3 (VL.cons_inv hu) λ_ _ wq a b=>?_;clear hu;subst wq
  have wq:=VL.nil_inv b;clear b;subst wq;refine e0_2 (V.glob_inv a) λwqb _=>?_;clear a;subst wqb;rfl
 refine codeAny_mono (ZnK hK (O.le (by omega)) x1 hl hi hn) λr rs2 z=>?_
 refine e2_2 z λdk od wq x2=>?_;clear z;subst wq
 refine i1_2 _ rfl ?_
 refine byP λXX kX=>?_
 refine e1_4 (ZaD (pre:=[]) (c0:=[]) x2) λT f1 f2 good x3=>?_
 refine e1_1 (show ∃ t,T=[t] from by
  cases T with
  | nil=>cases f1
  | cons t r=>cases r with
   | nil=>exact ⟨t,rfl⟩
   | cons _ _=>simp at f1) λt0 wq=>?_;subst wq
 have ht0:t0.1=(dk,od):=by simpa using f1
 have ht1:t0.2.1 = .deck 0:=by simpa [anfO] using f2
 have x3:Hs G (B.mid [] (flat [t0]++[])) [] [] (semL nu0 (ls1 l)) rs2:=x3
 rw [List.append_nil] at x3
 refine kX ?_
 refine wpAny_items_cons (e1 ▸ Zeq (B:=B.mid [] (flat [t0])) hK O.mid hsc x3 (ZnX l) (by rw [hK];exact (ZbA Pm).keep) (ws:=[]) rfl λrs3 us hu x4=>?_) (by rw [e1];rfl)
 obtain ⟨rfl⟩:us=[]:=by have wq:=VL.nil_inv hu;clear hu;subst wq;rfl
 refine codeAny_mono (Zmf (B:=B.mid [] (flat [t0])) hK (O.mid.le (by omega)) x4) λr rs4 z=>?_
 refine e2_3 z λtb ρt wq hρ x5=>?_;clear z;subst wq
 refine i1_2 _ rfl ?_
 refine e1_4 (ZaD (B:=B) (pre:=[]) (c0:=flat [t0]) x5) λK0 g1 g2 good0 x6=>?_
 have hT:ZdF K0 tb:=⟨by rw [g2,g1],by rw [g1];exact hρ⟩
 have x6:Hs G (B.mid [] (flat K0++flat [t0])) [] [] (semL nu0 (ls1 l)) rs4:=x6
 refine wpAny_items_cons (e2 ▸ Zeq (B:=B.mid [] (flat K0++flat [t0])) hK O.mid hsc x6 (Zpm l) (by rw [hK];exact (ZcW Pm).keep) (ws:=[.glob (.ref l),.int (.k 3),.int (.k 12)]) rfl λrs5 us hu x7=>?_) (by rw [e2];rfl)
 obtain ⟨t3,t12,rfl⟩:∃ t3 t12,us=[.ref l,.int 3 t3,.int 12 t12]:=by
  refine e2_3 (VL.cons_inv hu) λ_ _ wq a b=>?_;clear hu;subst wq
  cases b with
   | cons b c=>cases c with
    | cons c d=>
     have wq:=VL.nil_inv d;clear d;subst wq;refine e0_2 (V.glob_inv a) λwqb _=>?_;clear a;subst wqb
     refine e1_1 (vint b) λt3 wq=>?_;subst wq
     refine e1_1 (vint c) λt12 wq=>?_;subst wq
     exact i2_1 t3 t12 rfl
 refine codeAny_mono (Zoi (B:=B.mid [] (flat K0++flat [t0])) hK (O.mid.le (by omega)) x7 hl hi hn) λr rs6 z=>?_
 refine e2_4 z λm t m3 m12 wq x8=>?_;clear z;subst wq
 refine i1_2 _ rfl (wpAny_items_nil ?_)
 refine wpAny_mono (ZfK x8 (by simp)) (λv rs7 z=>?_) λ_ _ e=>e
 refine e1_3 z λta wq ht x9=>?_;clear z;subst wq
 refine Zc2 (B:=B.mid [] (flat K0++flat [t0])) O.mid x9 ht rfl rfl λrs8 x10=>?_
 have hB:(B.mid [] (flat K0++flat [t0])) = { B with cs:=((flat K0++flat [t0])++[(c2,o2)])++(c1,o1)::[] }:=by
  show ({ B with cs:=[]++((flat K0++flat [t0])++B.cs) }:Bs)=_
  rw [hcs];simp
 rw [hB] at x10
 refine assignInOrder_cons (wpAny_assign_Name (Hs.storeCell (d:=60) (B:=B) (v:=.glob (.ref dk)) ⟨O.kin,O.top,O.kind,O.hand,O.dep,O.uni⟩ x10 (isCell_iff.mpr hkd) (by rw [hcl];kernel_rfl) h1 (by kernel_rfl) (.glob _ rfl) λo1' rs9 ho1 x11=>?_))
 refine assignInOrder_cons (wpAny_assign_Name (wpAny_mono (Hs.store (d:=60) (B:={ B with cs:=((flat K0++flat [t0])++[(c2,o2)])++(c1,o1')::[] }) (v:=.glob (.ref tb)) ⟨O.kin,O.top,O.kind,O.hand,O.dep,O.uni⟩ x11 hkt (by kernel_rfl) (.glob _ rfl)) (λ_ rs10 x12=>?_) λ_ _ e=>e))
 have hB2:({ B with cs:=((flat K0++flat [t0])++[(c2,o2)])++(c1,o1')::[] }:Bs) = { B with cs:=(flat K0++flat [t0])++(c2,o2)::[(c1,o1')] }:=by simp
 rw [hB2] at x12
 refine assignInOrder_cons (wpAny_assign_Name (Hs.storeCell (d:=60) (B:=B) (v:=.int m) ⟨O.kin,O.top,O.kind,O.hand,O.dep,O.uni⟩ x12 (isCell_iff.mpr hkm) (by rw [hcl];kernel_rfl) h2 (by kernel_rfl) (.int _ _) λo2' rs11 ho2 x13=>?_))
 refine assignInOrder_nil (k o1' o2' m t dk t0 K0 tb rs11 ho1 ho2 m3 m12 (by rw [ht0]) ht1 ?_ hT ?_)
 ·intro q hq
  refine byP λXX kX=>?_
  rcases List.mem_cons.mp hq with rfl | hq
  ·refine kX ?_
   exact good _ (.head _)
  ·refine kX ?_
   exact good0 _ hq
 ·have x14:Hs G (({ B with cs:=[(c2,o2'),(c1,o1')] }:Bs).mid [] (flat K0++flat [t0])) [] [] [(Str.ofString "script",.glob (.ref l)),(Str.ofString "deck",.glob (.ref dk)),(Str.ofString "table",.glob (.ref tb)),(Str.ofString "many",.int m)] rs11:=x13
  refine Hs.permc ?_ x14
  show (flat K0++flat [t0]).Perm (flat ([t0]++K0))
  rw [show flat ([t0]++K0)=flat [t0]++flat K0 from List.flatMap_append]
  exact List.perm_append_comm
end
end Mine
end
section
namespace Mine
variable {G:Gl} {B:Bs} {ρ:List (Addr × Obj)} {σ:List SO} {ls:List (Str × SV)} {s:St} {rs:Shared} {d:Nat}
noncomputable section
theorem ZfB {Pm:Params} (hK:G.K=KF Pm) {ν:Vn} (hν:ν.ok) (O:Ok G B d) {sc:Scope} (e1:B.sc=sc) (g:Gd G B tabN ν ρ s rs) {p pos:Pos} {e:PySem.Expr} {l:Lin} (hn:Zbn tabN sc (Str.ofString "range") s = .ret (.glob (.type "range")) s) (ha:ZaF ((run tabN 20).ev d sc) [e] s = .ret [.int l] s):
 wpAny G.M B.A (eval (.Call (.Name (Str.ofString "range") p) [e] [] pos) B.env) (λrv rs'=>∃ a t u v,rv = .ref a∧IsRange rs'.heap a 0 (l.ev ν.x) 1 t u v∧Gd G B tabN ν ρ s rs') NoE rs:=by
 have T:TOk G tabN:=tOk Pm (G:=G) hK (base:=[]) (sums:=[]) (ops:=[])
 have H:=runN (G:=G) hK hν 20
 have same:∀ {ρ':List (Addr × Obj)} {rs':Shared},ρ <+: ρ'->Gd G B tabN ν ρ' s rs'->Gd G B tabN ν ρ s rs':=by
  intro ρ' rs' hp g'
  refine byP λXX kX=>?_
  obtain ⟨m,led,F,N,R,Lc⟩:=g.hs.ex
  obtain ⟨m2,led2,F2,N2,R2,Lc2⟩:=g'.hs.ex
  have:=hp.eq_of_length (R.l1.trans R2.l1.symm)
  refine kX ?_
  rw [this];exact g'
 have hg:=ZbC (ν:=ν) (P:=λ_ _=>True) (s:=s) (es:=[e]) (ev:=(run tabN 20).ev d sc) (by rw [ha];trivial)
 subst e1
 refine wpAny_Call_NameR (wpAny_mono (ZdO (P:=λv s'=>v = .glob (.type "range")∧s'=s) O T g (by rw [hn];exact i0_2 rfl rfl)) (λfv rs1 u=>?_) λ_ _ e=>e)
 refine byP λXX kX=>?_
 obtain ⟨ρ1,w,s1,hp1,⟨rfl,rfl⟩,hw,g1⟩:=u
 have g1:=same hp1 g1
 refine e0_2 (V.glob_inv hw) λwq _=>?_;clear hw;subst wq
 refine kX ?_
 refine ZaO (.inr λa e=>by cases e) hg (wpAny_mono (ZbQ (P:=λl' s'=>l'=[.int l]∧s'=s1) H O g1 (by rw [ha];exact i0_2 rfl rfl)) (λvs rs2 u=>?_) λ_ _ e=>e)
 obtain ⟨ρ2,l2,s2,hp2,⟨rfl,rfl⟩,hv,g2⟩:=u
 have g2:=same hp2 g2
 refine i0_2 (g2.hs.kin O) ?_
 refine e2_3 (VL.cons_inv hv) λ_ _ wq a b=>?_;clear hv;subst wq
 refine byP λXX kX=>?_
 have wq:=VL.nil_inv b;clear b;subst wq
 refine e1_1 (vint a) λt wq=>?_;subst wq
 obtain ⟨m,led,F,N,R,Lc⟩:=g2.hs.ex
 refine kX ?_
 exact range1_rows F N λh' tk t₁ u₁ v₁ hr F' N' hk=>⟨_,t₁,u₁,v₁,rfl,hr,g2.fx,⟨m,led,F',N',R,Lc⟩,g2.hs.gens,g2.hs.drawn,g2.hs.os⟩
theorem Zil {last:Bool} {x y:List Nat} {e:Bool}:∀ {l:List Pc},isPc last x y e l=true->∃ q ∈ l,x=q.k.name∧y=q.t∧e=q.e∧(q.e=true∨last=true)
 | [],h=>by exact nB h
 | q::r,h=>by
  have h':((leq x q.k.name&&leq y q.t&&(e==q.e)&&(e||last))||isPc last x y e r)=true:=h
  rw [Bool.or_eq_true] at h'
  rcases h' with h' | h'
  ·simp only [Bool.and_eq_true,Bool.or_eq_true,beq_iff_eq] at h'
   refine e0_2 h' λwq h4=>?_;clear h';obtain ⟨⟨h1,h2⟩,h3⟩:=wq
   exact i1_5 q (.head _) (leq_eq.mp h1) (leq_eq.mp h2) h3 (h3 ▸ h4)
  ·refine e1_2 (Zil h') λq' hq z=>?_
   exact i1_2 q' (.tail _ hq) z
noncomputable def pcO (q:Pc):SO:=.tuple [.str q.k.name,.str q.t,.bool q.e]
noncomputable def PcAt (K:List Tr) (p:Pc × Addr):Prop:=p.1 ∈ pcs∧∃ t ∈ K,t.1.1=p.2∧t.2.1=pcO p.1
noncomputable def nuP (i m:Nat):Vn:=mkN [(30,i),(32,m)] [] [] (λ_=>0) []
theorem ZpH (i m:Nat):(nuP i m).ok:=Zb2 (λ_ h=>nomatch h) (λ_ h=>nomatch h) (λ_ h=>nomatch h) (λ_ h=>nomatch h) (λ_ h=>nomatch h)
noncomputable def Zga:List (Str × MV):=[(Str.ofString "nth",.int (.x 30)),(Str.ofString "deck",.ref 0),(Str.ofString "many",.int (.x 32))]
theorem ZiM {o:Option MO} (h:ZmS o=true):∃ N,o=some (.deck N):=by
 revert o;show Fa _ _;refine Opt.on_some zB0 (λo h=>?_)
 revert o;show Fa _ _;refine MO.on_deck zB2 zB1 zB1 zB1 zB1 zB2 (λN h=>?_)
 exact ⟨N,rfl⟩
noncomputable def Zo3 (last:Bool) (o:Option MO):Prop:=∃ x y e,o=some (.tuple [.v (.str x),.v (.str y),.v (.bool e)])∧isPc last x y e pcs=true
theorem Zjb {last:Bool} {o:Option MO} (h:Znd last o=true):Zo3 last o:=by
 revert o;show Fa _ _;refine Opt.on_some zB0 (λo h=>?_)
 revert o;show Fa _ _;refine MO.on_tuple zB2 zB1 zB1 zB1 zB2 zB1 (λxs h=>?_)
 revert xs;show Fa _ _;refine Lis.on_cons zB0 (λw xs h=>?_)
 revert w;show Fa _ _;refine ME.on_v zB1 (λw h=>?_)
 revert w;show Fa _ _;refine MV.on_str zB0 zB1 zB1 zB1 zB1 zB1 zB1 zB1 (λx h=>?_)
 revert xs;show Fa _ _;refine Lis.on_cons zB0 (λw xs h=>?_)
 revert w;show Fa _ _;refine ME.on_v zB1 (λw h=>?_)
 revert w;show Fa _ _;refine MV.on_str zB0 zB1 zB1 zB1 zB1 zB1 zB1 zB1 (λy h=>?_)
 revert xs;show Fa _ _;refine Lis.on_cons zB0 (λw xs h=>?_)
 revert w;show Fa _ _;refine ME.on_v zB1 (λw h=>?_)
 revert w;show Fa _ _;refine MV.on_bool zB0 zB1 zB1 zB1 zB1 zB1 zB1 zB1 (λe h=>?_)
 revert xs;show Fa _ _;refine Lis.on_nil zB2 (λh=>?_)
 exact i3_2 x y e rfl h
theorem Zja {last:Bool} {v:MV} {s:St} (h:Zkz last v s=true):∃ n x y e N,v = .ref n∧nth s.heap 0=some (.deck N)∧nth s.heap n=some (.tuple [.v (.str x),.v (.str y),.v (.bool e)])∧isPc last x y e pcs=true:=by
 have h1:=Bool.and_eq_true_iff.mp h
 have h2:=h1.2
 refine e1_1 (ZiM h1.1) λN hN=>?_
 clear h h1
 revert v;show Fa _ _;refine MV.on_ref zB0 zB1 zB1 zB1 zB1 zB1 zB1 zB1 (λn h2=>?_)
 refine e3_2 (Zjb h2) λx y e h3 h4=>?_
 exact i5_4 n x y e N rfl hN h3 h4
theorem Zgv {ν:Vn} {T:List Tr} {ρ2:List (Addr × Obj)} {hp:List MO} (f1:T.map (·.1)=ρ2) (f2:T.map (·.2.1)=(hp.map (MO.sem ν)).map (anfO ρ2)) {n:Nat} {o:MO} (h:nth hp n=some o):∃ t,T[n]? = some t∧t.2.1=anfO ρ2 (o.sem ν)∧ρ2[n]? = some t.1:=by
 rw [ZeK] at h
 have e:((hp.map (MO.sem ν)).map (anfO ρ2))[n]? = some (anfO ρ2 (o.sem ν)):=by
  rw [List.getElem?_map,List.getElem?_map,h];rfl
 rw [←f2,List.getElem?_map] at e
 generalize q:T[n]? = wo at e
 revert q;revert wo;show Fa _ _;refine Opt.on_some zN0 (λt e=>?_);intro q
 exact i1_3 t rfl (Option.some.inj e) (by rw [←f1,List.getElem?_map,q];rfl)
theorem Zl5 {Pm:Params} (hK:G.K=KF Pm) (O:Ok G B 20) (e1:B.sc=Zai lawS pieceSc) {pre:List (Addr × Obj)} {i m N:Nat} {td:Tr} {K:List Tr} {ls0:List (Str × SV)} {BB:Bs} (hBB:B=BB.mid pre (flat K)) (hd:td.2.1 = .deck N) (gd:Good G (td::K)) (hls:LsTo [] [td.1] ls0 (semL (nuP i m) Zga))
 (x:Hs G (BB.mid pre (flat (td::K))) [] [] ls0 rs):
 wpAny G.M B.A (eval Zhb B.env) (λrv rs'=>∃ (a:Addr) (q:Pc) (td2:Tr) (N2:Nat) (T2:List Tr),rv = .ref a∧q ∈ pcs∧(q.e=true∨i+1=m)∧td2.1=td.1∧td2.2.1 = .deck N2∧Good G (td2::T2)∧(∃ t ∈ T2,t.1.1=a∧t.2.1=pcO q)∧Hs G (BB.mid pre (flat ((td2::T2)++K))) [] [] [] rs') NoE rs:=by
 have w:=thaw (T:=[td]) (R:=K) (σ':=[.deck N]) x gd (.refl _) (by simp only [List.map_cons,List.map_nil,hd,anfO]) hls
 rw [←hBB] at w
 have H:IhOk G Zbv (nuP i m) (run Zbv 60):=Zbw (tOk Pm (G:=G) hK (base:=[]) (sums:=[(516,ZdH)]) (ops:=[])) (ZiP hK) (ZpH i m) 60
 have hc:(Cnd.zer ⟨1,[(30,1),(32,-1)]⟩).holds (nuP i m) ↔ i+1=m:=by
  show (1:Int)+(1 * (i:Int)+(-1 * (m:Int)+0))=0 ↔ _
  omega
 have g:Gd G B Zbv (nuP i m) [td.1] ⟨[.deck N],Zga,[(.zer ⟨1,[(30,1),(32,-1)]⟩,decide (i+1=m))]⟩ rs:=⟨λp hp=>by
  obtain rfl:=List.mem_singleton.mp hp
  rw [hc,decide_eq_true_iff],w⟩
 refine wpAny_mono (evAt (P:=λv s'=>Zkz (decide (i+1=m)) v s'=true) H O e1 g (Zbx (ZkA N _))) (λrv rs2 u=>?_) λ_ _ e=>e
 refine byP λXX kX=>?_
 obtain ⟨ρ2,v,s2,hp,hC,hv,g2⟩:=u
 refine e5_4 (Zja hC) λn x1 y1 b1 N2 ev hN hcell hC=>?_
 rw [ev] at hv
 refine e2_2 (vref hv) λa ao er ha=>?_
 refine e1_5 (Zil hC) λq hq ex ey ee hlast=>?_
 have y:=g2.hs
 rw [hBB] at y
 refine e1_4 (ZaD y) λT f1 f2 good y=>?_
 refine e1_1 hp λr hr=>?_
 refine e1_3 (Zgv f1 f2 hN) λtd2 h1 h2 h3=>?_
 refine e1_3 (Zgv f1 f2 hcell) λt k1 k2 k3=>?_
 have k4:t.1=(a,ao):=by rw [ha] at k3;exact (Option.some.inj k3).symm
 have fd:td2.1=td.1:=by rw [←hr] at h3;exact (Option.some.inj h3).symm
 refine kX ?_
 revert f1 f2 good y;revert T;show Fa _ _;refine Lis.on_cons zN0 (λt0 T2 h1=>?_);intro k1 f1 f2 good y
 have e0:t0=td2:=Option.some.inj h1
 subst e0
 refine i5_8 a q t0 N2 T2 er hq (hlast.imp id of_decide_eq_true) fd h2 good ⟨t,?_,by rw [k4],by rw [k2,ex,ey,ee];rfl⟩ ?_
 ·cases n with
  | zero=>
   rw [Option.some.inj (k1.symm.trans h1)] at k2
   exact SO.noConfusion (k2.symm.trans h2)
  | succ n=>exact List.mem_of_getElem? k1
 ·have hF:flat (t0::T2)++flat K=flat ((t0::T2)++K):=(List.flatMap_append).symm
  rw [hF] at y
  exact Hs.lsTo y ⟨rfl,λy v e=>nomatch e⟩
end
end Mine
end
section
namespace Mine
variable {G:Gl} {B:Bs} {ρ:List (Addr × Obj)} {σ:List SO} {ls:List (Str × SV)} {s:St} {rs:Shared} {d:Nat}
noncomputable section
theorem Zmc:∃ py px pr pm pc pos spos,nth lawB 1=some (.Assign [.Name (Str.ofString "pieces") py] (.ListComp Zhb [⟨.Name (Str.ofString "nth") px,.Call (.Name (Str.ofString "range") pr) [.Name (Str.ofString "many") pm] [] pc,[],0⟩] pieceSc pos) spos)∧(py.line==pos.line)=true:=⟨_,_,_,_,_,_,_,rfl,rfl⟩
noncomputable def Zii (p:Str × NameKind):Bool:=match p.2 with
 | .free=>seq p.1 (Str.ofString "deck")||seq p.1 (Str.ofString "many")
 | .cell=>false
 | .local=>Zah pieceSc p.1
 | _=>true
theorem ZhC:pieceSc.names.all Zii=true:=by kernel_rfl
theorem freeIn:(pieceSc.names.any λp=>match p.2 with | .free=>seq p.1 (Str.ofString "deck") | _=>false)=true∧(pieceSc.names.any λp=>match p.2 with | .free=>seq p.1 (Str.ofString "many") | _=>false)=true:=⟨by kernel_rfl,by kernel_rfl⟩
theorem ZjZ {x:Str} (h:(pieceSc.names.any λp=>match p.2 with | .free=>seq p.1 x | _=>false)=true):(x,NameKind.free) ∈ pieceSc.names:=by
 refine e1_2 (List.any_eq_true.mp h) λwq hm h=>?_;obtain ⟨n,k⟩:=wq
 cases k<;>first | cases h;done | skip
 have:n=x:=seq_iff.mp h
 rw [←this];exact hm
set_option genInjectivity false in
set_option genSizeOf false in
inductive PcRow (G:Gl) (t0:Addr × Obj) (m:Nat) (D:Addr) (i:Nat):List (Addr × Obj)->List (Addr × Obj)->List SO->Prop
 | mk (N:Nat) (K:List Tr) (qs:List (Pc × Addr)):qs.length=i->Good G K->(∀ p ∈ qs,PcAt K p)->(∀ j p,qs[j]? = some p->p.1.e=true∨j+1=m)->PcRow G t0 m D i (flat K) [t0,(D,default)] [.deck N,.list (qs.map λp=>.glob (.ref p.2))]
noncomputable abbrev ls2 (l dk tb:Addr) (m:Nat):List (Str × SV):=[(Str.ofString "script",.glob (.ref l)),(Str.ofString "deck",.glob (.ref dk)),(Str.ofString "table",.glob (.ref tb)),(Str.ofString "many",.int m)]
noncomputable abbrev lm2 (l dk tb:Addr):List (Str × MV):=[(Str.ofString "script",.glob (.ref l)),(Str.ofString "deck",.glob (.ref dk)),(Str.ofString "table",.glob (.ref tb)),(Str.ofString "many",.int (.x 0))]
theorem ZnW (l dk tb:Addr):Zbn tabN lawS (Str.ofString "range") ⟨[],lm2 l dk tb,[]⟩ = .ret (.glob (.type "range")) ⟨[],lm2 l dk tb,[]⟩:=by kernel_rfl
theorem Zma {Pm:Params} (hK:G.K=KF Pm) {BB:Bs} {pre:List (Addr × Obj)} {t0:Addr × Obj} {dk D:Addr} {m i:Nat} {c0 ρ':List (Addr × Obj)} {σ':List SO} (hm:i<m) (hm2:m≤12) (ht0:t0.1=dk) (hJ:PcRow G t0 m D i c0 ρ' σ') (O:Ok G (BB.mid pre c0) 20) (e1:BB.sc=Zai lawS pieceSc)
 (x:Hs G (BB.mid pre c0) ρ' σ' [(Str.ofString "deck",.ref 0),(Str.ofString "many",.int m),(Str.ofString "nth",.int i)] rs):
 wpAny G.M BB.A (eval Zhb BB.env) (EltR G (λc3=>BB.mid pre c3) D (PcRow G t0 m D (i+1))) NoE rs:=by
 obtain ⟨N,K,qs,hlen,good,hat,hend⟩:=hJ
 refine e1_4 (ZaD x) λT f1 f2 goodT y=>?_
 refine e2_1 (show ∃ td tl,T=[td,tl] from by
  cases T with
  | nil=>cases f1
  | cons td r=>cases r with
   | nil=>simp at f1
   | cons tl r=>cases r with
    | nil=>exact ⟨td,tl,rfl⟩
    | cons _ _=>simp at f1) λtd tl wq=>?_;subst wq
 simp only [List.map_cons,List.map_nil,List.cons.injEq,and_true] at f1 f2
 refine e0_2 f1 λfd fl=>?_;clear f1
 refine e0_2 f2 λgdk gl=>?_;clear f2
 have gdk:td.2.1 = .deck N:=gdk
 have gl:tl.2.1 = .list (qs.map λp=>.glob (.ref p.2)):=by rw [gl];simp only [anfO,List.map_map];rfl
 have gK:Good G (td::(tl::K)):=λt ht=>by
  rcases List.mem_cons.mp ht with rfl | ht
  ·exact goodT _ (.head _)
  ·rcases List.mem_cons.mp ht with rfl | ht
   ·exact goodT _ (.tail _ (.head _))
   ·exact good t ht
 have y:Hs G (BB.mid pre (flat (td::(tl::K)))) [] [] [(Str.ofString "deck",.glob (.ref t0.1)),(Str.ofString "many",.int m),(Str.ofString "nth",.int i)] rs:=by
  have:flat [td,tl]++flat K=flat (td::(tl::K)):=(List.flatMap_append (xs:=[td,tl])).symm
  rw [this] at y;exact y
 have hls:LsTo [] [td.1] [(Str.ofString "deck",.glob (.ref t0.1)),(Str.ofString "many",.int m),(Str.ofString "nth",.int i)] (semL (nuP i m) Zga):=by
  have e0:semL (nuP i m) Zga=[(Str.ofString "nth",.int i),(Str.ofString "deck",.ref 0),(Str.ofString "many",.int m)]:=by
   show [(Str.ofString "nth",SV.int ((Lin.x 30).ev (nuP i m).x)),(Str.ofString "deck",.ref 0),(Str.ofString "many",.int ((Lin.x 32).ev (nuP i m).x))]=_
   rw [ev_x,ev_x];rfl
  rw [e0]
  refine i0_2 (by kernel_rfl) (λy v e=>?_)
  rw [Zab,Zab,Zab] at e
  generalize q1:seq y (Str.ofString "nth")=wo at e
  cases wo with
  | true=>
   have wq:=Option.some.inj e;clear e;subst wq
   rw [seq_iff.mp q1]
   exact i1_2 _ (by kernel_rfl) (λrv h=>h.mono List.nil_prefix)
  | false=>
   generalize q2:seq y (Str.ofString "deck")=wo at e
   cases wo with
   | true=>
    have wq:=Option.some.inj e;clear e;subst wq
    rw [seq_iff.mp q2]
    refine i1_2 (.glob (.ref t0.1)) (by kernel_rfl) (λrv h=>?_)
    refine e0_2 (V.glob_inv h) λwq _=>?_;clear h;subst wq
    exact .ref (o:=t0.2) (by rw [fd];rfl)
   | false=>
    generalize q3:seq y (Str.ofString "many")=wo at e
    revert q3;revert wo;show Fa _ _;refine Boo.on_true zN0 (λe=>?_);intro q3
    have wq:=Option.some.inj e;clear e;subst wq
    rw [seq_iff.mp q3]
    exact i1_2 _ (by kernel_rfl) (λrv h=>h.mono List.nil_prefix)
 refine wpAny_mono (Zl5 hK (B:=BB.mid pre (flat (tl::K))) (K:=tl::K) ⟨O.kin,O.top,O.kind,O.hand,O.dep,O.uni⟩ e1 rfl gdk gK hls y) (λrv rs2 u=>?_) λ_ _ e=>e
 refine e5_8 u λa q td2 N2 T2 wq hq hqe fd2 gd2 good2 wqb z=>?_;clear u;subst wq;obtain ⟨tp,htp,ha,hso⟩:=wqb
 have gAll:Good G ((td2::T2)++(tl::K)):=λt ht=>by
  rcases List.mem_append.mp ht with ht | ht
  ·exact good2 t ht
  ·exact gK t (.tail _ ht)
 have w:=thaw (T:=[td2,tl]) (R:=T2++K) (σ':=[.deck N2,.list (qs.map λp=>.glob (.ref p.2))]) (ls':=[]) z gAll (by
  show (td2::(T2++tl::K)).Perm (td2::tl::(T2++K))
  exact (List.perm_middle).cons _) (by simp only [List.map_cons,List.map_nil,gd2,gl,anfO,List.map_map];rfl) ⟨rfl,λy v e=>by cases e⟩
 have e2:[td2,tl].map (·.1)=[t0,(D,default)]:=by simp only [List.map_cons,List.map_nil,fd2,fd,fl]
 rw [e2] at w
 refine ⟨flat (T2++K),[t0,(D,default)],.glob (.ref a),_,1,qs.map λp=>.glob (.ref p.2),[],.glob _ rfl,rfl,.ref (o:=default) rfl,by rw [List.length_map];omega,w,?_⟩
 rw [show ([SO.deck N2,.list (qs.map λp=>.glob (.ref p.2))]:List SO).set 1 (.list ((qs.map λp=>SV.glob (.ref p.2))++[.glob (.ref a)]))=[.deck N2,.list ((qs++[(q,a)]).map λp=>.glob (.ref p.2))] by simp]
 refine ⟨N2,T2++K,qs++[(q,a)],by simp [hlen],λt ht=>?_,λp hp=>?_,λj p hj=>?_⟩
 ·rcases List.mem_append.mp ht with ht | ht
  ·exact good2 t (.tail _ ht)
  ·exact good t ht
 ·rcases List.mem_append.mp hp with hp | hp
  ·refine e0_2 (hat p hp) λh1 wq=>?_;obtain ⟨t,h2,h3⟩:=wq
   exact i0_2 h1 (⟨t,List.mem_append_right _ h2,h3⟩)
  ·obtain rfl:=List.mem_singleton.mp hp
   exact i0_2 hq (⟨tp,List.mem_append_left _ htp,ha,hso⟩)
 ·by_cases hj2:j<qs.length
  ·rw [List.getElem?_append_left hj2] at hj
   exact hend j p hj
  ·rw [List.getElem?_append_right (by omega)] at hj
   have hj3:j-qs.length=0:=by
    have:=(List.getElem?_eq_some_iff.mp hj).1
    simp at this;omega
   rw [hj3] at hj
   have wq:=Option.some.inj hj;clear hj;subst wq
   rcases hqe with h | h
   ·exact .inl h
   ·right;omega
end
end Mine
end
section
namespace Mine
variable {G:Gl} {B:Bs} {ρ:List (Addr × Obj)} {σ:List SO} {ls:List (Str × SV)} {s:St} {rs:Shared} {d:Nat}
noncomputable section
theorem Zqq {Pm:Params} (hK:G.K=KF Pm) (O:Ok G B 60) {c1 c2 dk l tb:Addr} {o1 o2:Obj} {m:Nat} {t:Tok} (hsc:B.sc=lawS) (hcl:B.cl=[(Str.ofString "many",c2),(Str.ofString "deck",c1)]) (hcs:B.cs=[(c2,o2),(c1,o1)]) (h1:o1.data = .cell (some (.ref dk))) (h2:o2.data = .cell (some (.int m t))) (m3:3≤m) (m12:m≤12)
 {t0:Tr} {K0:List Tr} (ht0:t0.1.1=dk) (ht1:t0.2.1 = .deck 0) (good:Good G (t0::K0)) (x:Hs G (B.mid [] (flat (t0::K0))) [] [] (ls2 l dk tb m) rs) {Q:Flow->Shared->Prop}
 (k:∀ (qs:List (Pc × Addr)) (K:List Tr) (tl:Tr) rs',qs.length=m->Good G (tl::K)->tl.2.1 = .list (qs.map λp=>.glob (.ref p.2))->(∀ p ∈ qs,PcAt K p)->(∀ j p,qs[j]? = some p->p.1.e=true∨j+1=m)->
  Hs G (B.mid [] (flat (tl::(K++K0)))) [] [] (ls2 l dk tb m++[(Str.ofString "pieces",.glob (.ref tl.1.1))]) rs'->Q .next rs'):
 ∀ st,nth lawB 1=some st->wpAny G.M B.A (exec st B.env) Q NoE rs:=by
 obtain ⟨py,px,pr,pm,pc,pos,spos,hb,hline⟩:=Zmc
 rintro st hst
 rw [hb] at hst
 have wq:=Option.some.inj hst;clear hst;subst wq
 have hν:=Ziv m
 have e0:semL (nu1 m) (lm2 l dk tb)=ls2 l dk tb m:=by
  show [(Str.ofString "script",SV.glob (.ref l)),(Str.ofString "deck",.glob (.ref dk)),(Str.ofString "table",.glob (.ref tb)),(Str.ofString "many",.int ((Lin.x 0).ev (nu1 m).x))]=_
  rw [ev_x];rfl
 have g:Gd G (B.mid [] (flat (t0::K0))) tabN (nu1 m) [] ⟨[],lm2 l dk tb,[]⟩ rs:=⟨(λ_ h=>nomatch h),by rw [e0];exact x⟩
 obtain ⟨cl,hcl2,hclk⟩:=Zcr (env:=B.env) (sc2:=pieceSc) λz hz e=>by
  have:=List.all_eq_true.mp ZhC z hz
  unfold Zii at this
  rw [e] at this
  have h2:(seq z.1 (Str.ofString "deck")||seq z.1 (Str.ofString "many"))=true:=this
  rw [Bool.or_eq_true] at h2
  show ∃ c,B.cl.lookup z.1=some c
  rw [hcl]
  refine byP λXX kX=>?_
  rcases h2 with h | h
  ·refine kX ?_
   rw [seq_iff.mp h];exact i1_1 c1 (by kernel_rfl)
  ·refine kX ?_
   rw [seq_iff.mp h];exact i1_1 c2 (by kernel_rfl)
 have hcell:∀ z ∈ pieceSc.names,z.2 ≠ .cell:=λz hz e=>by
  have:=List.all_eq_true.mp ZhC z hz
  unfold Zii at this
  rw [e] at this;exact nB this
 have hnames:∀ z ∈ pieceSc.names,z.2 = .local->pieceSc.names.lookup z.1=some .local:=λz hz e=>by
  have:=List.all_eq_true.mp ZhC z hz
  unfold Zii at this
  rw [e] at this;exact Zay this
 have hsw:=ZfG (elt:=Zhb) (gs:=[⟨.Name (Str.ofString "nth") px,.Call (.Name (Str.ofString "range") pr) [.Name (Str.ofString "many") pm] [] pc,[],0⟩]) (sc2:=pieceSc) (pos:=pos) (py:=py) (y:=Str.ofString "pieces") (n:=spos.line) (env:=B.env) hsc (by kernel_rfl) hline (by kernel_rfl)
 have hlen0:∀ {ρ':List (Addr × Obj)},t0.1=(t0.1.1,t0.1.2):=rfl
 refine Zek hsw λp0=>?_
 refine wpAny_comprehension_free (use:=some (assign (.Name (Str.ofString "pieces") py) B.env)) rfl (λ_=>rfl) hcl2 (by kernel_rfl) hnames (wpAny_mono (ZfB (B:=B.mid [] (flat (t0::K0))) hK hν O.mid hsc g (ZnW l dk tb) (l:=.x 0) rfl) (λxv rs1 u=>?_) λ_ _ e=>e)
 refine e4_3 u λa ta tu tv wq hr g1=>?_;clear u;subst wq
 rw [ev_x] at hr
 have hr:IsRange rs1.heap a 0 (m:Int) 1 ta tu tv:=hr
 have x1:=g1.hs
 rw [e0] at x1
 refine wpAny_pyIter_range hr (ZcY (by decide) (by omega)) ?_
 have x2:=thaw (B:=B) (T:=[t0]) (R:=K0) (σ':=[.deck 0]) (ls':=[(Str.ofString "script",.glob (.ref l)),(Str.ofString "deck",.ref 0),(Str.ofString "table",.glob (.ref tb)),(Str.ofString "many",.int m)]) x1 good (.refl _) (by simp only [List.map_cons,List.map_nil,ht1,anfO]) ⟨by kernel_rfl,λy v e=>by
  rw [Zab,Zab] at e
  generalize q1:seq y (Str.ofString "script")=wo at e
  cases wo with
  | true=>
   have wq:=Option.some.inj e;clear e;subst wq
   refine i1_2 (.glob (.ref l)) (by rw [Zab,q1];rfl) (λrv h=>h.mono List.nil_prefix)
  | false=>
   generalize q2:seq y (Str.ofString "deck")=wo at e
   cases wo with
   | true=>
    have wq:=Option.some.inj e;clear e;subst wq
    refine i1_2 (.glob (.ref dk)) (by rw [Zab,Zab,q1,q2];rfl) (λrv h=>?_)
    refine e0_2 (V.glob_inv h) λwq _=>?_;clear h;subst wq
    exact .ref (o:=t0.1.2) (by rw [←ht0];rfl)
   | false=>
    exact i1_2 v (by rw [Zab,Zab,q1,q2];exact e) (λrv h=>by
     rw [cond_false,cond_false,Zab,Zab] at e
     generalize q3:seq y (Str.ofString "table")=wo at e
     cases wo with
     | true=>have wq:=Option.some.inj e;clear e;subst wq;exact h.mono List.nil_prefix
     | false=>
      generalize q4:seq y (Str.ofString "many")=wo at e
      cases wo with
      | true=>have wq:=Option.some.inj e;clear e;subst wq;exact h.mono List.nil_prefix
      | false=>exact nN e)⟩
 have hW:=Walks.range (prog:=G.prog) (w:=G.w) (A:=B.A) O.hand rs1.heap.objs.size 0 1 m
 have hrl:relabel pieceSc B.env=Zai lawS pieceSc:=by rw [←hsc];exact Zcv (env:=B.env) O.kind
 refine Zed (B:=B.mid [] (flat K0)) (d:=60) (E:=NoE) (it:=λi=>.int i) (n:=m) (Pv:=λi v=>∃ t,v = .int (0+i * 1) t) (St:=λi h=>IsRangeIter h rs1.heap.objs.size (0+(i:Nat) * 1) ((m:Int)-(i:Nat)) 1) (fp:=[rs1.heap.objs.size])
  (J:=PcRow G t0.1 m) (lsC:=[(Str.ofString "deck",.ref 0),(Str.ofString "many",.int m)]) (RR:=λacc C=>compPost G.M B.A NoE (some (assign (.Name (Str.ofString "pieces") py) B.env)) (λ_ rs'=>Q .next rs') acc C)
  O.mid x2 hcell (by kernel_rfl) (by kernel_rfl) (Zaj (by kernel_rfl)) rfl hW (by rw [ZdQ];simpa using Heap.get?_push_size _ rfl) (λi h st=>⟨_,st⟩) (λb hb=>.inl (by simpa using hb)) (λi v hi hv D c0 ρ' σ' _=>?_) (λy v e=>?_) (by kernel_rfl) (λD=>?_) ?_ ?_
 ·refine e1_1 hv λt wq=>?_;clear hv;subst wq
  rw [show (0:Int)+i * 1=i by omega];exact .int _ _
 ·rw [Zab,Zab] at e
  generalize q1:seq y (Str.ofString "deck")=wo at e
  cases wo with
  | true=>
   have wq:=Option.some.inj e;clear e;subst wq
   refine i1_3 (.ref dk) (λD i c0 ρ' σ' hJ=>?_) ?_ (⟨c1,o1,?_,?_,h1⟩)
   ·cases hJ
    exact .ref (o:=t0.1.2) (by rw [←ht0];rfl)
   ·show (relabel pieceSc B.env).names.lookup y=_
    rw [hrl,seq_iff.mp q1];kernel_rfl
   ·rw [seq_iff.mp q1];exact hclk _ _ (ZjZ freeIn.1) (by show B.cl.lookup _=_;rw [hcl];kernel_rfl)
   ·exact List.mem_append_right _ (List.mem_append_right _ (by rw [hcs];simp))
  | false=>
   generalize q2:seq y (Str.ofString "many")=wo at e
   revert q2;revert wo;show Fa _ _;refine Boo.on_true zN0 (λe=>?_);intro q2
   have wq:=Option.some.inj e;clear e;subst wq
   refine i1_3 (.int m t) (λD i c0 ρ' σ' hJ=>.int _ _) ?_ (⟨c2,o2,?_,?_,h2⟩)
   ·show (relabel pieceSc B.env).names.lookup y=_
    rw [hrl,seq_iff.mp q2];kernel_rfl
   ·rw [seq_iff.mp q2];exact hclk _ _ (ZjZ freeIn.2) (by show B.cl.lookup _=_;rw [hcl];kernel_rfl)
   ·exact List.mem_append_right _ (List.mem_append_right _ (by rw [hcs];simp))
 ·exact ⟨0,[],[],rfl,λ_ h=>(nomatch h),λ_ h=>(nomatch h),λj p h=>by simp at h⟩
 ·intro C I D oL oI i c0 ρ' σ' rs' hi hJ O' hs'
  refine wpAny_tests_nil ?_
  rw [if_pos rfl]
  let BB:Bs:={ B with L:=C,sc:=relabel pieceSc B.env,fn:=none,cl:=cl,cs:=flat K0++B.cs }
  have hBB:(((B.mid [] (flat K0)).ext c0).comp pieceSc cl C oL I oI)=BB.mid [(B.L,oL),(I,oI)] c0:=rfl
  rw [hBB] at O' hs'
  refine wpAny_mono (Zma hK (BB:=BB) (pre:=[(B.L,oL),(I,oI)]) hi m12 ht0 hJ (O'.le (by omega)) hrl hs') (λy rs3 u=>?_) λ_ _ e=>e
  obtain ⟨c3,ρ3,sv,σ3,k,xs,lsX,w1,w2,w3,w4,w5,w6⟩:=u
  exact ⟨c3,ρ3,sv,σ3,k,xs,lsX,w1,w2,w3,w4,w5,w6⟩
 ·intro C D oC c0 ρ' σ' rs' m' hJ hoC hnc hh
  obtain ⟨N,K,qs,hlen,goodK,hat,hend⟩:=hJ
  have x3:=hh [(Str.ofString "script",.glob (.ref l)),(Str.ofString "deck",.ref 0),(Str.ofString "table",.glob (.ref tb)),(Str.ofString "many",.int m)] (LsTo.mono ⟨[(D,default)],rfl⟩ (by kernel_rfl))
  refine Ziz (B:=B) O hoC hnc x3 (v:=.ref 1) (by rw [hsc];kernel_rfl) (by kernel_rfl) (.ref (o:=default) rfl) λrs4 x4=>?_
  have x4:Hs G ({ B with cs:=flat K++(flat K0++B.cs) }:Bs) [t0.1,(D,default)] [.deck N,.list (qs.map λp=>.glob (.ref p.2))] [(Str.ofString "script",.glob (.ref l)),(Str.ofString "deck",.ref 0),(Str.ofString "table",.glob (.ref tb)),(Str.ofString "many",.int m),(Str.ofString "pieces",.ref 1)] rs4:=x4
  rw [show ({ B with cs:=flat K++(flat K0++B.cs) }:Bs)=B.mid [] (flat K++flat K0) by rw [Bs.mid,List.nil_append,List.append_assoc]] at x4
  refine byP λXX kX=>?_
  refine e1_4 (ZaD x4) λT f1 f2 goodT y=>?_
  refine e2_1 (show ∃ td tl,T=[td,tl] from by
   cases T with
   | nil=>cases f1
   | cons td r=>cases r with
    | nil=>simp at f1
    | cons tl r=>cases r with
     | nil=>exact ⟨td,tl,rfl⟩
     | cons _ _=>simp at f1) λtd tl wq=>?_;subst wq
  simp only [List.map_cons,List.map_nil,List.cons.injEq,and_true] at f1 f2
  refine kX ?_
  have gl:tl.2.1 = .list (qs.map λp=>.glob (.ref p.2)):=by rw [f2.2];simp only [anfO,List.map_map];rfl
  refine k qs (td::K) tl rs4 hlen (λq hq=>?_) gl (λp hp=>?_) hend ?_
  ·refine byP λXX kX=>?_
   rcases List.mem_cons.mp hq with rfl | hq
   ·refine kX ?_
    exact goodT _ (.tail _ (.head _))
   ·rcases List.mem_cons.mp hq with rfl | hq
    ·refine kX ?_
     exact goodT _ (.head _)
    ·refine kX ?_
     exact goodK q hq
  ·refine e0_2 (hat p hp) λh1 wq=>?_;obtain ⟨t,h2,h3⟩:=wq
   exact i0_2 h1 (⟨t,.tail _ h2,h3⟩)
  ·have y2:Hs G (B.mid [] (flat [td,tl]++(flat K++flat K0))) [] [] (ls2 l dk tb m++[(Str.ofString "pieces",.glob (.ref tl.1.1))]) rs4:=by
    rw [f1.2]
    have:Zax [t0.1,(D,default)] [(Str.ofString "script",.glob (.ref l)),(Str.ofString "deck",.ref 0),(Str.ofString "table",.glob (.ref tb)),(Str.ofString "many",.int m),(Str.ofString "pieces",.ref 1)]=ls2 l dk tb m++[(Str.ofString "pieces",.glob (.ref D))]:=by
     rw [←ht0];rfl
    rw [←this];exact y
   refine Hs.permc ?_ y2
   have e1:flat [td,tl]++(flat K++flat K0)=flat ([td,tl]++(K++K0)):=by
    unfold flat;rw [List.flatMap_append,List.flatMap_append]
   rw [e1]
   refine List.Perm.flatMap_right _ ?_
   exact List.Perm.swap _ _ _
end
end Mine
end
section
namespace Mine
variable {G:Gl} {B:Bs} {ρ:List (Addr × Obj)} {σ:List SO} {ls:List (Str × SV)} {s:St} {rs:Shared} {d:Nat}
noncomputable section
theorem ZdN (O:Ok G B d) (x:Hs G B ρ σ ls rs) {y:Str} {p:Pos} {v:SV} (h:look y ls=some v) {Q:Value->Shared->Prop} (k:∀ rv,V ρ v rv->Q rv rs):wpAny G.M B.A (eval (.Name y p) B.env) Q NoE rs:=by
 refine byP λXX kX=>?_
 obtain ⟨m,led,F,N,R,Lc⟩:=x.ex
 have hd:(y==("__debug__":Str))=false:=by
  cases z:(y==("__debug__":Str)) with
  | false=>rfl
  | true=>
   have e:y=Str.ofString "__debug__":=by simpa using z
   have:=Lc.dbg
   rw [←e,h] at this;exact nS this
 refine e1_2 (Lc.at_ y _ h) λrv hv hm=>?_
 rcases hm with ⟨k1,k2⟩ | ⟨k1,c,o,k2,k3,k4⟩
 ·refine kX ?_
  exact wpAny_Name (wpAny_loadName_local O.kind k1 F.ns k2 (k _ hv)) hd
 ·refine kX ?_
  exact wpAny_Name (wpAny_loadName_cell O.kind k1 k2 ⟨o,N.get (List.mem_append_left _ k3),k4⟩ (k _ hv)) hd
theorem Zps {n:Int} {k0:Nat} {p:Pos} (x:Hs G B ρ σ ls rs) {Q:Value->Shared->Prop} (k:∀ t rs',Hs G B ρ σ ls rs'->rs'.heap=rs.heap->Q (.int n t) rs'):wpAny G.M B.A (eval (.Constant (.int n) k0 p) B.env) Q NoE rs:=
 wpAny_Constant_int (k _ _ (x.toks _) rfl)
theorem ZpU {n:Str} {k0:Nat} {p:Pos} (x:Hs G B ρ σ ls rs) {Q:Value->Shared->Prop} (k:∀ t rs',Hs G B ρ σ ls rs'->rs'.heap=rs.heap->Q (.str n t) rs'):wpAny G.M B.A (eval (.Constant (.str n) k0 p) B.env) Q NoE rs:=
 wpAny_Constant_str (k _ _ (x.toks _) rfl)
theorem Zjn {a:Addr} {vs:List Value} {v:Value} {t:Tok} {value:PySem.Expr} {c:Const} {k:Nat} {p:Pos} (h:IsTup rs.heap a vs.toArray) (hv:vs[1]? = some v) {Q:Value->Shared->Prop} (hq:Q v rs):wpAny G.M B.A (subscriptTail value (.Constant c k p) (.ref a) (.int 1 t)) Q NoE rs:=by
 refine tail_any h.typeIs slot_tuple_getitem.lookup (getItem_tuple h (j:=1) (by decide) (by decide) ?_ (by simpa using hv) hq) (ZkU (λ_ _ _ _ e=>by cases e) _ _)
 unfold seqIndex?
 rw [List.size_toArray]
 have:=(List.getElem?_eq_some_iff.mp hv).1
 simp only [show ¬((1:Int)<0) by decide,if_false]
 rw [if_pos (by simp only [Bool.and_eq_true,decide_eq_true_eq];omega)];rfl
theorem Zfg:∀ l:List (List Nat),ZbB (l.map λx=>.v (.str x))=some l
 | []=>rfl
 | x::r=>by
  show (match ZbB (r.map λx=>ME.v (.str x)) with | some l=>some (x::l) | none=>none)=_
  rw [Zfg r]
theorem Zhh {ν:Vn}:∀ l:List (List Nat),rowS ν (l.map λx=>.v (.str x))=l.map .str
 | []=>rfl
 | x::r=>by
  show SV.str x::rowS ν (r.map λx=>.v (.str x))=_
  rw [Zhh r];rfl
theorem Zot {β:Type} (x:Str) (b:β):look x (put x b [])=some b:=by rw [ZaJ,if_pos rfl]
noncomputable def ZmQ (K:List Tr) (D:Addr) (qs:List (Pc × Addr)):Prop:=(∃ tl ∈ K,tl.1.1=D∧tl.2.1 = .list (qs.map λp=>.glob (.ref p.2)))∧∀ p ∈ qs,PcAt K p
theorem ZkB {K:List Tr} (good:Good G K) {p:Pc × Addr} (h:PcAt K p) {c:List (Addr × Obj)} (x:Hs G { B with cs:=c } ρ σ ls rs) (hc:∀ q ∈ flat K,q ∈ c):∃ t1 t2,IsTup rs.heap p.2 [Value.str (Zaa p.1.k.name) t1,.str (Zaa p.1.t) t2,.bool p.1.e].toArray:=by
 refine byP λXX kX=>?_
 refine e0_2 h λ_ wq=>?_;clear h;obtain ⟨t,ht,ha,hso⟩:=wq
 obtain ⟨m,led,F,N,R,Lc⟩:=x.ex
 refine kX ?_
 have g:=good t ht
 obtain ⟨⟨a,ao⟩,so,es⟩:=t
 dsimp only at ha hso g
 subst hso
 unfold pcO at g
 refine e2_4 (g.tuple_inv) λk vs wq wq y z=>?_;clear g;subst wq wq
 cases y with
 | cons a1 y=>cases y with
  | cons a2 y=>cases y with
   | cons a3 y=>
    have wq:=VL.nil_inv y;clear y;subst wq
    refine e1_1 (vstr a1) λt1 wq=>?_;subst wq
    refine e1_1 (vstr a2) λt2 wq=>?_;subst wq
    cases Zfe a3
    refine i2_1 t1 t2 (Zam (k:=k) ?_)
    rw [←ha]
    exact (N _ (List.mem_append_left _ (hc _ (List.mem_flatMap.mpr ⟨_,ht,.head _⟩)))).1
theorem Zj1 {K:List Tr} (good:Good G K) {D:Addr} {as:List Addr} (h:∃ tl ∈ K,tl.1.1=D∧tl.2.1 = .list (as.map λa=>.glob (.ref a))) {c:List (Addr × Obj)} (x:Hs G { B with cs:=c } ρ σ ls rs) (hc:∀ q ∈ flat K,q ∈ c):∃ o,rs.heap.IsList D (as.map Value.ref).toArray∧(D,o) ∈ c:=by
 refine e1_3 h λt ht ha hso=>?_;clear h
 obtain ⟨m,led,F,N,R,Lc⟩:=x.ex
 refine e2_2 (ZbJ (good t ht) hso) λvs k hv es=>?_
 have e:vs=as.map Value.ref:=by
  clear es hso
  induction as generalizing vs with
  | nil=>have wq:=VL.nil_inv hv;clear hv;subst wq;rfl
  | cons a r ih=>cases hv with
   | cons h1 h2=>refine e0_2 (V.glob_inv h1) λwq _=>?_;clear h1;subst wq;rw [ih _ h2];rfl
 rw [e] at es
 have hm:(D,PySem.W.listOf (as.map Value.ref).toArray k) ∈ c:=hc _ (List.mem_flatMap.mpr ⟨t,ht,by rw [es,ha];exact .head _⟩)
 exact i1_2 _ (Zan (N _ (List.mem_append_left _ hm)).1) hm
noncomputable def txtC:PySem.Expr:=match nth lawB 2 with | some (.Assign _ e _)=>Zhq e 0 | _=>default
set_option genInjectivity false in
set_option genSizeOf false in
inductive S3shapeR:Prop
 | mk:∀ py ks ps apos pe k1 p1 p2 px pp pos3 pos spos,nth lawB 2=some (.Assign [.Name (Str.ofString "text") py] (.Call (.Attribute (.Constant (.str (Str.ofString "")) ks ps) (Str.ofString "join") apos) [.ListComp (.Subscript (.Name (Str.ofString "piece") pe) (.Constant (.int 1) k1 p1) p2) [⟨.Name (Str.ofString "piece") px,.Name (Str.ofString "pieces") pp,[],0⟩] (compSc2 txtC) pos3] [] pos) spos)->(ZbK (.Constant (.str (Str.ofString "")) ks ps)&&Nat.beq apos.endLine pos.line)=true->S3shapeR
theorem Zmd:S3shapeR:=.mk _ _ _ _ _ _ _ _ _ _ _ _ _ (rfl) (by kernel_rfl)
noncomputable def ZdC (qs:List (Pc × Addr)):List Nat:=(qs.map λp=>p.1.t).flatten
theorem Zn8 (x:Hs G B ρ σ ls rs) {n:Nat} {l:List (List Nat)} {a:Addr} {ao:Obj} {ts:Tok} (h:σ[n]? = some (.list (l.map .str))) (ha:ρ[n]? = some (a,ao)) (h1:l.length≤500) (h2:l.flatten.length≤5000) {Q:Value->Shared->Prop} (k:∀ t rs',Hs G B ρ σ ls rs'->Q (.str (Zaa l.flatten) t) rs'):
 wpAny G.M B.A (call (.builtin "str.join") [.str (Zaa []) ts,.ref a]) Q NoE rs:=by
 refine byP λXX kX=>?_
 refine e2_3 (x.list h ha) λus i e1 hu hz=>?_
 rw [←Zhh (ν:=nu0)] at hu
 refine e1_2 (Zlc (Zfg l) hu) λtt wq e2=>?_;subst wq
 refine kX ?_
 refine SC.join (Zan e1) e2 ?_ (λt' _=>?_)
 ·unfold JoinOk
  rw [Bool.not_eq_true']
  refine StrLaws.joinFits (B:=5000) (λz hz=>?_) ?_
  ·refine e1_2 (List.mem_map.mp hz) λz' hz' wq=>?_;subst wq
   rw [Zal]
   exact Nat.le_trans (ZfZ hz') h2
  ·rw [List.length_map,Zal]
   have:l.length * 5000≤500 * 5000:=Nat.mul_le_mul_right _ h1
   simp;omega
 ·rw [ZgP];exact k _ _ (x.toks _)
theorem ZoW (O:Ok G B d) {a:Addr} {q:Pc} {t1 t2:Tok} {pe p1 p2:Pos} {k1:Nat} (hx:look (Str.ofString "piece") ls=some (.glob (.ref a))) (x:Hs G B ρ σ ls rs) (ht:IsTup rs.heap a [Value.str (Zaa q.k.name) t1,.str (Zaa q.t) t2,.bool q.e].toArray) {Q:Value->Shared->Prop} (k:∀ rs',Hs G B ρ σ ls rs'->Q (.str (Zaa q.t) t2) rs'):
 wpAny G.M B.A (eval (.Subscript (.Name (Str.ofString "piece") pe) (.Constant (.int 1) k1 p1) p2) B.env) Q NoE rs:=by
 refine Subscript_ (ZdN O x hx λrv hv=>?_)
 refine e0_2 (V.glob_inv hv) λwq _=>?_;clear hv;subst wq
 refine Zps x λt rs2 hs2 e=>Zjn (e ▸ ht) rfl (k _ hs2)
theorem ZmN (O:Ok G B 60) {K:List Tr} {D:Addr} {qs:List (Pc × Addr)} {pe p1 p2 px pp pos3:Pos} {k1:Nat} (good:Good G K) (hP:ZmQ K D qs) (hq:qs.length≤12) (hD:look (Str.ofString "pieces") ls=some (.glob (.ref D)))
 (x:Hs G (B.mid [] (flat K)) [] [] ls rs) {Q:Value->Shared->Prop} (k:∀ D2 rs',Hs G (B.mid [] (flat K)) [(D2,default)] [.list ((qs.map λp=>p.1.t).map .str)] ls rs'->Q (.ref D2) rs'):
 wpAny G.M B.A (eval (.ListComp (.Subscript (.Name (Str.ofString "piece") pe) (.Constant (.int 1) k1 p1) p2) [⟨.Name (Str.ofString "piece") px,.Name (Str.ofString "pieces") pp,[],0⟩] (compSc2 txtC) pos3) B.env) Q NoE rs:=by
 have hdb:look (Str.ofString "__debug__") ls=none:=by obtain ⟨m,led,F,N,R,Lc⟩:=x.ex;exact Lc.dbg
 refine Zdj λp0=>Zip (B:=B.mid [] (flat K)) (ρ:=[]) (σ:=[]) (ls:=ls) (n:=qs.length) (it:=λi=>.glob (.ref ((qs.map λp=>p.2).getD i 0))) (J:=λc1 D i c0 ρ' σ'=>c1=[]∧c0=[]∧ρ'=[(D,default)]∧σ'=[.list (((qs.map λp=>p.1.t).take i).map .str)]) O.mid (by kernel_rfl) (by kernel_rfl) (by kernel_rfl) (by kernel_rfl) rfl
  (ZdN (B:=B.mid [] (flat K)) O.mid x hD λrv hv=>?_) ?_ λc1 C D2 oC c0 ρ' σ' rs' m hJ hoC hnc hh=>?_
 ·refine byP λXX kX=>?_
  refine e0_2 (V.glob_inv hv) λwq _=>?_;clear hv;subst wq
  refine e1_2 (Zj1 (B:=B) (c:=flat K++B.cs) (as:=qs.map λp=>p.2) good (by rw [List.map_map];exact hP.1) x (λq hq=>List.mem_append_left _ hq)) λo hl hm=>?_
  refine kX ?_
  refine i4_7 D ((qs.map λp=>p.2).map Value.ref) ([]) o rfl (by simp) hl (.inl hm) x (λi v e ρ'=>?_) (λD=>⟨rfl,rfl,rfl,rfl⟩)
  rw [List.getElem?_map] at e
  rw [List.getD_eq_getElem?_getD]
  generalize q:(qs.map λp=>p.2)[i]? = wo at e
  revert q;revert wo;show Fa _ _;refine Opt.on_some zN0 (λa e=>?_);intro q
  have wq:=Option.some.inj e;clear e;subst wq;exact .glob _ rfl
 ·intro cl c1 C I D oL oI i c0 ρ' σ' rs' hi wq;refine e0_4 wq λwqb wqc wqd wqe=>?_;clear wq;subst wqb;subst wqc;subst wqd;subst wqe;intro O' hs'
  refine wpAny_tests_nil ?_
  rw [if_pos rfl]
  have hp:PcAt K qs[i]:=hP.2 _ (List.getElem_mem hi)
  have ea:(qs.map λp=>p.2).getD i 0=(qs[i]).2:=by
   rw [List.getD_eq_getElem?_getD,List.getElem?_map,List.getElem?_eq_getElem hi];rfl
  rw [ea] at hs'
  refine e2_1 (ZkB (B:=(((B.mid [] (flat K)).ext []).ext []).comp (compSc2 txtC) cl C oL I oI) good hp hs' (λq hq=>by show q ∈ (_,oL)::(I,oI)::(flat K++B.cs);exact List.mem_cons_of_mem _ (List.mem_cons_of_mem _ (List.mem_append_left _ hq)))) λt1 t2 ht=>?_
  refine ZoW O' (q:=(qs[i]).1) (Zot _ _) hs' ht λrs3 hs2=>?_
  refine ⟨[],_,.str (qs[i]).1.t,_,0,((qs.map λp=>p.1.t).take i).map .str,_,.str _ _,rfl,.ref (o:=default) rfl,?_,hs2,rfl,rfl,rfl,?_⟩
  ·have:=List.length_take_le i (qs.map λp=>p.1.t)
   rw [List.length_map];omega
  ·have e2:(qs.map λp=>p.1.t)[i]? = some (qs[i]).1.t:=by rw [List.getElem?_map,List.getElem?_eq_getElem hi];rfl
   show [SO.list ((((qs.map λp=>p.1.t).take i).map .str)++[.str (qs[i]).1.t])]=_
   rw [List.take_add_one,e2,List.map_append];rfl
 ·refine e0_4 hJ λwq wqb wqc wqd=>?_;clear hJ;subst wq;subst wqb;subst wqc;subst wqd
  have x2:=hh ls (LsTo.mono List.nil_prefix hdb)
  refine Zdx (B:=B.mid [] (flat K)) hoC hnc x2 λrs3 x3=>k _ _ ?_
  have:(qs.map λp=>p.1.t).take qs.length=qs.map λp=>p.1.t:=List.take_of_length_le (by simp)
  rw [this] at x3;exact x3
set_option maxHeartbeats 2000000 in
theorem Zqr (O:Ok G B 60) (hsc:B.sc=lawS) {K:List Tr} {D:Addr} {qs:List (Pc × Addr)} (good:Good G K) (hP:ZmQ K D qs) (hq:qs.length≤12) (hlen:(ZdC qs).length≤4096) (hD:look (Str.ofString "pieces") ls=some (.glob (.ref D)))
 (x:Hs G (B.mid [] (flat K)) [] [] ls rs) {Q:Flow->Shared->Prop} (k:∀ rs',Hs G (B.mid [] (flat K)) [] [] (put (Str.ofString "text") (.str (ZdC qs)) ls) rs'->Q .next rs'):
 ∀ st,nth lawB 2=some st->wpAny G.M B.A (exec st B.env) Q NoE rs:=by
 obtain ⟨py,ks,ps,apos,pe,k1,p1,p2,px,pp,pos3,pos,spos,hb,hpl⟩:=Zmd
 rintro st hst
 rw [hb] at hst
 have wq:=Option.some.inj hst;clear hst;subst wq
 rw [Bool.and_eq_true] at hpl
 refine wpAny_Assign_Name (Zep (by unfold Zdv;rw [hpl.1,hpl.2];rfl) (ZpU (B:=B.mid [] (flat K)) x λts rs1 x1 _=>λpl=>?_)) (ZaZ rfl _ _ _)
 have g1:Gd G (B.mid [] (flat K)) tabN nu0 [] ⟨[],[],[]⟩ rs1:=⟨(λ_ h=>nomatch h),x1.lsTo ⟨rfl,λy v e=>by cases e⟩⟩
 refine Zis (B:=B.mid [] (flat K)) (k:=.join) (y:=Str.ofString "join") (v:=.str []) g1 (by kernel_rfl) (by have:V [] (.str []) (.str (Zaa []) ts):=.str _ _;exact this) ?_
 refine ZaO (w:=.builtin "str.join") (rfirst:=[.str (Zaa []) ts]) (.inr λa e=>by cases e) rfl (wpAny_items_cons (ZmN O good hP hq hD x1 λD2 rs3 x3=>wpAny_items_nil ⟨x3.kin (B:=B.mid [] (flat K)) O.mid,?_⟩) rfl)
 refine Zn8 (B:=B.mid [] (flat K)) x3 (n:=0) rfl rfl (by rw [List.length_map];omega) (by have:(qs.map λp=>p.1.t).flatten.length≤4096:=hlen;omega) λt rs4 x4=>?_
 have x5:Hs G (B.mid [] (flat K)) [] [] ls rs4:=Hs.clean (B:=B.mid [] (flat K)) (c:=[]) x4 (λ_ h=>nomatch h) x1
 exact wpAny_mono (Hs.store (B:=B.mid [] (flat K)) O.mid x5 (v:=.str (ZdC qs)) (by show Zah B.sc _=true;rw [hsc];kernel_rfl) (by kernel_rfl) (.str _ _)) (λ_ rs5 x6=>k rs5 x6) λ_ _ e=>e
end
end Mine
end
section
namespace Mine
set_option genInjectivity false in
set_option genSizeOf false in
structure SemI (ν:Vn) (D:IM) (I:Item):Prop where
 op:rowS ν D.op=I.op.map .int
 be:D.be.ev ν.x=I.be
 le:D.le.ev ν.x=I.le
 wh:D.wh.sem ν=oSV I.wh
 wo:(D.wo = .none∧I.wo=none)∨∃ l,D.wo = .int l∧I.wo=some (l.ev ν.x)
 st:D.st=I.st
 co:D.co=I.co
 ln:D.ln=I.ln
 sta:D.sta.sem ν=oSV I.sta
 qu:D.qu=I.qu
 ha:D.ha=I.ha
variable {ν:Vn} {D:IM} {I:Item}
theorem ZaE {a b:Bool} {X Y:IM} {X' Y':Item} (e:a=b) (h1:b=true->SemI ν X X') (h2:b=false->SemI ν Y Y'):SemI ν (bif a then X else Y) (bif b then X' else Y'):=by
 subst e
 cases a with
 | true=>exact h1 rfl
 | false=>exact h2 rfl
theorem SemI.fl (h:SemI ν D I):D.fl.map (MV.sem ν)=I.fl:=by
 have h5:D.wo.sem ν=oSV I.wo:=by
  rcases h.wo with ⟨e1,e2⟩ | ⟨l,e1,e2⟩
  ·rw [e1,e2];rfl
  ·rw [e1,e2];rfl
 unfold IM.fl Item.fl
 simp only [List.map_cons,List.map_nil,h.wh,h5,h.sta,h.st,h.co,h.ln,h.qu,h.ha]
 have e1:(MV.int D.be).sem ν = .int I.be:=congrArg SV.int h.be
 have e2:(MV.int D.le).sem ν = .int I.le:=congrArg SV.int h.le
 rw [e1,e2]
 cases I.st<;>cases I.co<;>simp only [cond_true,cond_false,MV.sem,ev_k]
theorem SemI.endWord (h:SemI ν D I):SemI ν D.endWord I.endWord:=by
 unfold IM.endWord Item.endWord
 refine byP λXX kX=>?_
 rcases h.wo with ⟨e1,e2⟩ | ⟨l,e1,e2⟩
 ·refine kX ?_
  rw [e1,e2];exact h
 ·refine kX ?_
  rw [e1,e2];exact ⟨h.op,h.be,h.le,rfl,.inl ⟨rfl,rfl⟩,h.st,h.co,h.ln,h.sta,h.qu,h.ha⟩
theorem SemI.beginWord (h:SemI ν D I) {p:Lin} {p':Int} (hp:p.ev ν.x=p'):SemI ν (D.beginWord p) (I.beginWord p'):=by
 unfold IM.beginWord Item.beginWord
 refine byP λXX kX=>?_
 rcases h.wo with ⟨e1,e2⟩ | ⟨l,e1,e2⟩
 ·refine kX ?_
  rw [e1,e2];exact ⟨h.op,h.be,h.le,h.wh,.inr ⟨p,rfl,by rw [hp]⟩,h.st,h.co,h.ln,h.sta,h.qu,h.ha⟩
 ·refine kX ?_
  rw [e1,e2];exact h
noncomputable def CloseOk (ν:Vn) (D:IM) (I:Item) (least:Bool):Prop:=
 (D.op=[]∧I.op=[]∧(least=true ↔ 0-(I.be+1)<I.le))∨∃ n v ini last,D.op=[.seg n,.v v]∧I.op=ini++[last]∧ν.g n=ini.map .int∧v.sem ν = .int last∧(least=true ↔ (ini.length:Int)-I.be<I.le)
theorem Zfv:∀ (l:List Int) (a:Int),Ze6 (l++[a])=l∧Zkd (l++[a])=some a
 | [],a=>⟨rfl,rfl⟩
 | [b],a=>⟨rfl,rfl⟩
 | b::c::r,a=>by
  have:=Zfv (c::r) a
  refine i0_2 ?_ ?_
  ·show b::Ze6 ((c::r)++[a])=_
   rw [this.1]
  ·show Zkd ((c::r)++[a])=_
   exact this.2
theorem Zm2 {a b:Int} {least:Bool} {la lb:Lin} (ha:la.ev ν.x=a) (hb:lb.ev ν.x=b) (h:least=true ↔ b<a):(bif least then lb else la).ev ν.x=min a b:=by
 cases least with
 | true=>have:=h.mp rfl;rw [cond_true,hb];omega
 | false=>
  have:¬b<a:=λq=>by have:=h.mpr q;exact nB this
  rw [cond_false,ha];omega
theorem SemI.close (hν:ν.ok) (h:SemI ν D I) {least:Bool} (hc:CloseOk ν D I least):SemI ν (D.close least) I.close:=by
 unfold IM.close Item.close
 refine byP λXX kX=>?_
 rcases hc with ⟨e1,e2,e3⟩ | ⟨n,v,ini,last,e1,e2,e3,e4,e5⟩
 ·refine kX ?_
  rw [e1,e2]
  refine ⟨rfl,by simp only [ZbE,ev_k,h.be],Zm2 h.le (by simp only [Zb9,ZbE,ev_k,h.be]) e3,rfl,h.wo,h.st,h.co,h.ln,h.sta,h.qu,h.ha⟩
 ·refine kX ?_
  rw [e1]
  obtain ⟨a,r,hr⟩:∃ a r,ini++[last]=a::r:=by cases ini<;>exact ⟨_,_,rfl⟩
  have hi:=Zfv ini last
  rw [e2,hr] at *
  have hl:(lenL [.seg n]).ev ν.x=(ini.length:Int):=by
   rw [←Zeh [.seg n] hν]
   show (((ν.g n++[]).length:Nat):Int)=_
   rw [List.append_nil,e3,List.length_map]
  refine ⟨?_,h.be,?_,?_,h.wo,h.st,h.co,h.ln,h.sta,h.qu,h.ha⟩
  ·show ν.g n++[]=(Ze6 (a::r)).map .int
   rw [hi.1,List.append_nil,e3]
  ·refine Zm2 h.le ?_ ?_
   ·simp only [Zb9,hl,h.be];rw [hi.1]
   ·rw [hi.1];exact e5
  ·show v.sem ν=oSV (Zkd (a::r))
   rw [hi.2,e4];rfl
theorem ZgB (D:IM):D.endWord.op=D.op∧D.endWord.be=D.be∧D.endWord.le=D.le:=by
 unfold IM.endWord
 split<;>exact i0_3 rfl rfl rfl
theorem Zc7 (I:Item):I.endWord.op=I.op∧I.endWord.be=I.be∧I.endWord.le=I.le:=by
 unfold Item.endWord
 split<;>exact i0_3 rfl rfl rfl
theorem CloseOk.endWord {least:Bool} (h:CloseOk ν D I least):CloseOk ν D.endWord I.endWord least:=by
 unfold CloseOk at h ⊢
 refine e0_3 (ZgB D) λa b c=>?_
 refine e0_3 (Zc7 I) λa' b' c'=>?_
 rw [a,a',b',c'];exact h
theorem Zhg {op:List ME} {l:List Int} (h:rowS ν op=l.map .int) {p:Lin} {p':Int} (hp:p.ev ν.x=p'):rowS ν (op++[.v (.int p)])=(l++[p']).map .int:=by
 rw [ZaL,h,List.map_append]
 show l.map SV.int++[SV.int (p.ev ν.x)]=_
 rw [hp];rfl
set_option tactic.hygienic true in
theorem ZiD (hν:ν.ok) (h:SemI ν D I) {p:Lin} {p':Int} (hp:p.ev ν.x=p') {c n:Nat} {least:Bool} (hc:c=41->I.co=false->I.st=false->I.qu=false->CloseOk ν D I least):SemI ν (ZkP D p c n least) (Zfa I p' c n):=by
 have he:=h.endWord
 have rest:SemI ν (bif D.co then (bif D.ln then (bif Nat.beq c 10 then { D with co:=false,ln:=false,sta:=.none } else D) else bif Nat.beq c 42&&Nat.beq n 47 then { D with ha:=2 } else D)
  else bif D.st then (bif D.qu then { D with qu:=false } else bif Nat.beq c 92 then { D with qu:=true } else bif Nat.beq c 34 then { D with wh:=D.sta,st:=false,sta:=.none } else D)
  else bif D.qu then { D with qu:=false } else bif Nat.beq c 47 then { D.endWord with ha:=1 } else bif Nat.beq c 92 then { D.beginWord p with qu:=true } else bif isWd c then D.beginWord p else bif Nat.beq c 40 then { D.endWord with op:=D.op++[.v (.int p)],wh:=.none }
  else bif Nat.beq c 41 then D.endWord.close least else bif Nat.beq c 34 then { D.endWord with st:=true,sta:=.int p } else D.endWord)
  (bif I.co then (bif I.ln then (bif Nat.beq c 10 then { I with co:=false,ln:=false,sta:=none } else I) else bif Nat.beq c 42&&Nat.beq n 47 then { I with ha:=2 } else I)
   else bif I.st then (bif I.qu then { I with qu:=false } else bif Nat.beq c 92 then { I with qu:=true } else bif Nat.beq c 34 then { I with wh:=I.sta,st:=false,sta:=none } else I)
   else bif I.qu then { I with qu:=false } else bif Nat.beq c 47 then { I.endWord with ha:=1 } else bif Nat.beq c 92 then { I.beginWord p' with qu:=true } else bif isWd c then I.beginWord p' else bif Nat.beq c 40 then { I.endWord with op:=I.op++[p'],wh:=none }
   else bif Nat.beq c 41 then I.endWord.close else bif Nat.beq c 34 then { I.endWord with st:=true,sta:=some p' } else I.endWord):=by
  refine ZaE h.co (λ_=>ZaE h.ln (λ_=>ZaE rfl (λ_=>?_) λ_=>h) λ_=>ZaE rfl (λ_=>?_) λ_=>h) λhco=>ZaE h.st (λ_=>ZaE h.qu (λ_=>?_) λ_=>ZaE rfl (λ_=>?_) λ_=>ZaE rfl (λ_=>?_) λ_=>h) λhst=>
   ZaE h.qu (λ_=>?_) λhqu=>ZaE rfl (λ_=>?_) λ_=>ZaE rfl (λ_=>?_) λ_=>ZaE rfl (λ_=>h.beginWord hp) λ_=>ZaE rfl (λ_=>?_) λ_=>ZaE rfl (λq=>he.close hν (hc (Nat.eq_of_beq_eq_true q) hco hst hqu).endWord) λ_=>ZaE rfl (λ_=>?_) λ_=>he
  ·exact ⟨h.op,h.be,h.le,h.wh,h.wo,h.st,rfl,rfl,rfl,h.qu,h.ha⟩
  ·exact ⟨h.op,h.be,h.le,h.wh,h.wo,h.st,h.co,h.ln,h.sta,h.qu,rfl⟩
  ·exact ⟨h.op,h.be,h.le,h.wh,h.wo,h.st,h.co,h.ln,h.sta,rfl,h.ha⟩
  ·exact ⟨h.op,h.be,h.le,h.wh,h.wo,h.st,h.co,h.ln,h.sta,rfl,h.ha⟩
  ·exact ⟨h.op,h.be,h.le,h.sta,h.wo,rfl,h.co,h.ln,rfl,h.qu,h.ha⟩
  ·exact ⟨h.op,h.be,h.le,h.wh,h.wo,h.st,h.co,h.ln,h.sta,rfl,h.ha⟩
  ·exact ⟨he.op,he.be,he.le,he.wh,he.wo,he.st,he.co,he.ln,he.sta,he.qu,rfl⟩
  ·have hb:=h.beginWord hp
   exact ⟨hb.op,hb.be,hb.le,hb.wh,hb.wo,hb.st,hb.co,hb.ln,hb.sta,rfl,hb.ha⟩
  ·exact ⟨Zhg h.op hp,he.be,he.le,rfl,he.wo,he.st,he.co,he.ln,he.sta,he.qu,he.ha⟩
  ·exact ⟨he.op,he.be,he.le,he.wh,he.wo,rfl,he.co,he.ln,congrArg SV.int hp,he.qu,he.ha⟩
 unfold ZkP Zfa
 split
 ·rename_i e
  have e':I.ha=1:=h.ha ▸ e
  rw [e']
  exact ⟨he.op,he.be,he.le,he.wh,he.wo,he.st,rfl,rfl,by show SV.int _=SV.int _;rw [Zb9,hp,ev_k],he.qu,rfl⟩
 ·rename_i e
  have e':I.ha=2:=h.ha ▸ e
  rw [e']
  exact ⟨h.op,h.be,h.le,h.wh,h.wo,h.st,rfl,rfl,rfl,h.qu,rfl⟩
 ·rename_i n1 n2
  split
  ·rename_i e;exact absurd (h.ha.trans e) n1
  ·rename_i e;exact absurd (h.ha.trans e) n2
  ·exact rest
end Mine
end
section
namespace Mine
inductive Both {α β:Type} (R:α->β->Prop):List α->List β->Prop
 | nil:Both R [] []
 | cons {a:α} {b:β} {r:List α} {q:List β}:R a b->Both R r q->Both R (a::r) (b::q)
theorem Both.append {α β:Type} {R:α->β->Prop} {a c:List α} {b e:List β} (h:Both R a b) (k:Both R c e):Both R (a++c) (b++e):=by
 induction h with
 | nil=>exact k
 | cons x _ ih=>exact .cons x ih
theorem Both.replicate {α β:Type} {R:α->β->Prop} {a:α} {b:β} (h:R a b):∀ n,Both R (List.replicate n a) (List.replicate n b)
 | 0=>.nil
 | n+1=>.cons h (Both.replicate h n)
noncomputable def lastIt (I:Item):List Item->Item
 | []=>I
 | [a]=>a
 | _::r=>lastIt I r
theorem Both.last {R:IM->Item->Prop} {l:List IM} {q:List Item} (h:Both R l q):∀ (D:IM) (I:Item),R D I->R (lastD D l) (lastIt I q):=by
 induction h with
 | nil=>exact λ_ _ h=>h
 | cons a b ih=>
  intro D I h0
  cases b with
  | nil=>exact a
  | cons c d=>exact ih D I h0
variable {ν:Vn} {D:IM} {I:Item}
theorem Ze4 (h:SemI ν D I) {p:Lin} {p':Int} (hp:p.ev ν.x=p') {t:List Nat}:∀ n a,Both (SemI ν) (Zgp D p t n a) (ZhX I p' t n a)
 | 0,_=>.nil
 | n+1,a=>.cons ⟨h.op,h.be,h.le,h.wh,h.wo,rfl,h.co,h.ln,congrArg SV.int hp,rfl,h.ha⟩ (Ze4 h hp n (a+1))
theorem Zc3 (h:SemI ν D I) {p:Lin} {p':Int} (hp:p.ev ν.x=p') {ln:Bool} {half:Nat}:∀ n a,Both (SemI ν) (Zej D p ln half n a) (Zgo I p' ln half n a)
 | 0,_=>.nil
 | n+1,a=>.cons (ZaE rfl (λ_=>⟨h.op,h.be,h.le,h.wh,h.wo,h.st,h.co,h.ln,h.sta,h.qu,rfl⟩) λ_=>⟨h.op,h.be,h.le,h.wh,h.wo,h.st,rfl,rfl,by show SV.int _=SV.int _;rw [Zb9,ZbE,hp,ev_k],h.qu,rfl⟩) (Zc3 h hp n (a+1))
theorem ZnO (hν:ν.ok) {q:Pc} (h:SemI ν D I) {p:Lin} {p':Int} (hp:p.ev ν.x=p') {least:Bool} (hc:q.k = .cl->CloseOk ν D I least):Both (SemI ν) (q.dueM D p least) (q.due I p'):=by
 have he:=h.endWord
 have hk:SemI ν (q.knownM D p least) (q.known I p'):=by
  unfold Pc.knownM Pc.known
  cases hq:q.k with
  | op=>exact ⟨Zhg h.op hp,he.be,he.le,rfl,he.wo,he.st,he.co,he.ln,he.sta,he.qu,he.ha⟩
  | cl=>exact he.close hν (hc hq).endWord
  | word=>exact h.beginWord hp
  | esc=>exact h.beginWord hp
  | _=>exact he
 have hi:Both (SemI ν) (q.innerM (q.knownM D p least) p) (q.inner (q.known I p') p'):=by
  unfold Pc.innerM Pc.inner
  cases hq:q.k with
  | str=>exact Ze4 hk hp _ _
  | line=>exact Zc3 hk hp _ _
  | block=>exact Zc3 hk hp _ _
  | esc=>exact .cons ⟨hk.op,hk.be,hk.le,hk.wh,hk.wo,hk.st,hk.co,hk.ln,hk.sta,rfl,hk.ha⟩ .nil
  | _=>exact Both.replicate hk _
 have hl:SemI ν (q.lastM (q.knownM D p least) p) (q.last (q.known I p') p'):=by
  unfold Pc.lastM Pc.last
  cases hq:q.k with
  | str=>exact ⟨hk.op,hk.be,hk.le,congrArg SV.int hp,hk.wo,hk.st,hk.co,hk.ln,hk.sta,hk.qu,hk.ha⟩
  | _=>exact hk
 unfold Pc.dueM Pc.due
 cases q.e with
 | true=>exact hi.append (.cons hl .nil)
 | false=>exact hi
noncomputable def Zad (I:Item):Nat:=bif I.co then (bif I.ln then 7 else bif Nat.beq I.ha 2 then 6 else 8) else bif I.st then (bif I.qu then 4 else 3) else bif I.qu then 2 else bif Nat.beq I.ha 1 then 5 else match I.wo with | none=>0 | some _=>1
noncomputable def Zok (op:List Int) (be le:Int) (wh:Option Int) (w s:Int):Nat->Item
 | 0=>⟨op,be,le,wh,none,false,false,false,none,false,0⟩
 | 1=>⟨op,be,le,wh,some w,false,false,false,none,false,0⟩
 | 2=>⟨op,be,le,wh,some w,false,false,false,none,true,0⟩
 | 3=>⟨op,be,le,wh,none,true,false,false,some s,false,0⟩
 | 4=>⟨op,be,le,wh,none,true,false,false,some s,true,0⟩
 | 5=>⟨op,be,le,wh,none,false,false,false,none,false,1⟩
 | 6=>⟨op,be,le,wh,none,false,true,false,some s,false,2⟩
 | 7=>⟨op,be,le,wh,none,false,true,true,some s,false,0⟩
 | _=>⟨op,be,le,wh,none,false,true,false,some s,false,0⟩
noncomputable def norm (I:Item):Item:=Zok I.op I.be I.le I.wh (I.wo.getD 0) (I.sta.getD 0) (Zad I)
noncomputable def Zj9:List (Nat × Nat × Nat):=[(0,41,0),(0,41,1),(1,41,0),(1,41,1)]
noncomputable def jobsAll:List (Nat × Nat × Nat):=ZgK++(ZfX++(ZfY++(ZgL++(ZgM++(ZgN++Zj9)))))
noncomputable def ZhD (j:Nat × Nat × Nat):Bool:=jobsAll.any λk=>Nat.beq j.1 k.1&&(Nat.beq j.2.1 k.2.1&&Nat.beq j.2.2 k.2.2)
theorem Zj8 {j:Nat × Nat × Nat} (h:ZhD j=true):j ∈ jobsAll:=by
 refine e1_2 (List.any_eq_true.mp h) λk hk h=>?_
 simp only [Bool.and_eq_true] at h
 obtain ⟨a,b,c⟩:=j
 obtain ⟨a',b',c'⟩:=k
 refine e0_3 h λh1 h2 h3=>?_;clear h
 obtain rfl:a=a':=Nat.eq_of_beq_eq_true h1
 obtain rfl:b=b':=Nat.eq_of_beq_eq_true h2
 obtain rfl:c=c':=Nat.eq_of_beq_eq_true h3
 exact hk
noncomputable def Zfp (m c:Nat) (r:List Nat) (fin:Nat):Nat:=match r with
 | []=>fin
 | c2::_=>bif ZhD (m,c,c2+2) then c2+2 else 0
noncomputable def nextJ (D:Item) (p:Int) (c:Nat) (r:List Nat) (fin:Nat):Item:=Zfa D p c (nxC (Zfp (Zad D) c r fin))
noncomputable def runJ (D:Item) (p:Int):List Nat->Nat->List Item
 | [],_=>[]
 | c::r,fin=>nextJ D p c r fin::runJ (nextJ D p c r fin) (p+1) r fin
noncomputable def Ze0 (D:Item) (p:Int):List Nat->Nat->List Item
 | [],_=>[]
 | c::r,fin=>D::Ze0 (nextJ D p c r fin) (p+1) r fin
noncomputable def Zb1 (n:Nat):Bool:=atTab.any λp=>Nat.beq p.1 n
noncomputable def covJ (D:Item) (prev:Nat) (p:Int):List Nat->Nat->Bool
 | [],_=>true
 | c::r,fin=>ZhD (Zad D,c,Zfp (Zad D) c r fin)&&((bif Nat.beq (Zad D) 5 then Nat.beq prev 47 else true)&&(Zb1 c&&covJ (nextJ D p c r fin) c (p+1) r fin))
section
variable (op:List Int) (be le w:Int) (wh:Option Int) (p:Int) (prev:Nat)
noncomputable def pl0:Item:=Item.plain op be le wh none
noncomputable def pl1:Item:=Item.plain op be le wh (some w)
theorem run0:pcs.map (λq=>runJ (pl0 op be le wh) p q.t (bif q.e then 0 else 1))=pcs.map (λq=>q.due (pl0 op be le wh) p):=by kernel_rfl
theorem run1:pcs.map (λq=>runJ (pl1 op be le w wh) p q.t (bif q.e then 0 else 1))=pcs.map (λq=>q.due (pl1 op be le w wh) p):=by kernel_rfl
theorem Zqn:pcs.map (λq=>runJ (pl0 op be le wh) p q.t 1)=pcs.map (λq=>q.due (pl0 op be le wh) p):=by kernel_rfl
theorem Zqo:pcs.map (λq=>runJ (pl1 op be le w wh) p q.t 1)=pcs.map (λq=>q.due (pl1 op be le w wh) p):=by kernel_rfl
theorem sts0 (fin:Nat):pcs.map (λq=>Ze0 (pl0 op be le wh) p q.t fin)=pcs.map (λq=>(Ze0 (pl0 op be le wh) p q.t fin).map norm):=by kernel_rfl
theorem sts1 (fin:Nat):pcs.map (λq=>Ze0 (pl1 op be le w wh) p q.t fin)=pcs.map (λq=>(Ze0 (pl1 op be le w wh) p q.t fin).map norm):=by kernel_rfl
theorem cov0:(pcs.all λq=>covJ (pl0 op be le wh) prev p q.t 1&&(bif q.e then covJ (pl0 op be le wh) prev p q.t 0 else true))=true:=by kernel_rfl
theorem cov1:(pcs.all λq=>covJ (pl1 op be le w wh) prev p q.t 1&&(bif q.e then covJ (pl1 op be le w wh) prev p q.t 0 else true))=true:=by kernel_rfl
theorem end0:pcs.map (λq=>bif q.e then lastIt (pl0 op be le wh) (q.due (pl0 op be le wh) p) else pl0 op be le wh)=pcs.map (λq=>let L:=bif q.e then lastIt (pl0 op be le wh) (q.due (pl0 op be le wh) p) else pl0 op be le wh;Item.plain L.op L.be L.le L.wh L.wo):=by cases op with
 | nil=>kernel_rfl
 | cons a r=>kernel_rfl
theorem end1:pcs.map (λq=>bif q.e then lastIt (pl1 op be le w wh) (q.due (pl1 op be le w wh) p) else pl1 op be le w wh)=pcs.map (λq=>let L:=bif q.e then lastIt (pl1 op be le w wh) (q.due (pl1 op be le w wh) p) else pl1 op be le w wh;Item.plain L.op L.be L.le L.wh L.wo):=by cases op with
 | nil=>kernel_rfl
 | cons a r=>kernel_rfl
theorem nrm0:pcs.map (λq=>lastIt (pl0 op be le wh) (q.due (pl0 op be le wh) p))=pcs.map (λq=>norm (lastIt (pl0 op be le wh) (q.due (pl0 op be le wh) p))):=by cases op with
 | nil=>kernel_rfl
 | cons a r=>kernel_rfl
theorem nrm1:pcs.map (λq=>lastIt (pl1 op be le w wh) (q.due (pl1 op be le w wh) p))=pcs.map (λq=>norm (lastIt (pl1 op be le w wh) (q.due (pl1 op be le w wh) p))):=by cases op with
 | nil=>kernel_rfl
 | cons a r=>kernel_rfl
theorem len0:pcs.map (λq=>(q.due (pl0 op be le wh) p).length)=pcs.map (λq=>q.t.length):=by kernel_rfl
theorem len1:pcs.map (λq=>(q.due (pl1 op be le w wh) p).length)=pcs.map (λq=>q.t.length):=by kernel_rfl
end
theorem Zqv:(pcs.all λq=>match q.t with | []=>false | c::r=>Zb1 c&&Nat.ble (c::r).length 8)=true:=by kernel_rfl
end Mine
end
section
namespace Mine
noncomputable def fits (code:Nat) (r:List Nat):Prop:=match code with
 | 0=>∃ n q,r=n::q∧Zb1 n=true
 | 1=>r=[]
 | k+2=>∃ q,r=k::q
structure TurnOk (D:Item) (prev p:Nat) (c:Nat) (r:List Nat) (code:Nat):Prop where
 job:(Zad D,c,code) ∈ jobsAll
 nrm:D=norm D
 prv:Zad D=5->prev=47
 sgn:Zb1 c=true
 fit:fits code r
noncomputable def Zgq:Item->Nat->Nat->List Nat->List Item->Prop
 | D,_,_,[],E=>E=[]∧D=norm D
 | D,prev,p,c::r,E=>∃ code E',E=Zfa D p c (nxC code)::E'∧TurnOk D prev p c r code∧Zgq (Zfa D p c (nxC code)) c (p+1) r E'
theorem ZjX {m c:Nat} {r r0:List Nat} {fin:Nat} (h:∀ n ∈ r,Zb1 n=true) (h0:(fin=0∧∃ n q,r0=n::q∧Zb1 n=true)∨(fin=1∧r0=[])):fits (Zfp m c r fin) (r++r0):=by
 cases r with
 | nil=>
  show fits fin r0
  rcases h0 with ⟨rfl,h⟩ | ⟨rfl,h⟩
  ·exact h
  ·exact h
 | cons c2 r=>
  show fits (bif ZhD (m,c,c2+2) then c2+2 else 0) (c2::r++r0)
  cases ZhD (m,c,c2+2) with
  | true=>exact i1_1 _ rfl
  | false=>exact i2_2 _ _ rfl (h c2 (.head _))
theorem Zgy:∀ {t:List Nat} {D:Item} {prev:Nat} {p:Int} {fin:Nat},covJ D prev p t fin=true->∀ n ∈ t,Zb1 n=true
 | [],_,_,_,_,_,_,h=>nomatch h
 | c::r,D,prev,p,fin,h,n,hn=>by
  have h':(ZhD (Zad D,c,Zfp (Zad D) c r fin)&&((bif Nat.beq (Zad D) 5 then Nat.beq prev 47 else true)&&(Zb1 c&&covJ (nextJ D p c r fin) c (p+1) r fin)))=true:=h
  simp only [Bool.and_eq_true] at h'
  rcases List.mem_cons.mp hn with rfl | hn
  ·exact h'.2.2.1
  ·exact Zgy h'.2.2.2 n hn
set_option tactic.hygienic true in
theorem Zc1 {r0:List Nat} {fin:Nat} (h0:(fin=0∧∃ n q,r0=n::q∧Zb1 n=true)∨(fin=1∧r0=[])):∀ {t:List Nat} {D:Item} {prev p:Nat} {E0:List Item},covJ D prev p t fin=true->Ze0 D p t fin=(Ze0 D p t fin).map norm->
 (∀ prev',Zgq (lastIt D (runJ D p t fin)) prev' (p+t.length) r0 E0)->(t=[]->Zgq D prev p r0 E0)->Zgq D prev p (t++r0) (runJ D p t fin++E0)
 | [],D,prev,p,E0,_,_,_,he=>he rfl
 | c::r,D,prev,p,E0,hc,hs,hE,_=>by
  have h':(ZhD (Zad D,c,Zfp (Zad D) c r fin)&&((bif Nat.beq (Zad D) 5 then Nat.beq prev 47 else true)&&(Zb1 c&&covJ (nextJ D p c r fin) c ((p:Int)+1) r fin)))=true:=hc
  simp only [Bool.and_eq_true] at h'
  have hs':D::Ze0 (nextJ D p c r fin) ((p:Int)+1) r fin=norm D::(Ze0 (nextJ D p c r fin) ((p:Int)+1) r fin).map norm:=hs
  refine e0_2 (List.cons.inj hs') λs1 s2=>?_
  have ep:((p:Int)+1)=((p+1:Nat):Int):=by omega
  refine i2_3 (Zfp (Zad D) c r fin) (runJ (nextJ D p c r fin) ((p:Int)+1) r fin++E0) rfl (⟨Zj8 h'.1,s1,λe=>?_,h'.2.2.1,ZjX (Zgy h'.2.2.2) h0⟩) ?_
  ·have:=h'.2.1
   rw [e] at this
   exact Nat.eq_of_beq_eq_true this
  ·show Zgq (nextJ D p c r fin) c (p+1) (r++r0) (runJ (nextJ D p c r fin) ((p:Int)+1) r fin++E0)
   rw [ep] at h' s2 ⊢
   refine Zc1 h0 h'.2.2.2 s2 (λprev'=>?_) (λe=>?_)
   ·have:=hE prev'
    rw [List.length_cons] at this
    rw [show p+1+r.length=p+(r.length+1) by omega]
    have e2:lastIt D (runJ D p (c::r) fin)=lastIt (nextJ D p c r fin) (runJ (nextJ D p c r fin) ((p+1:Nat):Int) r fin):=by
     show lastIt D (nextJ D p c r fin::runJ (nextJ D p c r fin) ((p:Int)+1) r fin)=_
     rw [ep]
     cases runJ (nextJ D p c r fin) ((p+1:Nat):Int) r fin with
     | nil=>rfl
     | cons _ _=>
      generalize nextJ D p c r fin=X
      show lastIt D (_::_)=lastIt X (_::_)
      rename_i a l
      clear this hE s2 hs' hs h' hc
      induction l generalizing a with
      | nil=>rfl
      | cons b l ih=>exact ih b
    rw [e2] at this;exact this
   ·have:=hE c
    subst e
    have e2:lastIt D (runJ D p [c] fin)=nextJ D p c [] fin:=rfl
    rw [e2] at this
    exact this
noncomputable def ZaG:Item->Int->List Pc->List Item
 | _,_,[]=>[]
 | D,p,q::r=>q.due D p++ZaG (lastIt D (q.due D p)) (p+q.t.length) r
noncomputable def Zc0 (qs:List Pc):List Nat:=(qs.map Pc.t).flatten
theorem ZaA {α:Type} {f g:Pc->α} (h:pcs.map f=pcs.map g) {q:Pc} (hq:q ∈ pcs):f q=g q:=List.map_inj_left.mp h q hq
set_option tactic.hygienic true in
theorem Zei {q:Pc} (hq:q ∈ pcs):∃ c r,q.t=c::r∧Zb1 c=true∧q.t.length≤8:=by
 have:=List.all_eq_true.mp Zqv q hq
 refine byP λXX kX=>?_
 split at this
 ·exact nB this
 ·rename_i c r e
  rw [Bool.and_eq_true] at this
  refine kX ?_
  exact i2_3 c r e (this.1) (by rw [e];exact Nat.le_of_ble_eq_true this.2)
structure PcOk (D:Item) (q:Pc) (p:Int):Prop where
 run:∀ fin,(fin=1∨(fin=0∧q.e=true))->runJ D p q.t fin=q.due D p∧Ze0 D p q.t fin=(Ze0 D p q.t fin).map norm∧∀ prev,covJ D prev p q.t fin=true
 fin:q.e=true->∃ op be le wh wo,lastIt D (q.due D p)=Item.plain op be le wh wo
 len:(q.due D p).length=q.t.length
 nrm:lastIt D (q.due D p)=norm (lastIt D (q.due D p))
theorem pcOk {q:Pc} (hq:q ∈ pcs) (op:List Int) (be le:Int) (wh wo:Option Int) (p:Int):PcOk (Item.plain op be le wh wo) q p:=by
 cases wo with
 | none=>
  have hc:=λprev=>List.all_eq_true.mp (cov0 op be le wh p prev) q hq
  simp only [Bool.and_eq_true] at hc
  refine ⟨λfin hf=>⟨?_,ZaA (sts0 op be le wh p fin) hq,λprev=>?_⟩,λhe=>?_,ZaA (len0 op be le wh p) hq,ZaA (nrm0 op be le wh p) hq⟩
  ·rcases hf with rfl | ⟨rfl,he⟩
   ·exact ZaA (Zqn op be le wh p) hq
   ·have:=ZaA (run0 op be le wh p) hq
    rw [he] at this;exact this
  ·rcases hf with rfl | ⟨rfl,he⟩
   ·exact (hc prev).1
   ·have:=(hc prev).2
    rw [he] at this;exact this
  ·have:=ZaA (end0 op be le wh p) hq
   rw [he] at this
   exact i5_1 _ _ _ _ _ this
 | some w=>
  have hc:=λprev=>List.all_eq_true.mp (cov1 op be le w wh p prev) q hq
  simp only [Bool.and_eq_true] at hc
  refine ⟨λfin hf=>⟨?_,ZaA (sts1 op be le w wh p fin) hq,λprev=>?_⟩,λhe=>?_,ZaA (len1 op be le w wh p) hq,ZaA (nrm1 op be le w wh p) hq⟩
  ·rcases hf with rfl | ⟨rfl,he⟩
   ·exact ZaA (Zqo op be le w wh p) hq
   ·have:=ZaA (run1 op be le w wh p) hq
    rw [he] at this;exact this
  ·rcases hf with rfl | ⟨rfl,he⟩
   ·exact (hc prev).1
   ·have:=(hc prev).2
    rw [he] at this;exact this
  ·have:=ZaA (end1 op be le w wh p) hq
   rw [he] at this
   exact i5_1 _ _ _ _ _ this
theorem Zhj:∀ {qs:List Pc} {op:List Int} {be le:Int} {wh wo:Option Int} {prev p:Nat},(∀ q ∈ qs,q ∈ pcs)->(∀ j q,qs[j]? = some q->q.e=true∨j+1=qs.length)->
 Zgq (Item.plain op be le wh wo) prev p (Zc0 qs) (ZaG (Item.plain op be le wh wo) p qs)
 | [],_,_,_,wh,wo,_,_,_,_=>⟨rfl,by cases wo<;>rfl⟩
 | q::r,op,be,le,wh,wo,prev,p,hm,he=>by
  have hq:=hm q (.head _)
  have hp:=pcOk hq op be le wh wo p
  refine e2_3 (Zei hq) λc0 t0 ht _ _=>?_
  have hr:∀ q ∈ r,q ∈ pcs:=λq hq=>hm q (.tail _ hq)
  have e1:Zc0 (q::r)=q.t++Zc0 r:=rfl
  have e2:ZaG (Item.plain op be le wh wo) p (q::r)=q.due (Item.plain op be le wh wo) p++ZaG (lastIt (Item.plain op be le wh wo) (q.due (Item.plain op be le wh wo) p)) ((p:Int)+q.t.length) r:=rfl
  rw [e1,e2]
  cases r with
  | nil=>
   refine e0_3 (hp.run 1 (.inl rfl)) λh1 h2 h3=>?_
   have:=Zc1 (r0:=Zc0 []) (fin:=1) (E0:=[]) (.inr ⟨rfl,rfl⟩) (h3 prev) h2 (λ_=>⟨rfl,by rw [h1];exact hp.nrm⟩) (λe=>by rw [e] at ht;cases ht)
   rw [h1] at this
   exact this
  | cons q2 r=>
   have hqe:q.e=true:=by
    rcases he 0 q rfl with h | h
    ·exact h
    ·simp at h
   refine e0_3 (hp.run 0 (.inr ⟨rfl,hqe⟩)) λh1 h2 h3=>?_
   refine e5_1 (hp.fin hqe) λop' be' le' wh' wo' hf=>?_
   refine e2_3 (Zei (hr q2 (.head _))) λc t ht2 hs2 _=>?_
   have:=Zc1 (r0:=Zc0 (q2::r)) (fin:=0) (E0:=ZaG (lastIt (Item.plain op be le wh wo) (q.due (Item.plain op be le wh wo) p)) ((p:Int)+q.t.length) (q2::r)) (.inl ⟨rfl,c,t++Zc0 r,by
    show q2.t++Zc0 r=_
    rw [ht2];rfl,hs2⟩) (h3 prev) h2 (λprev'=>?_) (λe=>by rw [e] at ht;cases ht)
   ·rw [h1] at this
    exact this
   ·rw [h1,hf,show ((p:Int)+q.t.length)=((p+q.t.length:Nat):Int) by omega]
    refine Zhj hr λj q' hj=>?_
    rcases he (j+1) q' (by simpa using hj) with h | h
    ·exact .inl h
    ·right;simp only [List.length_cons] at h ⊢;omega
end Mine
end
section
namespace Mine
variable {G:Gl} {B:Bs} {ρ:List (Addr × Obj)} {σ:List SO} {ls ls':List (Str × SV)} {rs:Shared} {d:Nat}
noncomputable def Zqa (o:SO):Prop:=∀ ρ,anfO ρ o=o
theorem ZoX {ρ1:List (Addr × Obj)} {v:SV} {rv:Value} (hp:ρ1 <+: ρ) (h:V ρ1 v rv):anfV ρ v=anfV ρ1 v:=by
 cases h with
 | ref e=>
  refine e1_1 hp λr wq=>?_;clear hp;subst wq
  simp only [anfV,List.getElem?_append_left (List.getElem?_eq_some_iff.mp e).1]
 | _=>rfl
theorem Znn {ρ1:List (Addr × Obj)} {vs:List SV} {rvs:List Value} (hp:ρ1 <+: ρ) (h:VL ρ1 vs rvs):vs.map (anfV ρ)=vs.map (anfV ρ1):=by
 induction h with
 | nil=>rfl
 | cons a _ ih=>rw [List.map_cons,List.map_cons,ZoX hp a,ih]
theorem Zkb {ρ1:List (Addr × Obj)} {α β:Type} {f:α->β} {l:List (α × SV)} {r:List (β × Value)} (hp:ρ1 <+: ρ) (h:KVR ρ1 f l r):(l.map λp=>(p.1,anfV ρ p.2))=l.map λp=>(p.1,anfV ρ1 p.2):=by
 induction h with
 | nil=>rfl
 | cons a _ ih=>rw [List.map_cons,List.map_cons,ih,ZoX hp a]
theorem Zlf {ρ1:List (Addr × Obj)} {at_:List (Str × SV)} {es:List DictEntry} (hp:ρ1 <+: ρ) (h:AttrE ρ1 at_ es):(at_.map λp=>(p.1,anfV ρ p.2))=at_.map λp=>(p.1,anfV ρ1 p.2):=by
 induction h with
 | nil=>rfl
 | cons a _ ih=>rw [List.map_cons,List.map_cons,ih,ZoX hp a]
theorem Znb {ρ1:List (Addr × Obj)} {o:SO} {a:Addr × Obj} {es:List (Addr × Obj)} (hp:ρ1 <+: ρ) (h:OR G ρ1 o a es):anfO ρ o=anfO ρ1 o:=by
 cases h with
 | inst y _ _=>simp only [anfO,Zlf hp y]
 | list y _=>simp only [anfO,Znn hp y]
 | tuple y _=>simp only [anfO,Znn hp y]
 | dictI y _ _ _=>simp only [anfO,Zkb hp y]
 | dictS y _ _=>simp only [anfO,Zkb hp y]
 | range=>rfl
 | deck _ _ _ _ _=>rfl
theorem Zns (o:SO):anfO [] o=o:=by
 have hv:∀ v:SV,anfV [] v=v:=λv=>by cases v<;>rfl
 have hf:anfV []=id:=funext hv
 cases o<;>simp [anfO,hf]
theorem Zeg {o:SO} {a:Addr × Obj} {es:List (Addr × Obj)} (h:OR G [] o a es):Zqa o:=λρ=>by rw [Znb List.nil_prefix h,Zns]
noncomputable abbrev ads (K:List Tr):List (Addr × Obj):=K.map (·.1)
noncomputable abbrev sos (K:List Tr):List SO:=K.map (·.2.1)
noncomputable abbrev prs (K:List Tr):List (Addr × SO):=K.map λt=>(t.1.1,t.2.1)
theorem Zfu {K:List Tr} (h:Good G K) (ρ:List (Addr × Obj)):(sos K).map (anfO ρ)=sos K:=by
 rw [List.map_map]
 exact List.map_congr_left λt ht=>Zeg (h t ht) ρ
theorem live {pre:List (Addr × Obj)} {K:List Tr} (x:Hs G (B.mid pre (flat K)) [] [] ls rs) (h:Good G K):Hs G (B.mid pre []) (ads K) (sos K) ls rs:=by
 have hd:look (Str.ofString "__debug__") ls=none:=by obtain ⟨m,led,F,N,R,Lc⟩:=x.ex;exact Lc.dbg
 exact thaw (T:=K) (R:=[]) (σ':=sos K) (ls':=ls) x h (by rw [List.append_nil]) (Zfu h _) (LsTo.mono List.nil_prefix hd)
theorem dead {pre:List (Addr × Obj)} {K:List Tr} (x:Hs G (B.mid pre []) (ads K) (sos K) ls rs) (h:Good G K):∃ K',ads K'=ads K∧sos K'=sos K∧Good G K'∧Hs G (B.mid pre (flat K')) [] [] (Zax (ads K) ls) rs:=by
 refine e1_4 (ZaD x) λT f1 f2 g y=>?_
 rw [Zfu h] at f2
 rw [List.append_nil] at y
 exact i1_4 T f1 f2 g y
theorem Zhd {K K':List Tr} (h1:ads K'=ads K) (h2:sos K'=sos K):prs K'=prs K:=by
 have key:∀ K:List Tr,prs K=((ads K).map (·.1)).zip (sos K):=λK=>by
  induction K with
  | nil=>rfl
  | cons t r ih=>exact congrArg (List.cons (t.1.1,t.2.1)) ih
 rw [key,key,h1,h2]
noncomputable def Told (P:List (Addr × SO)) (a:Addr) (E:Item):Prop:=∃ oa,(a,SO.tuple (.glob (.ref oa)::E.fl)) ∈ P∧(oa,SO.tuple (E.op.map .int)) ∈ P
noncomputable def ZmZ:SO->Bool
 | .tuple _=>true
 | _=>false
theorem Told.mono {P P':List (Addr × SO)} (h:∀ p ∈ P,ZmZ p.2=true->p ∈ P') {a:Addr} {E:Item} (x:Told P a E):Told P' a E:=by
 refine e1_2 x λoa h1 h2=>?_;clear x
 exact i1_2 oa (h _ h1 rfl) (h _ h2 rfl)
theorem Both.imp {α β:Type} {R S:α->β->Prop} (h:∀ a b,R a b->S a b) {l:List α} {q:List β} (x:Both R l q):Both S l q:=by
 induction x with
 | nil=>exact .nil
 | cons a _ ih=>exact .cons (h _ _ a) ih
theorem Both.len {α β:Type} {R:α->β->Prop} {l:List α} {q:List β} (x:Both R l q):l.length=q.length:=by
 induction x with
 | nil=>rfl
 | cons _ _ ih=>simp [ih]
section
variable {Γ:Tab} {ν:Vn} {s:St} {T:List Tr}
theorem ZaV (f1:ads T=ρ) (f2:sos T=(semH Γ ν s).map (anfO ρ)) {n:Nat} {o:MO} (h:cell Γ s n=some o):∃ t,T[n]? = some t∧t.2.1=anfO ρ (o.sem ν)∧ρ[n]? = some t.1:=by
 have e:=Zac (ν:=ν) h
 have e2:(sos T)[n]? = some (anfO ρ (o.sem ν)):=by rw [f2,List.getElem?_map,e];rfl
 rw [List.getElem?_map] at e2
 generalize q:T[n]? = wo at e2
 revert q;revert wo;show Fa _ _;refine Opt.on_some zN0 (λt e2=>?_);intro q
 exact i1_3 t rfl (Option.some.inj e2) (by rw [←f1,List.getElem?_map,q];rfl)
theorem Za7 {n:Nat} {t:Tr} (h:T[n]? = some t):(t.1.1,t.2.1) ∈ prs T:=List.mem_map.mpr ⟨t,List.mem_of_getElem? h,rfl⟩
theorem ZbL (hν:ν.ok):∀ {a b:List ME},Zdz a b=true->rowS ν a=rowS ν b
 | [],[],_=>rfl
 | .v x::r,.v y::q,h=>by
  have h':=Bool.and_eq_true_iff.mp (show (mvEq x y&&Zdz r q)=true from h)
  show x.sem ν::rowS ν r=y.sem ν::rowS ν q
  rw [ZbL hν h'.2,(ZaY hν h'.1).1]
 | .seg n::r,.seg k::q,h=>by
  have h':=Bool.and_eq_true_iff.mp (show (Nat.beq n k&&Zdz r q)=true from h)
  show ν.g n++rowS ν r=ν.g k++rowS ν q
  rw [ZbL hν h'.2,Nat.eq_of_beq_eq_true h'.1]
 | [],.v _::_,h=>by exact nB h
 | [],.seg _::_,h=>by exact nB h
 | .v _::_,[],h=>by exact nB h
 | .seg _::_,[],h=>by exact nB h
 | .v _::_,.seg _::_,h=>by exact nB h
 | .seg _::_,.v _::_,h=>by exact nB h
theorem Zct (l:List Int) (ρ:List (Addr × Obj)):(l.map SV.int).map (anfV ρ)=l.map .int:=by rw [List.map_map];rfl
theorem Zih (E:Item) (ρ:List (Addr × Obj)):E.fl.map (anfV ρ)=E.fl:=by
 have ho:∀ o:Option Int,anfV ρ (oSV o)=oSV o:=λo=>by cases o<;>rfl
 unfold Item.fl
 simp only [List.map_cons,List.map_nil,ho]
 cases E.st<;>rfl
theorem ZeQ {D:IM} {o:Option MO} (h:Zks D o=true):∃ row,o=some (.tuple row)∧Zdz row D.op=true:=by
 revert o;show Fa _ _;refine Opt.on_some zB0 (λo h=>?_)
 revert o;show Fa _ _;refine MO.on_tuple zB2 zB1 zB1 zB1 zB2 zB1 (λrow h=>?_)
 exact ⟨row,rfl,h⟩
theorem Zj6 {D:IM} {o:Option MO} (h:Zpv Γ s D o=true):∃ k fl,o=some (.tuple (.v (.ref k)::fl))∧Zks D (cell Γ s k)=true∧Zdz fl (D.fl.map .v)=true:=by
 revert o;show Fa _ _;refine Opt.on_some zB0 (λo h=>?_)
 revert o;show Fa _ _;refine MO.on_tuple zB2 zB1 zB1 zB1 zB2 zB1 (λxs h=>?_)
 revert xs;show Fa _ _;refine Lis.on_cons zB0 (λe fl h=>?_)
 revert e;show Fa _ _;refine ME.on_v zB1 (λv h=>?_)
 revert v;show Fa _ _;refine MV.on_ref zB0 zB1 zB1 zB1 zB1 zB1 zB1 zB1 (λk h=>?_)
 have h1:=Bool.and_eq_true_iff.mp h
 exact ⟨k,fl,rfl,h1.1,h1.2⟩
theorem Zj5 {D:IM} {v:MV} (h:ZlF Γ s v D=true):∃ n k fl row,v = .ref n∧cell Γ s n=some (.tuple (.v (.ref k)::fl))∧cell Γ s k=some (.tuple row)∧Zdz row D.op=true∧Zdz fl (D.fl.map .v)=true:=by
 revert v;show Fa _ _;refine MV.on_ref zB0 zB1 zB1 zB1 zB1 zB1 zB1 zB1 (λn h=>?_)
 refine e2_3 (Zj6 h) λk fl h1 h2 h3=>?_
 refine e1_2 (ZeQ h2) λrow h4 h5=>?_
 exact i4_5 n k fl row rfl h1 h4 h5 h3
theorem Zj7 (hν:ν.ok) (f1:ads T=ρ) (f2:sos T=(semH Γ ν s).map (anfO ρ)) {v:MV} {D:IM} {E:Item} (hC:ZlF Γ s v D=true) (hE:SemI ν D E) {rv:SV} (hr:rv=anfV ρ (v.sem ν)):∃ a,rv = .glob (.ref a)∧Told (prs T) a E:=by
 refine e4_5 (Zj5 hC) λn k fl row ev hc hc2 h1 h2=>?_
 subst ev
 refine e1_3 (ZaV f1 f2 hc) λt q1 q2 q3=>?_
 refine e1_3 (ZaV f1 f2 hc2) λu w1 w2 w3=>?_
 refine i1_2 (t.1.1) (by rw [hr];simp only [MV.sem,anfV,q3]) (⟨u.1.1,?_,?_⟩)
 ·have:t.2.1 = .tuple (.glob (.ref u.1.1)::E.fl):=by
   rw [q2]
   show SO.tuple ((SV.ref k::rowS ν fl).map (anfV ρ))=_
   rw [List.map_cons,ZbL hν h2,Zd4,hE.fl,Zih]
   simp only [anfV,w3]
  rw [←this];exact Za7 q1
 ·have:u.2.1 = .tuple (E.op.map .int):=by
   rw [w2]
   show SO.tuple ((rowS ν row).map (anfV ρ))=_
   rw [ZbL hν h1,hE.op,Zct]
  rw [←this];exact Za7 w1
theorem Zfy (hν:ν.ok) (f1:ads T=ρ) (f2:sos T=(semH Γ ν s).map (anfO ρ)):∀ {r:List ME} {q:List IM} {E:List Item},Zfx Γ s r q=true->Both (SemI ν) q E->∃ as:List Addr,(rowS ν r).map (anfV ρ)=as.map (λa=>.glob (.ref a))∧Both (Told (prs T)) as E
 | [],[],_,_,.nil=>⟨[],rfl,.nil⟩
 | .v v::r,D::q,_,h,.cons h1 h2=>by
  have h':=Bool.and_eq_true_iff.mp (show (ZlF Γ s v D&&Zfx Γ s r q)=true from h)
  refine e1_2 (Zj7 hν f1 f2 h'.1 h1 rfl) λa e1 e2=>?_
  refine e1_2 (Zfy hν f1 f2 h'.2 h2) λas e3 e4=>?_
  refine i1_2 (a::as) ?_ (.cons e2 e4)
  show anfV ρ (v.sem ν)::(rowS ν r).map (anfV ρ)=_
  rw [e1,e3];rfl
 | [],_::_,_,h,_=>by exact nB h
 | .v _::_,[],_,h,_=>by exact nB h
 | .seg _::_,[],_,h,_=>by exact nB h
 | .seg _::_,_::_,_,h,_=>by exact nB h
end
end Mine
end
section
namespace Mine
variable {G:Gl} {B:Bs} {ρ:List (Addr × Obj)} {σ:List SO} {ls ls':List (Str × SV)} {rs:Shared} {d:Nat}
noncomputable section
theorem ZeH {ls:List (Str × SV)}:∀ {l:List (Str × SV)},Both (λa b:Str × SV=>a.1=b.1∧∀ rv,V [] a.2 rv->V ρ b.2 rv) ls l->∀ y v,look y l=some v->∃ u,look y ls=some u∧∀ rv,V [] u rv->V ρ v rv:=by
 intro l h
 induction h with
 | nil=>intro y v e;exact nN e
 | cons a _ ih=>
  intro y v e
  rw [Zab] at e ⊢
  rw [a.1]
  generalize q:seq y _=wo at e
  cases wo with
  | true=>have wq:=Option.some.inj e;clear e;subst wq;exact i1_2 _ rfl (a.2)
  | false=>exact ih y v e
theorem Zch (h:∀ p ∈ ls',look p.1 ls=some p.2) (hd:look (Str.ofString "__debug__") ls'=none):LsTo [] [] ls ls':=
 ⟨hd,λy v e=>⟨v,h (y,v) (Zf0 e),λ_ h=>h⟩⟩
theorem ZbT {ν:Vn} {x:Str} {v:MV} {l:List (Str × MV)} (h:look x l=some v):look x (Zax ρ (semL ν l))=some (anfV ρ (v.sem ν)):=by
 unfold Zax semL
 rw [Zat (anfV ρ),Zat (MV.sem ν),h];rfl
noncomputable abbrev Zag (as:List Addr):List SV:=as.map λa=>.glob (.ref a)
noncomputable def Zcp (oa fa:Addr) (D:Item) (p:Int):List (Str × SV):=[(Str.ofString "opens",.glob (.ref oa)),(Str.ofString "below",.int D.be),(Str.ofString "least",.int D.le),(Str.ofString "last_one",oSV D.wh),(Str.ofString "word",oSV D.wo),(Str.ofString "place",.int p),(Str.ofString "found",.glob (.ref fa))]
noncomputable def nuS (be le w last p:Int) (wh:Option Int) (ini:List Int) (as:List Addr):Vn:=mkN [(10,be),(12,le),(14,w),(18,last),(50,p)] [(2,ini.map .int),(0,as.map λ_=>.int 0),(100,Zag as)] [(0,oSV wh)] (λ_=>0) []
theorem ZpI {be le w last p:Int} {wh:Option Int} {ini:List Int} {as:List Addr} (h1:ini.length≤4096) (h2:as.length≤4096):(nuS be le w last p wh ini as).ok:=by
 refine Zb2 (λq hq=>?_) (λq hq hl=>?_) (λq hq hl=>?_) (λq hq=>?_) (λ_ h=>nomatch h)
 ·obtain rfl:=List.mem_singleton.mp hq
  cases wh with
  | none=>exact .inl rfl
  | some w=>exact .inr ⟨w,rfl⟩
 ·simp only [List.mem_cons,List.not_mem_nil,or_false] at hq
  rcases hq with rfl | rfl | rfl
  ·intro v hv;refine e1_2 (List.mem_map.mp hv) λn _ wq=>?_;subst wq;exact i1_1 n rfl
  ·intro v hv;refine e1_2 (List.mem_map.mp hv) λn _ wq=>?_;subst wq;exact i1_1 (0) rfl
  ·exact absurd hl (by decide:¬100<100)
 ·simp only [List.mem_cons,List.not_mem_nil,or_false] at hq
  rcases hq with rfl | rfl | rfl
  ·exact absurd hl (by decide:¬100≤2)
  ·exact absurd hl (by decide:¬100≤0)
  ·have e:lookN (100 % 100) [(2,ini.map SV.int),(0,as.map λ_=>SV.int 0),(100,Zag as)]=some (as.map λ_=>SV.int 0):=by kernel_rfl
   show ((lookN (100 % 100) [(2,ini.map SV.int),(0,as.map λ_=>SV.int 0),(100,Zag as)]).getD []).length=(Zag as).length
   rw [e]
   show (as.map λ_=>SV.int 0).length=_
   rw [List.length_map,List.length_map]
 ·simp only [List.mem_cons,List.not_mem_nil,or_false] at hq
  rcases hq with rfl | rfl | rfl<;>(simp only [List.length_map];assumption)
noncomputable def woM:Option Int->Nat
 | none=>0
 | some _=>1
theorem ZkC {ν:Vn} {op:List Int} {be le:Int} {wh wo:Option Int} {opM:List ME} (h0:rowS ν opM=op.map .int) (h1:ν.x 10=be) (h2:ν.x 12=le) (h3:ν.o 0=oSV wh) (h4:ν.x 14=wo.getD 0):SemI ν (modeM opM (woM wo)) (Item.plain op be le wh wo):=by
 cases wo with
 | none=>exact ⟨h0,by rw [←h1];exact ev_x _ _,by rw [←h2];exact ev_x _ _,h3,.inl ⟨rfl,rfl⟩,rfl,rfl,rfl,rfl,rfl,rfl⟩
 | some w=>exact ⟨h0,by rw [←h1];exact ev_x _ _,by rw [←h2];exact ev_x _ _,h3,.inr ⟨.x 14,rfl,by rw [ev_x,h4];rfl⟩,rfl,rfl,rfl,rfl,rfl,rfl⟩
theorem ZmW {ν:Vn} {b:Bool} (h:b=true ↔ 0-(ν.x 10+1)<ν.x 12):FxOk ν (fxE b):=λp hp=>by
 obtain rfl:=List.mem_singleton.mp hp
 show b=true ↔ 0<(1:Int)+(1 * ν.x 10+(1 * ν.x 12+0))
 rw [h];omega
theorem ZmX {ν:Vn} {b:Bool} (h:b=true ↔ ν.x 5-ν.x 10<ν.x 12):FxOk ν (fxL b):=λp hp=>by
 obtain rfl:=List.mem_singleton.mp hp
 show b=true ↔ 0<(0:Int)+(-1 * ν.x 5+(1 * ν.x 10+(1 * ν.x 12+0)))
 rw [h];omega
theorem op_snoc (op:List Int):op=[]∨∃ ini last,op=ini++[last]:=by
 rcases List.eq_nil_or_concat op with h | ⟨l,a,h⟩
 ·exact .inl h
 ·exact .inr ⟨l,a,by rw [h,List.concat_eq_append]⟩
noncomputable def isCl:Ks->Bool
 | .cl=>true
 | _=>false
theorem Zqm:((pcs.drop 2).all λq=>!isCl q.k)=true:=by kernel_rfl
theorem ZmA {q:Pc} (hq:q ∈ pcs) (op:List Int) (be le:Int) (wh wo:Option Int) (p:Int) (as:List Addr):∃ (ini:List Int) (last:Int) (opM:List ME) (m:Nat) (fx:List (Cnd × Bool)) (least:Bool),ini.length≤op.length∧stsK opM m q fx least=true∧
 SemI (nuS be le (wo.getD 0) last p wh ini as) (modeM opM m) (Item.plain op be le wh wo)∧FxOk (nuS be le (wo.getD 0) last p wh ini as) fx∧(q.k = .cl->CloseOk (nuS be le (wo.getD 0) last p wh ini as) (modeM opM m) (Item.plain op be le wh wo) least):=by
 have hpl:∀ (ini:List Int) (last:Int) (opM:List ME),rowS (nuS be le (wo.getD 0) last p wh ini as) opM=op.map .int->SemI (nuS be le (wo.getD 0) last p wh ini as) (modeM opM (woM wo)) (Item.plain op be le wh wo):=λini last opM h=>ZkC h rfl rfl rfl rfl
 have hm:∀ opM,(modeM opM (woM wo)).op=opM:=λopM=>by cases wo<;>rfl
 have two:∀ (ini:List Int) (last:Int),rowS (nuS be le (wo.getD 0) last p wh ini as) opL=(ini++[last]).map .int:=λini last=>by
  show ini.map SV.int++([SV.int ((Lin.x 18).ev (nuS be le (wo.getD 0) last p wh ini as).x)]++[])=_
  rw [ev_x,List.map_append];rfl
 have hc:pcs=⟨.op,[40],true⟩::⟨.cl,[41],true⟩::pcs.drop 2:=rfl
 rw [hc] at hq
 rcases List.mem_cons.mp hq with rfl | hq
 ·rcases op_snoc op with rfl | ⟨ini,last,rfl⟩
  ·refine i6_5 ([]) (0) ([]) _ ([]) false (Nat.le_refl _) ?_ (hpl [] 0 [] rfl) (λ_ h=>(nomatch h)) (λh=>by cases h)
   have h0:=Bool.and_eq_true_iff.mp Znh
   have h1:=Bool.and_eq_true_iff.mp Zni
   cases wo with
   | none=>exact h0.1
   | some w=>exact h1.1
  ·refine i6_5 ini last opL _ ([]) false (by simp) ?_ (hpl ini last opL (two _ _)) (λ_ h=>(nomatch h)) (λh=>by cases h)
   have h0:=Bool.and_eq_true_iff.mp Znh
   have h1:=Bool.and_eq_true_iff.mp Zni
   cases wo with
   | none=>exact h0.2
   | some w=>exact h1.2
 rcases List.mem_cons.mp hq with rfl | hq
 ·rcases op_snoc op with rfl | ⟨ini,last,rfl⟩
  ·refine i6_5 ([]) (0) ([]) _ (fxE (decide (0-(be+1)<le))) (decide (0-(be+1)<le)) (Nat.le_refl _) ?_ (hpl [] 0 [] rfl) (ZmW (by rw [decide_eq_true_iff];exact Iff.rfl)) (λ_=>.inl ⟨hm _,rfl,decide_eq_true_iff⟩)
   cases wo with
   | none=>exact Zoy _
   | some w=>exact Zoz _
  ·refine i6_5 ini last opL _ (fxL (decide ((ini.length:Int)-be<le))) (decide ((ini.length:Int)-be<le)) (by simp) ?_ (hpl ini last opL (two _ _)) (ZmX (by
    rw [decide_eq_true_iff]
    have:(nuS be le (wo.getD 0) last p wh ini as).x 5=ini.length:=by show (((ini.map SV.int).length:Nat):Int)=_;rw [List.length_map]
    rw [this];exact Iff.rfl)) (λ_=>.inr ⟨2,.int (.x 18),ini,last,hm _,rfl,rfl,by simp only [MV.sem,ev_x];rfl,decide_eq_true_iff⟩)
   cases wo with
   | none=>exact ZoA _
   | some w=>exact ZoB _
 ·refine i6_5 op (0) ([.seg 2]) _ ([]) false (Nat.le_refl _) ?_ (hpl op 0 [.seg 2] (List.append_nil _)) (λ_ h=>(nomatch h)) (λh=>?_)
  ·have:=ZoG hq
   cases wo with
   | none=>exact this.1
   | some w=>exact this.2
  ·exfalso
   have h2:=List.all_eq_true.mp Zqm q hq
   rw [h] at h2;exact nB h2
end
end Mine
end
section
namespace Mine
variable {G:Gl} {B:Bs} {ρ:List (Addr × Obj)} {σ:List SO} {ls ls':List (Str × SV)} {rs:Shared} {d:Nat}
noncomputable section
noncomputable def stsX (q:Pc):List (Str × SV):=[(Str.ofString "sort",.str q.k.name),(Str.ofString "text",.str q.t),(Str.ofString "ends",.bool q.e)]
theorem ZeG {f:MV->Bool} {x:String} {s:St} (h:ZcI f x s=true):∃ v,look (Str.ofString x) s.ls=some v∧f v=true:=by
 unfold ZcI at h
 generalize look (Str.ofString x) s.ls=wo at h ⊢
 revert wo;show Fa _ _;refine Opt.on_some zB0 (λv h=>?_)
 exact ⟨v,rfl,h⟩
theorem ZiU {Γ:Tab} {due:List IM} {o:Option MO} (h:ZmV Γ s due o=true):∃ r,o=some (.list (.seg 100::r))∧Zfx Γ s r due=true:=by
 revert o;show Fa _ _;refine Opt.on_some zB0 (λo h=>?_)
 revert o;show Fa _ _;refine MO.on_list zB2 zB1 zB1 zB1 zB2 zB1 (λxs h=>?_)
 revert xs;show Fa _ _;refine Lis.on_cons zB0 (λe r h=>?_)
 revert e;show Fa _ _;refine ME.on_seg zB1 (λk h=>?_)
 have h1:=Bool.and_eq_true_iff.mp h
 exact ⟨r,by rw [Nat.eq_of_beq_eq_true h1.1],h1.2⟩
theorem ZiT {Γ:Tab} {due:List IM} {v:MV} (h:ZmU Γ s due v=true):∃ n r,v = .ref n∧cell Γ s n=some (.list (.seg 100::r))∧Zfx Γ s r due=true:=by
 revert v;show Fa _ _;refine MV.on_ref zB0 zB1 zB1 zB1 zB1 zB1 zB1 zB1 (λn h=>?_)
 refine e1_2 (ZiU h) λr h1 h2=>i2_3 n r rfl h1 h2
theorem Zi9 {Γ:Tab} {D:IM} {v:MV} (h:Zm9 Γ s D v=true):∃ n row,v = .ref n∧cell Γ s n=some (.tuple row)∧Zdz row D.op=true:=by
 revert v;show Fa _ _;refine MV.on_ref zB0 zB1 zB1 zB1 zB1 zB1 zB1 zB1 (λn h=>?_)
 refine e1_2 (ZeQ h) λr h1 h2=>i2_3 n r rfl h1 h2
theorem Zf2 {op:List ME}:∀ m,(modeM op m).op=op
 | 0=>rfl | 1=>rfl | 2=>rfl | 3=>rfl | 4=>rfl | 5=>rfl | 6=>rfl | 7=>rfl | _+8=>rfl
theorem ZpV {D:Item} {be le last p:Int} {wh wo:Option Int} {ini:List Int} {as:List Addr} {oa fa:Addr} {o1 o2:Obj} {q:Pc} {opM:List ME} {m:Nat} {fx:List (Cnd × Bool)} (h:SemI (nuS be le (wo.getD 0) last p wh ini as) (modeM opM m) D):
 LsTo [] [(oa,o1),(fa,o2)] (Zcp oa fa D p++stsX q) (semL (nuS be le (wo.getD 0) last p wh ini as) (Zjk (modeM opM m) q fx).ls):=by
 have hw:(modeM opM m).wo.sem (nuS be le (wo.getD 0) last p wh ini as)=oSV D.wo:=by
  rcases h.wo with ⟨e1,e2⟩ | ⟨l,e1,e2⟩<;>(rw [e1,e2];rfl)
 have up:∀ {v w:SV},w=v->∀ rv,V [] v rv->V [(oa,o1),(fa,o2)] w rv:=λe rv h=>by rw [e];exact h.mono List.nil_prefix
 refine i0_2 (by kernel_rfl) (ZeH (.cons ⟨rfl,λrv h=>?_⟩ (.cons ⟨rfl,up ?_⟩ (.cons ⟨rfl,up ?_⟩ (.cons ⟨rfl,up h.wh⟩ (.cons ⟨rfl,up hw⟩ (.cons ⟨rfl,up ?_⟩ (.cons ⟨rfl,λrv h=>?_⟩ (.cons ⟨rfl,up rfl⟩ (.cons ⟨rfl,up rfl⟩ (.cons ⟨rfl,up rfl⟩ .nil)))))))))))
 ·refine e0_2 (V.glob_inv h) λwq _=>?_;clear h;subst wq;exact .ref (o:=o1) rfl
 ·exact congrArg SV.int h.be
 ·exact congrArg SV.int h.le
 ·show SV.int ((Lin.x 50).ev _)=_;rw [ev_x];rfl
 ·refine e0_2 (V.glob_inv h) λwq _=>?_;clear h;subst wq;exact .ref (o:=o2) rfl
theorem ZmB {Pm:Params} (hK:G.K=KF Pm) (O:Ok G B 15) (e1:B.sc=stsS) {pre:List (Addr × Obj)} {K:List Tr} (good:Good G K) {op:List Int} {be le p:Int} {wh wo:Option Int} {as:List Addr} {E:List Item} {oa fa:Addr} {q:Pc} (hq:q ∈ pcs) (hol:op.length≤4000) (hal:as.length≤4000)
 (hop:(oa,SO.tuple (op.map .int)) ∈ prs K) (hfa:(fa,SO.list (Zag as)) ∈ prs K) (hT:Both (Told (prs K)) as E) (x:Hs G (B.mid pre (flat K)) [] [] (Zcp oa fa (Item.plain op be le wh wo) p++stsX q) rs):
 wpAny G.M B.A (execs stsL B.env) (λf rs'=>f = .next∧∃ (K':List Tr) (as':List Addr) (fa':Addr),Good G K'∧(fa',SO.list (Zag as')) ∈ prs K'∧Both (Told (prs K')) as' (E++q.due (Item.plain op be le wh wo) p)∧Hs G (B.mid pre (flat K')) [] [] [(Str.ofString "found",.glob (.ref fa'))] rs'∧
  (q.e=true->∃ oa',(oa',SO.tuple ((lastIt (Item.plain op be le wh wo) (q.due (Item.plain op be le wh wo) p)).op.map .int)) ∈ prs K'∧Hs G (B.mid pre (flat K')) [] [] (Zcp oa' fa' (lastIt (Item.plain op be le wh wo) (q.due (Item.plain op be le wh wo) p)) (p+q.t.length)) rs')) NoE rs:=by
 refine e6_5 (ZmA hq op be le wh wo p as) λini last opM m fx least hil hchk hsem hfx hcl=>?_
 generalize hD:Item.plain op be le wh wo=D at *
 have hDop:D.op=op:=by rw [←hD];rfl
 have hν:=ZpI (be:=be) (le:=le) (w:=wo.getD 0) (last:=last) (p:=p) (wh:=wh) (ini:=ini) (as:=as) (by omega) (by omega)
 generalize hnu:nuS be le (wo.getD 0) last p wh ini as=ν at *
 refine byP λXX kX=>?_
 refine e1_2 (List.mem_map.mp hop) λto hto eto=>?_
 refine e1_2 (List.mem_map.mp hfa) λtf htf etf=>?_
 simp only [Prod.mk.injEq] at eto etf
 refine e1_1 (pick (K:=K) (T:=[]) (R:=K) (.refl _) hto (by simp)) λR pr=>?_
 refine e1_1 (pick pr htf (by
  intro h
  refine byP λXX kX=>?_
  obtain rfl:=List.mem_singleton.mp h
  rw [eto.2] at etf;cases etf.2)) λR pr=>?_
 have pr:K.Perm ([to,tf]++R):=pr
 have w:=thaw (T:=[to,tf]) (R:=R) (σ':=[.tuple (op.map .int),.list (Zag as)]) x good pr (by
  have h1:=Zeg (good to hto)
  have h2:=Zeg (good tf htf)
  rw [eto.2] at h1
  rw [etf.2] at h2
  simp only [List.map_cons,List.map_nil,h1 _,h2 _,eto.2,etf.2]) (ls':=semL ν (Zjk (modeM opM m) q fx).ls) (by
   rw [show [to,tf].map (·.1)=[(oa,to.1.2),(fa,tf.1.2)] by rw [←eto.1,←etf.1];rfl,←hnu]
   exact ZpV (hnu ▸ hsem))
 have w:Hs G (B.mid pre (flat R)) [to.1,tf.1] [.tuple (op.map .int),.list (Zag as)] (semL ν (Zjk (modeM opM m) q fx).ls) rs:=w
 refine kX ?_
 have hopM:(modeM opM m).op=opM:=Zf2 m
 have hg100:ν.g 100=Zag as:=by rw [←hnu];rfl
 have H:IhOk G (Zd8 (modeM opM m)) ν (run (Zd8 (modeM opM m)) 60):=Zbw (tOk Pm (G:=G) hK) (ZcK (Γ:=Zd8 (modeM opM m)) rfl λ_ h=>nomatch h) hν 60
 have g:Gd G (B.mid pre (flat R)) (Zd8 (modeM opM m)) ν [to.1,tf.1] (Zjk (modeM opM m) q fx) rs:=⟨hfx,by
  have e:semH (Zd8 (modeM opM m)) ν (Zjk (modeM opM m) q fx)=[.tuple (op.map .int),.list (Zag as)]:=by
   show [SO.tuple (rowS ν (modeM opM m).op),.list (ν.g 100++[])]=_
   rw [hsem.op,hDop,hg100,List.append_nil]
  rw [e];exact w⟩
 have hd:=ZnO (ν:=ν) hν (q:=q) (p:=.x 50) (p':=p) hsem (by rw [ev_x,←hnu];rfl) (least:=least) hcl
 have O':Ok G (B.mid pre (flat R)) 15:=⟨O.kin,O.top,O.kind,O.hand,O.dep,O.uni⟩
 refine wpAny_mono (Zlh (B:=B.mid pre (flat R)) (P:=λf s=>stsC (Zd8 (modeM opM m)) q (q.dueM (modeM opM m) (.x 50) least) (lastD (modeM opM m) (q.dueM (modeM opM m) (.x 50) least)) f s=true) H O' e1 g (Zbx hchk)) (λf rs2 u=>?_) λ_ _ e=>e
 refine byP λXX kX=>?_
 obtain ⟨ρ2,fl,s2,hp,hC,hf,g2⟩:=u
 unfold stsC at hC
 rw [Bool.and_eq_true,Bool.and_eq_true] at hC
 refine e0_2 hC λwq hE=>?_;clear hC;obtain ⟨hN,hF⟩:=wq
 have hnx:f = .next:=by
  cases hf with
  | next=>rfl
  | _=>exact nB hN
 refine e1_4 (ZaD g2.hs) λT f1 f2 gT y=>?_
 refine e1_2 (ZeG hF) λv hv hF=>?_
 refine kX ?_
 refine byP λXX kX=>?_
 refine e2_3 (ZiT hF) λn r wq hc hI=>?_;subst wq
 refine e1_2 (Zfy hν f1 f2 hI hd) λbs hbs hTb=>?_
 refine e1_3 (ZaV f1 f2 hc) λtn q1 q2 q3=>?_
 refine kX ?_
 have htn:tn.2.1 = .list (Zag (as++bs)):=by
  rw [q2]
  show SO.list ((ν.g 100++rowS ν r).map (anfV ρ2))=_
  rw [List.map_append,hbs,hg100,Zag,Zag,List.map_append,List.map_map];rfl
 have hK':∀ pr ∈ prs T,pr ∈ prs (T++R):=λz hz=>by
  refine e1_2 (List.mem_map.mp hz) λt ht wq=>?_;subst wq
  exact List.mem_map.mpr ⟨t,List.mem_append_left _ ht,rfl⟩
 have hmono:∀ z ∈ prs K,ZmZ z.2=true->z ∈ prs (T++R):=λz hz ht=>by
  refine byP λXX kX=>?_
  refine e1_2 (List.mem_map.mp hz) λt htK wq=>?_;subst wq
  rcases List.mem_append.mp (pr.mem_iff.mp htK) with h | h
  ·rcases List.mem_cons.mp h with rfl | h
   ·refine e1_3 (ZaV (n:=0) (o:=.tuple (modeM opM m).op) f1 f2 rfl) λt0 w1 w2 w3=>?_
    refine e1_1 hp λr0 hr0=>?_;clear hp
    refine kX ?_
    have:t0.1=t.1:=by rw [←hr0] at w3;exact (Option.some.inj w3).symm
    refine hK' _ ?_
    have e2:t0.2.1=t.2.1:=by
     rw [w2,eto.2]
     show SO.tuple ((rowS ν (modeM opM m).op).map (anfV ρ2))=_
     rw [hsem.op,Zct,hDop]
    rw [←this,←e2];exact Za7 w1
   ·obtain rfl:=List.mem_singleton.mp h
    rw [etf.2] at ht;exact nB ht
  ·refine kX ?_
   exact List.mem_map.mpr ⟨t,List.mem_append_right _ h,rfl⟩
 have hflat:flat T++flat R=flat (T++R):=(List.flatMap_append).symm
 rw [hflat] at y
 refine i0_2 hnx (⟨T++R,as++bs,tn.1.1,λt ht=>?_,hK' _ (by rw [←htn];exact Za7 q1),(hT.imp λ_ _ h=>h.mono hmono).append (hTb.imp λ_ _ h=>h.mono λz hz _=>hK' z hz),?_,λhqe=>?_⟩)
 ·refine byP λXX kX=>?_
  rcases List.mem_append.mp ht with ht | ht
  ·refine kX ?_
   exact gT t ht
  ·refine kX ?_
   exact good t (pr.mem_iff.mpr (List.mem_append_right _ ht))
 ·refine y.lsTo (Zch (λz hz=>?_) (by kernel_rfl))
  obtain rfl:=List.mem_singleton.mp hz
  rw [ZbT hv]
  simp only [MV.sem,anfV,q3]
 ·rw [hqe,cond_true] at hE
  simp only [Bool.and_eq_true] at hE
  refine e0_2 hE λwq h6=>?_;clear hE;obtain ⟨⟨⟨⟨h1,h2⟩,h3⟩,h4⟩,h5⟩:=wq
  have hL:=hd.last (modeM opM m) D hsem
  generalize lastD (modeM opM m) (q.dueM (modeM opM m) (.x 50) least)=LM at *
  generalize lastIt D (q.due D p)=LI at *
  refine e1_2 (ZeG h1) λvo ho h1=>?_
  refine byP λXX kX=>?_
  refine e2_3 (Zi9 h1) λko row wq hco hro=>?_;subst wq
  refine e1_3 (ZaV f1 f2 hco) λtk w1 w2 w3=>?_
  have hk:tk.2.1 = .tuple (LI.op.map .int):=by
   rw [w2]
   show SO.tuple ((rowS ν row).map (anfV ρ2))=_
   rw [ZbL hν hro,hL.op,Zct]
  have val:∀ {x:String} {m:MV} {u:SV},ZcI (mvEq m) x s2=true->m.sem ν=u->(∀ ρ,anfV ρ u=u)->look (Str.ofString x) (Zax ρ2 (semL ν s2.ls))=some u:=λ{x m u} h e e2=>by
   refine e1_2 (ZeG h) λv hv h=>?_
   rw [ZbT hv,←(ZaY hν h).1,e,e2]
  refine kX ?_
  have ho2:∀ (o:Option Int) ρ,anfV ρ (oSV o)=oSV o:=λo ρ=>by cases o<;>rfl
  have hw:LM.wo.sem ν=oSV LI.wo:=by
   rcases hL.wo with ⟨e1,e2⟩ | ⟨l,e1,e2⟩<;>(rw [e1,e2];rfl)
  refine i1_2 (tk.1.1) (hK' _ (by rw [←hk];exact Za7 w1)) (y.lsTo (Zch (λz hz=>?_) (by kernel_rfl)))
  unfold Zcp at hz
  simp only [List.mem_cons,List.not_mem_nil,or_false] at hz
  refine byP λXX kX=>?_
  rcases hz with rfl | rfl | rfl | rfl | rfl | rfl | rfl
  ·refine kX ?_
   rw [ZbT ho];simp only [MV.sem,anfV,w3]
  ·refine kX ?_
   exact val h2 (congrArg SV.int hL.be) λ_=>rfl
  ·refine kX ?_
   exact val h3 (congrArg SV.int hL.le) λ_=>rfl
  ·refine kX ?_
   exact val h4 hL.wh (ho2 _)
  ·refine kX ?_
   exact val h5 hw (ho2 _)
  ·refine kX ?_
   refine val h6 ?_ λ_=>rfl
   show SV.int (((Lin.x 50).add (.k q.t.length)).ev ν.x)=_
   rw [ZbE,ev_x,ev_k,←hnu];rfl
  ·refine kX ?_
   rw [ZbT hv];simp only [MV.sem,anfV,q3]
end
end Mine
end
section
namespace Mine
variable {G:Gl} {B:Bs} {ρ:List (Addr × Obj)} {σ:List SO} {ls ls':List (Str × SV)} {rs:Shared} {d:Nat}
noncomputable section
noncomputable abbrev D0:Item:=Item.plain [] 0 0 none none
noncomputable def stAt (D:Item) (p:Int):List Pc->Item × Int
 | []=>(D,p)
 | q::r=>stAt (lastIt D (q.due D p)) (p+q.t.length) r
theorem Zc6:∀ (a b:List Pc) (D:Item) (p:Int),ZaG D p (a++b)=ZaG D p a++ZaG (stAt D p a).1 (stAt D p a).2 b
 | [],_,_,_=>rfl
 | q::r,b,D,p=>by
  show q.due D p++ZaG _ _ (r++b)=(q.due D p++ZaG _ _ r)++_
  rw [Zc6 r b,List.append_assoc];rfl
theorem ZeY:∀ (a b:List Pc) (D:Item) (p:Int),stAt D p (a++b)=stAt (stAt D p a).1 (stAt D p a).2 b
 | [],_,_,_=>rfl
 | q::r,b,D,p=>ZeY r b _ _
theorem ZpJ {q:Pc} (hq:q ∈ pcs) (op:List Int) (be le:Int) (wh wo:Option Int) (p:Int) (he:q.e=true):(lastIt (Item.plain op be le wh wo) (q.due (Item.plain op be le wh wo) p)).op.length≤op.length+1:=by
 have key:∀ {X:Pc->List Int},pcs.map (λq=>bif q.e then (lastIt (Item.plain op be le wh wo) (q.due (Item.plain op be le wh wo) p)).op else op)=pcs.map X->(∀ q,(X q).length≤op.length+1)->(lastIt (Item.plain op be le wh wo) (q.due (Item.plain op be le wh wo) p)).op.length≤op.length+1:=by
  intro X e hX
  have:=ZaA e hq
  rw [he,cond_true] at this
  rw [this];exact hX q
 have hi:∀ l:List Int,(Ze6 l).length≤l.length:=by
  intro l
  induction l with
  | nil=>exact Nat.le_refl _
  | cons a r ih=>cases r with
   | nil=>exact Nat.zero_le _
   | cons b r=>exact Nat.succ_le_succ ih
 have hX:∀ q:Pc,((match q.k with | .op=>op++[p] | .cl=>Ze6 op | _=>op):List Int).length≤op.length+1:=λq=>by
  cases q.k with
  | op=>simp
  | cl=>exact Nat.le_succ_of_le (hi op)
  | _=>exact Nat.le_succ _
 refine key (X:=λq=>match q.k with | .op=>op++[p] | .cl=>Ze6 op | _=>op) ?_ hX
 cases wo with
 | none=>cases op with
  | nil=>kernel_rfl
  | cons a r=>kernel_rfl
 | some w=>cases op with
  | nil=>kernel_rfl
  | cons a r=>kernel_rfl
inductive StsJ (G:Gl) (qs:List Pc) (i:Nat):List (Addr × Obj)->List (Addr × Obj)->List SO->List (Str × SV)->Prop
 | mk (K:List Tr) (as:List Addr) (fa:Addr) (ls':List (Str × SV)):Good G K->(fa,SO.list (Zag as)) ∈ prs K->Both (Told (prs K)) as (D0::ZaG D0 1 (qs.take i))->
 ((i=qs.length∧ls'=[(Str.ofString "found",.glob (.ref fa))])∨∃ op be le wh wo oa,(stAt D0 1 (qs.take i)).1=Item.plain op be le wh wo∧op.length≤i∧(oa,SO.tuple (op.map .int)) ∈ prs K∧ls'=Zcp oa fa (Item.plain op be le wh wo) (stAt D0 1 (qs.take i)).2)->StsJ G qs i [] (ads K) (sos K) ls'
theorem ZgA {qs:List Pc} (hm:∀ q ∈ qs,q ∈ pcs) (he:∀ j q,qs[j]? = some q->q.e=true∨j+1=qs.length):∀ (op:List Int) (be le:Int) (wh wo:Option Int) (p:Int),(ZaG (Item.plain op be le wh wo) p qs).length=(Zc0 qs).length:=by
 induction qs with
 | nil=>intros;rfl
 | cons q r ih=>
  intro op be le wh wo p
  have hq:=hm q (.head _)
  have hp:=pcOk hq op be le wh wo p
  show (q.due _ p++ZaG _ _ r).length=(q.t++Zc0 r).length
  rw [List.length_append,List.length_append,hp.len]
  cases r with
  | nil=>rfl
  | cons q2 r=>
   have hqe:q.e=true:=by
    rcases he 0 q rfl with h | h
    ·exact h
    ·simp at h
   refine e5_1 (hp.fin hqe) λop' be' le' wh' wo' hf=>?_
   rw [hf,ih (λq hq=>hm q (.tail _ hq)) (λj q' hj=>by
    rcases he (j+1) q' (by simpa using hj) with h | h
    ·exact .inl h
    ·right;simp only [List.length_cons] at h ⊢;omega)]
theorem ZfH {qs:List Pc} (hm:∀ q ∈ qs,q ∈ pcs):(Zc0 qs).length≤8 * qs.length:=by
 induction qs with
 | nil=>exact Nat.le_refl _
 | cons q r ih=>
  refine e2_3 (Zei (hm q (.head _))) λc t _ _ h=>?_
  have:=ih λq hq=>hm q (.tail _ hq)
  show (q.t++Zc0 r).length≤_
  rw [List.length_append,List.length_cons];omega
end
end Mine
end
section
namespace Mine
variable {G:Gl} {B:Bs} {ρ:List (Addr × Obj)} {σ:List SO} {ls ls':List (Str × SV)} {rs:Shared} {d:Nat}
noncomputable section
theorem Zl4 {h:Heap} {K:List Tr} (good:Good G K) {p:Pc × Addr} (hp:PcAt K p) (hc:∀ q ∈ flat K,h.get? q.1=some q.2):∃ t1 t2,IsTup h p.2 [Value.str (Zaa p.1.k.name) t1,.str (Zaa p.1.t) t2,.bool p.1.e].toArray:=by
 refine byP λXX kX=>?_
 refine e0_2 hp λ_ wq=>?_;clear hp;obtain ⟨t,ht,ha,hso⟩:=wq
 refine kX ?_
 have g:=good t ht
 refine byP λXX kX=>?_
 obtain ⟨⟨a,ao⟩,so,es⟩:=t
 refine kX ?_
 dsimp only at ha hso g
 subst hso
 unfold pcO at g
 refine e2_4 (g.tuple_inv) λk vs wq wq y z=>?_;clear g;subst wq wq
 cases y with
 | cons a1 y=>cases y with
  | cons a2 y=>cases y with
   | cons a3 y=>
    have wq:=VL.nil_inv y;clear y;subst wq
    refine e1_1 (vstr a1) λt1 wq=>?_;subst wq
    refine e1_1 (vstr a2) λt2 wq=>?_;subst wq
    cases Zfe a3
    refine i2_1 t1 t2 (Zam (k:=k) ?_)
    rw [←ha]
    exact hc _ (List.mem_flatMap.mpr ⟨_,ht,.head _⟩)
theorem Zlz {h:Heap} {K:List Tr} (good:Good G K) {D:Addr} {as:List Addr} (hl:(D,SO.list (Zag as)) ∈ prs K) (hc:∀ q ∈ flat K,h.get? q.1=some q.2):∃ k,h.get? D=some (PySem.W.listOf (as.map Value.ref).toArray k):=by
 refine e1_2 (List.mem_map.mp hl) λt ht e=>?_
 simp only [Prod.mk.injEq] at e
 refine e2_2 (ZbJ (good t ht) e.2) λvs k hv es=>?_
 have e2:vs=as.map Value.ref:=by
  clear es hl hc e
  induction as generalizing vs with
  | nil=>have wq:=VL.nil_inv hv;clear hv;subst wq;rfl
  | cons a r ih=>cases hv with
   | cons h1 h2=>refine e0_2 (V.glob_inv h1) λwq _=>?_;clear h1;subst wq;rw [ih _ h2];rfl
 rw [e2,e.1] at es
 exact i1_1 k (hc _ (List.mem_flatMap.mpr ⟨t,ht,by rw [es];exact .head _⟩))
noncomputable def ZoC:Stmt:=(nth stsB 0).getD default
noncomputable def ZoD:Stmt:=(nth stsB 1).getD default
theorem ZkS:∃ tk tp p1 p2 p3 pp fpos pf rp,stsB=[ZoC,ZoD,.For (.Tuple [.Name (Str.ofString "sort") p1,.Name (Str.ofString "text") p2,.Name (Str.ofString "ends") p3] tk tp) (.Name (Str.ofString "pieces") pp) stsL [] fpos,.Return (some (.Name (Str.ofString "found") pf)) rp]:=⟨_,_,_,_,_,_,_,_,_,rfl⟩
noncomputable def sA (D:Addr):St:=⟨[],[(Str.ofString "pieces",.glob (.ref D))],[]⟩
noncomputable def sB (D:Addr):St:=⟨[.tuple []],[(Str.ofString "pieces",.glob (.ref D)),(Str.ofString "opens",.ref 0),(Str.ofString "below",.int (.k 0)),(Str.ofString "least",.int (.k 0)),(Str.ofString "last_one",.none),(Str.ofString "word",.none),(Str.ofString "place",.int (.k 1))],[]⟩
noncomputable def sC (D:Addr):St:=⟨[.tuple [],.tuple [.v (.ref 0),.v (.int (.k 0)),.v (.int (.k 0)),.v .none,.v .none],.tuple [.v .none,.v (.int (.k 0)),.v (.str []),.v (.bool false),.v .none,.v (.bool false),.v (.str [])],.tuple [.v (.ref 0),.v (.int (.k 0)),.v (.int (.k 0)),.v .none,.v .none,.v .none,.v (.int (.k 0)),.v (.str []),.v (.bool false),.v .none,.v (.bool false),.v (.str [])],.list [.v (.ref 3)]],
 [(Str.ofString "pieces",.glob (.ref D)),(Str.ofString "opens",.ref 0),(Str.ofString "below",.int (.k 0)),(Str.ofString "least",.int (.k 0)),(Str.ofString "last_one",.none),(Str.ofString "word",.none),(Str.ofString "place",.int (.k 1)),(Str.ofString "found",.ref 4)],[]⟩
theorem Zqw (D:Addr):Zcn tabN (run tabN 40) 20 stsS ZoC (sA D) = .ret .next (sB D):=by kernel_rfl
theorem Zqx (D:Addr):Zcn tabN (run tabN 40) 20 stsS ZoD (sB D) = .ret .next (sC D):=by kernel_rfl
theorem Zov {ih:Ih} {Γ:Tab} {ν:Vn} (H:IhOk G Γ ν ih) (T:TOk G Γ) (hν:ν.ok) (O:Ok G B d) {sc:Scope} (e1:B.sc=sc) {st:Stmt} {s s':St} (g:Gd G B Γ ν ρ s rs) (h:Zcn Γ ih d sc st s = .ret .next s') {Q:Flow->Shared->Prop} (k:∀ ρ' rs',ρ <+: ρ'->Gd G B Γ ν ρ' s' rs'->Q .next rs'):wpAny G.M B.A (exec st B.env) Q NoE rs:=by
 subst e1
 refine wpAny_mono (ZpT (P:=λf s2=>f = .next∧s2=s') H T hν O g (by rw [h];exact i0_2 rfl rfl)) (λf rs2 u=>?_) λ_ _ e=>e
 obtain ⟨ρ2,fl,s2,hp,⟨rfl,rfl⟩,hf,g2⟩:=u
 cases hf
 exact k _ _ hp g2
theorem ZoH (ρ:List (Addr × Obj)) (oa fa:Addr) (D:Item) (p:Int):Zax ρ (Zcp oa fa D p)=Zcp oa fa D p:=by
 have ho:∀ o:Option Int,anfV ρ (oSV o)=oSV o:=λo=>by cases o<;>rfl
 unfold Zax Zcp
 simp only [List.map_cons,List.map_nil,ho]
 rfl
theorem ZkT {Pm:Params} (hK:G.K=KF Pm) (O:Ok G B 20) (e1:B.sc=stsS) {D:Addr} (x:Hs G B [] [] [(Str.ofString "pieces",.glob (.ref D))] rs) {rest:List Stmt} {Q:Flow->Shared->Prop}
 (k:∀ (K:List Tr) (oa a fa:Addr) rs',Good G K->(oa,SO.tuple (D0.op.map .int)) ∈ prs K->Told (prs K) a D0->(fa,SO.list (Zag [a])) ∈ prs K->Hs G (B.mid [] (flat K)) [] [] ([(Str.ofString "pieces",.glob (.ref D))]++Zcp oa fa D0 1) rs'->wpAny G.M B.A (execs rest B.env) Q NoE rs'):
 wpAny G.M B.A (execs (ZoC::ZoD::rest) B.env) Q NoE rs:=by
 have T:TOk G tabN:=tOk Pm (G:=G) hK (base:=[]) (sums:=[]) (ops:=[])
 have H:=runN (G:=G) hK Zdn 40
 refine wpAny_execs_cons (Zov H T Zdn O e1 (s:=sA D) ⟨(λ_ h=>nomatch h),x⟩ (Zqw D) λρ1 rs1 _ g1=>?_)
 refine wpAny_execs_cons (Zov H T Zdn O e1 g1 (Zqx D) λρ2 rs2 _ g2=>?_)
 refine byP λXX kX=>?_
 refine e1_4 (ZaD (pre:=[]) (c0:=[]) g2.hs) λK f1 f2 good y=>?_
 rw [List.append_nil] at y
 refine e1_3 (ZaV (Γ:=tabN) (ν:=nu0) (s:=sC D) (n:=0) (o:=.tuple []) f1 f2 rfl) λt0 a1 a2 a3=>?_
 refine e1_3 (ZaV (Γ:=tabN) (ν:=nu0) (s:=sC D) (n:=3) f1 f2 rfl) λt3 b1 b2 b3=>?_
 refine e1_3 (ZaV (Γ:=tabN) (ν:=nu0) (s:=sC D) (n:=4) f1 f2 rfl) λt4 c1 c2 c3=>?_
 have h0:t0.2.1 = .tuple (D0.op.map .int):=a2
 have h3:t3.2.1 = .tuple (.glob (.ref t0.1.1)::D0.fl):=by
  rw [b2]
  show SO.tuple (anfV ρ2 (.ref 0)::D0.fl)=_
  simp only [anfV,a3]
 refine kX ?_
 have h4:t4.2.1 = .list (Zag [t3.1.1]):=by
  rw [c2]
  show SO.list [anfV ρ2 (.ref 3)]=_
  simp only [anfV,b3];rfl
 refine k K t0.1.1 t3.1.1 t4.1.1 rs2 good (by rw [←h0];exact Za7 a1) ⟨t0.1.1,by rw [←h3];exact Za7 b1,by rw [←h0];exact Za7 a1⟩ (by rw [←h4];exact Za7 c1) ?_
 have e:Zax ρ2 (semL nu0 (sC D).ls)=[(Str.ofString "pieces",.glob (.ref D))]++Zcp t0.1.1 t4.1.1 D0 1:=by
  show [(Str.ofString "pieces",SV.glob (.ref D)),(Str.ofString "opens",anfV ρ2 (.ref 0)),(Str.ofString "below",.int 0),(Str.ofString "least",.int 0),(Str.ofString "last_one",.none),(Str.ofString "word",.none),(Str.ofString "place",.int 1),(Str.ofString "found",anfV ρ2 (.ref 4))]=_
  simp only [anfV,a3,c3];rfl
 rw [←e];exact y
end
end Mine
end
section
namespace Mine
variable {G:Gl} {B:Bs} {ρ:List (Addr × Obj)} {σ:List SO} {ls ls':List (Str × SV)} {rs:Shared} {d:Nat}
noncomputable section
theorem Hs.get (x:Hs G B ρ σ ls rs) {b:Addr} {o:Obj} (h:B.h₀.get? b=some o):rs.heap.get? b=some o:=by
 obtain ⟨m,led,F,N,R,Lc⟩:=x.ex
 exact F.keep b o h
theorem Zmy {Pm:Params} (hK:G.K=KF Pm) (O:Ok G B 20) (e1:B.sc=stsS) {K0:List Tr} (good0:Good G K0) (hc:∀ q ∈ flat K0,B.h₀.get? q.1=some q.2) {qs:List (Pc × Addr)} (hat:∀ p ∈ qs,PcAt K0 p) (he:∀ j p,qs[j]? = some p->p.1.e=true∨j+1=qs.length) (hq12:qs.length≤12)
 {I:Addr} {oI:Obj} {i:Nat} (hi:i<qs.length) {c0 ρ':List (Addr × Obj)} {σ':List SO} (hJ:StsJ G (qs.map (·.1)) i c0 ρ' σ' ls) (x:Hs G ((B.ext c0).iter I oI) ρ' σ' ls rs) {tk:Nat} {tp p1 p2 p3:Pos}:
 wpAny G.M B.A (assign (.Tuple [.Name (Str.ofString "sort") p1,.Name (Str.ofString "text") p2,.Name (Str.ofString "ends") p3] tk tp) B.env (.ref (qs[i]).2)) (λ_ rs2=>wpAny G.M B.A (execs stsL B.env) (λf rs3=>f = .next∧∃ c3 ρ3 σ3 ls3,Hs G ((B.ext c3).iter I oI) ρ3 σ3 ls3 rs3∧StsJ G (qs.map (·.1)) (i+1) c3 ρ3 σ3 ls3) NoE rs2) NoE rs:=by
 obtain ⟨K,as,fa,_,good,hfa,hT,hJ⟩:=hJ
 have hil:i<(qs.map (·.1)).length:=by rw [List.length_map];exact hi
 have hne:i ≠ (qs.map (·.1)).length:=Nat.ne_of_lt hil
 refine byP λXX kX=>?_
 rcases hJ with ⟨h,_⟩ | ⟨op,be,le,wh,wo,oa,hst,hop,hoa,rfl⟩
 ·exact absurd h hne
 have hp:PcAt K0 qs[i]:=hat _ (List.getElem_mem hi)
 refine e2_1 (Zl4 good0 hp λq hq=>x.get (hc q hq)) λt1 t2 ht=>?_
 refine kX ?_
 generalize hq:(qs[i]).1=q at *
 have hqm:q ∈ pcs:=by rw [←hq];exact hp.1
 have OI:Ok G ((B.ext []).iter I oI) 20:=⟨O.kin,O.top,O.kind,O.hand,O.dep,O.uni⟩
 refine Zc2 (B:=(B.ext []).iter I oI) OI x ht rfl rfl λrs1 x1=>?_
 refine assignInOrder_cons (wpAny_assign_Name (wpAny_mono (Hs.store (B:=(B.ext []).iter I oI) (v:=.str q.k.name) OI x1 (by show Zah B.sc _=true;rw [e1];kernel_rfl) (by kernel_rfl) (.str _ _)) (λ_ rs2 x2=>?_) λ_ _ e=>e))
 refine assignInOrder_cons (wpAny_assign_Name (wpAny_mono (Hs.store (B:=(B.ext []).iter I oI) (v:=.str q.t) OI x2 (by show Zah B.sc _=true;rw [e1];kernel_rfl) (by kernel_rfl) (.str _ _)) (λ_ rs3 x3=>?_) λ_ _ e=>e))
 refine assignInOrder_cons (wpAny_assign_Name (wpAny_mono (Hs.store (B:=(B.ext []).iter I oI) (v:=.bool q.e) OI x3 (by show Zah B.sc _=true;rw [e1];kernel_rfl) (by kernel_rfl) (.bool _)) (λ_ rs4 x4=>assignInOrder_nil ?_) λ_ _ e=>e))
 have hls:∀ D p,put (Str.ofString "ends") (SV.bool q.e) (put (Str.ofString "text") (.str q.t) (put (Str.ofString "sort") (.str q.k.name) (Zcp oa fa D p)))=Zcp oa fa D p++stsX q:=λD p=>by kernel_rfl
 rw [hls] at x4
 refine byP λXX kX=>?_
 refine e1_4 (dead (B:=B) (pre:=[(I,oI)]) x4 good) λK1 a1 a2 good1 y=>?_
 have ep:=Zhd a1 a2
 rw [←ep] at hfa hT hoa
 have ey:Zax (ads K) (Zcp oa fa (Item.plain op be le wh wo) (stAt D0 1 ((qs.map (·.1)).take i)).2++stsX q)=Zcp oa fa (Item.plain op be le wh wo) (stAt D0 1 ((qs.map (·.1)).take i)).2++stsX q:=by
  unfold Zax
  rw [List.map_append]
  exact congrArg (·++stsX q) (ZoH _ _ _ _ _)
 rw [ey] at y
 have hmall:∀ q ∈ (qs.map (·.1)),q ∈ pcs:=λz hz=>by
  refine e1_2 (List.mem_map.mp hz) λp hp wq=>?_;subst wq
  exact (hat p hp).1
 refine kX ?_
 have hal:as.length≤4000:=by
  rw [hT.len,List.length_cons]
  have h1:=ZgA (qs:=(qs.map (·.1)).take i) (λz hz=>hmall z (List.mem_of_mem_take hz)) (λj z hz=>by
   have hj:j<i:=by have:=(List.getElem?_eq_some_iff.mp hz).1;rw [List.length_take] at this;omega
   have hz2:(qs.map (·.1))[j]? = some z:=by rw [List.getElem?_take_of_lt hj] at hz;exact hz
   rw [List.getElem?_map] at hz2
   generalize w:qs[j]? = wo at hz2
   revert w;revert wo;show Fa _ _;refine Opt.on_some zN0 (λp hz2=>?_);intro w
   refine byP λXX kX=>?_
   have wq:=Option.some.inj hz2;clear hz2;subst wq
   rcases he j p w with h | h
   ·refine kX ?_
    exact .inl h
   ·refine kX ?_
    omega) [] 0 0 none none 1
  have h2:=ZfH (qs:=(qs.map (·.1)).take i) λz hz=>hmall z (List.mem_of_mem_take hz)
  have h3:((qs.map (·.1)).take i).length≤12:=by rw [List.length_take,List.length_map];omega
  have h4:(ZaG D0 1 ((qs.map (·.1)).take i)).length=(Zc0 ((qs.map (·.1)).take i)).length:=h1
  rw [h4]
  have:8 * ((qs.map (·.1)).take i).length≤8 * 12:=Nat.mul_le_mul_left _ h3
  omega
 refine wpAny_mono (ZmB hK (O.le (by omega)) e1 (pre:=[(I,oI)]) good1 hqm (by omega) hal hoa hfa hT y) (λf rs5 u=>?_) λ_ _ e=>e
 refine e0_2 u λwq wqb=>?_;clear u;subst wq;obtain ⟨K2,as2,fa2,good2,hfa2,hT2,z,hz⟩:=wqb
 refine i0_2 rfl (⟨[],ads K2,sos K2,?_⟩)
 have etk:(qs.map (·.1)).take (i+1)=(qs.map (·.1)).take i++[q]:=by
  rw [List.take_succ_eq_append_getElem hil]
  simp [hq]
 have edue:(D0::ZaG D0 1 ((qs.map (·.1)).take i))++q.due (Item.plain op be le wh wo) (stAt D0 1 ((qs.map (·.1)).take i)).2=D0::ZaG D0 1 ((qs.map (·.1)).take (i+1)):=by
  rw [etk,Zc6,hst]
  show _=D0::(_++(_++[]))
  rw [List.append_nil];rfl
 rw [edue] at hT2
 cases hqe:q.e with
 | false=>
  have hlast:i+1=qs.length:=by
   refine byP λXX kX=>?_
   rcases he i qs[i] (List.getElem?_eq_getElem hi) with h | h
   ·rw [hq,hqe] at h;exact nB h
   ·refine kX ?_
    exact h
  exact i1_2 _ (live (B:=B) z good2) (⟨K2,as2,fa2,_,good2,hfa2,hT2,.inl ⟨by rw [List.length_map];exact hlast,rfl⟩⟩)
 | true=>
  refine byP λXX kX=>?_
  refine e1_2 (hz hqe) λoa' ho' z'=>?_
  refine e5_1 ((pcOk hqm op be le wh wo (stAt D0 1 ((qs.map (·.1)).take i)).2).fin hqe) λop' be' le' wh' wo' hf=>?_
  have hl:=ZpJ hqm op be le wh wo (stAt D0 1 ((qs.map (·.1)).take i)).2 hqe
  rw [hf] at ho' z' hl
  have est:stAt D0 1 ((qs.map (·.1)).take (i+1))=(Item.plain op' be' le' wh' wo',(stAt D0 1 ((qs.map (·.1)).take i)).2+q.t.length):=by
   rw [etk,ZeY]
   show (lastIt _ (q.due _ _),_)=_
   rw [hst,hf]
  refine kX ?_
  refine i1_2 _ (live (B:=B) z' good2) (⟨K2,as2,fa2,_,good2,hfa2,hT2,.inr ⟨op',be',le',wh',wo',oa',by rw [est],?_,ho',by rw [est]⟩⟩)
  have:op'.length≤op.length+1:=hl
  omega
end
end Mine
end
section
namespace Mine
variable {G:Gl} {B:Bs} {ρ:List (Addr × Obj)} {σ:List SO} {ls ls':List (Str × SV)} {rs:Shared} {d:Nat}
noncomputable section
theorem Zmz {Pm:Params} (hK:G.K=KF Pm) (O:Ok G B 20) (e1:B.sc=stsS) {K0:List Tr} (good0:Good G K0) (hc:∀ q ∈ flat K0,B.h₀.get? q.1=some q.2) {qs:List (Pc × Addr)} {D:Addr} (hl:(D,SO.list (Zag (qs.map (·.2)))) ∈ prs K0) (hat:∀ p ∈ qs,PcAt K0 p) (he:∀ j p,qs[j]? = some p->p.1.e=true∨j+1=qs.length) (hq12:qs.length≤12)
 {K:List Tr} {oa a fa:Addr} (good:Good G K) (hoa:(oa,SO.tuple (D0.op.map .int)) ∈ prs K) (hT:Told (prs K) a D0) (hfa:(fa,SO.list (Zag [a])) ∈ prs K) (x:Hs G (B.mid [] (flat K)) [] [] ([(Str.ofString "pieces",.glob (.ref D))]++Zcp oa fa D0 1) rs) {tk:Nat} {tp p1 p2 p3 pp fpos:Pos} {Q:Flow->Shared->Prop}
 (k:∀ (K:List Tr) (as:List Addr) (fa:Addr) rs',Good G K->(fa,SO.list (Zag as)) ∈ prs K->Both (Told (prs K)) as (D0::ZaG D0 1 (qs.map (·.1)))->Hs G B (ads K) (sos K) [(Str.ofString "found",.glob (.ref fa))] rs'->Q .next rs'):
 wpAny G.M B.A (exec (.For (.Tuple [.Name (Str.ofString "sort") p1,.Name (Str.ofString "text") p2,.Name (Str.ofString "ends") p3] tk tp) (.Name (Str.ofString "pieces") pp) stsL [] fpos) B.env) Q NoE rs:=by
 refine wpAny_For (ZdN (B:=B.mid [] (flat K)) (d:=20) ⟨O.kin,O.top,O.kind,O.hand,O.dep,O.uni⟩ x (v:=.glob (.ref D)) (by kernel_rfl) λrv hv=>?_) λ_=>rfl
 refine e0_2 (V.glob_inv hv) λwq _=>?_;clear hv;subst wq
 refine e1_1 (Zlz good0 hl hc) λkk hgl=>?_
 have hD:=x.get (B:=B.mid [] (flat K)) hgl
 refine wpAny_pyIter_list (Zan hD) ?_
 have hne:D ≠ rs.heap.objs.size:=Nat.ne_of_lt (Heap.lt_size hD)
 have hsz:((qs.map (·.2)).map Value.ref).toArray.size=qs.length:=by simp
 have x0:Hs G B (ads K) (sos K) (Zcp oa fa D0 1) rs:=live (B:=B) (pre:=[]) (x.lsTo (Zch (λz hz=>by
  unfold Zcp at hz ⊢
  simp only [List.mem_cons,List.not_mem_nil,or_false] at hz
  rcases hz with rfl | rfl | rfl | rfl | rfl | rfl | rfl<;>kernel_rfl) (by kernel_rfl))) good
 refine codeAny_mono (ZhA (d:=20) (it:=λi=>.glob (.ref ((qs.map (·.2)).getD i 0))) (n:=qs.length) (Pv:=λi v=>((qs.map (·.2)).map Value.ref).toArray[i]? = some v) (St:=λi h=>h.IsListIter rs.heap.objs.size D i∧h.IsList D ((qs.map (·.2)).map Value.ref).toArray) (fp:=[rs.heap.objs.size,D])
  (J:=StsJ G (qs.map (·.1))) (KB:=λ_ _ _ _=>False) (KR:=λ_ _ _ _ _=>False) (R:=λr rs'=>r = .ok .next∧∃ (K:List Tr) (as:List Addr) (fa:Addr),Good G K∧(fa,SO.list (Zag as)) ∈ prs K∧Both (Told (prs K)) as (D0::ZaG D0 1 (qs.map (·.1)))∧Hs G B (ads K) (sos K) [(Str.ofString "found",.glob (.ref fa))] rs')
  O x0 rfl (by rw [←hsz];exact Walks.list O.hand _ _ hne _) ⟨⟨_,Heap.get?_push_size _ rfl,rfl,rfl⟩,⟨_,Heap.get?_push_of_some _ hD,rfl,_,rfl⟩⟩ (λi h st=>?_) (λi s' v Q' st hq=>?_) (λb hb=>?_) (λi v hi hv c0 ρ' σ' ls' _=>?_) ?_ ?_ ?_ λ_ _ _ _ _ _ _ h=>h.elim) λr rs' u=>?_
 ·refine e1_3 (st.1) λo e _ hd=>?_;exact i1_2 o e (λw q=>by rw [hd] at q;cases q)
 ·refine e1_3 (st.1) λo e hc hd=>?_;exact Zcg e hc hd (by decide) hq
 ·simp only [List.mem_cons,List.not_mem_nil,or_false] at hb
  rcases hb with rfl | rfl
  ·exact .inl rfl
  ·refine .inr ⟨_,λI oI i c0 ρ' σ' ls' rs' _ y=>⟨y.get (B:=(B.ext c0).iter I oI) hgl,λe=>?_⟩⟩
   obtain ⟨m,led,F,N,R,Lc⟩:=y.ex
   have:=(N (I,oI) (.head _)).2.2
   rw [←e,hgl] at this;exact nS this
 ·have hv':((qs.map (·.2)).map Value.ref)[i]? = some v:=by simpa using hv
  rw [List.getElem?_map] at hv'
  rw [List.getD_eq_getElem?_getD]
  generalize q:(qs.map (·.2))[i]? = wo at hv'
  revert q;revert wo;show Fa _ _;refine Opt.on_some zN0 (λa hv'=>?_);intro q
  have wq:=Option.some.inj hv';clear hv';subst wq;exact .glob _ rfl
 ·exact ⟨K,[a],fa,_,good,hfa,.cons hT .nil,.inr ⟨[],0,0,none,none,oa,rfl,Nat.le_refl _,hoa,rfl⟩⟩
 ·intro I oI i v c0 ρ' σ' ls' rs' hi hJ hv O' x'
  have ev:v = .ref (qs[i]).2:=by
   have:(qs.map (·.2)).getD i 0=(qs[i]).2:=by
    rw [List.getD_eq_getElem?_getD,List.getElem?_map,List.getElem?_eq_getElem hi];rfl
   rw [this] at hv
   refine e0_2 (V.glob_inv hv) λwq _=>?_;clear hv;subst wq;rfl
  rw [ev]
  refine wpAny_mono (Zmy hK O e1 good0 hc hat he hq12 hi hJ x') (λ_ rs2 u=>wpAny_mono u (λf rs3 u=>?_) λ_ _ e=>e) λ_ _ e=>e
  refine byP λXX kX=>?_
  refine e0_2 u λwq wqb=>?_;clear u;subst wq;obtain ⟨c3,ρ3,σ3,ls3,h1,h2⟩:=wqb
  refine kX ?_
  exact i4_2 c3 (ρ3) (σ3) ls3 h1 h2
 ·intro c0 ρ' σ' ls' rs' y hJ
  rcases hJ with hJ | hJ
  ·obtain ⟨K2,as,fa2,_,good2,hfa2,hT2,hJ⟩:=hJ
   rw [List.take_of_length_le (by simp)] at hT2
   refine i0_2 rfl (⟨K2,as,fa2,good2,hfa2,hT2,?_⟩)
   have y:Hs G B (ads K2) (sos K2) ls' rs':=y
   refine y.lsTo ?_
   have hf:look (Str.ofString "found") ls'=some (.glob (.ref fa2)):=by
    rcases hJ with ⟨_,rfl⟩ | ⟨op,be,le,wh,wo,oa,_,_,_,rfl⟩
    ·kernel_rfl
    ·kernel_rfl
   refine i0_2 (by kernel_rfl) (λz v e=>⟨v,?_,λ_ h=>h⟩)
   rw [Zab] at e
   generalize q:seq z (Str.ofString "found")=wo at e
   revert q;revert wo;show Fa _ _;refine Boo.on_true zN0 (λe=>?_);intro q
   have wq:=Option.some.inj e;clear e;subst wq;rw [seq_iff.mp q];exact hf
  ·exact hJ.elim
 ·refine e0_2 u λwq wqb=>?_;clear u;subst wq;obtain ⟨K2,as,fa2,h1,h2,h3,h4⟩:=wqb
  exact k K2 as fa2 rs' h1 h2 h3 h4
theorem ZkO {Pm:Params} (hK:G.K=KF Pm) (O:Ok G B 21) (x:Hs G B [] [] ls rs) {K0:List Tr} (good0:Good G K0) (hc:∀ q ∈ flat K0,q ∈ B.cs) {qs:List (Pc × Addr)} {D:Addr} (hl:(D,SO.list (Zag (qs.map (·.2)))) ∈ prs K0) (hat:∀ p ∈ qs,PcAt K0 p) (he:∀ j p,qs[j]? = some p->p.1.e=true∨j+1=qs.length) (hq12:qs.length≤12):
 codeAny G.M B.A (.call (.ref 550) ⟨[.ref D],[]⟩) (λr rs'=>∃ (K:List Tr) (as:List Addr) (fa:Addr),r = .ok (.ret (.ref fa))∧Good G K∧(fa,SO.list (Zag as)) ∈ prs K∧Both (Told (prs K)) as (D0::ZaG D0 1 (qs.map (·.1)))∧Hs G B (ads K) (sos K) ls rs') rs:=by
 refine codeAny_mono (x.callK (d:=20) O (hK ▸ ZbV Pm) (vs:=[.glob (.ref D)]) (rvs:=[.ref D]) (.cons (.glob _ rfl) .nil) (by show 1 ∈ [1];simp) (ν:=nu0) (P:=λv ρ' σ'=>∃ (K:List Tr) (as:List Addr) (fa:Addr),v=some (.glob (.ref fa))∧ρ'=ads K∧σ'=sos K∧Good G K∧(fa,SO.list (Zag as)) ∈ prs K∧Both (Told (prs K)) as (D0::ZaG D0 1 (qs.map (·.1)))) λB' rs1 O' e1 keep x1=>?_) λr rs' z=>?_
 ·have e1:B'.sc=stsS:=e1
  have x1:Hs G B' [] [] [(Str.ofString "pieces",.glob (.ref D))] rs1:=x1
  have hc':∀ q ∈ flat K0,B'.h₀.get? q.1=some q.2:=λq hq=>keep _ _ (.inr (hc q hq))
  refine e9_1 ZkS λtk tp p1 p2 p3 pp fpos pf rp hb=>?_
  show wpAny G.M B'.A (execs stsB B'.env) _ _ rs1
  rw [hb]
  refine ZkT hK O' e1 x1 λK oa a fa rs2 good hoa hTa hfa x2=>?_
  refine wpAny_execs_cons (Zmz hK O' e1 good0 hc' hl hat he hq12 good hoa hTa hfa x2 λK3 as fa3 rs3 g3 hf3 hT3 x3=>?_)
  refine wpAny_execs_cons (wpAny_Return_some (ZdN O' x3 (v:=.glob (.ref fa3)) (by kernel_rfl) λrv hv=>?_))
  exact i4_4 (ads K3) (some (.glob (.ref fa3))) (sos K3) _ (List.nil_prefix) (.ret hv) (⟨K3,as,fa3,rfl,rfl,rfl,g3,hf3,hT3⟩) x3
 ·refine byP λXX kX=>?_
  refine e1_2 z λrv wq wqb=>?_;clear z;subst wq;obtain ⟨ρ',v,σ',hp,hv,⟨K,as,fa,rfl,rfl,rfl,h1,h2,h3⟩,hs⟩:=wqb
  have hv:V (ads K) (.glob (.ref fa)) rv:=hv
  refine e0_2 (V.glob_inv hv) λwq _=>?_;clear hv;subst wq
  refine kX ?_
  exact i3_5 K as fa rfl h1 h2 h3 hs
end
end Mine
end
section
set_option tactic.hygienic true
namespace Mine
noncomputable section
noncomputable def endSt:St:=⟨[],[("table",.ref 30),("text",.txt 0),("view",.ref 44),("due",.ref 46),("state",.ref 49),("at",.int (lx1 0))],[(.pos ⟨0,[(1,-1),(1000,1)]⟩,false),(.pos ⟨0,[(1,-1)]⟩,false)]⟩
noncomputable def endR (m:Nat):Res Fl:=(run (Zau [.seg 0] [.seg 100,.v (.ref 47)] (modeM [.seg 2] m) so1) 80).blk 20 lawS ZcA endSt
noncomputable def endC (f:Fl) (_:St):Bool:=ZgI f
theorem ends:([0,1,2,3,4,5,6,7,8].all λm=>(endR m).chk endC)=true:=by kernel_rfl
noncomputable def Zlw:Stmt:=(nth lawB 4).getD default
end
end Mine
end
section
namespace Mine
variable {G:Gl} {B:Bs} {ρ:List (Addr × Obj)} {σ:List SO} {ls ls':List (Str × SV)} {rs:Shared} {d:Nat}
noncomputable section
noncomputable def toMV:SV->MV
 | .none=>.none
 | .bool b=>.bool b
 | .int i=>.int (.k i)
 | .str x=>.str x
 | .ref n=>.ref n
 | .glob v=>.glob v
theorem Zgk (ν:Vn) (l:List (Str × SV)):semL ν (l.map λp=>(p.1,toMV p.2))=l:=by
 unfold semL
 rw [List.map_map]
 refine (List.map_congr_left λp _=>?_).trans (List.map_id _)
 obtain ⟨x,v⟩:=p
 cases v<;>first | rfl | (show (x,SV.int ((Lin.k _).ev ν.x))=_;rw [ev_k];rfl)
noncomputable abbrev mvs (l:List (Str × SV)):List (Str × MV):=l.map λp=>(p.1,toMV p.2)
theorem ZlA {Γ:Tab} (T:TOk G Γ) (O:Ok G B d) {sc:Scope} (e1:B.sc=sc) (x:Hs G B ρ σ ls rs) {y:Str} {p:Pos} {v:MV} (hn:look y sc.names=some .globalImplicit) (hv:look y Γ.names=some v) {Q:Value->Shared->Prop} (k:∀ rv,V ρ (v.sem nu0) rv->Q rv rs):wpAny G.M B.A (eval (.Name y p) B.env) Q NoE rs:=by
 refine byP λXX kX=>?_
 obtain ⟨m,led,F,N,R,Lc⟩:=x.ex
 refine e0_2 (T.names y v hv) λhd wq=>?_;obtain ⟨rv,hv,hm⟩:=wq
 have hd':(y==("__debug__":Str))=false:=by simpa using hd
 rw [Zaz,←e1] at hn
 have hv':V ρ (v.sem nu0) rv:=(hv nu0).mono List.nil_prefix
 rcases hm with hm | ⟨hm,hb,hn2⟩
 ·refine kX ?_
  exact Name_function_global O.kind hn (loadGlobal_global (env:=B.env) (O.top.g.keeps F.keep) (mg_of O.kin O.top.g hm) (k _ hv')) hd'
 ·refine kX ?_
  exact Name_function_global O.kind hn (loadGlobal_builtin (env:=B.env) (O.top.g.keeps F.keep) (mg_none_of O.kin O.top.g hm) (O.top.b.keeps F.keep) ((O.top.builtins y hn2).trans hb) (k _ hv')) hd'
noncomputable def s4E (i:Nat):PySem.Expr:=Zgm (nth lawB 3) i
noncomputable def ordC:PySem.Expr:=Zhq (s4E 0) 0
theorem ordR (c d:Nat):(run tabN 40).ev d (Zai lawS (compSc2 ordC)) (ZaT ordC) ⟨[],[(Str.ofString "sign",.str [c])],[]⟩ = .ret (.int (.k c)) ⟨[],[(Str.ofString "sign",.str [c])],[]⟩:=by kernel_rfl
theorem Zl2 {Pm:Params} (hK:G.K=KF Pm) (O:Ok G B 60) (hsc:B.sc=lawS) {y:List Nat} (hasc:Zap y=true) (hy:y.length≤4096) (hx:look (Str.ofString "text") ls=some (.str y)) (x:Hs G B [] [] ls rs) {px pt pos:Pos} {Q:Value->Shared->Prop}
 (k:∀ D rs',Hs G B [(D,default)] [.list (y.map λc=>.int (c:Nat))] ls rs'->Q (.ref D) rs'):wpAny G.M B.A (eval (.ListComp (ZaT ordC) [⟨.Name (Str.ofString "sign") px,.Name (Str.ofString "text") pt,[],0⟩] (compSc2 ordC) pos) B.env) Q NoE rs:=by
 have hnm:((compSc2 ordC).names.all λp=>match p.2 with | .cell=>false | .free=>false | .local=>Zah (compSc2 ordC) p.1 | _=>true)=true:=by kernel_rfl
 rw [List.all_eq_true] at hnm
 have hcell:∀ z ∈ (compSc2 ordC).names,z.2 ≠ .cell:=λz hz e=>by have:=hnm z hz;rw [e] at this;exact nB this
 have hfree:∀ z ∈ (compSc2 ordC).names,z.2 ≠ .free:=λz hz e=>by have:=hnm z hz;rw [e] at this;exact nB this
 have hnames:∀ z ∈ (compSc2 ordC).names,z.2 = .local->(compSc2 ordC).names.lookup z.1=some .local:=λz hz e=>by
  have:=hnm z hz
  rw [e] at this
  exact Zay this
 refine e1_2 (Zcr (env:=B.env) (sc2:=compSc2 ordC) λz hz e=>absurd e (hfree z hz)) λcl hcl hclk=>?_
 have hdb:look (Str.ofString "__debug__") ls=none:=by obtain ⟨m,led,F,N,R,Lc⟩:=x.ex;exact Lc.dbg
 have hl0:=Zb6 hasc
 have hsz:(Zaa y).cps.size=y.length:=by simp [Zaa]
 refine Zdj λp0=>wpAny_comprehension_free (use:=none) rfl (λ_=>rfl) hcl (by kernel_rfl) hnames (ZdN O x hx λxv hv=>?_)
 refine e1_1 (vstr hv) λtk wq=>?_;subst wq
 refine wpAny_pyIter_ascii hl0 ?_
 refine Zed (B:=B) (E:=NoE) (it:=λi=>.str [y.getD i 0]) (n:=(Zaa y).cps.size) (Pv:=SignAt (Zaa y)) (St:=λi h=>h.IsStrIter rs.heap.objs.size "str_ascii_iterator" (Zaa y) tk i) (fp:=[rs.heap.objs.size])
  (J:=λD i c0 ρ' σ'=>c0=[]∧ρ'=[(D,default)]∧σ'=[.list ((y.take i).map λc=>.int (c:Nat))]) (lsC:=[]) (RR:=λacc C=>compPost G.M B.A NoE none Q acc C)
  O x hcell (by kernel_rfl) (by kernel_rfl) (Zaj (by kernel_rfl)) rfl (Walks.strAscii O.hand _ _ _) ⟨_,Heap.get?_push_size _ rfl,rfl,rfl⟩ (λi h st=>by refine e1_2 st λo e _=>?_;clear st;exact i1_1 o e) (λb hb=>.inl (by simpa using hb)) (λi v hi hP D c0 ρ' σ' _=>?_) (λy v e=>by exact nN e) rfl (λD=>⟨rfl,rfl,rfl⟩) ?_ ?_
 ·refine e2_2 hP λc u hc wq=>?_;clear hP;subst wq
  have:y[i]? = some c:=by simpa [Zaa] using hc
  have e:y.getD i 0=c:=by rw [List.getD_eq_getElem?_getD,this];rfl
  rw [e]
  exact .str _ _
 ·intro C I D oL oI i c0 ρ' σ' rs' hi wq;refine e0_3 wq λwqb wqc wqd=>?_;clear wq;subst wqb;subst wqc;subst wqd;intro O' hs'
  have hi':i<y.length:=by rw [←hsz];exact hi
  refine wpAny_tests_nil ?_
  rw [if_pos rfl]
  have e:y.getD i 0=y[i]:=by rw [List.getD_eq_getElem?_getD,List.getElem?_eq_getElem hi'];rfl
  have hsc2:((B.ext []).comp (compSc2 ordC) cl C oL I oI).sc=Zai lawS (compSc2 ordC):=by rw [←hsc];exact Zcv (env:=B.env) O.kind
  refine wpAny_mono (evA (runN (G:=G) hK Zdn 40) rfl O' hs' hsc2 (lsM:=[(Str.ofString "sign",.str [y.getD i 0])]) (fx:=[]) rfl (λ_ h=>nomatch h) (P:=λv=>v = .int (.k (y.getD i 0:Nat))) (by rw [ordR];exact i0_2 rfl rfl)) (λrv rs3 u=>?_) λ_ _ e=>e
  refine e2_3 u λv ρ3 wq hv hs3=>?_;clear u;subst wq
  refine e1_1 (vint hv) λt wq=>?_;subst wq
  refine ⟨[],_,.int (y.getD i 0:Nat),_,0,_,_,by rw [ev_k];exact .int _ _,rfl,.ref (o:=default) rfl,?_,hs3,rfl,rfl,?_⟩
  ·have:=List.length_take_le i y
   rw [List.length_map];omega
  ·show [SO.list (((y.take i).map λc=>SV.int (c:Nat))++[.int (y.getD i 0:Nat)])]=_
   rw [e,List.take_succ_eq_append_getElem hi',List.map_append];rfl
 ·intro C D oC c0 ρ' σ' rs' m wq;refine e0_3 wq λwqb wqc wqd=>?_;clear wq;subst wqb;subst wqc;subst wqd;intro hoC hnc hh
  have x2:=hh ls (LsTo.mono List.nil_prefix hdb)
  refine Zdx (B:=B) hoC hnc x2 λrs3 x3=>k _ _ ?_
  have x3:Hs G B [(D,default)] [.list ((y.take (Zaa y).cps.size).map λc=>.int (c:Nat))] ls rs3:=x3
  rw [hsz,List.take_of_length_le (Nat.le_refl _)] at x3
  exact x3
end
end Mine
end
section
namespace Mine
variable {G:Gl} {B:Bs} {ρ:List (Addr × Obj)} {σ:List SO} {ls ls':List (Str × SV)} {rs:Shared} {d:Nat}
noncomputable section
theorem Znv (O:Ok G B d) {y1 y2 y3:Str} {p1 p2 p3 tp q pos:Pos} {k k2:Nat} {es:List PySem.Expr} (l1:Zah B.sc y1=true) (l2:Zah B.sc y2=true) (l3:Zah B.sc y3=true) (d1:seq y1 (Str.ofString "__debug__")=false) (d2:seq y2 (Str.ofString "__debug__")=false) (d3:seq y3 (Str.ofString "__debug__")=false)
 (n12:y1 ≠ y2) (n13:y1 ≠ y3) (n23:y2 ≠ y3) (hs:es.all (constantsAlone 8)=false) {Q:Flow->Shared->Prop}
 (h:wpAny G.M B.A (spliced (backTo q (starEach es B.env))) (λvs rs1=>∃ (c:List (Addr × Obj)) (ls1:List (Str × SV)) (v1 v2 v3:SV) (r1 r2 r3:Value),vs=[r1,r2,r3]∧Hs G (B.mid [] c) [] [] ls1 rs1∧V [] v1 r1∧V [] v2 r2∧V [] v3 r3∧∀ rs2,Hs G (B.mid [] c) [] [] (put y3 v3 (put y2 v2 (put y1 v1 ls1))) rs2->Q .next rs2) NoE rs):
 wpAny G.M B.A (exec (.Assign [.Tuple [.Name y1 p1,.Name y2 p2,.Name y3 p3] k tp] (.Tuple es k2 q) pos) B.env) Q NoE rs:=by
 have laid:∀ {Q':Value->Shared->Prop},(∀ (c:List (Addr × Obj)) (ls1:List (Str × SV)) (v1 v2 v3:SV) (r1 r2 r3:Value) (a:Addr) rs2,V [] v1 r1->V [] v2 r2->V [] v3 r3->Hs G (B.mid [] c) [] [] ls1 rs2->IsTup rs2.heap a [r1,r2,r3].toArray->(∀ rs2,Hs G (B.mid [] c) [] [] (put y3 v3 (put y2 v2 (put y1 v1 ls1))) rs2->Q .next rs2)->Q' (.ref a) rs2)->wpAny G.M B.A (eval (.Tuple es k2 q) B.env) Q' NoE rs:=λ{Q'} hQ=>Tuple_ (wpAny_mono h (λvs rs1 u=>by
  refine e8_6 u λc ls1 v1 v2 v3 r1 r2 r3 wq x1 h1 h2 h3 kk=>?_;clear u;subst wq
  refine wpAny_mono (ZfK (B:=B.mid [] c) x1 (by simp)) (λv rs2 z=>?_) λ_ _ e=>e
  refine e1_3 z λa wq ht x2=>?_;clear z;subst wq
  exact hQ c ls1 v1 v2 v3 r1 r2 r3 a rs2 h1 h2 h3 x2 ht kk) λ_ _ e=>e)
 rcases sw_gen (ts:=[.Name y1 p1,.Name y2 p2,.Name y3 p3]) (k:=k) (p:=tp) (k2:=k2) (p2:=q) (env:=B.env) hs with hw | ⟨names,line,hw,f1,f2,f3⟩
 ·refine Assign_Tuple (laid λc ls1 v1 v2 v3 r1 r2 r3 a rs2 h1 h2 h3 x2 ht kk=>?_) rfl hw
  refine Zc2 (B:=B.mid [] c) O.mid x2 ht rfl rfl λrs3 x3=>?_
  refine assignInOrder_cons (wpAny_assign_Name (wpAny_mono (Hs.store (B:=B.mid [] c) O.mid x3 l1 d1 h1) (λ_ rs4 x4=>?_) λ_ _ e=>e))
  refine assignInOrder_cons (wpAny_assign_Name (wpAny_mono (Hs.store (B:=B.mid [] c) O.mid x4 l2 d2 h2) (λ_ rs5 x5=>?_) λ_ _ e=>e))
  exact assignInOrder_cons (wpAny_assign_Name (wpAny_mono (Hs.store (B:=B.mid [] c) O.mid x5 l3 d3 h3) (λ_ rs6 x6=>assignInOrder_nil (kk _ x6)) λ_ _ e=>e))
 ·have hnm:names=[y1,y2,y3]:=by
   have:=ZhR (env:=B.env) (line:=line) (ts:=[.Name y1 p1,.Name y2 p2,.Name y3 p3]) (by rw [←f1];exact f2)
   rw [←f1] at this
   have e2:[y1,y2,y3].map some=names.map some:=this
   exact ((List.map_inj_right λ_ _ h=>Option.some.inj h).mp e2).symm
  subst hnm
  refine Assign_Tuple_swapped (laid λc ls1 v1 v2 v3 r1 r2 r3 a rs2 h1 h2 h3 x2 ht kk=>?_) rfl hw
  obtain ⟨m,led,F,N,R,Lc⟩:=x2.ex
  refine unpackItemsN_ F N ht O.hand rfl λh' F' N'=>?_
  have x3:Hs G (B.mid [] c) [] [] ls1 { rs2 with heap:=h' }:=⟨⟨m,led,F',N',R,Lc⟩,x2.gens,x2.drawn,x2.os⟩
  show wpAny G.M B.A (assignInOrder [bindName B.env y3,bindName B.env y2,bindName B.env y1] [r3,r2,r1]) _ NoE _
  refine assignInOrder_cons (bindName_ (wpAny_mono (Hs.store (B:=B.mid [] c) O.mid x3 l3 d3 h3) (λ_ rs4 x4=>?_) λ_ _ e=>e))
  refine assignInOrder_cons (bindName_ (wpAny_mono (Hs.store (B:=B.mid [] c) O.mid x4 l2 d2 h2) (λ_ rs5 x5=>?_) λ_ _ e=>e))
  refine assignInOrder_cons (bindName_ (wpAny_mono (Hs.store (B:=B.mid [] c) O.mid x5 l1 d1 h1) (λ_ rs6 x6=>assignInOrder_nil (kk _ (x6.lsEq λz=>?_))) λ_ _ e=>e))
  simp only [ZaJ]
  by_cases e1:z=y1
  ·subst e1;rw [if_pos rfl,if_neg n13,if_neg n12,if_pos rfl]
  ·rw [if_neg e1,if_neg e1]
   by_cases e2:z=y2
   ·subst e2;rw [if_pos rfl,if_neg n23,if_pos rfl]
   ·rw [if_neg e2,if_neg e2]
set_option genInjectivity false in
set_option genSizeOf false in
inductive S4shapeR:Prop
 | mk:∀ pv ps pd k0 tp k2 p5 spos f1 px pt pos q1 f2 q2 f3 a3 q3,nth lawB 3=some (.Assign [.Tuple [.Name (Str.ofString "view") pv,.Name (Str.ofString "state") ps,.Name (Str.ofString "due") pd] k0 tp] (.Tuple [s4E 0,s4E 1,s4E 2] k2 p5) spos)->s4E 0 = .Call (.Name (Str.ofString "TextRow") f1) [.ListComp (ZaT ordC) [⟨.Name (Str.ofString "sign") px,.Name (Str.ofString "text") pt,[],0⟩] (compSc2 ordC) pos] [] q1->s4E 1 = .Call (.Name (Str.ofString "ParseState") f2) [] [] q2->s4E 2 = .Call (.Name (Str.ofString "_law_states") f3) [.Name (Str.ofString "pieces") a3] [] q3->[s4E 0,s4E 1,s4E 2].all (constantsAlone 8)=false->S4shapeR
theorem Zme:S4shapeR:=.mk _ _ _ _ _ _ _ _ _ _ _ _ _ _ _ _ _ _ (rfl) (rfl) (rfl) (rfl) (by kernel_rfl)
theorem rowR (L:List (Str × MV)):(run tabN 40).call 40 (.glob (.ref 500)) [.ref 0] ⟨[.list [.seg 0]],L,[]⟩ = .ret (.ref 1) ⟨[.list [.seg 0],.inst 500 [("codes",.ref 2),("place",.int (.k 1))],.list [.seg 0]],L,[]⟩:=by kernel_rfl
noncomputable def iniA:List (Str × MV):=psN.zip (.glob (.ref 29)::(IM.fl ⟨[],.k 0,.k 0,.none,.none,false,false,false,.none,false,0⟩))
theorem staR (L:List (Str × MV)):(run tabN 40).call 40 (.glob (.ref 68)) [] ⟨[],L,[]⟩ = .ret (.ref 0) ⟨[.inst 68 iniA],L,[]⟩:=by kernel_rfl
theorem ZoY {Pm:Params} (hK:G.K=KF Pm) (O:Ok G B 40) {y:List Nat} (hy:y.length≤4096) {D:Addr} (x:Hs G B [(D,default)] [.list (y.map λc=>.int (c:Nat))] ls rs) {Q:Value->Shared->Prop}
 (k:∀ (K:List Tr) (vw cd:Addr) rs',Good G K->(vw,SO.inst 500 [("codes",.glob (.ref cd)),("place",.int 1)]) ∈ prs K->(cd,SO.list (y.map λc=>.int (c:Nat))) ∈ prs K->Hs G (B.mid [] (flat K)) [] [] (Zax (ads K) ls) rs'->Q (.ref vw) rs'):
 wpAny G.M B.A (PySem.call (.ref 500) [.ref D]) Q NoE rs:=by
 have hν:(mkN [] [(0,y.map λc=>.int (c:Nat))] [] (λ_=>0) []).ok:=Zb2 (λ_ h=>nomatch h) (λp hp _=>by
  obtain rfl:=List.mem_singleton.mp hp
  intro v hv;refine e1_2 (List.mem_map.mp hv) λn _ wq=>?_;subst wq;exact i1_1 n rfl) (λp hp h=>by
  obtain rfl:=List.mem_singleton.mp hp
  exact absurd h (by decide:¬100≤0)) (λp hp=>by
  obtain rfl:=List.mem_singleton.mp hp
  simp only [List.length_map];exact hy) (λ_ h=>nomatch h)
 generalize hnu:mkN [] [(0,y.map λc=>SV.int (c:Nat))] [] (λ_=>0) []=ν at hν
 have hg:ν.g 0=y.map λc=>.int (c:Nat):=by rw [←hnu];rfl
 have H:=runN (G:=G) hK hν 40
 have g:Gd G B tabN ν [(D,default)] ⟨[.list [.seg 0]],mvs ls,[]⟩ rs:=⟨(λ_ h=>nomatch h),by
  have e:semH tabN ν ⟨[.list [.seg 0]],mvs ls,[]⟩=[.list (y.map λc=>.int (c:Nat))]:=by
   show [SO.list (ν.g 0++[])]=_
   rw [hg,List.append_nil]
  have e2:semL ν (mvs ls)=ls:=Zgk ν ls
  rw [e]
  show Hs G B _ _ (semL ν (mvs ls)) rs
  rw [e2];exact x⟩
 refine wpAny_mono (H.call (P:=λv s'=>v = .ref 1∧s'=⟨[.list [.seg 0],.inst 500 [("codes",.ref 2),("place",.int (.k 1))],.list [.seg 0]],mvs ls,[]⟩) (vs:=[.ref 0]) (rvs:=[.ref D]) O g (.cons (.ref (o:=default) rfl) .nil) (by rw [rowR];exact i0_2 rfl rfl)) (λrv rs2 u=>?_) λ_ _ e=>e
 obtain ⟨ρ2,w,s2,hp,⟨rfl,rfl⟩,hw,g2⟩:=u
 refine e1_4 (ZaD (pre:=[]) (c0:=[]) g2.hs) λK f1 f2 good z=>?_
 rw [List.append_nil] at z
 refine e1_3 (ZaV (Γ:=tabN) (ν:=ν) (s:=⟨[.list [.seg 0],.inst 500 [("codes",.ref 2),("place",.int (.k 1))],.list [.seg 0]],mvs ls,[]⟩) (n:=1) f1 f2 rfl) λt1 a1 a2 a3=>?_
 refine e1_3 (ZaV (Γ:=tabN) (ν:=ν) (s:=⟨[.list [.seg 0],.inst 500 [("codes",.ref 2),("place",.int (.k 1))],.list [.seg 0]],mvs ls,[]⟩) (n:=2) f1 f2 rfl) λt2 b1 b2 b3=>?_
 refine e2_2 (vref hw) λvw o wq ha=>?_;subst wq
 have evw:t1.1.1=vw:=by rw [ha] at a3;rw [←Option.some.inj a3]
 have h2:t2.2.1 = .list (y.map λc=>.int (c:Nat)):=by
  rw [b2]
  show SO.list ((ν.g 0++[]).map (anfV ρ2))=_
  rw [hg,List.append_nil,List.map_map];rfl
 have h1:t1.2.1 = .inst 500 [("codes",.glob (.ref t2.1.1)),("place",.int 1)]:=by
  rw [a2]
  show SO.inst 500 [("codes",anfV ρ2 (.ref 2)),("place",.int ((Lin.k 1).ev ν.x))]=_
  simp only [anfV,b3,ev_k]
 refine k K vw t2.1.1 rs2 good (by rw [←h1,←evw];exact Za7 a1) (by rw [←h2];exact Za7 b1) ?_
 have e2:semL ν (mvs ls)=ls:=Zgk ν ls
 have z:Hs G (B.mid [] (flat K)) [] [] (Zax ρ2 (semL ν (mvs ls))) rs2:=z
 rw [e2,←f1] at z
 exact z
theorem Zmj {Pm:Params} (hK:G.K=KF Pm) (O:Ok G B 40) (x:Hs G B [] [] ls rs) {Q:Value->Shared->Prop}
 (k:∀ (K:List Tr) (st:Addr) rs',Good G K->(st,SO.inst 68 (psN.zip (.glob (.ref 29)::D0.fl))) ∈ prs K->Hs G (B.mid [] (flat K)) [] [] (Zax (ads K) ls) rs'->Q (.ref st) rs'):
 wpAny G.M B.A (PySem.call (.ref 68) []) Q NoE rs:=by
 have H:=runN (G:=G) hK Zdn 40
 have e2:semL nu0 (mvs ls)=ls:=Zgk nu0 ls
 have g:Gd G B tabN nu0 [] ⟨[],mvs ls,[]⟩ rs:=⟨(λ_ h=>nomatch h),by
  show Hs G B _ _ (semL nu0 (mvs ls)) rs
  rw [e2];exact x⟩
 refine wpAny_mono (H.call (P:=λv s'=>v = .ref 0∧s'=⟨[.inst 68 iniA],mvs ls,[]⟩) (vs:=[]) (rvs:=[]) O g .nil (by rw [staR];exact i0_2 rfl rfl)) (λrv rs2 u=>?_) λ_ _ e=>e
 obtain ⟨ρ2,w,s2,hp,⟨rfl,rfl⟩,hw,g2⟩:=u
 refine e1_4 (ZaD (pre:=[]) (c0:=[]) g2.hs) λK f1 f2 good z=>?_
 rw [List.append_nil] at z
 refine e1_3 (ZaV (Γ:=tabN) (ν:=nu0) (s:=⟨[.inst 68 iniA],mvs ls,[]⟩) (n:=0) f1 f2 rfl) λt1 a1 a2 a3=>?_
 refine e2_2 (vref hw) λst o wq ha=>?_;subst wq
 have est:t1.1.1=st:=by rw [ha] at a3;rw [←Option.some.inj a3]
 have h1:t1.2.1 = .inst 68 (psN.zip (.glob (.ref 29)::D0.fl)):=by rw [a2];kernel_rfl
 refine k K st rs2 good (by rw [←h1,←est];exact Za7 a1) ?_
 have z:Hs G (B.mid [] (flat K)) [] [] (Zax ρ2 (semL nu0 (mvs ls))) rs2:=z
 rw [e2,←f1] at z
 exact z
end
end Mine
end
section
namespace Mine
variable {G:Gl} {B:Bs} {ρ:List (Addr × Obj)} {σ:List SO} {ls ls':List (Str × SV)} {rs:Shared} {d:Nat}
noncomputable section
theorem ZfQ {Pm:Params} (hK:G.K=KF Pm) (O:Ok G B d) (hsc:B.sc=lawS) (x:Hs G B ρ σ ls rs) {y:Str} {p pos:Pos} {a:Addr} {es:List PySem.Expr} {Q:Value->Shared->Prop} (hn:look y lawS.names=some .globalImplicit) (hv:look y tabN.names=some (.glob (.ref a))) (hk:keepIn G.K (.ref a)=true) (hp:es.all Zae=true)
 (h:wpAny G.M B.A (spliced (backTo pos (starEach es B.env))) (λvs rs1=>G.K.In rs1.heap∧wpAny G.M B.A (PySem.call (.ref a) vs) Q NoE rs1) NoE rs):wpAny G.M B.A (eval (.Call (.Name y p) es [] pos) B.env) Q NoE rs:=by
 have T:TOk G tabN:=tOk Pm (G:=G) hK (base:=[]) (sums:=[]) (ops:=[])
 refine wpAny_Call_NameR (ZlA T O hsc x hn hv λrv hv=>?_)
 have hv:V ρ (.glob (.ref a)) rv:=hv
 refine e0_2 (V.glob_inv hv) λwq _=>?_;clear hv;subst wq
 exact ZaO (.inl hk) hp h
theorem Zqs {Pm:Params} (hK:G.K=KF Pm) (O:Ok G B 60) (hsc:B.sc=lawS) {K:List Tr} (good:Good G K) {qs:List (Pc × Addr)} {D:Addr} (hl:(D,SO.list (Zag (qs.map (·.2)))) ∈ prs K) (hat:∀ p ∈ qs,PcAt K p) (he:∀ j p,qs[j]? = some p->p.1.e=true∨j+1=qs.length) (hq12:qs.length≤12)
 {y:List Nat} (hasc:Zap y=true) (hy:y.length≤4096) (hx:look (Str.ofString "text") ls=some (.str y)) (hD:look (Str.ofString "pieces") ls=some (.glob (.ref D))) (x:Hs G (B.mid [] (flat K)) [] [] ls rs) {Q:Flow->Shared->Prop}
 (k:∀ (K1:List Tr) (vw cd st fd:Addr) (as:List Addr) rs',Good G K1->(vw,SO.inst 500 [("codes",.glob (.ref cd)),("place",.int 1)]) ∈ prs K1->(cd,SO.list (y.map λc=>.int (c:Nat))) ∈ prs K1->(st,SO.inst 68 (psN.zip (.glob (.ref 29)::D0.fl))) ∈ prs K1->(fd,SO.list (Zag as)) ∈ prs K1->
  Both (Told (prs K1)) as (D0::ZaG D0 1 (qs.map (·.1)))->Hs G (B.mid [] (flat (K1++K))) [] [] (put (Str.ofString "due") (.glob (.ref fd)) (put (Str.ofString "state") (.glob (.ref st)) (put (Str.ofString "view") (.glob (.ref vw)) ls))) rs'->Q .next rs'):
 ∀ stm,nth lawB 3=some stm->wpAny G.M B.A (exec stm B.env) Q NoE rs:=by
 obtain ⟨pv,ps,pd,k0,tp,k2,p5,spos,f1,px,pt,pos,q1,f2,q2,f3,a3,q3,hb,e0,e1,e2,hca⟩:=Zme
 rintro stm hst
 rw [hb] at hst
 have wq:=Option.some.inj hst;clear hst;subst wq
 have loc:∀ {x:Str},Zah lawS x=true->Zah B.sc x=true:=λh=>by rw [hsc];exact h
 refine Znv O (loc (by kernel_rfl)) (loc (by kernel_rfl)) (loc (by kernel_rfl)) (by kernel_rfl) (by kernel_rfl) (by kernel_rfl) (Zaj (by kernel_rfl)) (Zaj (by kernel_rfl)) (Zaj (by kernel_rfl)) hca ?_
 have OF:Ok G (B.mid [] (flat K)) 60:=O.mid
 refine wpAny_items_cons (e0 ▸ ZfQ (a:=500) (B:=B.mid [] (flat K)) hK OF hsc x (by kernel_rfl) (by kernel_rfl) (by rw [hK];kernel_rfl) rfl (wpAny_items_cons (Zl2 (B:=B.mid [] (flat K)) hK OF hsc hasc hy hx x λD2 rs2 x2=>wpAny_items_nil ⟨x2.kin (B:=B.mid [] (flat K)) OF,?_⟩) rfl)) (by rw [e0];rfl)
 refine ZoY (B:=B.mid [] (flat K)) hK (OF.le (by omega)) hy x2 λK1 vw cd rs3 g1 hvw hcd x3=>?_
 have x3:=x3.lsTo (ZcM x _)
 have O1:Ok G ((B.mid [] (flat K)).mid [] (flat K1)) 60:=OF.mid
 refine wpAny_items_cons (e1 ▸ ZfQ (a:=68) (B:=(B.mid [] (flat K)).mid [] (flat K1)) hK O1 hsc x3 (by kernel_rfl) (by kernel_rfl) (by rw [hK];kernel_rfl) rfl (wpAny_items_nil ⟨x3.kin O1,?_⟩)) (by rw [e1];rfl)
 refine Zmj (B:=(B.mid [] (flat K)).mid [] (flat K1)) hK (O1.le (by omega)) x3 λK2 st rs4 g2 hst x4=>?_
 have x4:=x4.lsTo (ZcM x3 _)
 have O2:Ok G (((B.mid [] (flat K)).mid [] (flat K1)).mid [] (flat K2)) 60:=O1.mid
 refine wpAny_items_cons (e2 ▸ ZfQ (a:=550) (B:=((B.mid [] (flat K)).mid [] (flat K1)).mid [] (flat K2)) hK O2 hsc x4 (by kernel_rfl) (by kernel_rfl) (by rw [hK];exact (ZbV Pm).keep) rfl (wpAny_items_cons (ZdN (B:=((B.mid [] (flat K)).mid [] (flat K1)).mid [] (flat K2)) O2 x4 hD λrv hv=>?_) rfl)) (by rw [e2];rfl)
 refine e0_2 (V.glob_inv hv) λwq _=>?_;clear hv;subst wq
 refine wpAny_items_nil ⟨x4.kin O2,wpAny_call (codeAny_mono (ZkO (B:=((B.mid [] (flat K)).mid [] (flat K1)).mid [] (flat K2)) hK (O2.le (by omega)) x4 good (λq hq=>?_) hl hat he hq12) λr rs5 u=>?_)⟩
 ·show q ∈ flat K2++(flat K1++(flat K++B.cs))
  exact List.mem_append_right _ (List.mem_append_right _ (List.mem_append_left _ hq))
 refine e3_5 u λK3 as fa wq g3 hfa hT x5=>?_;clear u;subst wq
 refine e1_4 (dead (B:=((B.mid [] (flat K)).mid [] (flat K1)).mid [] (flat K2)) (pre:=[]) x5 g3) λK4 w1 w2 g4 x6=>?_
 have x6:=x6.lsTo (ZcM x4 _)
 have ep:=Zhd w1 w2
 rw [←ep] at hfa hT
 have hB:((((B.mid [] (flat K)).mid [] (flat K1)).mid [] (flat K2)).mid [] (flat K4))=B.mid [] (flat ((K4++(K2++K1))++K)):=by
  have:flat ((K4++(K2++K1))++K)=flat K4++(flat K2++(flat K1++flat K)):=by
   unfold flat;simp only [List.flatMap_append,List.append_assoc]
  rw [this];simp only [Bs.mid,List.nil_append,List.append_assoc]
 rw [hB] at x6
 have in1:∀ z ∈ prs K1,z ∈ prs (K4++(K2++K1)):=λz hz=>by
  refine e1_2 (List.mem_map.mp hz) λt ht wq=>?_;subst wq
  exact List.mem_map.mpr ⟨t,List.mem_append_right _ (List.mem_append_right _ ht),rfl⟩
 have in2:∀ z ∈ prs K2,z ∈ prs (K4++(K2++K1)):=λz hz=>by
  refine e1_2 (List.mem_map.mp hz) λt ht wq=>?_;subst wq
  exact List.mem_map.mpr ⟨t,List.mem_append_right _ (List.mem_append_left _ ht),rfl⟩
 have in4:∀ z ∈ prs K4,z ∈ prs (K4++(K2++K1)):=λz hz=>by
  refine e1_2 (List.mem_map.mp hz) λt ht wq=>?_;subst wq
  exact List.mem_map.mpr ⟨t,List.mem_append_left _ ht,rfl⟩
 refine wpAny_items_nil ⟨_,ls,.glob (.ref vw),.glob (.ref st),.glob (.ref fa),_,_,_,rfl,x6,.glob _ rfl,.glob _ rfl,.glob _ rfl,λrs6 x7=>k (K4++(K2++K1)) vw cd st fa as rs6 (λt ht=>?_) (in1 _ hvw) (in1 _ hcd) (in2 _ hst) (in4 _ hfa) (hT.imp λ_ _ h=>h.mono λz hz _=>in4 z hz) x7⟩
 rcases List.mem_append.mp ht with ht | ht
 ·exact g4 t ht
 ·rcases List.mem_append.mp ht with ht | ht
  ·exact g2 t ht
  ·exact g1 t ht
end
end Mine
end
section
namespace Mine
variable {G:Gl} {B:Bs} {ρ:List (Addr × Obj)} {σ:List SO} {ls ls':List (Str × SV)} {rs:Shared} {d:Nat} {ν:Vn}
noncomputable section
noncomputable abbrev Zcf (tb:Addr) (y:List Nat) (vw fd st:Addr):List (Str × SV):=[(Str.ofString "table",.glob (.ref tb)),(Str.ofString "text",.str y),(Str.ofString "view",.glob (.ref vw)),(Str.ofString "due",.glob (.ref fd)),(Str.ofString "state",.glob (.ref st))]
theorem Ze1 {K0:List Tr} {tb:Addr} (h:ZdF K0 tb):K0.length=44:=by
 have e:=congrArg List.length h.1
 simp only [List.length_map] at e
 rw [e];kernel_rfl
theorem ZkH {T:List Tr} (good:Good G T) {os:List SO} (h:os.map (anfO (ads T))=sos T) (r:List (Addr × Obj)):os.map (anfO (ads T++r))=sos T:=by
 refine Eq.trans ?_ h
 refine List.map_congr_left λo ho=>?_
 obtain ⟨j,hj,e⟩:=List.getElem_of_mem ho
 have h1:(sos T)[j]? = some (anfO (ads T) o):=by
  rw [←h,List.getElem?_map,List.getElem?_eq_getElem hj,e];rfl
 rw [List.getElem?_map] at h1
 generalize q:T[j]? = wo at h1
 revert q;revert wo;show Fa _ _;refine Opt.on_some zN0 (λt h1=>?_);intro q
 have h2:t.2.1=anfO (ads T) o:=Option.some.inj h1
 have g:=good t (List.mem_of_getElem? q)
 rw [h2] at g
 exact Znb ⟨r,rfl⟩ (OR.anf.mpr g)
theorem ZkX {K0:List Tr} {tb:Addr} (h:ZdF K0 tb) (good:Good G K0) (r:List (Addr × Obj)) (ν:Vn):(slashH.map (MO.sem ν)).map (anfO (ads K0++r))=sos K0:=by
 rw [ZkN ν nu0]
 exact ZkH good h.1.symm r
structure TurnT (tv tc td ti to ts:Tr) (tos:List Tr) (y:List Nat) (asB asA:List Addr) (I:Item) (soM:MV) (so:Addr):Prop where
 v:tv.2.1 = .inst 500 [("codes",.glob (.ref tc.1.1)),("place",.int 1)]
 c:tc.2.1 = .list (y.map λc=>.int (c:Nat))
 d:td.2.1 = .list (Zag (asB++ti.1.1::asA))
 i:ti.2.1 = .tuple (.glob (.ref to.1.1)::I.fl)
 o:to.2.1 = .tuple (I.op.map .int)
 s:ts.2.1 = .inst 68 (psN.zip (.glob (.ref so)::I.fl))
 so:(soM=so1∧∃ tso,tos=[tso]∧tso.1.1=so∧tso.2.1 = .tuple (I.op.map .int))∨(soM=so0∧so=29∧tos=[])
theorem ZhY {ρ:List (Addr × Obj)}:∀ {l:List Str} {vs:List SV},(l.zip vs).map (λp=>(p.1,anfV ρ p.2))=l.zip (vs.map (anfV ρ))
 | [],_=>rfl
 | _::_,[]=>rfl
 | x::l,v::vs=>by
  exact congrArg (List.cons (x,anfV ρ v)) ZhY
theorem ZiE {K0:List Tr} {tb:Addr} (hT:ZdF K0 tb) (good:Good G K0) {tv tc td ti to ts:Tr} {tos:List Tr} {y:List Nat} {asB asA:List Addr} {I:Item} {soM:MV} {so:Addr} (h:TurnT tv tc td ti to ts tos y asB asA I soM so) {D:IM} (hsem:SemI ν D I) {codes due:List ME} {d1:List SV}
 (hcod:rowS ν codes=y.map λc=>.int (c:Nat)) (hdue:rowS ν due=d1++.ref 47::Zag asA) (hd1:d1=Zag asB):
 ((ZaK codes due D soM).map (MO.sem ν)).map (anfO (ads (K0++([tv,tc,td,ti,to,ts]++tos))))=sos (K0++([tv,tc,td,ti,to,ts]++tos)):=by
 have hl:=Ze1 hT
 have hlA:(ads K0).length=44:=by rw [List.length_map];exact hl
 have at_:∀ j t,([tv,tc,td,ti,to,ts]++tos)[j]? = some t->(ads (K0++([tv,tc,td,ti,to,ts]++tos)))[44+j]? = some t.1:=λj t e=>by
  rw [ads,List.map_append,List.getElem?_append_right (by rw [hlA];omega),hlA,show 44+j-44=j by omega,List.getElem?_map,e];rfl
 have e1:(ads (K0++([tv,tc,td,ti,to,ts]++tos)))[45]? = some tc.1:=at_ 1 tc rfl
 have e3:(ads (K0++([tv,tc,td,ti,to,ts]++tos)))[47]? = some ti.1:=at_ 3 ti rfl
 have e4:(ads (K0++([tv,tc,td,ti,to,ts]++tos)))[48]? = some to.1:=at_ 4 to rfl
 have e6:∀ t,tos=[t]->(ads (K0++([tv,tc,td,ti,to,ts]++tos)))[50]? = some t.1:=λt e=>at_ 6 t (by rw [e];rfl)
 have hA:ads (K0++([tv,tc,td,ti,to,ts]++tos))=ads K0++ads ([tv,tc,td,ti,to,ts]++tos):=List.map_append
 have h0:=ZkX hT good (ads ([tv,tc,td,ti,to,ts]++tos)) ν
 rw [←hA] at h0
 generalize ads (K0++([tv,tc,td,ti,to,ts]++tos))=ρ at *
 have hsos:sos (K0++([tv,tc,td,ti,to,ts]++tos))=sos K0++(sos [tv,tc,td,ti,to,ts]++sos tos):=by rw [sos,List.map_append,List.map_append]
 have hbase:ZaK codes due D soM=slashH++([.inst 500 [("codes",.ref 45),("place",.int (.k 1))],.list codes,.list due,.tuple (.v (.ref 48)::D.fl.map .v),.tuple D.op,.inst 68 (psN.zip (soM::D.fl))]++ZhP soM D.op):=rfl
 rw [hbase,List.map_append,List.map_append,List.map_append,List.map_append,h0,hsos]
 refine congrArg (sos K0++·) (congr (congrArg _ ?_) ?_)
 ·have q1:anfO ρ ((MO.inst 500 [("codes",.ref 45),("place",.int (.k 1))]).sem ν)=tv.2.1:=by
   rw [h.v]
   show SO.inst 500 [("codes",anfV ρ (.ref 45)),("place",.int ((Lin.k 1).ev ν.x))]=_
   simp only [anfV,e1,ev_k]
  have q2:anfO ρ ((MO.list codes).sem ν)=tc.2.1:=by
   rw [h.c]
   show SO.list ((rowS ν codes).map (anfV ρ))=_
   rw [hcod,List.map_map];rfl
  have q3:anfO ρ ((MO.list due).sem ν)=td.2.1:=by
   rw [h.d]
   show SO.list ((rowS ν due).map (anfV ρ))=_
   rw [hdue,hd1,List.map_append,List.map_cons,Zag,Zag,Zag,List.map_map,List.map_map,List.map_append,List.map_cons]
   simp only [anfV,e3]
   rfl
  have q4:anfO ρ ((MO.tuple (.v (.ref 48)::D.fl.map .v)).sem ν)=ti.2.1:=by
   rw [h.i]
   show SO.tuple ((SV.ref 48::rowS ν (D.fl.map .v)).map (anfV ρ))=_
   rw [Zd4,hsem.fl,List.map_cons,Zih]
   simp only [anfV,e4]
  have q5:anfO ρ ((MO.tuple D.op).sem ν)=to.2.1:=by
   rw [h.o]
   show SO.tuple ((rowS ν D.op).map (anfV ρ))=_
   rw [hsem.op,Zct]
  have q6:anfO ρ ((MO.inst 68 (psN.zip (soM::D.fl))).sem ν)=ts.2.1:=by
   rw [h.s]
   have e:(MO.inst 68 (psN.zip (soM::D.fl))).sem ν = .inst 68 (psN.zip (soM.sem ν::I.fl)):=by
    show SO.inst 68 ((psN.zip (soM::D.fl)).map λp=>(p.1,p.2.sem ν))=_
    have:=ZhZ psN (soM::D.fl) (ν:=ν)
    unfold semL at this
    rw [this,List.map_cons,hsem.fl]
   rw [e]
   show SO.inst 68 ((psN.zip (soM.sem ν::I.fl)).map λp=>(p.1,anfV ρ p.2))=_
   rw [ZhY,List.map_cons,Zih]
   refine byP λXX kX=>?_
   rcases h.so with ⟨rfl,t,ht,hso,_⟩ | ⟨rfl,hso,_⟩
   ·have:=e6 t ht
    have e7:anfV ρ (MV.sem ν so1) = .glob (.ref so):=by
     show anfV ρ (.ref 50)=_
     simp only [anfV,this,hso]
    refine kX ?_
    rw [e7]
   ·refine kX ?_
    rw [hso];rfl
  simp only [List.map_cons,List.map_nil,q1,q2,q3,q4,q5,q6]
 ·refine byP λXX kX=>?_
  rcases h.so with ⟨rfl,t,ht,_,hso⟩ | ⟨rfl,_,ht⟩
  ·refine kX ?_
   rw [ht]
   show [SO.tuple ((rowS ν D.op).map (anfV ρ))]=[t.2.1]
   rw [hsem.op,Zct,hso]
  ·refine kX ?_
   rw [ht];rfl
end
end Mine
end
section
namespace Mine
variable {G:Gl} {B:Bs} {ρ:List (Addr × Obj)} {σ:List SO} {ls ls':List (Str × SV)} {rs:Shared} {d:Nat} {ν:Vn}
noncomputable section
theorem Zio:∀ {l:List (Str × MV)} {names:List Str},ZgU l names=true->l=names.zip (snds l)
 | [],[],_=>rfl
 | p::r,x::q,h=>by
  have h':=Bool.and_eq_true_iff.mp (show (seq p.1 x&&ZgU r q)=true from h)
  obtain ⟨y,v⟩:=p
  have e:y=x:=seq_iff.mp h'.1
  subst e
  exact congrArg (List.cons (y,v)) (Zio h'.2)
 | [],_::_,h=>by exact nB h
 | _::_,[],h=>by exact nB h
theorem ZgY (hν:ν.ok):∀ {a b:List MV},Zi5 a b=true->a.map (MV.sem ν)=b.map (MV.sem ν)
 | [],[],_=>rfl
 | x::r,y::q,h=>by
  have h':=Bool.and_eq_true_iff.mp (show (mvEq x y&&Zi5 r q)=true from h)
  rw [List.map_cons,List.map_cons,ZgY hν h'.2,(ZaY hν h'.1).1]
 | [],_::_,h=>by exact nB h
 | _::_,[],h=>by exact nB h
theorem Zgc {x:String} {k:Nat} {s:St} (h:ZkF x k s=true):look (Str.ofString x) s.ls=some (.ref k):=by
 unfold ZkF at h
 generalize look (Str.ofString x) s.ls=wo at h ⊢
 revert wo;show Fa _ _;refine Opt.on_some zB0 (λv h=>?_)
 revert v;show Fa _ _;refine MV.on_ref zB0 zB1 zB1 zB1 zB1 zB1 zB1 zB1 (λn h=>?_)
 rw [Nat.eq_of_beq_eq_true h]
theorem ZmM {s:St} (h:ZoV s=true):look (Str.ofString "text") s.ls=some (.txt 0):=by
 unfold ZoV at h
 generalize look (Str.ofString "text") s.ls=wo at h ⊢
 revert wo;show Fa _ _;refine Opt.on_some zB0 (λv h=>?_)
 revert v;show Fa _ _;refine MV.on_txt zB0 zB1 zB1 zB1 zB1 zB1 zB1 zB1 (λn h=>?_)
 rw [Nat.eq_of_beq_eq_true h]
theorem ZjB {Γ:Tab} {s:St} {n:Nat} (h:Γ.base.length≤n):cell Γ s n=nth s.heap (n-Γ.base.length):=by
 unfold cell
 have:Nat.blt n Γ.base.length=false:=by
  cases q:Nat.blt n Γ.base.length with
  | false=>rfl
  | true=>rw [Nat.blt_eq] at q;omega
 rw [this];rfl
theorem Zmi {nb:Nat} {D:IM} {s:St} {l:List MV} (h:sndC nb D s l=true):∃ m fl row,l = .ref m::fl∧Zi5 fl D.fl=true∧nb≤m∧nth s.heap (m-nb)=some (.tuple row)∧Zdz row D.op=true:=by
 revert l;show Fa _ _;refine Lis.on_cons zB0 (λv fl h=>?_)
 revert v;show Fa _ _;refine MV.on_ref zB0 zB1 zB1 zB1 zB1 zB1 zB1 zB1 (λm h=>?_)
 have h1:=Bool.and_eq_true_iff.mp h
 have h2:=Bool.and_eq_true_iff.mp h1.1
 refine e1_2 (ZeQ h1.2) λrow h3 h4=>?_
 exact i3_5 m fl row rfl h2.1 (Nat.le_of_ble_eq_true h2.2) h3 h4
theorem Zj2 {nb:Nat} {D:IM} {s:St} {o:Option MO} (h:Zn6 nb D s o=true):∃ at_,o=some (.inst 68 at_)∧ZgU at_ psN=true∧sndC nb D s (snds at_)=true:=by
 revert o;show Fa _ _;refine Opt.on_some zB0 (λo h=>?_)
 revert o;show Fa _ _;refine MO.on_inst zB1 zB1 zB1 zB1 zB2 zB1 (λC at_ h=>?_)
 have h1:=Bool.and_eq_true_iff.mp h
 have h2:=Bool.and_eq_true_iff.mp h1.1
 exact ⟨at_,by rw [Nat.eq_of_beq_eq_true h2.1],h2.2,h1.2⟩
theorem Zl8 {nb:Nat} {D:IM} {s:St} {o:Option MV} (h:refC nb D s o=true):∃ n,o=some (.ref n)∧nb≤n∧Zn6 nb D s (nth s.heap (n-nb))=true:=by
 revert o;show Fa _ _;refine Opt.on_some zB0 (λv h=>?_)
 revert v;show Fa _ _;refine MV.on_ref zB0 zB1 zB1 zB1 zB1 zB1 zB1 zB1 (λn h=>?_)
 have h1:=Bool.and_eq_true_iff.mp h
 exact ⟨n,rfl,Nat.le_of_ble_eq_true h1.1,h1.2⟩
theorem ZmK {nb:Nat} {D:IM} {f:Fl} {s:St} (h:ZmJ nb D f s=true):f = .next∧Zkh s=true∧∃ n m at_ fl row,look (Str.ofString "state") s.ls=some (.ref n)∧nb≤n∧nth s.heap (n-nb)=some (.inst 68 at_)∧at_=psN.zip (.ref m::fl)∧Zi5 fl D.fl=true∧nb≤m∧nth s.heap (m-nb)=some (.tuple row)∧Zdz row D.op=true:=by
 have h0:=Bool.and_eq_true_iff.mp h
 have h1:=Bool.and_eq_true_iff.mp h0.1
 refine i0_3 ((by cases f<;>first | rfl | exact nB h1.1)) (h1.2) ?_
 refine e1_3 (Zl8 h0.2) λn e hn h2=>?_
 refine e1_3 (Zj2 h2) λat_ e2 hk h3=>?_
 refine e3_5 (Zmi h3) λm fl row e3 hf hm e4 h5=>?_
 exact ⟨n,m,at_,fl,row,e,hn,e2,by rw [←e3];exact Zio hk,hf,hm,e4,h5⟩
theorem Zlr {α:Type} {l:List α} {k n:Nat} {a:α} (h:l[n]? = some a) (hk:k≤n):a ∈ l.drop k:=by
 have:(l.drop k)[n-k]? = some a:=by rw [List.getElem?_drop,show k+(n-k)=n by omega];exact h
 exact List.mem_of_getElem? this
theorem ZiF {Pm:Params} (hK:G.K=KF Pm) (O:Ok G B 20) (e1:B.sc=lawS) {pre:List (Addr × Obj)} {T R:List Tr} (gT:Good G T) {tb vw fd st:Addr} {y:List Nat} {i:Int} {off:Int} {fx:List (Cnd × Bool)} {codes due:List ME} {soM:MV} {D:IM}
 (hrow:((ZaK codes due D soM).map (MO.sem ν)).map (anfO (ads T))=sos T) (i30:∃ o,(ads T)[30]? = some (tb,o)) (i44:∃ o,(ads T)[44]? = some (vw,o)) (i46:∃ o,(ads T)[46]? = some (fd,o)) (i49:∃ o,(ads T)[49]? = some (st,o))
 (hν:ν.ok) (S:SumOk G (Zau codes due D soM) ν) (hfx:FxOk ν fx) (hat:(lx1 off).ev ν.x=i) (ht:ν.t 0=y) {f:Fl->St->Bool}
 (hchk:((run (Zau codes due D soM) 80).blk 20 lawS ZcA ⟨[],(ZbO off []).ls,fx⟩).chk f=true)
 (x:Hs G (B.mid pre (flat (T++R))) [] [] (Zcf tb y vw fd st++[(Str.ofString "at",.int i)]) rs) (gR:Good G R):
 wpAny G.M B.A (execs ZcA B.env) (RF G (B.mid pre (flat R)) (Zau codes due D soM) ν (ads T) λfl s=>f fl s=true) NoE rs:=by
 refine byP λXX kX=>?_
 refine e1_1 i30 λo30 i30=>?_
 obtain ⟨o44,i44⟩:=i44
 obtain ⟨o46,i46⟩:=i46
 obtain ⟨o49,i49⟩:=i49
 have gAll:Good G (T++R):=λt h=>by
  refine byP λXX kX=>?_
  rcases List.mem_append.mp h with h | h
  ·refine kX ?_
   exact gT t h
  ·refine kX ?_
   exact gR t h
 refine kX ?_
 have hls:LsTo [] (ads T) (Zcf tb y vw fd st++[(Str.ofString "at",.int i)]) (semL ν (ZbO off []).ls):=by
  refine ⟨by kernel_rfl,ZeH (.cons ⟨rfl,λrv h=>?_⟩ (.cons ⟨rfl,λrv h=>?_⟩ (.cons ⟨rfl,λrv h=>?_⟩ (.cons ⟨rfl,λrv h=>?_⟩ (.cons ⟨rfl,λrv h=>?_⟩ (.cons ⟨rfl,λrv h=>?_⟩ .nil))))))⟩
  ·refine e0_2 (V.glob_inv h) λwq _=>?_;clear h;subst wq;exact .ref i30
  ·show V _ (.str (ν.t 0)) rv
   rw [ht];exact h.mono List.nil_prefix
  ·refine e0_2 (V.glob_inv h) λwq _=>?_;clear h;subst wq;exact .ref i44
  ·refine e0_2 (V.glob_inv h) λwq _=>?_;clear h;subst wq;exact .ref i46
  ·refine e0_2 (V.glob_inv h) λwq _=>?_;clear h;subst wq;exact .ref i49
  ·show V _ (.int ((lx1 off).ev ν.x)) rv
   rw [hat];exact h.mono List.nil_prefix
 have w:=thaw (T:=T) (R:=R) (σ':=(ZaK codes due D soM).map (MO.sem ν)) x gAll (.refl _) hrow hls
 have H:IhOk G (Zau codes due D soM) ν (run (Zau codes due D soM) 80):=Zbw (tOk Pm (G:=G) hK) S hν 80
 have g:Gd G (B.mid pre (flat R)) (Zau codes due D soM) ν (ads T) ⟨[],(ZbO off []).ls,fx⟩ rs:=⟨hfx,by
  have e:semH (Zau codes due D soM) ν ⟨[],(ZbO off []).ls,fx⟩=(ZaK codes due D soM).map (MO.sem ν):=by
   show ((ZaK codes due D soM)++[]).map _=_
   rw [List.append_nil]
  rw [e];exact w⟩
 have O':Ok G (B.mid pre (flat R)) 20:=⟨O.kin,O.top,O.kind,O.hand,O.dep,O.uni⟩
 exact Zlh (B:=B.mid pre (flat R)) H O' e1 g (Zbx hchk)
theorem ZmL {Pm:Params} (hK:G.K=KF Pm) (O:Ok G B 20) (e1:B.sc=lawS) {pre:List (Addr × Obj)} {T R:List Tr} (gT:Good G T) {tb vw fd st:Addr} {y:List Nat} {i:Int} {off:Int} {fx:List (Cnd × Bool)} {codes due:List ME} {soM:MV} {D D':IM} {I':Item}
 (hrow:((ZaK codes due D soM).map (MO.sem ν)).map (anfO (ads T))=sos T) (i30:∃ o,(ads T)[30]? = some (tb,o)) (i44:∃ o,(ads T)[44]? = some (vw,o)) (i46:∃ o,(ads T)[46]? = some (fd,o)) (i49:∃ o,(ads T)[49]? = some (st,o))
 (hν:ν.ok) (S:SumOk G (Zau codes due D soM) ν) (hfx:FxOk ν (ZbO off fx).facts) (hsem':SemI ν D' I') (hat:(lx1 off).ev ν.x=i) (ht:ν.t 0=y)
 (hchk:((run (Zau codes due D soM) 80).blk 20 lawS ZcA (ZbO off fx)).chk (ZmJ (50+(ZhP soM D.op).length) D')=true)
 (x:Hs G (B.mid pre (flat (T++R))) [] [] (Zcf tb y vw fd st++[(Str.ofString "at",.int i)]) rs) (gR:Good G R):
 wpAny G.M B.A (execs ZcA B.env) (λf rs'=>f = .next∧∃ (T' X:List Tr) (st' so':Addr),ads T'=ads T∧sos T'=sos T∧Good G (T'++X)∧(st',SO.inst 68 (psN.zip (.glob (.ref so')::I'.fl))) ∈ prs X∧(so',SO.tuple (I'.op.map .int)) ∈ prs X∧Hs G (B.mid pre (flat ((T'++X)++R))) [] [] (Zcf tb y vw fd st') rs') NoE rs:=by
 have hlen:(ZaK codes due D soM).length=T.length:=by
  have:=congrArg List.length hrow
  simpa only [List.length_map] using this
 have hnb:(ZaK codes due D soM).length=50+(ZhP soM D.op).length:=by
  show (slashH++([_,_,_,_,_,_]++ZhP soM D.op)).length=_
  rw [List.length_append,List.length_append,show slashH.length=44 by kernel_rfl]
  show 44+(6+_)=_
  omega
 refine wpAny_mono (ZiF hK O e1 gT hrow i30 i44 i46 i49 hν S hfx hat ht hchk x gR) (λf rs2 u=>?_) λ_ _ e=>e
 refine byP λXX kX=>?_
 refine e1_1 i30 λo30 i30=>?_
 obtain ⟨o44,i44⟩:=i44
 obtain ⟨o46,i46⟩:=i46
 obtain ⟨o49,i49⟩:=i49
 obtain ⟨ρ2,fl,s2,hp,hC,hf,g2⟩:=u
 obtain ⟨rfl,hk,n,m,at_,afl,row,hst,hn,hi,rfl,hfl,hm,hrw,hro⟩:=ZmK hC
 refine kX ?_
 have hnx:f = .next:=by cases hf;rfl
 obtain ⟨T2,f1,f2,g3,z⟩:=ZaD g2.hs
 rw [←hnb] at hn hi hm hrw
 have c1:cell (Zau codes due D soM) s2 n=some (.inst 68 (psN.zip (.ref m::afl))):=by rw [ZjB hn];exact hi
 have c2:cell (Zau codes due D soM) s2 m=some (.tuple row):=by rw [ZjB hm];exact hrw
 refine byP λXX kX=>?_
 obtain ⟨ts',q1,q2,q3⟩:=ZaV f1 f2 c1
 obtain ⟨to',r1,r2,r3⟩:=ZaV f1 f2 c2
 have hto:to'.2.1 = .tuple (I'.op.map .int):=by
  rw [r2]
  show SO.tuple ((rowS ν row).map (anfV ρ2))=_
  rw [ZbL hν hro,hsem'.op,Zct]
 refine kX ?_
 have hts:ts'.2.1 = .inst 68 (psN.zip (.glob (.ref to'.1.1)::I'.fl)):=by
  rw [q2]
  have e:(MO.inst 68 (psN.zip (.ref m::afl))).sem ν = .inst 68 (psN.zip (.ref m::I'.fl)):=by
   show SO.inst 68 ((psN.zip (.ref m::afl)).map λp=>(p.1,p.2.sem ν))=_
   have:=ZhZ psN (.ref m::afl) (ν:=ν)
   unfold semL at this
   rw [this,List.map_cons,ZgY hν hfl,hsem'.fl];rfl
  rw [e]
  show SO.inst 68 ((psN.zip (.ref m::I'.fl)).map λp=>(p.1,anfV ρ2 p.2))=_
  rw [ZhY,List.map_cons,Zih]
  simp only [anfV,r3]
 have hflat:flat T2++flat R=flat (T2++R):=(List.flatMap_append).symm
 rw [hflat] at z
 refine byP λXX kX=>?_
 obtain ⟨rr,hr⟩:=hp
 have ha:(ads T2)=ads T++rr:=f1.trans hr.symm
 have hsplit:T2.take T.length++T2.drop T.length=T2:=List.take_append_drop _ _
 have hTa:ads (T2.take T.length)=ads T:=by
  rw [ads,List.map_take]
  have:T2.map (·.1)=ads T++rr:=ha
  rw [this,List.take_left' (by rw [List.length_map])]
 have hTs:sos (T2.take T.length)=sos T:=by
  rw [sos,List.map_take]
  have:T2.map (·.2.1)=((ZaK codes due D soM++s2.heap).map (MO.sem ν)).map (anfO ρ2):=f2
  rw [this,List.map_append,List.map_append,List.take_left' (by rw [List.length_map,List.length_map];exact hlen),←hr]
  exact ZkH gT hrow rr
 rw [hnb] at hlen
 have hX:∀ {k:Nat} {t:Tr},T2[k]? = some t->(ZaK codes due D soM).length≤k->(t.1.1,t.2.1) ∈ prs (T2.drop T.length):=λ{k t} e hk=>List.mem_map.mpr ⟨t,Zlr e (by rw [hnb] at hk;omega),rfl⟩
 simp only [Zkh,Bool.and_eq_true] at hk
 obtain ⟨k1,k2,k3,k4⟩:=hk
 refine kX ?_
 have i2:∀ {j:Nat} {p:Addr × Obj},(ads T)[j]? = some p->ρ2[j]? = some p:=λ{j p} e=>by
  rw [←hr,List.getElem?_append_left (List.getElem?_eq_some_iff.mp e).1];exact e
 refine ⟨hnx,T2.take T.length,T2.drop T.length,ts'.1.1,to'.1.1,hTa,hTs,by rw [hsplit];exact g3,by rw [←hts];exact hX q1 hn,by rw [←hto];exact hX r1 hm,?_⟩
 rw [hsplit]
 refine z.lsTo (Zch (λp hp=>?_) (by kernel_rfl))
 simp only [Zcf,List.mem_cons,List.not_mem_nil,or_false] at hp
 refine byP λXX kX=>?_
 rcases hp with rfl | rfl | rfl | rfl | rfl
 ·refine kX ?_
  rw [ZbT (Zgc k1)];simp only [MV.sem,anfV,i2 i30]
 ·refine kX ?_
  rw [ZbT (ZmM k2)];simp only [MV.sem,anfV,ht]
 ·refine kX ?_
  rw [ZbT (Zgc k3)];simp only [MV.sem,anfV,i2 i44]
 ·refine kX ?_
  rw [ZbT (Zgc k4)];simp only [MV.sem,anfV,i2 i46]
 ·refine kX ?_
  rw [ZbT hst];simp only [MV.sem,anfV,q3]
end
end Mine
end
section
namespace Mine
variable {ν:Vn}
noncomputable section
theorem ZlW {opM:List ME} {op:List Int} {be le w s:Int} {wh:Option Int} (h0:rowS ν opM=op.map .int) (h1:ν.x 10=be) (h2:ν.x 12=le) (h3:ν.o 0=oSV wh) (h4:ν.x 14=w) (h5:ν.x 16=s):∀ m,SemI ν (modeM opM m) (Zok op be le wh w s m):=by
 have b:(Lin.x 10).ev ν.x=be:=by rw [ev_x,h1]
 have l:(Lin.x 12).ev ν.x=le:=by rw [ev_x,h2]
 have wi:∃ l,(MV.int (.x 14):MV) = .int l∧some w=some (l.ev ν.x):=⟨.x 14,rfl,by rw [ev_x,h4]⟩
 have st:(MV.int (.x 16)).sem ν=oSV (some s):=by show SV.int ((Lin.x 16).ev ν.x) = .int s;rw [ev_x,h5]
 intro m
 match m with
 | 0=>exact ⟨h0,b,l,h3,.inl ⟨rfl,rfl⟩,rfl,rfl,rfl,rfl,rfl,rfl⟩
 | 1=>exact ⟨h0,b,l,h3,.inr wi,rfl,rfl,rfl,rfl,rfl,rfl⟩
 | 2=>exact ⟨h0,b,l,h3,.inr wi,rfl,rfl,rfl,rfl,rfl,rfl⟩
 | 3=>exact ⟨h0,b,l,h3,.inl ⟨rfl,rfl⟩,rfl,rfl,rfl,st,rfl,rfl⟩
 | 4=>exact ⟨h0,b,l,h3,.inl ⟨rfl,rfl⟩,rfl,rfl,rfl,st,rfl,rfl⟩
 | 5=>exact ⟨h0,b,l,h3,.inl ⟨rfl,rfl⟩,rfl,rfl,rfl,rfl,rfl,rfl⟩
 | 6=>exact ⟨h0,b,l,h3,.inl ⟨rfl,rfl⟩,rfl,rfl,rfl,st,rfl,rfl⟩
 | 7=>exact ⟨h0,b,l,h3,.inl ⟨rfl,rfl⟩,rfl,rfl,rfl,st,rfl,rfl⟩
 | k+8=>exact ⟨h0,b,l,h3,.inl ⟨rfl,rfl⟩,rfl,rfl,rfl,st,rfl,rfl⟩
set_option genInjectivity false in
set_option genSizeOf false in
structure NuData (ν:Vn) (I:Item) (ini:List Int) (last:Int):Prop where
 be:ν.x 10=I.be
 le:ν.x 12=I.le
 wh:ν.o 0=oSV I.wh
 wo:ν.x 14=I.wo.getD 0
 sta:ν.x 16=I.sta.getD 0
 last:ν.x 18=last
 g2:ν.g 2=ini.map .int
 l2:ν.x 5=ini.length
theorem ZfR {I:Item} {ini:List Int} {last:Int} (h:NuData ν I ini last) (hn:I=norm I) {opM:List ME} (h0:rowS ν opM=I.op.map .int):SemI ν (modeM opM (Zad I)) I:=by
 have:=ZlW h0 h.be h.le h.wh h.wo h.sta (Zad I)
 have e:Zok I.op I.be I.le I.wh (I.wo.getD 0) (I.sta.getD 0) (Zad I)=I:=hn.symm
 rw [e] at this;exact this
theorem Zin {j:Nat × Nat × Nat} {l:List (Nat × Nat × Nat)} (h:j ∈ l) {f:Nat × Nat × Nat->Bool} (hf:l.all f=true):f j=true:=List.all_eq_true.mp hf j h
theorem ZlG:((ZfX++(ZfY++(ZgL++(ZgM++ZgN)))).all λj=>!Nat.beq j.1 0)=true:=by kernel_rfl
theorem ZgO:((ZgK++(ZfX++ZfY)).all λj=>!Nat.beq j.2.1 41)=true:=by kernel_rfl
theorem Zka:((ZgL++(ZgM++ZgN)).all λj=>Nat.beq j.1 3||(Nat.beq j.1 7||Nat.beq j.1 8))=true:=by kernel_rfl
theorem Zij {j:Nat × Nat × Nat} (h:j ∈ Zj9):j.2.1=41∧(j.1=0∨j.1=1)∧(j.2.2=0∨j.2.2=1):=by
 simp only [Zj9,List.mem_cons,List.not_mem_nil,or_false] at h
 rcases h with rfl | rfl | rfl | rfl<;>simp
noncomputable def Zff (a:Addr) (I:Item) (c code:Nat) (soM:MV) (ini:List Int) (last:Int) (opM:List ME) (fx:List (Cnd × Bool)) (least:Bool):Prop:=ini.length≤I.op.length∧Zcq a opM (Zad I) c code soM fx least=true∧
 ∀ ν,NuData ν I ini last->rowS ν opM=I.op.map .int∧FxOk ν fx∧(c=41->I.co=false->I.st=false->I.qu=false->CloseOk ν (modeM opM (Zad I)) I least)
theorem Zky {a:Addr} {I:Item} {c code:Nat} (hn:I=norm I) (hj:(Zad I,c,code) ∈ ZgK++(ZfX++(ZfY++(ZgL++(ZgM++ZgN))))):Zff a I c code so1 I.op 0 [.seg 2] [] false:=by
 have hk:ZhU a (Zad I,c,code)=true:=by
  simp only [List.mem_append] at hj
  rcases hj with h | h | h | h | h | h
  ·exact Zbl (Zp1 a) _ h
  ·exact Zbl (Zp2 a) _ h
  ·exact Zbl (Zp3 a) _ h
  ·exact Zbl (Zp4 a) _ h
  ·exact Zbl (Zp5 a) _ h
  ·exact Zbl (Zp6 a) _ h
 refine i0_3 (Nat.le_refl _) hk (λν h=>⟨?_,(λ_ h=>nomatch h),λhc hco hst hqu=>?_⟩)
 ·show ν.g 2++[]=_
  rw [h.g2,List.append_nil]
 ·exfalso
  have hj2:(Zad I,c,code) ∈ (ZgK++(ZfX++ZfY))∨(Zad I,c,code) ∈ ZgL++(ZgM++ZgN):=by
   simp only [List.mem_append] at hj ⊢
   rcases hj with h | h | h | h | h | h
   ·exact .inl (.inl h)
   ·exact .inl (.inr (.inl h))
   ·exact .inl (.inr (.inr h))
   ·exact .inr (.inl h)
   ·exact .inr (.inr (.inl h))
   ·exact .inr (.inr (.inr h))
  rcases hj2 with h | h
  ·have:=Zin h ZgO
   rw [hc] at this;exact nB this
  ·have h2:=Zin h Zka
   rw [Bool.or_eq_true,Bool.or_eq_true] at h2
   unfold norm at hn
   rcases h2 with q | q | q
   ·have e:Zad I=3:=Nat.eq_of_beq_eq_true q
    rw [e] at hn
    have:I.st=true:=by rw [hn];rfl
    rw [this] at hst;exact nT hst
   ·have e:Zad I=7:=Nat.eq_of_beq_eq_true q
    rw [e] at hn
    have:I.co=true:=by rw [hn];rfl
    rw [this] at hco;exact nT hco
   ·have e:Zad I=8:=Nat.eq_of_beq_eq_true q
    rw [e] at hn
    have:I.co=true:=by rw [hn];rfl
    rw [this] at hco;exact nT hco
theorem Znc {a:Addr} {I:Item} {code:Nat} {soM:MV} (h0:I.op=[]) (hk:Zcq a [] (Zad I) 41 code soM (fxE (decide (0-(I.be+1)<I.le))) (decide (0-(I.be+1)<I.le))=true):Zff a I 41 code soM [] 0 [] (fxE (decide (0-(I.be+1)<I.le))) (decide (0-(I.be+1)<I.le)):=by
 refine i0_3 (Nat.zero_le _) hk (λν h=>⟨by rw [h0];rfl,ZmW (by rw [decide_eq_true_iff,h.be,h.le]),λ_ _ _ _=>.inl ⟨Zf2 _,h0,decide_eq_true_iff⟩⟩)
theorem ZpL {a:Addr} {I:Item} {code:Nat} {ini:List Int} {last:Int} (h0:I.op=ini++[last]) (hk:Zcq a opL (Zad I) 41 code so1 (fxL (decide ((ini.length:Int)-I.be<I.le))) (decide ((ini.length:Int)-I.be<I.le))=true):Zff a I 41 code so1 ini last opL (fxL (decide ((ini.length:Int)-I.be<I.le))) (decide ((ini.length:Int)-I.be<I.le)):=by
 refine i0_3 (by rw [h0];simp) hk (λν h=>⟨?_,ZmX (by rw [decide_eq_true_iff,h.be,h.le,h.l2]),λ_ _ _ _=>.inr ⟨2,.int (.x 18),ini,last,Zf2 _,h0,h.g2,?_,decide_eq_true_iff⟩⟩)
 ·show ν.g 2++([SV.int ((Lin.x 18).ev ν.x)]++[])=_
  rw [ev_x,h.g2,h.last,h0,List.map_append];rfl
 ·show SV.int ((Lin.x 18).ev ν.x)=_
  rw [ev_x,h.last]
theorem ZlL {I:Item} {c code:Nat} (hj:(Zad I,c,code) ∈ jobsAll) (hn:I=norm I) (a:Addr):∃ ini last opM fx least,Zff a I c code so1 ini last opM fx least:=by
 have hs:(Zad I,c,code) ∈ (ZgK++(ZfX++(ZfY++(ZgL++(ZgM++ZgN)))))∨(Zad I,c,code) ∈ Zj9:=by
  unfold jobsAll at hj
  simp only [List.mem_append] at hj ⊢
  rcases hj with h | h | h | h | h | h | h
  ·exact .inl (.inl h)
  ·exact .inl (.inr (.inl h))
  ·exact .inl (.inr (.inr (.inl h)))
  ·exact .inl (.inr (.inr (.inr (.inl h))))
  ·exact .inl (.inr (.inr (.inr (.inr (.inl h)))))
  ·exact .inl (.inr (.inr (.inr (.inr (.inr h)))))
  ·exact .inr h
 rcases hs with h | h
 ·exact i5_1 _ _ _ _ _ (Zky hn h)
 ·refine e0_3 (Zij h) λhc hm hcode=>?_
  have hc:c=41:=hc
  subst hc
  rcases op_snoc I.op with h0 | ⟨ini,last,h0⟩
  ·refine i5_1 _ _ _ _ _ (Znc (code:=code) h0 ?_)
   have hm:Zad I=0∨Zad I=1:=hm
   have hcode:code=0∨code=1:=hcode
   rcases hm with e | e<;>rcases hcode with rfl | rfl<;>rw [e]
   ·exact Zk0 a _
   ·exact Zk1 a _
   ·exact Zk2 a _
   ·exact Zk3 a _
  ·refine i5_1 _ _ _ _ _ (ZpL (code:=code) h0 ?_)
   have hm:Zad I=0∨Zad I=1:=hm
   have hcode:code=0∨code=1:=hcode
   rcases hm with e | e<;>rcases hcode with rfl | rfl<;>rw [e]
   ·exact Zk4 a _
   ·exact Zk5 a _
   ·exact Zk6 a _
   ·exact Zk7 a _
theorem Zke {c code:Nat} (hj:(Zad D0,c,code) ∈ jobsAll) (a:Addr):∃ ini last opM fx least,Zff a D0 c code so0 ini last opM fx least:=by
 have hs:(Zad D0,c,code) ∈ ZgK∨(Zad D0,c,code) ∈ (ZfX++(ZfY++(ZgL++(ZgM++ZgN))))∨(Zad D0,c,code) ∈ Zj9:=by
  unfold jobsAll at hj
  simp only [List.mem_append] at hj ⊢
  rcases hj with h | h | h | h | h | h | h
  ·exact .inl h
  ·exact .inr (.inl (.inl h))
  ·exact .inr (.inl (.inr (.inl h)))
  ·exact .inr (.inl (.inr (.inr (.inl h))))
  ·exact .inr (.inl (.inr (.inr (.inr (.inl h)))))
  ·exact .inr (.inl (.inr (.inr (.inr (.inr h)))))
  ·exact .inr (.inr h)
 rcases hs with h | h | h
 ·have hk:Znm a (Zad D0,c,code)=true:=Zbl (Zp7 a) _ h
  refine i5_3 ([]) (0) ([]) ([]) false (Nat.le_refl _) hk (λν _=>⟨rfl,(λ_ h=>nomatch h),λhc _ _ _=>?_⟩)
  exfalso
  have:=Zin (List.mem_append_left (ZfX++ZfY) h) ZgO
  rw [hc] at this;exact nB this
 ·have:=Zin h ZlG
  exact nB this
 ·refine e0_3 (Zij h) λhc hm hcode=>?_
  have hc:c=41:=hc
  subst hc
  have hcode:code=0∨code=1:=hcode
  refine i5_1 _ _ _ _ _ (Znc (code:=code) rfl ?_)
  rcases hcode with rfl | rfl
  ·exact ZoQ a _
  ·exact ZoR a _
end
end Mine
end
section
namespace Mine
variable {G:Gl} {B:Bs} {ρ:List (Addr × Obj)} {σ:List SO} {ls ls':List (Str × SV)} {rs:Shared} {d:Nat} {ν:Vn}
noncomputable section
noncomputable abbrev nats (l:List Nat):List SV:=l.map λc=>.int (c:Nat)
noncomputable def nuT (I:Item) (last nx:Int) (ini:List Int) (cb ca:List Nat) (asB asA:List Addr) (idx:Nat) (y:List Nat):Vn:=mkN [(10,I.be),(12,I.le),(14,I.wo.getD 0),(16,I.sta.getD 0),(18,last),(20,nx)] [(0,nats cb),(1,nats ca),(2,ini.map .int),(3,asA.map λ_=>.int 0),(100,Zag asB),(103,Zag asA)] [(0,oSV I.wh)] (λ_=>idx) [(0,y)]
theorem Zko {I:Item} {last nx:Int} {ini:List Int} {cb ca:List Nat} {asB asA:List Addr} {idx:Nat} {y:List Nat} (h0:cb.length=asB.length) (h1:cb.length≤4096) (h2:ca.length≤4096) (h3:ini.length≤4096) (h4:asA.length≤4096) (h5:y.length≤4096):(nuT I last nx ini cb ca asB asA idx y).ok:=by
 have hi:∀ {l:List Nat} v,v ∈ nats l->∃ i,v=SV.int i:=λv hv=>by refine e1_2 (List.mem_map.mp hv) λn _ wq=>?_;subst wq;exact i1_1 n rfl
 refine Zb2 (λq hq=>?_) (λq hq hl=>?_) (λq hq hl=>?_) (λq hq=>?_) (λq hq=>?_)
 ·obtain rfl:=List.mem_singleton.mp hq
  show oSV I.wh = .none∨_
  cases I.wh with
  | none=>exact .inl rfl
  | some w=>exact .inr ⟨w,rfl⟩
 ·simp only [List.mem_cons,List.not_mem_nil,or_false] at hq
  rcases hq with rfl | rfl | rfl | rfl | rfl | rfl
  ·exact hi
  ·exact hi
  ·intro v hv;refine e1_2 (List.mem_map.mp hv) λn _ wq=>?_;subst wq;exact i1_1 n rfl
  ·intro v hv;refine e1_2 (List.mem_map.mp hv) λn _ wq=>?_;subst wq;exact i1_1 (0) rfl
  ·exact absurd hl (by decide:¬100<100)
  ·exact absurd hl (by decide:¬103<100)
 ·simp only [List.mem_cons,List.not_mem_nil,or_false] at hq
  rcases hq with rfl | rfl | rfl | rfl | rfl | rfl
  ·exact absurd hl (by decide:¬100≤0)
  ·exact absurd hl (by decide:¬100≤1)
  ·exact absurd hl (by decide:¬100≤2)
  ·exact absurd hl (by decide:¬100≤3)
  ·have e:lookN (100 % 100) [(0,nats cb),(1,nats ca),(2,ini.map SV.int),(3,asA.map λ_=>SV.int 0),(100,Zag asB),(103,Zag asA)]=some (nats cb):=by kernel_rfl
   show ((lookN (100 % 100) [(0,nats cb),(1,nats ca),(2,ini.map SV.int),(3,asA.map λ_=>SV.int 0),(100,Zag asB),(103,Zag asA)]).getD []).length=(Zag asB).length
   rw [e]
   show (nats cb).length=_
   rw [List.length_map,List.length_map,h0]
  ·have e:lookN (103 % 100) [(0,nats cb),(1,nats ca),(2,ini.map SV.int),(3,asA.map λ_=>SV.int 0),(100,Zag asB),(103,Zag asA)]=some (asA.map λ_=>SV.int 0):=by kernel_rfl
   show ((lookN (103 % 100) [(0,nats cb),(1,nats ca),(2,ini.map SV.int),(3,asA.map λ_=>SV.int 0),(100,Zag asB),(103,Zag asA)]).getD []).length=(Zag asA).length
   rw [e]
   show (asA.map λ_=>SV.int 0).length=_
   rw [List.length_map,List.length_map]
 ·simp only [List.mem_cons,List.not_mem_nil,or_false] at hq
  rcases hq with rfl | rfl | rfl | rfl | rfl | rfl<;>(simp only [List.length_map];omega)
 ·obtain rfl:=List.mem_singleton.mp hq
  exact h5
theorem Zdo {I:Item} {last nx:Int} {ini:List Int} {cb ca:List Nat} {asB asA:List Addr} {idx:Nat} {y:List Nat}:NuData (nuT I last nx ini cb ca asB asA idx y) I ini last:=
 ⟨rfl,rfl,rfl,rfl,rfl,rfl,rfl,by show (((ini.map SV.int).length:Nat):Int)=_;rw [List.length_map]⟩
theorem Zbg {c:Cnd} {b:Bool} {l:List (Cnd × Bool)} (h:b=true ↔ c.holds ν) (k:FxOk ν l):FxOk ν ((c,b)::l):=λp hp=>by
 rcases List.mem_cons.mp hp with rfl | hp
 ·exact h
 ·exact k p hp
theorem Zk9 {off n1 n3 ly:Int} {fx:List (Cnd × Bool)} (x1:ν.x 1=n1) (x3:ν.x 3=n3) (xt:ν.x 1000=ly) (h20:0≤ν.x 20) (h0:0≤n1) (h3:0≤n3) (ho:0≤off) (hl:n1+off<ly) (hfx:FxOk ν fx):FxOk ν (ZbO off fx).facts:=by
 have t1:∀ {a:Int},(Cnd.pos ⟨a,[(1,-1)]⟩).holds ν ↔ 0<a-n1:=λ{a}=>by
  show 0<a+(-1 * ν.x 1+0) ↔ _
  rw [x1];omega
 have t3:∀ {a:Int},(Cnd.pos ⟨a,[(3,1)]⟩).holds ν ↔ 0<a+n3:=λ{a}=>by
  show 0<a+(1 * ν.x 3+0) ↔ _
  rw [x3];omega
 refine Zbg (iff_of_true rfl ?_) (Zbg (iff_of_false Bool.false_ne_true ?_) (Zbg (iff_of_false Bool.false_ne_true ?_) (Zbg (iff_of_false Bool.false_ne_true ?_) (Zbg (iff_of_true rfl ?_) (Zbg (iff_of_true rfl ?_) (Zbg (iff_of_true rfl ?_) (Zbg (iff_of_false Bool.false_ne_true ?_) hfx)))))))
 ·show 0 < -off+(-1 * ν.x 1+(1 * ν.x 1000+0))
  rw [x1,xt];omega
 ·rw [t1];omega
 ·rw [t1];omega
 ·rw [t1];omega
 ·rw [t3];omega
 ·rw [t3];omega
 ·rw [t3];omega
 ·show ¬0<(0:Int)+(-1 * ν.x 20+0)
  omega
theorem Zou {n:Nat} (h:Zb1 n=true):∃ idx,(n,idx) ∈ atTab:=by
 refine e1_2 (List.any_eq_true.mp h) λp hp h=>?_
 exact i1_1 (p.2) (by rw [←Nat.eq_of_beq_eq_true h];exact hp)
theorem Zn2 {code:Nat} {r:List Nat} (h:fits code r):∃ (nx:Nat) (ca:List Nat) (idx:Nat),(nx,idx) ∈ atTab∧ca.length≤r.length∧∀ ν:Vn,ν.x 20=nx->ν.g 1=nats ca->rowS ν (nxM code)=nats r:=by
 match code,h with
 | 0,⟨n,q,e,hs⟩=>
  refine e1_1 (Zou hs) λidx hi=>?_
  refine i3_3 n q idx hi (by rw [e];simp) (λν h1 h2=>?_)
  show SV.int ((Lin.x 20).ev ν.x)::(ν.g 1++[])=_
  rw [ev_x,h1,h2,List.append_nil,e];rfl
 | 1,h=>exact i3_3 (9) ([]) (5) (by simp [atTab]) (Nat.zero_le _) (λν _ _=>by
  have h:r=[]:=h
  rw [h];rfl)
 | k+2,⟨q,e⟩=>
  refine i3_3 (9) q (5) (by simp [atTab]) (by rw [e];simp) (λν _ h2=>?_)
  show SV.int ((Lin.k (k:Int)).ev ν.x)::(ν.g 1++[])=_
  rw [ev_k,h2,List.append_nil,e];rfl
set_option tactic.hygienic true in
theorem Zkw (I:Item) (p:Int) (c n:Nat):(Zfa I p c n).op.length≤I.op.length+1:=by
 have he:I.endWord.op=I.op:=(Zc7 I).1
 have hb:(I.beginWord p).op=I.op:=by unfold Item.beginWord;split<;>rfl
 have hi:∀ l:List Int,(Ze6 l).length≤l.length:=by
  intro l
  induction l with
  | nil=>exact Nat.le_refl _
  | cons a r ih=>cases r with
   | nil=>exact Nat.zero_le _
   | cons b r=>exact Nat.succ_le_succ ih
 have hc:I.endWord.close.op.length≤I.op.length:=by
  rw [←he]
  unfold Item.close
  split
  ·rename_i e;rw [e];exact Nat.le_refl _
  ·rename_i a r e;rw [e];exact hi _
 have bl:∀ {b:Bool} {X Y:Item} {k:Nat},X.op.length≤k->Y.op.length≤k->(bif b then X else Y).op.length≤k:=λ{b X Y k} h1 h2=>by cases b<;>assumption
 have s0:I.op.length≤I.op.length+1:=Nat.le_succ _
 have s1:I.endWord.op.length≤I.op.length+1:=by rw [he];exact s0
 have s2:(I.beginWord p).op.length≤I.op.length+1:=by rw [hb];exact s0
 unfold Zfa
 split
 ·exact s1
 ·exact s0
 ·exact bl (bl (bl s0 s0) (bl s0 s0)) (bl (bl s0 (bl s0 (bl s0 s0))) (bl s0 (bl s1 (bl s2 (bl s2 (bl (by simp) (bl (Nat.le_succ_of_le hc) (bl s1 s1))))))))
end
end Mine
end
section
namespace Mine
variable {G:Gl} {B:Bs} {ρ:List (Addr × Obj)} {σ:List SO} {ls ls':List (Str × SV)} {rs:Shared} {d:Nat} {ν:Vn}
noncomputable section
theorem Zbi {K T R:List Tr} (p:K.Perm (T++R)) {a:Addr} {so:SO} (h:(a,so) ∈ prs K) (hn:∀ t ∈ T,t.2.1 ≠ so):∃ t R',K.Perm ((T++[t])++R')∧t.1.1=a∧t.2.1=so:=by
 refine e1_2 (List.mem_map.mp h) λt ht e=>?_
 simp only [Prod.mk.injEq] at e
 refine e1_1 (pick p ht λq=>hn t q e.2) λR' pr=>?_
 exact i2_3 t R' pr (e.1) (e.2)
theorem Zom {y:List Nat} {l:List Addr} {a:Addr} (h:a ∈ l):SO.list (nats y) ≠ .list (Zag l):=λe=>by
 have e2:nats y=Zag l:=by injection e
 have hm:(SV.glob (.ref a)) ∈ nats y:=by rw [e2];exact List.mem_map.mpr ⟨a,h,rfl⟩
 refine e1_2 (List.mem_map.mp hm) λn _ q=>?_
 cases q
theorem ZpY {l:List Int} {a:Addr} {r:List SV}:SO.tuple (.glob (.ref a)::r) ≠ .tuple (l.map .int):=λe=>by
 cases l with
 | nil=>cases e
 | cons n q=>cases e
theorem Zix {Mf:List Tr} {vw cd fd a oa:Addr} {y:List Nat} {as:List Addr} {I:Item} (hv:(vw,SO.inst 500 [("codes",.glob (.ref cd)),("place",.int 1)]) ∈ prs Mf) (hc:(cd,SO.list (nats y)) ∈ prs Mf) (hd:(fd,SO.list (Zag as)) ∈ prs Mf) (ha:a ∈ as) (hi:(a,SO.tuple (.glob (.ref oa)::I.fl)) ∈ prs Mf) (ho:(oa,SO.tuple (I.op.map .int)) ∈ prs Mf):
 ∃ tv tc td ti to R,Mf.Perm ([tv,tc,td,ti,to]++R)∧(tv.1.1=vw∧tv.2.1 = .inst 500 [("codes",.glob (.ref cd)),("place",.int 1)])∧(tc.1.1=cd∧tc.2.1 = .list (nats y))∧(td.1.1=fd∧td.2.1 = .list (Zag as))∧(ti.1.1=a∧ti.2.1 = .tuple (.glob (.ref oa)::I.fl))∧(to.1.1=oa∧to.2.1 = .tuple (I.op.map .int)):=by
 refine byP λXX kX=>?_
 refine e2_3 (Zbi (T:=[]) (R:=Mf) (.refl _) hv (λ_ h=>nomatch h)) λtv R p v1 v2=>?_
 refine e2_3 (Zbi p hc (λt h=>by
  simp only [List.nil_append,List.mem_cons,List.not_mem_nil,or_false] at h
  rw [h,v2];intro e;cases e)) λtc R p c1 c2=>?_
 refine e2_3 (Zbi p hd (λt h=>by
  simp only [List.nil_append,List.cons_append,List.mem_cons,List.not_mem_nil,or_false] at h
  refine byP λXX kX=>?_
  rcases h with rfl | rfl
  ·refine kX ?_
   rw [v2];intro e;cases e
  ·refine kX ?_
   rw [c2];exact Zom ha)) λtd R p d1 d2=>?_
 refine e2_3 (Zbi p hi (λt h=>by
  simp only [List.nil_append,List.cons_append,List.mem_cons,List.not_mem_nil,or_false] at h
  refine byP λXX kX=>?_
  rcases h with rfl | rfl | rfl
  ·refine kX ?_
   rw [v2];intro e;cases e
  ·refine kX ?_
   rw [c2];intro e;cases e
  ·refine kX ?_
   rw [d2];intro e;cases e)) λti R p i1 i2=>?_
 refine e2_3 (Zbi p ho (λt h=>by
  simp only [List.nil_append,List.cons_append,List.mem_cons,List.not_mem_nil,or_false] at h
  refine byP λXX kX=>?_
  rcases h with rfl | rfl | rfl | rfl
  ·refine kX ?_
   rw [v2];intro e;cases e
  ·refine kX ?_
   rw [c2];intro e;cases e
  ·refine kX ?_
   rw [d2];intro e;cases e
  ·refine kX ?_
   rw [i2];exact ZpY)) λto R p o1 o2=>?_
 refine kX ?_
 exact i6_7 tv tc td ti to R p (⟨v1,v2⟩) (⟨c1,c2⟩) (⟨d1,d2⟩) (⟨i1,i2⟩) o1 o2
theorem Zl3 {Ms:List Tr} {st so:Addr} {I:Item} (hs:(st,SO.inst 68 (psN.zip (.glob (.ref so)::I.fl))) ∈ prs Ms) (hso:(so,SO.tuple (I.op.map .int)) ∈ prs Ms∨(so=29∧I=D0)):
 ∃ ts tos R soM,Ms.Perm ((ts::tos)++R)∧(ts.1.1=st∧ts.2.1 = .inst 68 (psN.zip (.glob (.ref so)::I.fl)))∧((soM=so1∧∃ tso,tos=[tso]∧tso.1.1=so∧tso.2.1 = .tuple (I.op.map .int))∨(soM=so0∧so=29∧tos=[]))∧(soM=so1∨(soM=so0∧I=D0)):=by
 refine byP λXX kX=>?_
 refine e2_3 (Zbi (T:=[]) (R:=Ms) (.refl _) hs (λ_ h=>nomatch h)) λts R p s1 s2=>?_
 rcases hso with h | ⟨h,hI⟩
 ·refine e2_3 (Zbi p h (λt h=>by
   simp only [List.nil_append,List.mem_cons,List.not_mem_nil,or_false] at h
   rw [h,s2];intro e;cases e)) λtso R p o1 o2=>?_
  refine kX ?_
  exact i4_4 ts ([tso]) R so1 p (⟨s1,s2⟩) (.inl ⟨rfl,tso,rfl,o1,o2⟩) (.inl rfl)
 ·refine kX ?_
  exact i4_4 ts ([]) R so0 p (⟨s1,s2⟩) (.inr ⟨rfl,h,rfl⟩) (.inr ⟨rfl,hI⟩)
theorem ZoT (a:Addr) (opM:List ME) (so:MV) (c nx:Nat) (fx:List (Cnd × Bool)):ZoS a (modeM opM 5) so c nx fx=(run (Zau (.seg 0::.v (.int (.k 47))::.v (.int (.k c))::nxM nx) [.seg 100,.v (.glob (.ref a)),.v (.ref 47),.seg 103] (modeM opM 5) so) 80).blk 20 lawS ZcA (ZbO 1 fx):=rfl
theorem ZoU (a:Addr) (opM:List ME) (so:MV) (c nx:Nat) (fx:List (Cnd × Bool)):∀ m,m ≠ 5->ZoS a (modeM opM m) so c nx fx=(run (Zau (.seg 0::.v (.int (.k c))::nxM nx) [.seg 100,.v (.ref 47),.seg 103] (modeM opM m) so) 80).blk 20 lawS ZcA (ZbO 0 fx)
 | 0,_=>rfl
 | 1,_=>rfl
 | 2,_=>rfl
 | 3,_=>rfl
 | 4,_=>rfl
 | 5,h=>absurd rfl h
 | 6,_=>rfl
 | 7,_=>rfl
 | _+8,_=>rfl
set_option genInjectivity false in
set_option genSizeOf false in
inductive TurnD (I:Item) (c code:Nat) (yb:List Nat) (asB asA:List Addr) (y:List Nat) (soM:MV):Prop
 | mk:∀ (ν:Vn) (off:Int) (fx:List (Cnd × Bool)) (codes due:List ME) (d1:List SV) (opM:List ME) (D':IM) (k i:Nat),ν.ok->FxOk ν (ZbO off fx).facts->SemI ν (modeM opM (Zad I)) I->SemI ν D' (Zfa I (yb.length+1) c (nxC code))->rowS ν codes=nats y->rowS ν due=d1++.ref 47::Zag asA->d1=Zag asB->(lx1 off).ev ν.x=yb.length->ν.t 0=y->(k,i) ∈ atTab->ν.x 20=k->ν.r 0=i->((run (Zau codes due (modeM opM (Zad I)) soM) 80).blk 20 lawS ZcA (ZbO off fx)).chk (ZmJ (50+(ZhP soM (modeM opM (Zad I)).op).length) D')=true->TurnD I c code yb asB asA y soM
theorem Zk8 {I:Item} {c code:Nat} {r yb:List Nat} {prev:Nat} {asB asA:List Addr} {y:List Nat} {soM:MV} (hy:y=yb++c::r) (hB:asB.length=yb.length) (ht:TurnOk I prev (yb.length+1) c r code) (hprev:Zad I=5->∃ yb',yb=yb'++[47]) (hyl:y.length≤4000) (hal:asA.length≤4000) (hol:I.op.length≤4000) (hso:soM=so1∨(soM=so0∧I=D0)):TurnD I c code yb asB asA y soM:=by
 obtain ⟨nx,ca,idx,hidx,hca,hnx⟩:=Zn2 ht.fit
 have hlen:y.length=yb.length+1+r.length:=by rw [hy];simp;omega
 have hpick:∀ a,∃ ini last opM fx least,Zff a I c code soM ini last opM fx least:=λa=>by
  refine byP λXX kX=>?_
  rcases hso with rfl | ⟨rfl,rfl⟩
  ·refine kX ?_
   exact ZlL ht.job ht.nrm a
  ·refine kX ?_
   exact Zke ht.job a
 refine byP λXX kX=>?_
 by_cases h5:Zad I=5
 ·obtain ⟨yb',rfl⟩:=hprev h5
  rw [List.length_append,List.length_singleton] at hB hlen
  obtain ⟨asB',a',rfl⟩:∃ l a,asB=l++[a]:=by
   refine byP λXX kX=>?_
   rcases List.eq_nil_or_concat asB with h | ⟨l,a,h⟩
   ·rw [h] at hB;simp at hB
   ·refine kX ?_
    exact i2_1 l a (by rw [h,List.concat_eq_append])
  rw [List.length_append,List.length_singleton] at hB
  refine e5_3 (hpick a') λini last opM fx least hil hk hν'=>?_
  have hν:=Zko (I:=I) (last:=last) (nx:=nx) (ini:=ini) (cb:=yb') (ca:=ca) (asB:=asB') (asA:=asA) (idx:=idx) (y:=y) (by omega) (by omega) (by omega) (by omega) (by omega) (by omega)
  refine e0_3 (hν' _ (Zdo (I:=I) (last:=last) (nx:=nx) (ini:=ini) (cb:=yb') (ca:=ca) (asB:=asB') (asA:=asA) (idx:=idx) (y:=y))) λhop hfx hcl=>?_
  have hsem:=ZfR (Zdo (I:=I) (last:=last) (nx:=nx) (ini:=ini) (cb:=yb') (ca:=ca) (asB:=asB') (asA:=asA) (idx:=idx) (y:=y)) ht.nrm hop
  refine kX ?_
  have x1:(nuT I last nx ini yb' ca asB' asA idx y).x 1=yb'.length:=by show (((nats yb').length:Nat):Int)=_;rw [List.length_map]
  have x3:(nuT I last nx ini yb' ca asB' asA idx y).x 3=ca.length:=by show (((nats ca).length:Nat):Int)=_;rw [List.length_map]
  have xl:∀ k,(lx1 k).ev (nuT I last nx ini yb' ca asB' asA idx y).x=k+yb'.length:=λk=>by
   show k+(1 * (nuT I last nx ini yb' ca asB' asA idx y).x 1+0)=_
   rw [x1];omega
  refine TurnD.mk (nuT I last nx ini yb' ca asB' asA idx y) (1) (fx) (.seg 0::.v (.int (.k 47))::.v (.int (.k c))::nxM code) ([.seg 100,.v (.glob (.ref a')),.v (.ref 47),.seg 103]) (Zag asB'++[.glob (.ref a')]) (opM) (ZkP (modeM opM (Zad I)) (lx1 2) c (nxC code) least) (nx) (idx) (hν) (Zk9 (n1:=yb'.length) (n3:=ca.length) (ly:=y.length) x1 x3 rfl (Int.natCast_nonneg nx) (by omega) (by omega) (by omega) (by omega) hfx) (hsem) (ZiD hν hsem (by rw [xl];simp;omega) hcl) (?_) (?_) (by rw [Zag,Zag,List.map_append];rfl) (by rw [xl];simp;omega) (rfl) (hidx) (rfl) (rfl) (?_)
  ·show nats yb'++(SV.int ((Lin.k 47).ev _)::SV.int ((Lin.k (c:Int)).ev _)::rowS _ (nxM code))=_
   rw [hnx _ rfl rfl,ev_k,ev_k,hy,nats,nats,nats,List.map_append,List.map_append]
   simp only [List.append_assoc];rfl
  ·show Zag asB'++(SV.glob (.ref a')::SV.ref 47::(Zag asA++[]))=_
   rw [List.append_nil,List.append_assoc];rfl
  ·have:=hk
   unfold Zcq at this
   rw [h5,ZoT] at this
   rw [h5];exact this
 ·refine e5_3 (hpick 0) λini last opM fx least hil hk hν'=>?_
  have hν:=Zko (I:=I) (last:=last) (nx:=nx) (ini:=ini) (cb:=yb) (ca:=ca) (asB:=asB) (asA:=asA) (idx:=idx) (y:=y) (by omega) (by omega) (by omega) (by omega) (by omega) (by omega)
  refine e0_3 (hν' _ (Zdo (I:=I) (last:=last) (nx:=nx) (ini:=ini) (cb:=yb) (ca:=ca) (asB:=asB) (asA:=asA) (idx:=idx) (y:=y))) λhop hfx hcl=>?_
  have hsem:=ZfR (Zdo (I:=I) (last:=last) (nx:=nx) (ini:=ini) (cb:=yb) (ca:=ca) (asB:=asB) (asA:=asA) (idx:=idx) (y:=y)) ht.nrm hop
  refine kX ?_
  have x1:(nuT I last nx ini yb ca asB asA idx y).x 1=yb.length:=by show (((nats yb).length:Nat):Int)=_;rw [List.length_map]
  have x3:(nuT I last nx ini yb ca asB asA idx y).x 3=ca.length:=by show (((nats ca).length:Nat):Int)=_;rw [List.length_map]
  have xl:∀ k,(lx1 k).ev (nuT I last nx ini yb ca asB asA idx y).x=k+yb.length:=λk=>by
   show k+(1 * (nuT I last nx ini yb ca asB asA idx y).x 1+0)=_
   rw [x1];omega
  refine TurnD.mk (nuT I last nx ini yb ca asB asA idx y) (0) (fx) (.seg 0::.v (.int (.k c))::nxM code) ([.seg 100,.v (.ref 47),.seg 103]) (Zag asB) (opM) (ZkP (modeM opM (Zad I)) (lx1 1) c (nxC code) least) (nx) (idx) (hν) (Zk9 (n1:=yb.length) (n3:=ca.length) (ly:=y.length) x1 x3 rfl (Int.natCast_nonneg nx) (by omega) (by omega) (by omega) (by omega) hfx) (hsem) (ZiD hν hsem (by rw [xl];omega) hcl) (?_) (?_) (rfl) (by rw [xl];omega) (rfl) (hidx) (rfl) (rfl) (?_)
  ·show nats yb++(SV.int ((Lin.k (c:Int)).ev _)::rowS _ (nxM code))=_
   rw [hnx _ rfl rfl,ev_k,hy,nats,nats,nats,List.map_append];rfl
  ·show Zag asB++(SV.ref 47::(Zag asA++[]))=_
   rw [List.append_nil]
  ·have:=hk
   unfold Zcq at this
   rw [ZoU _ _ _ _ _ _ _ h5] at this
   have e:Nat.beq (Zad I) 5=false:=by
    cases q:Nat.beq (Zad I) 5 with
    | false=>rfl
    | true=>exact absurd (Nat.eq_of_beq_eq_true q) h5
   rw [e,cond_false] at this
   exact this
end
end Mine
end
section
namespace Mine
variable {G:Gl} {B:Bs} {ρ:List (Addr × Obj)} {σ:List SO} {ls ls':List (Str × SV)} {rs:Shared} {d:Nat} {ν:Vn}
noncomputable section
structure Fixed (P:List (Addr × SO)) (vw cd fd:Addr) (y:List Nat) (as:List Addr):Prop where
 v:(vw,SO.inst 500 [("codes",.glob (.ref cd)),("place",.int 1)]) ∈ P
 c:(cd,SO.list (nats y)) ∈ P
 d:(fd,SO.list (Zag as)) ∈ P
noncomputable def StAt (P:List (Addr × SO)) (st:Addr) (I:Item):Prop:=∃ so,(st,SO.inst 68 (psN.zip (.glob (.ref so)::I.fl))) ∈ P∧((so,SO.tuple (I.op.map .int)) ∈ P∨(so=29∧I=D0))
noncomputable def StT (P:List (Addr × SO)) (st:Addr) (I:Item):Prop:=∃ so,(st,SO.inst 68 (psN.zip (.glob (.ref so)::I.fl))) ∈ P∧(so,SO.tuple (I.op.map .int)) ∈ P
theorem StT.at {P:List (Addr × SO)} {st:Addr} {I:Item} (h:StT P st I):StAt P st I:=by refine e1_2 h λso h1 h2=>?_;clear h;exact i1_2 so h1 (.inl h2)
theorem Zbj {K K':List Tr}:prs (K++K')=prs K++prs K':=List.map_append
theorem Zgb {K K':List Tr} (h:K.Perm K') {z:Addr × SO}:z ∈ prs K ↔ z ∈ prs K':=(h.map _).mem_iff
theorem Zdi {K K':List Tr} (h:K.Perm K') (g:Good G K):Good G K':=λt ht=>g t (h.mem_iff.mpr ht)
theorem Zcb {K K':List Tr} (h:K.Perm K'):(flat K).Perm (flat K'):=h.flatMap_right _
theorem ZlN {Pm:Params} (hK:G.K=KF Pm) (O:Ok G B 20) (e1:B.sc=lawS) {pre:List (Addr × Obj)} {K0 Mf Ms:List Tr} {tb vw cd fd st a:Addr} {y yb r:List Nat} {asB asA:List Addr} {c code prev:Nat} {I:Item} (good:Good G (K0++(Mf++Ms))) (hT:ZdF K0 tb) (hF:Fixed (prs Mf) vw cd fd y (asB++a::asA)) (hI:Told (prs Mf) a I) (hS:StAt (prs Ms) st I)
 (hy:y=yb++c::r) (hB:asB.length=yb.length) (ht:TurnOk I prev (yb.length+1) c r code) (hprev:Zad I=5->∃ yb',yb=yb'++[47]) (hyl:y.length≤4000) (hal:asA.length≤4000) (hol:I.op.length≤4000)
 (x:Hs G (B.mid pre (flat (K0++(Mf++Ms)))) [] [] (Zcf tb y vw fd st++[(Str.ofString "at",.int yb.length)]) rs):
 wpAny G.M B.A (execs ZcA B.env) (λf rs'=>f = .next∧∃ (K0' Mf' Ms':List Tr) (st':Addr),Good G (K0'++(Mf'++Ms'))∧ZdF K0' tb∧(∀ z ∈ prs Mf,z ∈ prs Mf')∧StT (prs Ms') st' (Zfa I (yb.length+1) c (nxC code))∧Hs G (B.mid pre (flat (K0'++(Mf'++Ms')))) [] [] (Zcf tb y vw fd st') rs') NoE rs:=by
 refine byP λXX kX=>?_
 refine e1_2 hI λoa hi ho=>?_;clear hI
 refine e1_2 hS λso hs hso=>?_;clear hS
 refine e6_7 (Zix hF.v hF.c hF.d (a:=a) (by simp) hi ho) λtv tc td ti to Rf pf wq wqb wqc wqd o1 o2=>?_;obtain ⟨v1,v2⟩:=wq;obtain ⟨c1,c2⟩:=wqb;obtain ⟨d1,d2⟩:=wqc;obtain ⟨i1,i2⟩:=wqd
 refine e4_4 (Zl3 hs hso) λts tos Rs soM ps wq hsoM hso2=>?_;obtain ⟨s1,s2⟩:=wq
 obtain ⟨ν,off,fx,codes,due,d1',opM,D',k,i,hν,hfx,hsem,hsem',hcod,hdue,hd1,hat,htx,hki,h20,hr,hchk⟩:=Zk8 hy hB ht hprev hyl hal hol hso2
 have hTT:TurnT tv tc td ti to ts tos y asB asA I soM so:=⟨by rw [v2,c1],c2,by rw [d2,i1],by rw [i2,o1],o2,s2,hsoM⟩
 have hT0:Good G K0:=λt h=>good t (List.mem_append_left _ h)
 have hrow:=ZiE hT hT0 hTT (D:=modeM opM (Zad I)) hsem hcod hdue hd1
 have perm:(K0++(Mf++Ms)).Perm ((K0++([tv,tc,td,ti,to,ts]++tos))++(Rf++Rs)):=by
  rw [List.append_assoc]
  refine List.Perm.append_left K0 ((List.Perm.append pf ps).trans ?_)
  show (([tv,tc,td,ti,to]++Rf)++((ts::tos)++Rs)).Perm (([tv,tc,td,ti,to]++(ts::tos))++(Rf++Rs))
  rw [List.append_assoc,List.append_assoc]
  refine List.Perm.append_left _ ?_
  exact List.perm_append_comm_assoc _ _ _
 have x2:=Hs.permc (Zcb perm) x
 have gA:=Zdi perm good
 have gT:Good G (K0++([tv,tc,td,ti,to,ts]++tos)):=λt h=>gA t (List.mem_append_left _ h)
 have hl44:=Ze1 hT
 refine kX ?_
 have at_:∀ j t,([tv,tc,td,ti,to,ts]++tos)[j]? = some t->(ads (K0++([tv,tc,td,ti,to,ts]++tos)))[44+j]? = some t.1:=λj t e=>by
  rw [ads,List.map_append,List.getElem?_append_right (by rw [List.length_map,hl44];omega),List.length_map,hl44,show 44+j-44=j by omega,List.getElem?_map,e];rfl
 have S:SumOk G (Zau codes due (modeM opM (Zad I)) soM) ν:=Zh3 hK hν hki h20 hr
 refine e1_1 (hT.2) λo30 h30=>?_
 refine wpAny_mono (ZmL hK O e1 (T:=K0++([tv,tc,td,ti,to,ts]++tos)) (R:=Rf++Rs) gT (tb:=tb) (vw:=vw) (fd:=fd) (st:=st) hrow ⟨o30,by rw [ads,List.map_append,List.getElem?_append_left (List.getElem?_eq_some_iff.mp h30).1];exact h30⟩ ⟨tv.1.2,by rw [←v1];exact at_ 0 tv rfl⟩ ⟨td.1.2,by rw [←d1];exact at_ 2 td rfl⟩ ⟨ts.1.2,by rw [←s1];exact at_ 5 ts rfl⟩ hν S hfx hsem' hat htx hchk x2 (λt h=>gA t (List.mem_append_right _ h))) (λf rs2 u=>?_) λ_ _ e=>e
 refine e0_2 u λhf wq=>?_;clear u;obtain ⟨T',X,st',so',hTa,hTs,gX,hst',hso',z⟩:=wq
 refine i0_2 hf (⟨T'.take 44,(T'.drop 44).take 5++Rf,(T'.drop 44).drop 5++(X++Rs),st',?_,?_,?_,⟨so',?_,?_⟩,?_⟩)
 ·refine λt h=>?_
  simp only [List.mem_append] at h
  refine byP λXX kX=>?_
  rcases h with h | (h | h) | (h | h | h)
  ·refine kX ?_
   exact gX t (List.mem_append_left _ (List.mem_of_mem_take h))
  ·refine kX ?_
   exact gX t (List.mem_append_left _ (List.mem_of_mem_drop (List.mem_of_mem_take h)))
  ·refine kX ?_
   exact gA t (List.mem_append_right _ (List.mem_append_left _ h))
  ·refine kX ?_
   exact gX t (List.mem_append_left _ (List.mem_of_mem_drop (List.mem_of_mem_drop h)))
  ·refine kX ?_
   exact gX t (List.mem_append_right _ h)
  ·refine kX ?_
   exact gA t (List.mem_append_right _ (List.mem_append_right _ h))
 ·have e1:ads (T'.take 44)=ads K0:=by
   rw [ads,List.map_take]
   have:T'.map (·.1)=ads (K0++([tv,tc,td,ti,to,ts]++tos)):=hTa
   rw [this,ads,List.map_append,List.take_left' (by rw [List.length_map];exact hl44)]
  have e2:sos (T'.take 44)=sos K0:=by
   rw [sos,List.map_take]
   have:T'.map (·.2.1)=sos (K0++([tv,tc,td,ti,to,ts]++tos)):=hTs
   rw [this,sos,List.map_append,List.take_left' (by rw [List.length_map];exact hl44)]
  refine i0_2 ?_ ?_
  ·show sos (T'.take 44)=(slashH.map (MO.sem nu0)).map (anfO (ads (T'.take 44)))
   rw [e1,e2];exact hT.1
  ·show ∃ o,(ads (T'.take 44))[30]? = some (tb,o)
   rw [e1];exact hT.2
 ·intro z hz
  rw [Zbj]
  rw [Zgb pf,Zbj] at hz
  refine byP λXX kX=>?_
  rcases List.mem_append.mp hz with h | h
  ·refine kX ?_
   refine List.mem_append_left _ ?_
   have e:prs ((T'.drop 44).take 5)=prs [tv,tc,td,ti,to]:=by
    have e0:prs T'=prs (K0++([tv,tc,td,ti,to,ts]++tos)):=Zhd hTa hTs
    rw [prs,List.map_take,List.map_drop]
    have:T'.map (λt=>(t.1.1,t.2.1))=prs K0++prs ([tv,tc,td,ti,to,ts]++tos):=e0.trans Zbj
    rw [this,List.drop_left' (by rw [List.length_map];exact hl44)];rfl
   rw [e];exact h
  ·refine kX ?_
   exact List.mem_append_right _ h
 ·rw [Zbj,Zbj];exact List.mem_append_right _ (List.mem_append_left _ hst')
 ·rw [Zbj,Zbj];exact List.mem_append_right _ (List.mem_append_left _ hso')
 ·refine Hs.permc (Zcb ?_) z
  have e:T'=T'.take 44++((T'.drop 44).take 5++(T'.drop 44).drop 5):=by rw [List.take_append_drop,List.take_append_drop]
  generalize T'.take 44=A1 at *
  generalize (T'.drop 44).take 5=A2 at *
  generalize (T'.drop 44).drop 5=A3 at *
  rw [e]
  simp only [List.append_assoc]
  refine List.Perm.append_left A1 (List.Perm.append_left A2 ?_)
  refine (?_:(A3++(X++(Rf++Rs))).Perm (A3++(Rf++(X++Rs)))).trans (List.perm_append_comm_assoc _ _ _)
  exact List.Perm.append_left A3 (List.perm_append_comm_assoc _ _ _)
theorem Zod {Pm:Params} (hK:G.K=KF Pm) (O:Ok G B 20) (e1:B.sc=lawS) {pre:List (Addr × Obj)} {K0 Mf Ms:List Tr} {tb vw cd fd st a:Addr} {y:List Nat} {asB:List Addr} {I:Item} (good:Good G (K0++(Mf++Ms))) (hT:ZdF K0 tb) (hF:Fixed (prs Mf) vw cd fd y (asB++[a])) (hI:Told (prs Mf) a I) (hS:StT (prs Ms) st I)
 (hB:asB.length=y.length) (hn:I=norm I) (hyl:y.length≤4000) (hol:I.op.length≤4000)
 (x:Hs G (B.mid pre (flat (K0++(Mf++Ms)))) [] [] (Zcf tb y vw fd st++[(Str.ofString "at",.int y.length)]) rs):
 wpAny G.M B.A (execs ZcA B.env) (λf rs'=>f = .next∧∃ c' ρ' σ' ls',Hs G (B.mid pre c') ρ' σ' ls' rs') NoE rs:=by
 refine byP λXX kX=>?_
 refine e1_2 hI λoa hi ho=>?_;clear hI
 refine e1_2 hS λso hs hso=>?_;clear hS
 refine e6_7 (Zix hF.v hF.c hF.d (a:=a) (by simp) hi ho) λtv tc td ti to Rf pf wq wqb wqc wqd o1 o2=>?_;obtain ⟨v1,v2⟩:=wq;obtain ⟨c1,c2⟩:=wqb;obtain ⟨d1,d2⟩:=wqc;obtain ⟨i1,i2⟩:=wqd
 refine e2_3 (Zbi (T:=[]) (R:=Ms) (.refl _) hs (λ_ h=>nomatch h)) λts Rs ps s1 s2=>?_
 refine e2_3 (Zbi ps hso (λt h=>by
  simp only [List.nil_append,List.mem_cons,List.not_mem_nil,or_false] at h
  rw [h,s2];intro e;cases e)) λtso Rs ps w1 w2=>?_
 have hν:=Zko (I:=I) (last:=0) (nx:=9) (ini:=I.op) (cb:=y) (ca:=[]) (asB:=asB) (asA:=[]) (idx:=5) (y:=y) hB.symm (by omega) (Nat.zero_le _) (by omega) (Nat.zero_le _) (by omega)
 have hsem:=ZfR (Zdo (I:=I) (last:=0) (nx:=9) (ini:=I.op) (cb:=y) (ca:=[]) (asB:=asB) (asA:=[]) (idx:=5) (y:=y)) hn (opM:=[.seg 2]) (List.append_nil _)
 have hTT:TurnT tv tc td ti to ts [tso] y asB [] I so1 so:=⟨by rw [v2,c1],c2,by rw [d2,i1],by rw [i2,o1],o2,s2,.inl ⟨rfl,tso,rfl,w1,w2⟩⟩
 have hT0:Good G K0:=λt h=>good t (List.mem_append_left _ h)
 have hrow:=ZiE (codes:=[.seg 0]) (due:=[.seg 100,.v (.ref 47)]) (d1:=Zag asB) hT hT0 hTT hsem (List.append_nil _) rfl rfl
 have perm:(K0++(Mf++Ms)).Perm ((K0++([tv,tc,td,ti,to,ts]++[tso]))++(Rf++Rs)):=by
  rw [List.append_assoc]
  refine List.Perm.append_left K0 ((List.Perm.append pf ps).trans ?_)
  show (([tv,tc,td,ti,to]++Rf)++([ts,tso]++Rs)).Perm (([tv,tc,td,ti,to]++[ts,tso])++(Rf++Rs))
  rw [List.append_assoc,List.append_assoc]
  refine List.Perm.append_left _ ?_
  exact List.perm_append_comm_assoc _ _ _
 have x2:=Hs.permc (Zcb perm) x
 have gA:=Zdi perm good
 have gT:Good G (K0++([tv,tc,td,ti,to,ts]++[tso])):=λt h=>gA t (List.mem_append_left _ h)
 have hl44:=Ze1 hT
 refine kX ?_
 have at_:∀ j t,([tv,tc,td,ti,to,ts]++[tso])[j]? = some t->(ads (K0++([tv,tc,td,ti,to,ts]++[tso])))[44+j]? = some t.1:=λj t e=>by
  rw [ads,List.map_append,List.getElem?_append_right (by rw [List.length_map,hl44];omega),List.length_map,hl44,show 44+j-44=j by omega,List.getElem?_map,e];rfl
 have S:SumOk G (Zau [.seg 0] [.seg 100,.v (.ref 47)] (modeM [.seg 2] (Zad I)) so1) (nuT I 0 9 I.op y [] asB [] 5 y):=Zh3 (k:=9) (i:=5) hK hν (by simp [atTab]) rfl rfl
 refine e1_1 (hT.2) λo30 h30=>?_
 have x1:(nuT I 0 9 I.op y [] asB [] 5 y).x 1=y.length:=by show (((nats y).length:Nat):Int)=_;rw [List.length_map]
 have hchk:(endR (Zad I)).chk endC=true:=by
  have h:=List.all_eq_true.mp ends (Zad I)
  refine h ?_
  unfold Zad
  cases I.co<;>cases I.ln<;>cases I.st<;>cases I.qu<;>cases Nat.beq I.ha 1<;>cases Nat.beq I.ha 2<;>cases I.wo<;>simp
 refine wpAny_mono (ZiF (fx:=endSt.facts) hK O e1 (T:=K0++([tv,tc,td,ti,to,ts]++[tso])) (R:=Rf++Rs) gT (tb:=tb) (vw:=vw) (fd:=fd) (st:=st) (off:=0) hrow ⟨o30,by rw [ads,List.map_append,List.getElem?_append_left (List.getElem?_eq_some_iff.mp h30).1];exact h30⟩ ⟨tv.1.2,by rw [←v1];exact at_ 0 tv rfl⟩ ⟨td.1.2,by rw [←d1];exact at_ 2 td rfl⟩ ⟨ts.1.2,by rw [←s1];exact at_ 5 ts rfl⟩ hν S ?_ ?_ rfl hchk x2 (λt h=>gA t (List.mem_append_right _ h))) (λf rs2 u=>?_) λ_ _ e=>e
 ·refine Zbg (iff_of_false Bool.false_ne_true ?_) (Zbg (iff_of_false Bool.false_ne_true ?_) λ_ h=>nomatch h)
  ·show ¬0<(0:Int)+(-1 * (nuT I 0 9 I.op y [] asB [] 5 y).x 1+(1 * ((y.length:Nat):Int)+0))
   rw [x1];omega
  ·show ¬0<(0:Int)+(-1 * (nuT I 0 9 I.op y [] asB [] 5 y).x 1+0)
   rw [x1];omega
 ·show (0:Int)+(1 * (nuT I 0 9 I.op y [] asB [] 5 y).x 1+0)=_
  rw [x1];omega
 ·obtain ⟨ρ2,fl,s2,hp,hC,hf,g2⟩:=u
  refine i0_2 ?_ (⟨_,_,_,_,g2.hs⟩)
  cases hf with
  | next=>rfl
  | _=>exact nB hC
end
end Mine
end
section
namespace Mine
variable {G:Gl} {B:Bs} {ρ:List (Addr × Obj)} {σ:List SO} {ls ls':List (Str × SV)} {rs:Shared} {d:Nat} {ν:Vn}
noncomputable section
theorem Zng {K A C:List Tr} (h1:ads K=ads (A++C)) (h2:sos K=sos (A++C)):∃ A' C',K=A'++C'∧ads A'=ads A∧sos A'=sos A∧ads C'=ads C∧sos C'=sos C:=by
 have h1:K.map (·.1)=ads A++ads C:=h1.trans List.map_append
 have h2:K.map (·.2.1)=sos A++sos C:=h2.trans List.map_append
 have e1:(ads A).length=A.length:=List.length_map _
 have e2:(sos A).length=A.length:=List.length_map _
 refine i2_5 (K.take A.length) (K.drop A.length) ((List.take_append_drop _ _).symm) ?_ ?_ ?_ ?_
 ·rw [ads,List.map_take,h1,List.take_left' e1]
 ·rw [sos,List.map_take,h2,List.take_left' e2]
 ·rw [ads,List.map_drop,h1,List.drop_left' e1]
 ·rw [sos,List.map_drop,h2,List.drop_left' e2]
theorem ZmF {K0 K0':List Tr} {tb:Addr} (h1:ads K0'=ads K0) (h2:sos K0'=sos K0) (h:ZdF K0 tb):ZdF K0' tb:=by
 refine i0_2 ?_ ?_
 ·show sos K0'=(slashH.map (MO.sem nu0)).map (anfO (ads K0'))
  rw [h1,h2];exact h.1
 ·show ∃ o,(ads K0')[30]? = some (tb,o)
  rw [h1];exact h.2
inductive LawF (G:Gl) (y:List Nat) (as:List Addr) (tb vw cd fd:Addr) (i:Nat):List (Addr × Obj)->List (Addr × Obj)->List SO->List (Str × SV)->Prop
 | mk (K0 Mf Ms:List Tr) (st:Addr) (I:Item) (yb r:List Nat) (asB:List Addr) (a:Addr) (asA:List Addr) (E:List Item) (prev:Nat):Good G (K0++(Mf++Ms))->ZdF K0 tb->Fixed (prs Mf) vw cd fd y as->y=yb++r->as=asB++a::asA->yb.length=i->asB.length=i->Told (prs Mf) a I->Both (Told (prs Mf)) asA E->Zgq I prev (i+1) r E->
 ((yb=[]∧I=D0)∨∃ yb',yb=yb'++[prev])->(StT (prs Ms) st I∨(i=0∧StAt (prs Ms) st I))->I.op.length≤i->LawF G y as tb vw cd fd i [] (ads (K0++(Mf++Ms))) (sos (K0++(Mf++Ms))) (Zcf tb y vw fd st)
noncomputable def LawJ (G:Gl) (y:List Nat) (as:List Addr) (tb vw cd fd:Addr) (i:Nat) (c0 ρ':List (Addr × Obj)) (σ':List SO) (ls':List (Str × SV)):Prop:=i=as.length∨LawF G y as tb vw cd fd i c0 ρ' σ' ls'
theorem ZlJ {Pm:Params} (hK:G.K=KF Pm) (O:Ok G B 20) (e1:B.sc=lawS) {y:List Nat} {as:List Addr} {tb vw cd fd:Addr} (hy0:0<y.length) (hyl:y.length≤4000) (hal:as.length≤4000) {I0:Addr} {oI:Obj} {i:Nat} (hi:i<as.length) {c0 ρ':List (Addr × Obj)} {σ':List SO} (hJ:LawJ G y as tb vw cd fd i c0 ρ' σ' ls) (x:Hs G ((B.ext c0).iter I0 oI) ρ' σ' ls rs) {pa:Pos} {t:Tok}:
 wpAny G.M B.A (assign (.Name (Str.ofString "at") pa) B.env (.int i t)) (λ_ rs2=>wpAny G.M B.A (execs ZcA B.env) (λf rs3=>f = .next∧∃ c3 ρ3 σ3 ls3,Hs G ((B.ext c3).iter I0 oI) ρ3 σ3 ls3 rs3∧LawJ G y as tb vw cd fd (i+1) c3 ρ3 σ3 ls3) NoE rs2) NoE rs:=by
 refine byP λXX kX=>?_
 rcases hJ with h | ⟨K0,Mf,Ms,st,I,yb,r,asB,a,asA,E,prev,good,hT,hF,hy,has,hyb,hB,hI,hE,hTn,hpv,hS,hop⟩
 ·refine kX ?_
  omega
 have OI:Ok G ((B.ext []).iter I0 oI) 20:=⟨O.kin,O.top,O.kind,O.hand,O.dep,O.uni⟩
 refine kX ?_
 refine wpAny_assign_Name (wpAny_mono (Hs.store (B:=(B.ext []).iter I0 oI) (v:=.int (i:Nat)) OI x (by show Zah B.sc _=true;rw [e1];kernel_rfl) (by kernel_rfl) (.int _ _)) (λ_ rs2 x2=>?_) λ_ _ e=>e)
 have hls:put (Str.ofString "at") (SV.int (i:Nat)) (Zcf tb y vw fd st)=Zcf tb y vw fd st++[(Str.ofString "at",.int (i:Nat))]:=by kernel_rfl
 rw [hls] at x2
 refine byP λXX kX=>?_
 refine e1_4 (dead (B:=B) (pre:=[(I0,oI)]) x2 good) λK' a1 a2 good' z=>?_
 have z:Hs G (B.mid [(I0,oI)] (flat K')) [] [] (Zcf tb y vw fd st++[(Str.ofString "at",.int (i:Nat))]) rs2:=z
 refine e2_5 (Zng a1 a2) λK0' M' wq b1 b2 b3 b4=>?_;subst wq
 refine e2_5 (Zng b3 b4) λMf' Ms' wq d1 d2 d3 d4=>?_;subst wq
 have ef:=Zhd d1 d2
 have es:=Zhd d3 d4
 have hT':=ZmF b1 b2 hT
 rw [←ef] at hF hI hE
 rw [←es] at hS
 subst hyb
 refine kX ?_
 have hal2:asA.length≤4000:=by rw [has] at hal;simp at hal;omega
 have hyr:y.length=yb.length+r.length:=by rw [hy,List.length_append]
 cases r with
 | nil=>
  refine e0_2 hTn λwq hn=>?_;clear hTn;subst wq
  have hasA:asA=[]:=by cases hE;rfl
  refine byP λXX kX=>?_
  subst hasA
  rw [List.append_nil] at hy
  subst hy
  have hST:StT (prs Ms') st I:=by
   refine byP λXX kX=>?_
   rcases hS with h | ⟨h,_⟩
   ·refine kX ?_
    exact h
   ·refine kX ?_
    omega
  rw [has] at hF
  refine kX ?_
  refine wpAny_mono (Zod hK O e1 good' hT' hF hI hST hB hn hyl (by omega) z) (λf rs3 u=>?_) λ_ _ e=>e
  refine e0_2 u λwq wqb=>?_;clear u;subst wq;obtain ⟨c',ρ2,σ2,ls2,w⟩:=wqb
  refine i0_2 rfl (⟨c',ρ2,σ2,ls2,w,.inl ?_⟩)
  rw [has];simp;omega
 | cons c r=>
  refine byP λXX kX=>?_
  obtain ⟨code,E',rfl,hto,hTn⟩:=hTn
  cases hE with
  | @cons a' _ asA' _ hI' hE'=>
   have hSA:StAt (prs Ms') st I:=hS.elim StT.at λh=>h.2
   refine kX ?_
   have hprev:Zad I=5->∃ yb',yb=yb'++[47]:=λh=>by
    refine byP λXX kX=>?_
    rcases hpv with ⟨_,rfl⟩ | ⟨yb',h2⟩
    ·cases h
    ·refine kX ?_
     rw [hto.prv h] at h2;exact ⟨yb',h2⟩
   rw [has] at hF
   refine wpAny_mono (ZlN hK O e1 good' hT' hF hI hSA hy hB hto hprev hyl hal2 (by omega) z) (λf rs3 u=>?_) λ_ _ e=>e
   obtain ⟨rfl,K0n,Mfn,Msn,st',goodn,hTn',hmono,hSn,w⟩:=u
   have ho:=Zkw I (yb.length+1) c (nxC code)
   refine ⟨rfl,[],_,_,_,live (B:=B) w goodn,.inr ⟨K0n,Mfn,Msn,st',Zfa I (yb.length+1) c (nxC code),yb++[c],r,asB++[a],a',asA',E',c,goodn,hTn',?_,by rw [hy];simp,by rw [has];simp,by simp,by simp [hB],hI'.mono λz h _=>hmono z h,hE'.imp λ_ _ h=>h.mono λz h _=>hmono z h,hTn,.inr ⟨yb,rfl⟩,.inl hSn,by omega⟩⟩
   rw [has]
   exact ⟨hmono _ hF.v,hmono _ hF.c,hmono _ hF.d⟩
end
end Mine
end
section
namespace Mine
variable {G:Gl} {B:Bs} {ρ:List (Addr × Obj)} {σ:List SO} {ls ls':List (Str × SV)} {rs:Shared} {d:Nat} {ν:Vn}
noncomputable section
noncomputable def sDue (tb vw st:Addr):St:=⟨[.list [.seg 100]],[(Str.ofString "table",.glob (.ref tb)),(Str.ofString "text",.txt 0),(Str.ofString "view",.glob (.ref vw)),(Str.ofString "due",.ref 0),(Str.ofString "state",.glob (.ref st))],[(.zer ⟨-1,[(1,1),(1000,-1)]⟩,true)]⟩
theorem ZjW (tb vw st:Addr):Zcn tabN (run tabN 20) 20 lawS Zlw (sDue tb vw st) = .ret .next (sDue tb vw st):=by kernel_rfl
theorem ZpQ (tb vw st:Addr):Zbn tabN lawS (Str.ofString "range") (sDue tb vw st) = .ret (.glob (.type "range")) (sDue tb vw st):=by kernel_rfl
theorem lenA (tb vw st:Addr) (d:Nat) (pl pd pc:Pos):ZaF ((run tabN 20).ev d lawS) [.Call (.Name (Str.ofString "len") pl) [.Name (Str.ofString "due") pd] [] pc] (sDue tb vw st) = .ret [.int (.x 1)] (sDue tb vw st):=by kernel_rfl
set_option genInjectivity false in
set_option genSizeOf false in
inductive LawshapeR:Prop
 | mk:∀ s0 s1 s2 s3 pa pr pl pd pc1 pc2 fpos kb pb rp,lawB=[s0,s1,s2,s3,Zlw,.For (.Name (Str.ofString "at") pa) (.Call (.Name (Str.ofString "range") pr) [.Call (.Name (Str.ofString "len") pl) [.Name (Str.ofString "due") pd] [] pc1] [] pc2) ZcA [] fpos,.Return (some (.Constant (.bool true) kb pb)) rp]->nth lawB 0=some s0->nth lawB 1=some s1->nth lawB 2=some s2->nth lawB 3=some s3->LawshapeR
theorem Zkf:LawshapeR:=.mk _ _ _ _ _ _ _ _ _ _ _ _ _ _ (rfl) (rfl) (rfl) (rfl) (rfl)
noncomputable def nuE (as:List Addr) (y:List Nat):Vn:=mkN [] [(0,as.map λ_=>.int 0),(100,Zag as)] [] (λ_=>0) [(0,y)]
theorem ZpG {as:List Addr} {y:List Nat} (h1:as.length≤4096) (h2:y.length≤4096):(nuE as y).ok:=by
 refine Zb2 (λ_ h=>nomatch h) (λq hq hl=>?_) (λq hq hl=>?_) (λq hq=>?_) (λq hq=>?_)
 ·simp only [List.mem_cons,List.not_mem_nil,or_false] at hq
  rcases hq with rfl | rfl
  ·intro v hv;refine e1_2 (List.mem_map.mp hv) λn _ wq=>?_;subst wq;exact i1_1 (0) rfl
  ·exact absurd hl (by decide:¬100<100)
 ·simp only [List.mem_cons,List.not_mem_nil,or_false] at hq
  rcases hq with rfl | rfl
  ·exact absurd hl (by decide:¬100≤0)
  ·have e:lookN (100 % 100) [(0,as.map λ_=>SV.int 0),(100,Zag as)]=some (as.map λ_=>SV.int 0):=by kernel_rfl
   show ((lookN (100 % 100) [(0,as.map λ_=>SV.int 0),(100,Zag as)]).getD []).length=(Zag as).length
   rw [e]
   show (as.map λ_=>SV.int 0).length=_
   rw [List.length_map,List.length_map]
 ·simp only [List.mem_cons,List.not_mem_nil,or_false] at hq
  rcases hq with rfl | rfl<;>(simp only [List.length_map];omega)
 ·obtain rfl:=List.mem_singleton.mp hq
  exact h2
theorem ZlK {Pm:Params} (hK:G.K=KF Pm) (O:Ok G B 60) (e1:B.sc=lawS) {K0 Mf Ms:List Tr} {tb vw cd fd st:Addr} {y:List Nat} {as:List Addr} {E:List Item} (good:Good G (K0++(Mf++Ms))) (hT:ZdF K0 tb) (hF:Fixed (prs Mf) vw cd fd y as) (hE:Both (Told (prs Mf)) as (D0::E)) (hS:StAt (prs Ms) st D0) (hTn:Zgq D0 0 1 y E) (hlen:as.length=y.length+1) (hy0:0<y.length) (hyl:y.length≤900)
 (x:Hs G (B.mid [] (flat (K0++(Mf++Ms)))) [] [] (Zcf tb y vw fd st) rs) {pa pr pl pd pc1 pc2 fpos pb rp:Pos} {kb:Nat}:
 wpAny G.M B.A (execs [Zlw,.For (.Name (Str.ofString "at") pa) (.Call (.Name (Str.ofString "range") pr) [.Call (.Name (Str.ofString "len") pl) [.Name (Str.ofString "due") pd] [] pc1] [] pc2) ZcA [] fpos,.Return (some (.Constant (.bool true) kb pb)) rp] B.env) (λfl rs'=>fl = .ret (.bool true)∧∃ c ρ σ ls,Hs G { B with cs:=c } ρ σ ls rs') NoE rs:=by
 have hν:=ZpG (as:=as) (y:=y) (by omega) (by omega)
 have T:TOk G tabN:=tOk Pm (G:=G) hK (base:=[]) (sums:=[]) (ops:=[])
 have H:=runN (G:=G) hK hν 20
 refine e2_3 (Zbi (T:=[]) (R:=Mf) (.refl _) hF.d (λ_ h=>nomatch h)) λtd Rf pf t1 t2=>?_
 have pf:Mf.Perm ([td]++Rf):=pf
 have perm:(K0++(Mf++Ms)).Perm ([td]++(K0++(Rf++Ms))):=by
  refine (List.Perm.append_left K0 (List.Perm.append_right Ms pf)).trans ?_
  rw [List.append_assoc]
  exact List.perm_append_comm_assoc _ _ _
 have x1:(nuE as y).x 1=as.length:=by show (((as.map λ_=>SV.int 0).length:Nat):Int)=_;rw [List.length_map]
 have w:=thaw (T:=[td]) (R:=K0++(Rf++Ms)) (σ':=[.list (Zag as)]) (ls':=semL (nuE as y) (sDue tb vw st).ls) x good perm (by
  have:=Zeg (good td (perm.mem_iff.mpr (.head _)))
  rw [t2] at this
  simp only [List.map_cons,List.map_nil,this _,t2]) (by
  refine i0_2 (by kernel_rfl) (ZeH (.cons ⟨rfl,λrv h=>?_⟩ (.cons ⟨rfl,λrv h=>?_⟩ (.cons ⟨rfl,λrv h=>?_⟩ (.cons ⟨rfl,λrv h=>?_⟩ (.cons ⟨rfl,λrv h=>?_⟩ .nil))))))
  ·exact h.mono List.nil_prefix
  ·exact h.mono List.nil_prefix
  ·exact h.mono List.nil_prefix
  ·refine e0_2 (V.glob_inv h) λwq _=>?_;clear h;subst wq;exact .ref (o:=td.1.2) (by rw [←t1];rfl)
  ·exact h.mono List.nil_prefix)
 have es:semH tabN (nuE as y) (sDue tb vw st)=[.list (Zag as)]:=by
  show [SO.list (Zag as++[])]=_
  rw [List.append_nil]
 have g:Gd G (B.mid [] (flat (K0++(Rf++Ms)))) tabN (nuE as y) [td.1] (sDue tb vw st) rs:=⟨Zbg (iff_of_true rfl (by
  show (-1:Int)+(1 * (nuE as y).x 1+(-1 * ((y.length:Nat):Int)+0))=0
  rw [x1];omega)) (λ_ h=>nomatch h),by rw [es];exact w⟩
 have OF:Ok G (B.mid [] (flat (K0++(Rf++Ms)))) 60:=O.mid
 refine wpAny_execs_cons (Zov (B:=B.mid [] (flat (K0++(Rf++Ms)))) H T hν (OF.le (d':=20) (by omega)) e1 g (ZjW tb vw st) λρ1 rs1 _ g1=>?_)
 refine wpAny_execs_cons (wpAny_For (wpAny_mono (ZfB (B:=B.mid [] (flat (K0++(Rf++Ms)))) hK hν OF e1 g1 (ZpQ tb vw st) (lenA tb vw st _ _ _ _)) (λxv rs2 u=>?_) λ_ _ e=>e) λ_=>rfl)
 refine byP λXX kX=>?_
 refine e4_3 u λra u1 u2 u3 wq hr g2=>?_;clear u;subst wq
 rw [ev_x,x1] at hr
 refine e1_4 (ZaD g2.hs) λT2 f1 f2 gT2 z=>?_
 rw [es] at f2
 refine e1_1 (show ∃ t,T2=[t] from by
  cases T2 with
  | nil=>cases f2
  | cons t r=>cases r with
   | nil=>exact ⟨t,rfl⟩
   | cons _ _=>simp at f2) λtd' wq=>?_;subst wq
 have hp1:[td.1] <+: ρ1:=by assumption
 have ha:td'.1=td.1:=by
  refine e1_1 hp1 λq hq=>?_;clear hp1
  rw [←hq] at f1
  exact (List.cons.inj f1).1
 refine kX ?_
 have hs2:td'.2.1 = .list (Zag as):=by
  have:td'.2.1=anfO ρ1 (.list (Zag as)):=by simpa using f2
  rw [this];simp only [anfO,Zag,List.map_map];rfl
 have hρ:ρ1=[td'.1]:=f1.symm
 have z:Hs G (B.mid [] (flat ([td']++(K0++(Rf++Ms))))) [] [] (Zcf tb y vw fd st) rs2:=by
  have e2:Zax ρ1 (semL (nuE as y) (sDue tb vw st).ls)=Zcf tb y vw fd st:=by
   rw [hρ,←t1,←ha];rfl
  rw [←e2]
  have e3:flat ([td']++(K0++(Rf++Ms)))=flat [td']++flat (K0++(Rf++Ms)):=List.flatMap_append
  rw [e3];exact z
 have perm2:([td']++(K0++(Rf++Ms))).Perm (K0++(([td']++Rf)++Ms)):=by
  rw [List.append_assoc]
  exact List.perm_append_comm_assoc _ _ _
 have good2:Good G (K0++(([td']++Rf)++Ms)):=Zdi perm2 λt h=>by
  refine byP λXX kX=>?_
  rcases List.mem_append.mp h with h | h
  ·refine kX ?_
   exact gT2 t h
  ·refine kX ?_
   exact good t (perm.mem_iff.mpr (List.mem_append_right _ h))
 have mono:∀ z ∈ prs Mf,z ∈ prs ([td']++Rf):=λz hz=>by
  rw [Zgb pf,Zbj] at hz
  rw [Zbj]
  refine byP λXX kX=>?_
  rcases List.mem_append.mp hz with h | h
  ·obtain rfl:=List.mem_singleton.mp h
   refine kX ?_
   refine List.mem_append_left _ ?_
   show (td.1.1,td.2.1) ∈ prs [td']
   rw [t2,←ha,←hs2];exact .head _
  ·refine kX ?_
   exact List.mem_append_right _ h
 have x0:=live (B:=B) (pre:=[]) (Hs.permc (Zcb perm2) z) good2
 refine wpAny_pyIter_range hr (ZcY (by decide) (by omega)) ?_
 have hW:=Walks.range (prog:=G.prog) (w:=G.w) (A:=B.A) O.hand rs2.heap.objs.size 0 1 as.length
 refine codeAny_mono (ZhA (d:=20) (it:=λi=>.int i) (n:=as.length) (Pv:=λi v=>∃ t,v = .int (0+i * 1) t) (St:=λi h=>IsRangeIter h rs2.heap.objs.size (0+(i:Nat) * 1) ((as.length:Int)-(i:Nat)) 1) (fp:=[rs2.heap.objs.size])
  (J:=LawJ G y as tb vw cd fd) (KB:=λ_ _ _ _=>False) (KR:=λ_ _ _ _ _=>False) (R:=λr rs'=>r = .ok .next∧∃ c ρ σ ls,Hs G { B with cs:=c } ρ σ ls rs')
  (O.le (by omega)) x0 rfl hW (by rw [ZdQ];simpa using Heap.get?_push_size _ rfl) (λi h st=>⟨_,st,λw q=>by cases q⟩) (λi s' v Q' st hq=>Zcg st rfl rfl (by decide) hq) (λb hb=>.inl (by simpa using hb)) (λi v hi hv c0 ρ' σ' ls' _=>?_) ?_ ?_ ?_ λ_ _ _ _ _ _ _ h=>h.elim) λr rs' u=>?_
 ·refine e1_1 hv λt wq=>?_;clear hv;subst wq
  rw [show (0:Int)+i * 1=i by omega];exact .int _ _
 ·cases hE with
  | @cons a _ asA _ hI hE=>exact .inr ⟨K0,[td']++Rf,Ms,st,D0,[],y,[],a,asA,E,0,good2,hT,⟨mono _ hF.v,mono _ hF.c,mono _ hF.d⟩,rfl,rfl,rfl,rfl,hI.mono λz h _=>mono z h,hE.imp λ_ _ h=>h.mono λz h _=>mono z h,hTn,.inl ⟨rfl,rfl⟩,.inr ⟨rfl,hS⟩,Nat.le_refl _⟩
 ·intro I oI i v c0 ρ' σ' ls' rs' hi hJ hv O' x'
  refine e1_1 (vint hv) λt wq=>?_;subst wq
  refine wpAny_mono (ZlJ hK (O.le (by omega)) e1 hy0 (by omega) (by omega) hi hJ x') (λ_ rs3 u=>wpAny_mono u (λf rs4 u=>?_) λ_ _ e=>e) λ_ _ e=>e
  refine e0_2 u λwq wqb=>?_;clear u;subst wq;obtain ⟨c3,ρ3,σ3,ls3,h1,h2⟩:=wqb
  exact i4_2 c3 (ρ3) (σ3) ls3 h1 h2
 ·intro c0 ρ' σ' ls' rs' y2 _
  exact i0_2 rfl (⟨_,_,_,_,y2⟩)
 ·refine e0_2 u λwq wqb=>?_;clear u;subst wq;obtain ⟨c,ρ3,σ3,ls3,hs⟩:=wqb
  exact wpAny_execs_cons (wpAny_Return_some (wpAny_Constant_bool ⟨rfl,c,ρ3,σ3,ls3,hs⟩))
theorem Zjw:∀ {a b:List Nat},Zap a=true->Zap b=true->Zap (a++b)=true
 | [],_,_,h=>h
 | c::r,b,h1,h2=>by
  have h':=Bool.and_eq_true_iff.mp (show (Nat.blt c 128&&Zap r)=true from h1)
  exact Bool.and_eq_true_iff.mpr ⟨h'.1,Zjw h'.2 h2⟩
theorem Znu:(pcs.all λq=>Zap q.t)=true:=by kernel_rfl
theorem Zh2:∀ {qs:List Pc},(∀ q ∈ qs,q ∈ pcs)->Zap (Zc0 qs)=true
 | [],_=>rfl
 | q::r,h=>Zjw (List.all_eq_true.mp Znu q (h q (.head _))) (Zh2 (qs:=r) λq hq=>h q (.tail _ hq))
theorem ZlM {Pm:Params} (hK:G.K=KF Pm) (O:Ok G B 60) {c1 c2 dk l tb:Addr} {o1 o2:Obj} {m:Nat} {t:Tok} (hsc:B.sc=lawS) (hcl:B.cl=[(Str.ofString "many",c2),(Str.ofString "deck",c1)]) (hcs:B.cs=[(c2,o2),(c1,o1)]) (q1:o1.data = .cell (some (.ref dk))) (q2:o2.data = .cell (some (.int m t))) (m3:3≤m) (m12:m≤12)
 {t0:Tr} {K0:List Tr} (ht0:t0.1.1=dk) (ht1:t0.2.1 = .deck 0) (good1:Good G (t0::K0)) (hT:ZdF K0 tb) (x1:Hs G (B.mid [] (flat (t0::K0))) [] [] (ls2 l dk tb m) rs) {s1 s2 s3:Stmt} {pa pr pl pd pc1 pc2 fpos pb rp:Pos} {kb:Nat} (n1:nth lawB 1=some s1) (n2:nth lawB 2=some s2) (n3:nth lawB 3=some s3):
 wpAny G.M B.A (execs [s1,s2,s3,Zlw,.For (.Name (Str.ofString "at") pa) (.Call (.Name (Str.ofString "range") pr) [.Call (.Name (Str.ofString "len") pl) [.Name (Str.ofString "due") pd] [] pc1] [] pc2) ZcA [] fpos,.Return (some (.Constant (.bool true) kb pb)) rp] B.env) (λfl rs'=>fl = .ret (.bool true)∧∃ c ρ σ ls,Hs G { B with cs:=c } ρ σ ls rs') NoE rs:=by
 refine wpAny_execs_cons (Zqq hK O hsc hcl hcs q1 q2 m3 m12 ht0 ht1 good1 x1 (λqs Kp tl rs2 hqs good2 htl hat hend x2=>?_) s1 n1)
 have hgood0:Good G K0:=λt h=>good1 t (.tail _ h)
 have good3:Good G (tl::(Kp++K0)):=λt h=>by
  rcases List.mem_cons.mp h with rfl | h
  ·exact good2 _ (.head _)
  ·rcases List.mem_append.mp h with h | h
   ·exact good2 t (.tail _ h)
   ·exact hgood0 t h
 have hat3:∀ p ∈ qs,PcAt (tl::(Kp++K0)) p:=λp hp=>by
  refine e0_2 (hat p hp) λh1 wq=>?_;obtain ⟨t,h2,h3⟩:=wq
  exact i0_2 h1 (⟨t,.tail _ (List.mem_append_left _ h2),h3⟩)
 have hq12:qs.length≤12:=by omega
 have hqm:∀ q ∈ qs.map (·.1),q ∈ pcs:=λq hq=>by
  refine e1_2 (List.mem_map.mp hq) λp hp wq=>?_;subst wq
  exact (hat p hp).1
 have htx:ZdC qs=Zc0 (qs.map (·.1)):=by
  unfold ZdC Zc0
  rw [List.map_map];rfl
 have hlt:=ZfH hqm
 rw [←htx,List.length_map] at hlt
 have hlt2:(ZdC qs).length≤96:=by omega
 have hend':∀ j p,qs[j]? = some p->p.1.e=true∨j+1=qs.length:=λj p h=>by rw [hqs];exact hend j p h
 have hendM:∀ j q,(qs.map (·.1))[j]? = some q->q.e=true∨j+1=(qs.map (·.1)).length:=λj q h=>by
  rw [List.getElem?_map] at h
  rw [List.length_map]
  generalize w:qs[j]? = wo at h
  revert w;revert wo;show Fa _ _;refine Opt.on_some zN0 (λp h=>?_);intro w
  have wq:=Option.some.inj h;clear h;subst wq;exact hend' j p w
 refine wpAny_execs_cons (Zqr O hsc good3 (D:=tl.1.1) ⟨⟨tl,.head _,rfl,htl⟩,hat3⟩ hq12 (by omega) (by kernel_rfl) x2 (λrs3 x3=>?_) s2 n2)
 refine wpAny_execs_cons (Zqs hK O hsc good3 (qs:=qs) (D:=tl.1.1) (List.mem_map.mpr ⟨tl,.head _,by rw [htl,Zag,List.map_map];rfl⟩) hat3 hend' hq12 (y:=ZdC qs) ?_ (by omega) (by kernel_rfl) (by kernel_rfl) x3 (λK1 vw cd st fd as rs4 g1 hvw hcd hst hfd hTold x4=>?_) s3 n3)
 ·rw [htx]
  exact Zh2 hqm
 ·refine e2_3 (Zbi (T:=[]) (R:=K1) (.refl _) hst (λ_ h=>nomatch h)) λts R1 p1 u1 u2=>?_
  have p1:K1.Perm ([ts]++R1):=p1
  have inR:∀ z ∈ prs K1,z.2 ≠ .inst 68 (psN.zip (.glob (.ref 29)::D0.fl))->z ∈ prs (R1++(tl::Kp)):=λz hz hn=>by
   rw [Zgb p1,Zbj] at hz
   rw [Zbj]
   rcases List.mem_append.mp hz with h | h
   ·obtain rfl:=List.mem_singleton.mp h
    exact absurd u2 hn
   ·exact List.mem_append_left _ h
  have perm:(K1++(tl::(Kp++K0))).Perm (K0++((R1++(tl::Kp))++[ts])):=by
   refine (List.Perm.append_right _ p1).trans ?_
   have e:tl::(Kp++K0)=(tl::Kp)++K0:=rfl
   rw [e,List.append_assoc,←List.append_assoc R1,←List.append_assoc K0]
   exact List.perm_append_comm.trans (List.Perm.append_right _ List.perm_append_comm)
  have good4:Good G (K0++((R1++(tl::Kp))++[ts])):=Zdi perm λt h=>by
   rcases List.mem_append.mp h with h | h
   ·exact g1 t h
   ·exact good3 t h
  have x5:=Hs.permc (Zcb perm) x4
  have x6:=x5.lsTo (ls':=Zcf tb (ZdC qs) vw fd st) (Zch (λp hp=>by
   simp only [Zcf,List.mem_cons,List.not_mem_nil,or_false] at hp
   rcases hp with rfl | rfl | rfl | rfl | rfl<;>kernel_rfl) (by kernel_rfl))
  have hdl:=ZgA hqm hendM [] 0 0 none none 1
  have hlen:as.length=(ZdC qs).length+1:=by
   rw [hTold.len,List.length_cons,htx]
   exact congrArg (·+1) hdl
  refine ZlK hK O hsc good4 hT ⟨inR _ hvw (by intro e;cases e),inR _ hcd (by intro e;cases e),inR _ hfd (by intro e;cases e)⟩ (hTold.imp λa I h=>?_) ⟨29,?_,.inr ⟨rfl,rfl⟩⟩ ?_ hlen ?_ (by omega) x6
  ·refine e1_2 h λoa w1 w2=>?_;clear h
   exact i1_2 oa (inR _ w1 (by intro e;cases e)) (inR _ w2 (by intro e;cases e))
  ·rw [←u1,←u2];exact .head _
  ·have:=Zhj (prev:=0) (p:=1) (op:=[]) (be:=0) (le:=0) (wh:=none) (wo:=none) hqm hendM
   rw [htx];exact this
  ·have h3:qs ≠ []:=λe=>by rw [e] at hqs;simp at hqs;omega
   cases qs with
   | nil=>exact absurd rfl h3
   | cons p r=>
    refine e2_3 (Zei (hat p (.head _)).1) λc t e _ _=>?_
    show 0<(p.1.t++(r.map λp=>p.1.t).flatten).length
    rw [List.length_append,e,List.length_cons];omega
theorem Zoc:Zjq:=by
 intro G Pm hK B rs c1 c2 o1 o2 l vs ns O hsc hcl hne hcs h1 h2 hg hl hi hn x
 obtain ⟨s0,s1,s2,s3,pa,pr,pl,pd,pc1,pc2,fpos,kb,pb,rp,hb,n0,n1,n2,n3⟩:=Zkf
 rw [hb]
 refine wpAny_execs_cons (Zqp hK O hsc hcl hcs h1 h2 hl hi hn x (λo1' o2' m t dk t0 K0 tb rs1 q1 q2 m3 m12 ht0 ht1 good1 hT x1=>?_) s0 n0)
 exact ZlM (B:={ B with cs:=[(c2,o2'),(c1,o1')] }) hK ⟨O.kin,O.top,O.kind,O.hand,O.dep,O.uni⟩ hsc hcl rfl q1 q2 m3 m12 ht0 ht1 good1 hT x1 n1 n2 n3
end
theorem cw_done:PySem.Challenge.rw_np0083_01.Holds:=ZiX (Zo1 Zoc)
end Mine
end
theorem PySem.Challenge.cw_np0083_01_holds : PySem.Challenge.rw_np0083_01.Holds :=
  Mine.cw_done
