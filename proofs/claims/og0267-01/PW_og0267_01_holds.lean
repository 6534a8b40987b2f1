import PyProof.Rows.All
import KE.KItem
import Wide.FinOn
import OpenK.AllK
import Wide.All
import Lean
import PySem.Challenge.RW_og0267_01

set_option Elab.async false
set_option compiler.extract_closed false
set_option maxRecDepth 100000
set_option maxHeartbeats 8000000

/-! part C0 -/
namespace Mine
noncomputable section
open PySem
theorem band2 {a b : Bool} (h : (a && b) = true) : a = true ∧ b = true := Bool.and_eq_true_iff.mp h
theorem band3 {a b c : Bool} (h : (a && b && c) = true) : (a = true ∧ b = true) ∧ c = true := ⟨band2 (band2 h).1, (band2 h).2⟩
theorem band4 {a b c d : Bool} (h : (a && b && c && d) = true) : ((a = true ∧ b = true) ∧ c = true) ∧ d = true := ⟨band3 (band2 h).1, (band2 h).2⟩
theorem band5 {a b c d e : Bool} (h : (a && b && c && d && e) = true) : (((a = true ∧ b = true) ∧ c = true) ∧ d = true) ∧ e = true := ⟨band4 (band2 h).1, (band2 h).2⟩
theorem band6 {a b c d e f : Bool} (h : (a && b && c && d && e && f) = true) : ((((a = true ∧ b = true) ∧ c = true) ∧ d = true) ∧ e = true) ∧ f = true := ⟨band5 (band2 h).1, (band2 h).2⟩
theorem band7 {a b c d e f g : Bool} (h : (a && b && c && d && e && f && g) = true) : (((((a = true ∧ b = true) ∧ c = true) ∧ d = true) ∧ e = true) ∧ f = true) ∧ g = true := ⟨band6 (band2 h).1, (band2 h).2⟩
theorem bnot {a : Bool} (h : (!a) = true) : a = false := by cases a; rfl; cases h
theorem nn {α : Type} {P : Prop} {x : α} (h : none = some x) : P := Option.noConfusion rfl (heq_of_eq h)
theorem sn {α : Type} {P : Prop} {x : α} (h : some x = none) : P := nn h.symm
theorem tf {P : Prop} (h : true = false) : P := absurd h.symm Bool.false_ne_true
theorem noB {P : Prop} (h : false = true) : P := absurd h Bool.false_ne_true
/-- names a value; the name stays in the term -/
@[elab_as_elim] theorem gen {α : Sort u} {motive : α → Prop} (a : α) (h : ∀ x, motive x) : motive a := h a
@[elab_as_elim] theorem genEq {α : Sort u} {motive : α → Prop} (a : α) (h : ∀ x, a = x → motive x) : motive a := h a rfl
/-! flat eliminations (small terms) -/
theorem ex2 {α0 : Sort u0} {α1 : Sort u1} {P : α0 → α1 → Prop} {G : Prop} (h : ∃ a0, ∃ a1, P a0 a1) (k : ∀ (a0 : α0) (a1 : α1), P a0 a1 → G) : G := h.elim fun a0 zz1 => zz1.elim fun a1 h =>  k a0 a1 h
theorem ex3 {α0 : Sort u0} {α1 : Sort u1} {α2 : Sort u2} {P : α0 → α1 → α2 → Prop} {G : Prop} (h : ∃ a0, ∃ a1, ∃ a2, P a0 a1 a2) (k : ∀ (a0 : α0) (a1 : α1) (a2 : α2), P a0 a1 a2 → G) : G := h.elim fun a0 zz2 => zz2.elim fun a1 zz3 => zz3.elim fun a2 h =>  k a0 a1 a2 h
theorem ex4 {α0 : Sort u0} {α1 : Sort u1} {α2 : Sort u2} {α3 : Sort u3} {P : α0 → α1 → α2 → α3 → Prop} {G : Prop} (h : ∃ a0, ∃ a1, ∃ a2, ∃ a3, P a0 a1 a2 a3) (k : ∀ (a0 : α0) (a1 : α1) (a2 : α2) (a3 : α3), P a0 a1 a2 a3 → G) : G := h.elim fun a0 zz4 => zz4.elim fun a1 zz5 => zz5.elim fun a2 zz6 => zz6.elim fun a3 h =>  k a0 a1 a2 a3 h
theorem ex5 {α0 : Sort u0} {α1 : Sort u1} {α2 : Sort u2} {α3 : Sort u3} {α4 : Sort u4} {P : α0 → α1 → α2 → α3 → α4 → Prop} {G : Prop} (h : ∃ a0, ∃ a1, ∃ a2, ∃ a3, ∃ a4, P a0 a1 a2 a3 a4) (k : ∀ (a0 : α0) (a1 : α1) (a2 : α2) (a3 : α3) (a4 : α4), P a0 a1 a2 a3 a4 → G) : G := h.elim fun a0 zz7 => zz7.elim fun a1 zz8 => zz8.elim fun a2 zz9 => zz9.elim fun a3 zz10 => zz10.elim fun a4 h =>  k a0 a1 a2 a3 a4 h
theorem ex6 {α0 : Sort u0} {α1 : Sort u1} {α2 : Sort u2} {α3 : Sort u3} {α4 : Sort u4} {α5 : Sort u5} {P : α0 → α1 → α2 → α3 → α4 → α5 → Prop} {G : Prop} (h : ∃ a0, ∃ a1, ∃ a2, ∃ a3, ∃ a4, ∃ a5, P a0 a1 a2 a3 a4 a5) (k : ∀ (a0 : α0) (a1 : α1) (a2 : α2) (a3 : α3) (a4 : α4) (a5 : α5), P a0 a1 a2 a3 a4 a5 → G) : G := h.elim fun a0 zz11 => zz11.elim fun a1 zz12 => zz12.elim fun a2 zz13 => zz13.elim fun a3 zz14 => zz14.elim fun a4 zz15 => zz15.elim fun a5 h =>  k a0 a1 a2 a3 a4 a5 h
theorem ex7 {α0 : Sort u0} {α1 : Sort u1} {α2 : Sort u2} {α3 : Sort u3} {α4 : Sort u4} {α5 : Sort u5} {α6 : Sort u6} {P : α0 → α1 → α2 → α3 → α4 → α5 → α6 → Prop} {G : Prop} (h : ∃ a0, ∃ a1, ∃ a2, ∃ a3, ∃ a4, ∃ a5, ∃ a6, P a0 a1 a2 a3 a4 a5 a6) (k : ∀ (a0 : α0) (a1 : α1) (a2 : α2) (a3 : α3) (a4 : α4) (a5 : α5) (a6 : α6), P a0 a1 a2 a3 a4 a5 a6 → G) : G := h.elim fun a0 zz16 => zz16.elim fun a1 zz17 => zz17.elim fun a2 zz18 => zz18.elim fun a3 zz19 => zz19.elim fun a4 zz20 => zz20.elim fun a5 zz21 => zz21.elim fun a6 h =>  k a0 a1 a2 a3 a4 a5 a6 h
theorem exI2 {α0 : Sort u0} {α1 : Sort u1} {P : α0 → α1 → Prop} (a0 : α0) (a1 : α1) (h : P a0 a1) : ∃ a0, ∃ a1, P a0 a1 := ⟨a0, a1, h⟩
theorem exI3 {α0 : Sort u0} {α1 : Sort u1} {α2 : Sort u2} {P : α0 → α1 → α2 → Prop} (a0 : α0) (a1 : α1) (a2 : α2) (h : P a0 a1 a2) : ∃ a0, ∃ a1, ∃ a2, P a0 a1 a2 := ⟨a0, a1, a2, h⟩
theorem exI4 {α0 : Sort u0} {α1 : Sort u1} {α2 : Sort u2} {α3 : Sort u3} {P : α0 → α1 → α2 → α3 → Prop} (a0 : α0) (a1 : α1) (a2 : α2) (a3 : α3) (h : P a0 a1 a2 a3) : ∃ a0, ∃ a1, ∃ a2, ∃ a3, P a0 a1 a2 a3 := ⟨a0, a1, a2, a3, h⟩
theorem exI5 {α0 : Sort u0} {α1 : Sort u1} {α2 : Sort u2} {α3 : Sort u3} {α4 : Sort u4} {P : α0 → α1 → α2 → α3 → α4 → Prop} (a0 : α0) (a1 : α1) (a2 : α2) (a3 : α3) (a4 : α4) (h : P a0 a1 a2 a3 a4) : ∃ a0, ∃ a1, ∃ a2, ∃ a3, ∃ a4, P a0 a1 a2 a3 a4 := ⟨a0, a1, a2, a3, a4, h⟩
theorem exI6 {α0 : Sort u0} {α1 : Sort u1} {α2 : Sort u2} {α3 : Sort u3} {α4 : Sort u4} {α5 : Sort u5} {P : α0 → α1 → α2 → α3 → α4 → α5 → Prop} (a0 : α0) (a1 : α1) (a2 : α2) (a3 : α3) (a4 : α4) (a5 : α5) (h : P a0 a1 a2 a3 a4 a5) : ∃ a0, ∃ a1, ∃ a2, ∃ a3, ∃ a4, ∃ a5, P a0 a1 a2 a3 a4 a5 := ⟨a0, a1, a2, a3, a4, a5, h⟩
theorem exI7 {α0 : Sort u0} {α1 : Sort u1} {α2 : Sort u2} {α3 : Sort u3} {α4 : Sort u4} {α5 : Sort u5} {α6 : Sort u6} {P : α0 → α1 → α2 → α3 → α4 → α5 → α6 → Prop} (a0 : α0) (a1 : α1) (a2 : α2) (a3 : α3) (a4 : α4) (a5 : α5) (a6 : α6) (h : P a0 a1 a2 a3 a4 a5 a6) : ∃ a0, ∃ a1, ∃ a2, ∃ a3, ∃ a4, ∃ a5, ∃ a6, P a0 a1 a2 a3 a4 a5 a6 := ⟨a0, a1, a2, a3, a4, a5, a6, h⟩
theorem and3 {a0 a1 a2 G : Prop} (h : a0 ∧ a1 ∧ a2) (k : a0 → a1 → a2 → G) : G := h.elim fun x0 zz22 => zz22.elim fun x1 x2 =>  k x0 x1 x2
theorem and4 {a0 a1 a2 a3 G : Prop} (h : a0 ∧ a1 ∧ a2 ∧ a3) (k : a0 → a1 → a2 → a3 → G) : G := h.elim fun x0 zz23 => zz23.elim fun x1 zz24 => zz24.elim fun x2 x3 =>  k x0 x1 x2 x3
theorem and5 {a0 a1 a2 a3 a4 G : Prop} (h : a0 ∧ a1 ∧ a2 ∧ a3 ∧ a4) (k : a0 → a1 → a2 → a3 → a4 → G) : G := h.elim fun x0 zz25 => zz25.elim fun x1 zz26 => zz26.elim fun x2 zz27 => zz27.elim fun x3 x4 =>  k x0 x1 x2 x3 x4
theorem and6 {a0 a1 a2 a3 a4 a5 G : Prop} (h : a0 ∧ a1 ∧ a2 ∧ a3 ∧ a4 ∧ a5) (k : a0 → a1 → a2 → a3 → a4 → a5 → G) : G := h.elim fun x0 zz28 => zz28.elim fun x1 zz29 => zz29.elim fun x2 zz30 => zz30.elim fun x3 zz31 => zz31.elim fun x4 x5 =>  k x0 x1 x2 x3 x4 x5
theorem and7 {a0 a1 a2 a3 a4 a5 a6 G : Prop} (h : a0 ∧ a1 ∧ a2 ∧ a3 ∧ a4 ∧ a5 ∧ a6) (k : a0 → a1 → a2 → a3 → a4 → a5 → a6 → G) : G := h.elim fun x0 zz32 => zz32.elim fun x1 zz33 => zz33.elim fun x2 zz34 => zz34.elim fun x3 zz35 => zz35.elim fun x4 zz36 => zz36.elim fun x5 x6 =>  k x0 x1 x2 x3 x4 x5 x6
theorem and8 {a0 a1 a2 a3 a4 a5 a6 a7 G : Prop} (h : a0 ∧ a1 ∧ a2 ∧ a3 ∧ a4 ∧ a5 ∧ a6 ∧ a7) (k : a0 → a1 → a2 → a3 → a4 → a5 → a6 → a7 → G) : G := h.elim fun x0 zz37 => zz37.elim fun x1 zz38 => zz38.elim fun x2 zz39 => zz39.elim fun x3 zz40 => zz40.elim fun x4 zz41 => zz41.elim fun x5 zz42 => zz42.elim fun x6 x7 =>  k x0 x1 x2 x3 x4 x5 x6 x7
theorem and9 {a0 a1 a2 a3 a4 a5 a6 a7 a8 G : Prop} (h : a0 ∧ a1 ∧ a2 ∧ a3 ∧ a4 ∧ a5 ∧ a6 ∧ a7 ∧ a8) (k : a0 → a1 → a2 → a3 → a4 → a5 → a6 → a7 → a8 → G) : G := h.elim fun x0 zz43 => zz43.elim fun x1 zz44 => zz44.elim fun x2 zz45 => zz45.elim fun x3 zz46 => zz46.elim fun x4 zz47 => zz47.elim fun x5 zz48 => zz48.elim fun x6 zz49 => zz49.elim fun x7 x8 =>  k x0 x1 x2 x3 x4 x5 x6 x7 x8
theorem and10 {a0 a1 a2 a3 a4 a5 a6 a7 a8 a9 G : Prop} (h : a0 ∧ a1 ∧ a2 ∧ a3 ∧ a4 ∧ a5 ∧ a6 ∧ a7 ∧ a8 ∧ a9) (k : a0 → a1 → a2 → a3 → a4 → a5 → a6 → a7 → a8 → a9 → G) : G := h.elim fun x0 zz50 => zz50.elim fun x1 zz51 => zz51.elim fun x2 zz52 => zz52.elim fun x3 zz53 => zz53.elim fun x4 zz54 => zz54.elim fun x5 zz55 => zz55.elim fun x6 zz56 => zz56.elim fun x7 zz57 => zz57.elim fun x8 x9 =>  k x0 x1 x2 x3 x4 x5 x6 x7 x8 x9
theorem and11 {a0 a1 a2 a3 a4 a5 a6 a7 a8 a9 a10 G : Prop} (h : a0 ∧ a1 ∧ a2 ∧ a3 ∧ a4 ∧ a5 ∧ a6 ∧ a7 ∧ a8 ∧ a9 ∧ a10) (k : a0 → a1 → a2 → a3 → a4 → a5 → a6 → a7 → a8 → a9 → a10 → G) : G := h.elim fun x0 zz58 => zz58.elim fun x1 zz59 => zz59.elim fun x2 zz60 => zz60.elim fun x3 zz61 => zz61.elim fun x4 zz62 => zz62.elim fun x5 zz63 => zz63.elim fun x6 zz64 => zz64.elim fun x7 zz65 => zz65.elim fun x8 zz66 => zz66.elim fun x9 x10 =>  k x0 x1 x2 x3 x4 x5 x6 x7 x8 x9 x10
theorem and12 {a0 a1 a2 a3 a4 a5 a6 a7 a8 a9 a10 a11 G : Prop} (h : a0 ∧ a1 ∧ a2 ∧ a3 ∧ a4 ∧ a5 ∧ a6 ∧ a7 ∧ a8 ∧ a9 ∧ a10 ∧ a11) (k : a0 → a1 → a2 → a3 → a4 → a5 → a6 → a7 → a8 → a9 → a10 → a11 → G) : G := h.elim fun x0 zz67 => zz67.elim fun x1 zz68 => zz68.elim fun x2 zz69 => zz69.elim fun x3 zz70 => zz70.elim fun x4 zz71 => zz71.elim fun x5 zz72 => zz72.elim fun x6 zz73 => zz73.elim fun x7 zz74 => zz74.elim fun x8 zz75 => zz75.elim fun x9 zz76 => zz76.elim fun x10 x11 =>  k x0 x1 x2 x3 x4 x5 x6 x7 x8 x9 x10 x11
theorem and13 {a0 a1 a2 a3 a4 a5 a6 a7 a8 a9 a10 a11 a12 G : Prop} (h : a0 ∧ a1 ∧ a2 ∧ a3 ∧ a4 ∧ a5 ∧ a6 ∧ a7 ∧ a8 ∧ a9 ∧ a10 ∧ a11 ∧ a12) (k : a0 → a1 → a2 → a3 → a4 → a5 → a6 → a7 → a8 → a9 → a10 → a11 → a12 → G) : G := h.elim fun x0 zz77 => zz77.elim fun x1 zz78 => zz78.elim fun x2 zz79 => zz79.elim fun x3 zz80 => zz80.elim fun x4 zz81 => zz81.elim fun x5 zz82 => zz82.elim fun x6 zz83 => zz83.elim fun x7 zz84 => zz84.elim fun x8 zz85 => zz85.elim fun x9 zz86 => zz86.elim fun x10 zz87 => zz87.elim fun x11 x12 =>  k x0 x1 x2 x3 x4 x5 x6 x7 x8 x9 x10 x11 x12
theorem and14 {a0 a1 a2 a3 a4 a5 a6 a7 a8 a9 a10 a11 a12 a13 G : Prop} (h : a0 ∧ a1 ∧ a2 ∧ a3 ∧ a4 ∧ a5 ∧ a6 ∧ a7 ∧ a8 ∧ a9 ∧ a10 ∧ a11 ∧ a12 ∧ a13) (k : a0 → a1 → a2 → a3 → a4 → a5 → a6 → a7 → a8 → a9 → a10 → a11 → a12 → a13 → G) : G := h.elim fun x0 zz88 => zz88.elim fun x1 zz89 => zz89.elim fun x2 zz90 => zz90.elim fun x3 zz91 => zz91.elim fun x4 zz92 => zz92.elim fun x5 zz93 => zz93.elim fun x6 zz94 => zz94.elim fun x7 zz95 => zz95.elim fun x8 zz96 => zz96.elim fun x9 zz97 => zz97.elim fun x10 zz98 => zz98.elim fun x11 zz99 => zz99.elim fun x12 x13 =>  k x0 x1 x2 x3 x4 x5 x6 x7 x8 x9 x10 x11 x12 x13
theorem and15 {a0 a1 a2 a3 a4 a5 a6 a7 a8 a9 a10 a11 a12 a13 a14 G : Prop} (h : a0 ∧ a1 ∧ a2 ∧ a3 ∧ a4 ∧ a5 ∧ a6 ∧ a7 ∧ a8 ∧ a9 ∧ a10 ∧ a11 ∧ a12 ∧ a13 ∧ a14) (k : a0 → a1 → a2 → a3 → a4 → a5 → a6 → a7 → a8 → a9 → a10 → a11 → a12 → a13 → a14 → G) : G := h.elim fun x0 zz100 => zz100.elim fun x1 zz101 => zz101.elim fun x2 zz102 => zz102.elim fun x3 zz103 => zz103.elim fun x4 zz104 => zz104.elim fun x5 zz105 => zz105.elim fun x6 zz106 => zz106.elim fun x7 zz107 => zz107.elim fun x8 zz108 => zz108.elim fun x9 zz109 => zz109.elim fun x10 zz110 => zz110.elim fun x11 zz111 => zz111.elim fun x12 zz112 => zz112.elim fun x13 x14 =>  k x0 x1 x2 x3 x4 x5 x6 x7 x8 x9 x10 x11 x12 x13 x14
theorem and16 {a0 a1 a2 a3 a4 a5 a6 a7 a8 a9 a10 a11 a12 a13 a14 a15 G : Prop} (h : a0 ∧ a1 ∧ a2 ∧ a3 ∧ a4 ∧ a5 ∧ a6 ∧ a7 ∧ a8 ∧ a9 ∧ a10 ∧ a11 ∧ a12 ∧ a13 ∧ a14 ∧ a15) (k : a0 → a1 → a2 → a3 → a4 → a5 → a6 → a7 → a8 → a9 → a10 → a11 → a12 → a13 → a14 → a15 → G) : G := h.elim fun x0 zz113 => zz113.elim fun x1 zz114 => zz114.elim fun x2 zz115 => zz115.elim fun x3 zz116 => zz116.elim fun x4 zz117 => zz117.elim fun x5 zz118 => zz118.elim fun x6 zz119 => zz119.elim fun x7 zz120 => zz120.elim fun x8 zz121 => zz121.elim fun x9 zz122 => zz122.elim fun x10 zz123 => zz123.elim fun x11 zz124 => zz124.elim fun x12 zz125 => zz125.elim fun x13 zz126 => zz126.elim fun x14 x15 =>  k x0 x1 x2 x3 x4 x5 x6 x7 x8 x9 x10 x11 x12 x13 x14 x15
theorem and17 {a0 a1 a2 a3 a4 a5 a6 a7 a8 a9 a10 a11 a12 a13 a14 a15 a16 G : Prop} (h : a0 ∧ a1 ∧ a2 ∧ a3 ∧ a4 ∧ a5 ∧ a6 ∧ a7 ∧ a8 ∧ a9 ∧ a10 ∧ a11 ∧ a12 ∧ a13 ∧ a14 ∧ a15 ∧ a16) (k : a0 → a1 → a2 → a3 → a4 → a5 → a6 → a7 → a8 → a9 → a10 → a11 → a12 → a13 → a14 → a15 → a16 → G) : G := h.elim fun x0 zz127 => zz127.elim fun x1 zz128 => zz128.elim fun x2 zz129 => zz129.elim fun x3 zz130 => zz130.elim fun x4 zz131 => zz131.elim fun x5 zz132 => zz132.elim fun x6 zz133 => zz133.elim fun x7 zz134 => zz134.elim fun x8 zz135 => zz135.elim fun x9 zz136 => zz136.elim fun x10 zz137 => zz137.elim fun x11 zz138 => zz138.elim fun x12 zz139 => zz139.elim fun x13 zz140 => zz140.elim fun x14 zz141 => zz141.elim fun x15 x16 =>  k x0 x1 x2 x3 x4 x5 x6 x7 x8 x9 x10 x11 x12 x13 x14 x15 x16
theorem and18 {a0 a1 a2 a3 a4 a5 a6 a7 a8 a9 a10 a11 a12 a13 a14 a15 a16 a17 G : Prop} (h : a0 ∧ a1 ∧ a2 ∧ a3 ∧ a4 ∧ a5 ∧ a6 ∧ a7 ∧ a8 ∧ a9 ∧ a10 ∧ a11 ∧ a12 ∧ a13 ∧ a14 ∧ a15 ∧ a16 ∧ a17) (k : a0 → a1 → a2 → a3 → a4 → a5 → a6 → a7 → a8 → a9 → a10 → a11 → a12 → a13 → a14 → a15 → a16 → a17 → G) : G := h.elim fun x0 zz142 => zz142.elim fun x1 zz143 => zz143.elim fun x2 zz144 => zz144.elim fun x3 zz145 => zz145.elim fun x4 zz146 => zz146.elim fun x5 zz147 => zz147.elim fun x6 zz148 => zz148.elim fun x7 zz149 => zz149.elim fun x8 zz150 => zz150.elim fun x9 zz151 => zz151.elim fun x10 zz152 => zz152.elim fun x11 zz153 => zz153.elim fun x12 zz154 => zz154.elim fun x13 zz155 => zz155.elim fun x14 zz156 => zz156.elim fun x15 zz157 => zz157.elim fun x16 x17 =>  k x0 x1 x2 x3 x4 x5 x6 x7 x8 x9 x10 x11 x12 x13 x14 x15 x16 x17

inductive CV where
  | none | bool (b : Bool) | int (i : Int) | str (s : Str)
  | tup (vs : List CV) | lst (vs : List CV)
  | ins (C : Str) (ks : List Str) (vs : List CV)
  | ref (a : Addr) | obj (C : Str) (d : Addr) | dct (d : Addr)

inductive CObj where
  | list (vs : List CV) | dict (es : List (Str × CV)) | map (es : List (Str × CV))

noncomputable abbrev CH := Addr → Option CObj
noncomputable abbrev Loc := List (Str × CV)

noncomputable def look {α : Type} (x : Str) : List (Str × α) → Option α
  | [] => Option.none
  | (k, v) :: r => if k = x then some v else look x r
noncomputable def put {α : Type} (x : Str) (v : α) : List (Str × α) → List (Str × α)
  | [] => [(x, v)]
  | (k, u) :: r => if k = x then (k, v) :: r else (k, u) :: put x v r
theorem look_cons {α : Type} {x k : Str} {v : α} {r : List (Str × α)} : look x ((k, v) :: r) = if k = x then some v else look x r := rfl
theorem put_cons {α : Type} {x k : Str} {v u : α} {r : List (Str × α)} : put x v ((k, u) :: r) = if k = x then (k, v) :: r else (k, u) :: put x v r := rfl
theorem look_put {α : Type} {x y : Str} {v : α} : ∀ {l : List (Str × α)}, look y (put x v l) = if x = y then some v else look y l
  | [] => rfl
  | (k, u) :: r => by
    rw [put_cons, look_cons]
    by_cases hk : k = x
    · rw [if_pos hk, look_cons]; subst hk
      by_cases hy : k = y
      · rw [if_pos hy, if_pos hy]
      · rw [if_neg hy, if_neg hy, if_neg hy]
    · rw [if_neg hk, look_cons]
      by_cases hy : k = y
      · rw [if_pos hy, if_neg (fun q => hk (hy.trans q.symm)), if_pos hy]
      · rw [if_neg hy, look_put, if_neg hy]
noncomputable def CH.set (H : CH) (a : Addr) (o : CObj) : CH := fun b => if b = a then some o else H b

inductive CFlow where
  | next | ret (c : CV)

/-! what is frozen: target first, source behind it -/
mutual
noncomputable def Frz (H : CH) (P : Addr → Prop) : CV → CV → Prop
  | .none, c => c = .none
  | .bool b, c => c = .bool b
  | .int i, c => c = .int i
  | .str x, c => c = .str x
  | .tup vs', c => ∃ vs, c = .tup vs ∧ FrzL H P vs' vs
  | .lst vs', c => (∃ vs, c = .lst vs ∧ FrzL H P vs' vs) ∨ (∃ a vs, c = .ref a ∧ P a ∧ H a = some (.list vs) ∧ FrzL H P vs' vs)
  | .ins C ks vs', c => (∃ vs, c = .ins C ks vs ∧ FrzL H P vs' vs) ∨ (∃ d es, c = .obj C d ∧ P d ∧ H d = some (.dict es) ∧ ks = es.map (·.1) ∧ FrzL H P vs' (es.map (·.2)))
  | .ref a, c => c = .ref a
  | .obj C d, c => c = .obj C d
  | .dct d, c => c = .dct d
noncomputable def FrzL (H : CH) (P : Addr → Prop) : List CV → List CV → Prop
  | [], cs => cs = []
  | v :: vs, cs => ∃ c r, cs = c :: r ∧ Frz H P v c ∧ FrzL H P vs r
end
noncomputable def FrzO (H : CH) (P : Addr → Prop) : CObj → CObj → Prop
  | .list vs', o => ∃ vs, o = .list vs ∧ FrzL H P vs' vs
  | .dict es', o => ∃ es, o = .dict es ∧ es'.map (·.1) = es.map (·.1) ∧ FrzL H P (es'.map (·.2)) (es.map (·.2))
  | .map es', o => o = .map es'
noncomputable def FrzH (H : CH) (P : Addr → Prop) (H' : CH) : Prop := ∀ a o', H' a = some o' → ¬ P a ∧ ∃ o, H a = some o ∧ FrzO H P o' o
noncomputable def Weak (loc : Loc) (H : CH) (loc' : Loc) (H' : CH) : Prop :=
  ∃ P, (∀ x c', look x loc' = some c' → ∃ c, look x loc = some c ∧ Frz H P c' c) ∧ FrzH H P H'
noncomputable def WeakR (c : CV) (H : CH) (c' : CV) (H' : CH) : Prop := ∃ P, Frz H P c' c ∧ FrzH H P H'

/-! data -/
mutual
noncomputable def cdat : CV → PyData
  | .bool b => .bool b
  | .int i => .int i
  | .str x => .str x
  | .tup vs => .tuple (cdats vs)
  | .lst vs => .list (cdats vs)
  | _ => .none
noncomputable def cdats : List CV → List PyData
  | [] => []
  | c :: r => cdat c :: cdats r
end
mutual
noncomputable def okd : CV → Nat → Prop
  | .none, _ => True
  | .bool _, _ => True
  | .int _, _ => True
  | .str x, _ => PyData.strOk x = true
  | .tup vs, n => 0 < n ∧ okds vs (n - 1)
  | .lst vs, n => 0 < n ∧ okds vs (n - 1)
  | _, _ => False
noncomputable def okds : List CV → Nat → Prop
  | [], _ => True
  | c :: r, n => okd c n ∧ okds r n
end
/-- a value's datum; a mutable list is read one level deep -/
noncomputable def hdat (H : CH) : CV → PyData
  | .ref a => match H a with | some (.list vs) => .list (cdats vs) | _ => .none
  | c => cdat c
theorem hdat_ref {H : CH} {a : Addr} {vs : List CV} (e : H a = some (.list vs)) : hdat H (.ref a) = .list (cdats vs) := by unfold hdat; dsimp only; rw [e]
noncomputable def okh (H : CH) : CV → Prop
  | .ref a => ∃ vs, H a = some (.list vs) ∧ okds vs 60
  | c => okd c 61
noncomputable def wpEq (a b : CV) (H : CH) (Q : Bool → Prop) : Prop := okh H a ∧ okh H b ∧ Q (PyData.eqv (hdat H a) (hdat H b))

/-! operations -/
noncomputable def cap : Nat := 2 ^ 24
noncomputable def allocL (vs : List CV) (H : CH) (Q : CV → CH → Prop) : Prop :=
  vs.length ≤ cap ∧ (Q (.lst vs) H ∨ ∀ a, H a = Option.none → Q (.ref a) (H.set a (.list vs)))
noncomputable def wpTruth : CV → (Bool → Prop) → Prop
  | .bool b, Q => Q b
  | _, _ => False
/-- the items of a list value -/
noncomputable def itemsOf (H : CH) : CV → Option (List CV)
  | .lst vs => some vs
  | .ref a => match H a with | some (.list vs) => some vs | _ => Option.none
  | _ => Option.none
theorem itemsOf_ref {H : CH} {l : Addr} {vs : List CV} (e : itemsOf H (.ref l) = some vs) : H l = some (.list vs) := by
  unfold itemsOf at e
  dsimp only at e
  cases h : H l with
  | none => rw [h] at e; exact nn e
  | some o => cases o with
    | list us => rw [h] at e; obtain rfl := Option.some.inj e; rfl
    | _ => rw [h] at e; exact nn e
theorem itr {H : CH} {a : Addr} {vs : List CV} (e : H a = some (.list vs)) : itemsOf H (.ref a) = some vs := by unfold itemsOf; dsimp only; rw [e]
noncomputable def pyIdx (vs : List CV) (k : Int) : Option CV := if 0 ≤ k then vs[k.toNat]? else if -(vs.length : Int) ≤ k then vs[(k + vs.length).toNat]? else Option.none
noncomputable def wpBin (op : Operator) (a b : CV) (H : CH) (Q : CV → CH → Prop) : Prop := match op with
  | .Add => (∃ i j, a = .int i ∧ b = .int j ∧ Q (.int (i + j)) H) ∨ (∃ vs ws, a = .tup vs ∧ b = .tup ws ∧ vs ≠ [] ∧ ws ≠ [] ∧ vs.length + ws.length ≤ cap ∧ Q (.tup (vs ++ ws)) H) ∨
      (∃ vs ws, itemsOf H a = some vs ∧ itemsOf H b = some ws ∧ allocL (vs ++ ws) H Q)
  | .Sub => ∃ i j, a = .int i ∧ b = .int j ∧ Q (.int (i - j)) H
  | .Mult => (∃ i j, a = .int i ∧ b = .int j ∧ (-1000000 < j ∧ j < 1000000) ∧ Q (.int (i * j)) H) ∨ (∃ vs j, b = .int j ∧ itemsOf H a = some vs ∧ (-1000000 < j ∧ j < 1000000) ∧ vs.length ≤ 10 ∧ allocL (List.replicate j.toNat vs).flatten H Q)
  | .FloorDiv => ∃ i j, a = .int i ∧ b = .int j ∧ (0 < j ∧ j < 1000000) ∧ Q (.int (i / j)) H
  | .Mod => ∃ i j, a = .int i ∧ b = .int j ∧ 0 < j ∧ Q (.int (i % j)) H
  | _ => False
noncomputable def wpIdx (ov iv : CV) (H : CH) (Q : CV → Prop) : Prop := (∃ vs k c, ov = .tup vs ∧ iv = .int k ∧ pyIdx vs k = some c ∧ Q c) ∨
  (∃ d x es c, ov = .dct d ∧ iv = .str x ∧ H d = some (.map es) ∧ look x es = some c ∧ Q c) ∨ (∃ vs k c, iv = .int k ∧ itemsOf H ov = some vs ∧ pyIdx vs k = some c ∧ Q c)
noncomputable def cclip (n : Nat) (i : Int) : Nat := (max 0 (min (if i < 0 then i + n else i) n)).toNat
theorem clip_nat {j n : Nat} (h : j ≤ n) : cclip n (j : Int) = j := by
  unfold cclip
  rw [if_neg (Int.not_lt.mpr (Int.natCast_nonneg j)), Int.min_eq_left (Int.ofNat_le.mpr h), Int.max_eq_right (Int.natCast_nonneg j), Int.toNat_natCast]
theorem clip_big {j n : Nat} (h : n ≤ j) : cclip n (j : Int) = n := by
  unfold cclip
  rw [if_neg (Int.not_lt.mpr (Int.natCast_nonneg j)), Int.min_eq_right (Int.ofNat_le.mpr h), Int.max_eq_right (Int.natCast_nonneg n), Int.toNat_natCast]
theorem min_sub1 {a b : Nat} (h : 1 ≤ b) : min (a : Int) ((b : Int) - 1) = ((min a (b - 1) : Nat) : Int) := by
  obtain ⟨k, rfl⟩ := Nat.exists_eq_add_of_le' h
  rw [Nat.add_sub_cancel, Int.natCast_add, show ((1 : Nat) : Int) = 1 from rfl, Int.add_sub_cancel]
  by_cases hk : a ≤ k
  · rw [Nat.min_eq_left hk, Int.min_eq_left (Int.ofNat_le.mpr hk)]
  · rw [Nat.min_eq_right (Nat.le_of_not_le hk), Int.min_eq_right (Int.ofNat_le.mpr (Nat.le_of_not_le hk))]
theorem min_cast {a b : Nat} : min (a : Int) (b : Int) = ((min a b : Nat) : Int) := by
  by_cases hk : a ≤ b
  · rw [Nat.min_eq_left hk, Int.min_eq_left (Int.ofNat_le.mpr hk)]
  · rw [Nat.min_eq_right (Nat.le_of_not_le hk), Int.min_eq_right (Int.ofNat_le.mpr (Nat.le_of_not_le hk))]
noncomputable def cslice (vs : List CV) (lo hi : Option Int) : List CV :=
  (vs.drop (lo.elim 0 (cclip vs.length))).take (hi.elim vs.length (cclip vs.length) - lo.elim 0 (cclip vs.length))
noncomputable def wpSlice (ov : CV) (lo hi : Option Int) (H : CH) (Q : CV → CH → Prop) : Prop := ∃ vs, itemsOf H ov = some vs ∧ allocL (cslice vs lo hi) H Q
noncomputable abbrev attrOk (C n : Str) : Prop :=
  (C = "Line" ∧ (n = "cells" ∨ n = "is_wrapped" ∨ n = "size")) ∨ (C = "LogicalLine" ∧ (n = "first" ∨ n = "size" ∨ n = "begins" ∨ n = "cells" ∨ n = "is_whole")) ∨
    (C = "Cutting" ∧ (n = "columns" ∨ n = "lines" ∨ n = "first" ∨ n = "row" ∨ n = "column" ∨ n = "is_waiting"))
noncomputable def wpAttr (ov : CV) (n : Str) (H : CH) (Q : CV → Prop) : Prop := match ov with
  | .obj C d => attrOk C n ∧ ∃ es c, H d = some (.dict es) ∧ look n es = some c ∧ Q c
  | .ins C ks vs => attrOk C n ∧ ∃ c, look n (ks.zip vs) = some c ∧ Q c
  | _ => False
noncomputable def wpSetAttr (ov : CV) (n : Str) (v : CV) (H : CH) (Q : CH → Prop) : Prop := match ov with
  | .obj C d => attrOk C n ∧ ∃ es, H d = some (.dict es) ∧ (put n v es).length ≤ 100 ∧ Q (H.set d (.dict (put n v es)))
  | _ => False
noncomputable def wpSetIdx (ov iv v : CV) (H : CH) (Q : CH → Prop) : Prop :=
  (∃ a k vs, ov = .ref a ∧ iv = .int k ∧ H a = some (.list vs) ∧ ((0 ≤ k ∧ k < vs.length ∧ Q (H.set a (.list (vs.set k.toNat v)))) ∨ (k < 0 ∧ -(vs.length : Int) ≤ k ∧ Q (H.set a (.list (vs.set (k + vs.length).toNat v)))))) ∨
  (∃ d x es c, ov = .dct d ∧ iv = .str x ∧ H d = some (.map es) ∧ look x es = some c ∧ Q (H.set d (.map (put x v es))))
noncomputable def wpCmp (op : CmpOp) (a b : CV) (H : CH) (Q : Bool → Prop) : Prop := match op with
  | .Eq => wpEq a b H Q
  | .NotEq => wpEq a b H fun r => Q (!r)
  | .Lt => ∃ i j, a = .int i ∧ b = .int j ∧ Q (decide (i < j))
  | .LtE => ∃ i j, a = .int i ∧ b = .int j ∧ Q (decide (i ≤ j))
  | .Gt => ∃ i j, a = .int i ∧ b = .int j ∧ Q (decide (i > j))
  | .GtE => ∃ i j, a = .int i ∧ b = .int j ∧ Q (decide (i ≥ j))
  | _ => False
noncomputable def cConst : Const → Option CV
  | .none => some .none
  | .bool b => some (.bool b)
  | .int i => some (.int i)
  | .str x => some (.str x)
  | _ => Option.none
noncomputable def plainPen : CV := .tup [.int 0, .int (-1), .int (-1), .int (-1), .int 0]
noncomputable def gcL : List (Str × CV) := [("PLAIN", plainPen), ("NO_COLOUR", (.int (-1))), ("BACK", (.int 2)), ("SINGLE", (.str "single")), ("LINE_SIZES", (.tup [.str "single", .str "wide", .str "top", .str "bottom"])), ("_law_pen", (.tup [.int 1, .int 3, .int 4, .int (-1), .int 0]))]
noncomputable def gconst (x : Str) : Option CV := look x gcL
theorem look_mem {α : Type} {x : Str} {c : α} : ∀ {l : List (Str × α)}, look x l = some c → (x, c) ∈ l
  | [], e => nn e
  | (k, v) :: r, e => by
    by_cases h : k = x
    · rw [← Option.some.inj ((if_pos h).symm.trans e), h]; exact .head _
    · exact .tail _ (look_mem ((if_neg h).symm.trans e))
noncomputable def wpName (loc : Loc) (x : Str) (Q : CV → Prop) : Prop := match look x loc with
  | some c => Q c
  | Option.none => ∃ c, gconst x = some c ∧ Q c

/-- calls of the program's own defs: class (empty: none), name -/
noncomputable abbrev Cl := Str → Str → List CV → CH → (CV → CH → Prop) → Prop
noncomputable abbrev isClass (f : Str) : Prop := f = "Line" ∨ f = "LogicalLine" ∨ f = "Cutting"
noncomputable def isUser (f : Str) : Bool := f != ("len" : Str) && f != ("min" : Str) && f != ("max" : Str) && f != ("list" : Str) && f != ("int" : Str) && !decide (isClass f)
noncomputable def wpMinMax (mn : Bool) (vs : List CV) (H : CH) (Q : CV → CH → Prop) : Prop := (∃ i j, vs = [.int i, .int j] ∧ Q (.int (if mn then min i j else max i j)) H) ∨
  (mn = true ∧ ∃ a ws i is, vs = [a] ∧ itemsOf H a = some ws ∧ ws = (i :: is).map CV.int ∧ Q (.int (is.foldl min i)) H)
noncomputable def wpFun (cl : Cl) (f : Str) (vs : List CV) (H : CH) (Q : CV → CH → Prop) : Prop :=
  (f = "len" ∧ ∃ a ws, vs = [a] ∧ itemsOf H a = some ws ∧ Q (.int ws.length) H) ∨ (f = "min" ∧ wpMinMax true vs H Q) ∨ (f = "max" ∧ wpMinMax false vs H Q) ∨
  (f = "list" ∧ ∃ a ws, vs = [a] ∧ itemsOf H a = some ws ∧ allocL ws H Q) ∨ (f = "int" ∧ ((∃ i, vs = [.int i] ∧ Q (.int i) H) ∨ ∃ b, vs = [.bool b] ∧ Q (.int (if b then 1 else 0)) H)) ∨
  (isClass f ∧ ∀ d, H d = Option.none → cl f "__init__" (.obj f d :: vs) (H.set d (.dict [])) fun c H' => c = .none ∧ Q (.obj f d) H') ∨ (isUser f = true ∧ cl "" f vs H Q)
noncomputable abbrev hasMeth (C m : Str) : Prop :=
  (C = "LogicalLine" ∧ (m = "put" ∨ m = "kept_to")) ∨ (C = "Cutting" ∧ (m = "put" ∨ m = "go_behind" ∨ m = "give_up" ∨ m = "top"))
noncomputable def methOk (ov : CV) (m : Str) (H : CH) : Prop := match ov with
  | .ref a => (m = "append" ∨ m = "extend" ∨ m = "pop") ∧ ∃ vs, H a = some (.list vs)
  | .obj C d => hasMeth C m ∧ ∃ es, H d = some (.dict es) ∧ look m es = Option.none
  | _ => False
noncomputable def wpMeth (cl : Cl) (ov : CV) (m : Str) (args : List CV) (H : CH) (Q : CV → CH → Prop) : Prop := match ov with
  | .ref a => (m = "append" ∧ ∃ v vs, args = [v] ∧ H a = some (.list vs) ∧ vs.length < cap ∧ Q .none (H.set a (.list (vs ++ [v])))) ∨
    (m = "extend" ∧ ∃ v vs ws, args = [v] ∧ v ≠ .ref a ∧ H a = some (.list vs) ∧ itemsOf H v = some ws ∧ vs.length + ws.length ≤ cap ∧ Q .none (H.set a (.list (vs ++ ws)))) ∨
    (m = "pop" ∧ args = [] ∧ ∃ vs v, H a = some (.list (vs ++ [v])) ∧ Q v (H.set a (.list vs)))
  | .obj C d => cl C m (.obj C d :: args) H Q
  | _ => False

noncomputable def rangeItems (n : Int) : List CV := (List.range n.toNat).map fun i => .int (i : Nat)
noncomputable def enumItems (vs : List CV) : List CV := vs.zipIdx.map fun p => .tup [.int (p.2 : Nat), p.1]
/-- a loop's source: its items, and the mutable list that must stay -/
noncomputable def wpIter (v : CV) (H : CH) (K : List CV → Option (Addr × List CV) → Prop) : Prop := match v with
  | .lst vs => K vs Option.none
  | .ref a => ∃ vs, H a = some (.list vs) ∧ K vs (some (a, vs))
  | _ => False
noncomputable def guardOk (g : Option (Addr × List CV)) (H : CH) : Prop := match g with
  | some (a, vs) => H a = some (.list vs)
  | Option.none => True
noncomputable def forItems (g : Option (Addr × List CV)) (step : CV → Loc → CH → (Loc → CH → Prop) → Prop) : List CV → Loc → CH → (Loc → CH → Prop) → Prop
  | [], loc, H, Q => guardOk g H ∧ Q loc H
  | v :: vs, loc, H, Q => guardOk g H ∧ step v loc H fun loc H => ∃ loc' H', Weak loc H loc' H' ∧ forItems g step vs loc' H' Q
noncomputable def compItems (g : Option (Addr × List CV)) (step : CV → List CV → CH → (List CV → CH → Prop) → Prop) : List CV → List CV → CH → (List CV → CH → Prop) → Prop
  | [], acc, H, Q => guardOk g H ∧ Q acc H
  | v :: vs, acc, H, Q => guardOk g H ∧ step v acc H fun acc H => compItems g step vs acc H Q
noncomputable def freeLoc (sc : Scope) (loc : Loc) : Loc := sc.names.filterMap fun p => if p.2 = .free then (look p.1 loc).map (p.1, ·) else Option.none

/-- the targets of a comprehension: a name, or names in a tuple -/
noncomputable def bindNames : List Expr → List CV → Loc → (Loc → Prop) → Prop
  | [], [], loc, K => K loc
  | .Name x _ :: ts, v :: vs, loc, K => look x loc = Option.none ∧ bindNames ts vs (put x v loc) K
  | _, _, _, _ => False
noncomputable def wpBind : Expr → CV → Loc → (Loc → Prop) → Prop
  | .Name x _, v, loc, K => look x loc = Option.none ∧ K (put x v loc)
  | .Tuple ts _ _, .tup vs, loc, K => bindNames ts vs loc K
  | _, _, _, _ => False
noncomputable def dictKeys : List (Option Expr) → Option (List Str)
  | [] => some []
  | some (.Constant (.str x) _ _) :: r => (dictKeys r).map (x :: ·)
  | _ => Option.none
noncomputable abbrev Emit := Loc → List CV → CH → (List CV → CH → Prop) → Prop
mutual
noncomputable def wpE (cl : Cl) : Expr → Loc → CH → (CV → CH → Prop) → Prop
  | .Constant c _ _, _, H, Q => ∃ v, cConst c = some v ∧ Q v H
  | .Name x _, loc, H, Q => wpName loc x fun v => Q v H
  | .BinOp l op r _, loc, H, Q => wpE cl l loc H fun a H => wpE cl r loc H fun b H => wpBin op a b H Q
  | .UnaryOp op x _, loc, H, Q => wpE cl x loc H fun v H => (match op with
      | .USub => ∃ i, v = .int i ∧ Q (.int (-i)) H
      | .Not => wpTruth v fun b => Q (.bool !b) H
      | _ => False)
  | .BoolOp op es _, loc, H, Q => wpBools cl op es loc H Q
  | .IfExp t b o _, loc, H, Q => wpT cl t loc H fun c H => (c = true → wpE cl b loc H Q) ∧ (c = false → wpE cl o loc H Q)
  | .Dict ks vs _, loc, H, Q => wpEs cl vs loc H fun ws H => ∃ xs, dictKeys ks = some xs ∧ ∀ d, H d = Option.none → Q (.dct d) (H.set d (.map (xs.zip ws)))
  | .List es _, loc, H, Q => wpEs cl es loc H fun vs H => allocL vs H Q
  | .Tuple es _ _, loc, H, Q => wpEs cl es loc H fun vs H => Q (.tup vs) H
  | .ListComp elt gens sc _, loc, H, Q => wpComp cl (fun inl acc H K => wpE cl elt inl H fun v H => acc.length < cap ∧ K (acc ++ [v]) H) (freeLoc sc loc) gens loc H fun vs H => allocL vs H Q
  | .Compare l [op] [r] _, loc, H, Q => wpE cl l loc H fun a H => wpE cl r loc H fun b H => wpCmp op a b H fun t => Q (.bool t) H
  | .Compare l [op1, op2] [m, r] _, loc, H, Q => wpE cl l loc H fun a H => wpE cl m loc H fun b H => wpCmp op1 a b H fun t =>
      (t = false → Q (.bool false) H) ∧ (t = true → wpE cl r loc H fun c H => wpCmp op2 b c H fun t => Q (.bool t) H)
  | .Call (.Name f _) args [] _, loc, H, Q => wpEs cl args loc H fun vs H => wpFun cl f vs H Q
  | .Call (.Attribute o m _) args [] _, loc, H, Q => wpE cl o loc H fun ov H => methOk ov m H ∧ wpEs cl args loc H fun vs H => wpMeth cl ov m vs H Q
  | .Attribute o n _, loc, H, Q => wpE cl o loc H fun ov H => wpAttr ov n H fun v => Q v H
  | .Subscript v (.Slice lo hi Option.none _) _, loc, H, Q => wpE cl v loc H fun ov H => wpOpt cl lo loc H fun l H => wpOpt cl hi loc H fun h H => wpSlice ov l h H Q
  | .Subscript v i _, loc, H, Q => wpE cl v loc H fun ov H => wpE cl i loc H fun iv H => wpIdx ov iv H fun c => Q c H
  | _, _, _, _ => False
noncomputable def wpOpt (cl : Cl) : Option Expr → Loc → CH → (Option Int → CH → Prop) → Prop
  | Option.none, _, H, Q => Q Option.none H
  | some e, loc, H, Q => wpE cl e loc H fun v H => ∃ i, v = .int i ∧ Q (some i) H
noncomputable def wpEs (cl : Cl) : List Expr → Loc → CH → (List CV → CH → Prop) → Prop
  | [], _, H, Q => Q [] H
  | e :: r, loc, H, Q => wpE cl e loc H fun v H => wpEs cl r loc H fun vs H => Q (v :: vs) H
noncomputable def wpBools (cl : Cl) (op : BoolOp) : List Expr → Loc → CH → (CV → CH → Prop) → Prop
  | [], _, _, _ => False
  | [e], loc, H, Q => wpE cl e loc H Q
  | e :: e2 :: r, loc, H, Q => wpE cl e loc H fun v H => wpTruth v fun b => ((b == (op == .Or)) = true → Q v H) ∧ ((b == (op == .Or)) = false → wpBools cl op (e2 :: r) loc H Q)
noncomputable def wpT (cl : Cl) : Expr → Loc → CH → (Bool → CH → Prop) → Prop
  | .UnaryOp .Not x _, loc, H, Q => wpT cl x loc H fun b H => Q (!b) H
  | .BoolOp op es _, loc, H, Q => wpTs cl op es loc H Q
  | .Compare l [op] [r] _, loc, H, Q => wpE cl l loc H fun a H => wpE cl r loc H fun b H => wpCmp op a b H fun t => Q t H
  | .Compare l [op1, op2] [m, r] _, loc, H, Q => wpE cl l loc H fun a H => wpE cl m loc H fun b H => wpCmp op1 a b H fun t =>
      (t = false → Q false H) ∧ (t = true → wpE cl r loc H fun c H => wpCmp op2 b c H fun t => Q t H)
  | .Name x _, loc, H, Q => wpName loc x fun v => wpTruth v fun b => Q b H
  | .Attribute o n _, loc, H, Q => wpE cl o loc H fun ov H => wpAttr ov n H fun v => wpTruth v fun b => Q b H
  | .Call (.Name f _) args [] _, loc, H, Q => wpEs cl args loc H fun vs H => wpFun cl f vs H fun v H => wpTruth v fun b => Q b H
  | .Subscript v i _, loc, H, Q => wpE cl v loc H fun ov H => wpE cl i loc H fun iv H => wpIdx ov iv H fun c => wpTruth c fun b => Q b H
  | _, _, _, _ => False
noncomputable def wpTs (cl : Cl) (op : BoolOp) : List Expr → Loc → CH → (Bool → CH → Prop) → Prop
  | [], _, H, Q => Q (op == .And) H
  | e :: r, loc, H, Q => wpT cl e loc H fun b H => ((b == (op == .Or)) = true → Q b H) ∧ ((b == (op == .Or)) = false → wpTs cl op r loc H Q)
noncomputable def wpSrc (cl : Cl) : Expr → Loc → CH → (List CV → Option (Addr × List CV) → CH → Prop) → Prop
  | .Call (.Name f _) [e] [] _, loc, H, K => wpE cl e loc H fun v H =>
      if f = "range" then ∃ n, v = .int n ∧ (-1000000 < n ∧ n < 1000000) ∧ K (rangeItems n) Option.none H
      else if f = "enumerate" then wpIter v H fun vs g => K (enumItems vs) g H
      else wpFun cl f [v] H fun r H => wpIter r H fun vs g => K vs g H
  | .Call (.Name f _) args [] _, loc, H, K => wpEs cl args loc H fun vs H => wpFun cl f vs H fun r H => wpIter r H fun vs g => K vs g H
  | .Name x _, loc, H, K => wpName loc x fun v => wpIter v H fun vs g => K vs g H
  | .Attribute o n _, loc, H, K => wpE cl o loc H fun ov H => wpAttr ov n H fun v => wpIter v H fun vs g => K vs g H
  | .Subscript v (.Slice lo hi Option.none _) _, loc, H, K => wpE cl v loc H fun ov H => wpOpt cl lo loc H fun l H => wpOpt cl hi loc H fun h H => wpSlice ov l h H fun r H => wpIter r H fun vs g => K vs g H
  | _, _, _, _ => False
/-- the first source is reckoned outside (in loc), the rest inside (in inl) -/
noncomputable def wpComp (cl : Cl) (emit : Emit) (inl : Loc) : List Comprehension → Loc → CH → (List CV → CH → Prop) → Prop
  | ⟨t, it, ifs, 0⟩ :: gs, loc, H, Q => wpSrc cl it loc H fun vs g H => compItems g (fun v acc H K => wpBind t v inl fun inl' =>
      wpTs cl .And ifs inl' H fun b H => (b = false → K acc H) ∧ (b = true → wpGens cl emit gs inl' acc H K)) vs [] H Q
  | _, _, _, _ => False
noncomputable def wpGens (cl : Cl) (emit : Emit) : List Comprehension → Loc → List CV → CH → (List CV → CH → Prop) → Prop
  | [], loc, acc, H, K => emit loc acc H K
  | ⟨t, it, ifs, 0⟩ :: gs, loc, acc, H, K => wpSrc cl it loc H fun vs g H => compItems g (fun v acc H K => wpBind t v loc fun loc' =>
      wpTs cl .And ifs loc' H fun b H => (b = false → K acc H) ∧ (b = true → wpGens cl emit gs loc' acc H K)) vs acc H K
  | _, _, _, _, _ => False
end
mutual
noncomputable def wpA (cl : Cl) : Expr → CV → Loc → CH → (Loc → CH → Prop) → Prop
  | .Name x _, v, loc, H, K => K (put x v loc) H
  | .Attribute o n _, v, loc, H, K => wpE cl o loc H fun ov H => wpSetAttr ov n v H fun H => K loc H
  | .Subscript o i _, v, loc, H, K => wpE cl o loc H fun ov H => wpE cl i loc H fun iv H => wpSetIdx ov iv v H fun H => K loc H
  | .Tuple ts _ _, v, loc, H, K => ∃ vs, v = .tup vs ∧ vs.length = ts.length ∧ wpAs cl ts vs loc H K
  | _, _, _, _, _ => False
noncomputable def wpAs (cl : Cl) : List Expr → List CV → Loc → CH → (Loc → CH → Prop) → Prop
  | [], [], loc, H, K => K loc H
  | t :: ts, v :: vs, loc, H, K => wpA cl t v loc H fun loc H => wpAs cl ts vs loc H K
  | _, _, _, _, _ => False
end
noncomputable abbrev SPost := CFlow → Loc → CH → Prop
mutual
noncomputable def wpS (cl : Cl) : Stmt → Loc → CH → SPost → Prop
  | .Expr e _, loc, H, Q => wpE cl e loc H fun _ H => Q .next loc H
  | .Return (some e) _, loc, H, Q => wpE cl e loc H fun v H => Q (.ret v) loc H
  | .Return Option.none _, loc, H, Q => Q (.ret .none) loc H
  | .Assign [t] v _, loc, H, Q => wpE cl v loc H fun c H => wpA cl t c loc H fun loc H => Q .next loc H
  | .If t b o _, loc, H, Q => wpT cl t loc H fun c H => (c = true → wpSs cl b loc H Q) ∧ (c = false → wpSs cl o loc H Q)
  | .While t b [] _, loc, H, Q => ∃ I : Nat → Loc → CH → Prop, (∃ n loc' H', Weak loc H loc' H' ∧ I n loc' H') ∧ ∀ n loc H, I n loc H →
      wpT cl t loc H fun c H => (c = true → wpSs cl b loc H fun fl loc H => match fl with
        | .next => ∃ m, m < n ∧ ∃ loc' H', Weak loc H loc' H' ∧ I m loc' H'
        | .ret v => Q (.ret v) loc H) ∧ (c = false → Q .next loc H)
  | .For t it b [] _, loc, H, Q => wpSrc cl it loc H fun vs g H => forItems g (fun v loc H K => wpA cl t v loc H fun loc H => wpSs cl b loc H fun fl loc H => match fl with
        | .next => K loc H
        | .ret c => Q (.ret c) loc H) vs loc H fun loc H => Q .next loc H
  | _, _, _, _ => False
noncomputable def wpSs (cl : Cl) : List Stmt → Loc → CH → SPost → Prop
  | [], loc, H, Q => Q .next loc H
  | s :: r, loc, H, Q => wpS cl s loc H fun fl loc H => match fl with
      | .next => wpSs cl r loc H Q
      | .ret v => Q (.ret v) loc H
end

structure FD where
  params : List Str
  body : List Stmt
  dfl : List CV
noncomputable def CFlow.val : CFlow → CV
  | .next => .none
  | .ret v => v
noncomputable def bindP (fd : FD) (args : List CV) : Option Loc :=
  if args.length ≤ fd.params.length ∧ fd.params.length ≤ args.length + fd.dfl.length then some (fd.params.zip (args ++ fd.dfl.drop (fd.dfl.length + args.length - fd.params.length))) else Option.none
noncomputable def callN (T : Str → Str → Option FD) : Nat → Cl
  | 0 => fun _ _ _ _ _ => False
  | n + 1 => fun C f args H Q => ∃ fd loc, T C f = some fd ∧ bindP fd args = some loc ∧ wpSs (callN T n) fd.body loc H fun fl _ H' => ∃ v' H'', WeakR fl.val H' v' H'' ∧ Q v' H''
/-! what the text must look like -/
noncomputable abbrev Names := List (Str × NameKind)
noncomputable def noStar (e : Expr) : Bool := match e with | .Starred .. => false | _ => true
noncomputable def notSet (e : Expr) : Bool := match e with | .Set .. => false | _ => true
noncomputable def notSlice (e : Expr) : Bool := match e with | .Slice .. => false | _ => true
noncomputable def isName (e : Expr) : Bool := match e with | .Name .. => true | _ => false
noncomputable def baseOk (e : Expr) : Bool := match e with | .Name .. | .Attribute .. | .Subscript .. => true | _ => false
noncomputable def nameOk (N : Names) (x : Str) : Bool := x != ("__debug__" : Str) && x != ("__classdict__" : Str) && ((gconst x).isNone || N.lookup x == some NameKind.globalImplicit)
noncomputable def fnOk (kf : Str → Bool) (N : Names) (f : Str) : Bool := f != ("__debug__" : Str) && f != ("__name__" : Str) && N.lookup f == some NameKind.globalImplicit && kf f
noncomputable def notRg (f : Str) : Bool := f != ("range" : Str) && f != ("enumerate" : Str)
noncomputable def arityOk (m : Str) (k : Nat) : Bool := if m = "append" ∨ m = "extend" then k == 1 else if m = "pop" then k == 0 else true
noncomputable def keysOk (ks : List (Option Expr)) : Bool := match dictKeys ks with | some xs => decide xs.Nodup && decide (xs.length ≤ 10) && !xs.isEmpty | Option.none => false
noncomputable def compNames (N : Names) (sc : Scope) : Bool := sc.kind == .function && sc.names.all (fun p => (p.2 != .local || sc.names.lookup p.1 == some .local) && (p.2 != .free || ((N.lookup p.1 == some .cell || N.lookup p.1 == some .free) && sc.names.lookup p.1 == some .free)) && (p.2 != .cell || sc.names.lookup p.1 == some .cell)) && decide (sc.names.map (·.1)).Nodup
noncomputable def asgIn (N : Names) (x : Str) : Bool := N.lookup x == some .local || N.lookup x == some .cell
noncomputable def nmIn (N : Names) : Expr → Bool
  | .Name x _ => asgIn N x
  | _ => false
noncomputable def targetOk (N : Names) (e : Expr) : Bool := match e with
  | .Name x _ => asgIn N x
  | .Tuple ts _ _ => ts.all (nmIn N)
  | _ => false
noncomputable def isEn (e : Expr) : Bool := match e with | .Call (.Name f _) _ _ _ => f == ("enumerate" : Str) | _ => false
noncomputable def isTup (e : Expr) : Bool := match e with | .Tuple .. => true | _ => false
noncomputable def srcT (it t : Expr) : Bool := !isEn it || isTup t
section
variable (kf : Str → Bool)
mutual
noncomputable def okE : Expr → Names → Bool
  | .Constant .., _ => true
  | .Name x _, N => nameOk N x
  | .BinOp l _ r _, N => okE l N && okE r N
  | .UnaryOp _ x _, N => okE x N
  | .BoolOp _ es _, N => okEs es N
  | .IfExp t b o _, N => okT t N && okE b N && okE o N
  | .Dict ks vs _, N => keysOk ks && ks.length == vs.length && okEs vs N
  | .List es _, N => okEs es N && es.all noStar
  | .Tuple es _ _, N => okEs es N && es.all noStar && decide (es.length ≤ 100)
  | .ListComp elt gens sc _, N => compNames N sc && okComp gens N sc.names && okE elt sc.names
  | .Compare l _ rs _, N => okE l N && okEs rs N && rs.all notSet
  | .Call (.Name f _) args [] _, N => fnOk kf N f && notRg f && okEs args N && args.all noStar && !args.isEmpty
  | .Call (.Attribute o m apos) args [] pos, N => okE o N && baseOk o && apos.endLine == pos.line && args.all noStar && decide (args.length < 29) && okEs args N && arityOk m args.length
  | .Attribute o _ _, N => okE o N && baseOk o
  | .Subscript v (.Slice lo hi Option.none _) _, N => isName v && okE v N && okOpt lo N && okOpt hi N
  | .Subscript v i _, N => okE v N && okE i N && notSlice i
  | _, _ => false
noncomputable def okOpt : Option Expr → Names → Bool
  | Option.none, _ => true
  | some e, N => okE e N
noncomputable def okEs : List Expr → Names → Bool
  | [], _ => true
  | e :: r, N => okE e N && okEs r N
noncomputable def okT : Expr → Names → Bool
  | .UnaryOp .Not x _, N => okT x N
  | .BoolOp _ es _, N => okTs es N
  | .Compare l _ rs _, N => okE l N && okEs rs N && rs.all notSet
  | .Name x _, N => nameOk N x
  | .Attribute o _ _, N => okE o N && baseOk o
  | .Call (.Name f _) args [] _, N => fnOk kf N f && notRg f && okEs args N && args.all noStar && !args.isEmpty
  | .Subscript v i _, N => okE v N && okE i N && notSlice i
  | _, _ => false
noncomputable def okTs : List Expr → Names → Bool
  | [], _ => true
  | e :: r, N => okT e N && okTs r N
noncomputable def okSrc : Expr → Names → Bool
  | .Call (.Name f _) [e] [] _, N => fnOk kf N f && okE e N && noStar e
  | .Call (.Name f _) args [] _, N => fnOk kf N f && notRg f && okEs args N && args.all noStar && !args.isEmpty
  | .Name x _, N => nameOk N x
  | .Attribute o _ _, N => okE o N && baseOk o
  | .Subscript v (.Slice lo hi Option.none _) _, N => isName v && okE v N && okOpt lo N && okOpt hi N
  | _, _ => false
/-- the first source outside, the others inside -/
noncomputable def okComp : List Comprehension → Names → Names → Bool
  | ⟨t, it, ifs, _⟩ :: gs, N, M => srcT it t && okSrc it N && targetOk M t && okTs ifs M && okGens gs M
  | [], _, _ => false
noncomputable def okGens : List Comprehension → Names → Bool
  | [], _ => true
  | ⟨t, it, ifs, _⟩ :: gs, M => srcT it t && okSrc it M && targetOk M t && okTs ifs M && okGens gs M
end
noncomputable def plA (N : Names) : Expr → Bool
  | .Name x _ => asgIn N x
  | .Attribute o _ _ => okE kf o N
  | _ => false
noncomputable def okA : Expr → Names → Bool
  | .Name x _, N => asgIn N x
  | .Attribute o _ _, N => okE kf o N
  | .Subscript o i _, N => okE kf o N && okE kf i N && notSlice i
  | .Tuple ts _ _, N => ts.all (plA kf N)
  | _, _ => false
noncomputable def notComp (e : Expr) : Bool := match e with | .ListComp .. | .SetComp .. | .DictComp .. => false | _ => true
/-- the value of an assignment is used at once -/
noncomputable def compUsed (N : Names) (t v : Expr) : Bool := match t, v with
  | .Name y py, .ListComp _ _ sc p => N.lookup y == some .local && py.line == p.line && !(sc.names.any fun (n, k) => n == y && (k == .local || k == .cell))
  | _, _ => false
noncomputable def compPlain (N : Names) (t v : Expr) : Bool := match t, v with
  | .Name y _, .ListComp .. => N.lookup y == some .cell
  | .Name .., _ => notComp v
  | _, _ => true
noncomputable def nameLine (line : Nat) (N : Names) (t : Expr) : Bool := match t with | .Name x p => N.lookup x == some .local && p.line == line | _ => false
noncomputable def tNames : List Expr → List Str
  | [] => []
  | .Name x _ :: r => x :: tNames r
  | _ :: r => tNames r
noncomputable def swapSome (N : Names) (t v : Expr) : Bool := match t, v with
  | .Tuple ts _ _, .Tuple vs _ _ => (ts.length == 2 || ts.length == 3) && vs.length == ts.length && vs.all noStar && ts.all (nameLine ((ts.head?.map (·.pos.line)).getD 0) N) && decide (tNames ts).Nodup && (tNames ts).eraseDups.length == (tNames ts).length && !vs.all (foldedForSure 8) && !vs.all (constantsAlone 8)
  | _, _ => false
noncomputable def swapNone (t v : Expr) : Bool := match t, v with
  | .Tuple ts _ _, .Tuple _ _ _ => !(ts.length == 2 || ts.length == 3) || ts.any (fun t => !isName t)
  | .List .., _ => false
  | _, _ => true
mutual
noncomputable def okS : Stmt → Names → Bool
  | .Expr e _, N => okE kf e N && notComp e
  | .Return (some e) _, N => okE kf e N
  | .Return Option.none _, _ => true
  | .Assign [t] v _, N => okE kf v N && okA kf t N && (compUsed N t v || compPlain N t v) && (swapSome N t v || swapNone t v)
  | .If t b o _, N => okT kf t N && okSs b N && okSs o N
  | .While t b [] _, N => okT kf t N && okSs b N
  | .For t it b [] _, N => okSrc kf it N && targetOk N t && srcT it t && okSs b N
  | _, _ => false
noncomputable def okSs : List Stmt → Names → Bool
  | [], _ => true
  | s :: r, N => okS s N && okSs r N
end
end
end
end Mine

/-! part C1 -/
namespace Mine
noncomputable section
open PySem

theorem sinj (a b : String) : (Str.ofString a = Str.ofString b) = (a = b) := by
  apply propext
  constructor
  · intro h
    have h1 := PyProof.Rows.signs_ofString a
    have h2 := PyProof.Rows.signs_ofString b
    rw [h] at h1
    have h3 : a.toList.map Char.toNat = b.toList.map Char.toNat := h1.symm.trans h2
    have h4 : a.toList = b.toList := by
      refine (List.map_inj_right (f := Char.toNat) ?_).mp h3
      intro x y e
      exact Char.toNat_inj.mp e
    exact String.toList_inj.mp h4
  · rintro rfl; rfl

noncomputable def progBody : List Stmt := PySem.Challenge.pw_og0267_01.main.body
noncomputable def fdOf : Stmt → FD
  | .FunctionDef _ a b _ _ _ _ _ _ _ => ⟨a.args.map (·.arg), b, []⟩
  | _ => ⟨[], [], []⟩
noncomputable def clsBody : Stmt → List Stmt
  | .ClassDef _ _ _ b _ _ _ _ _ _ _ => b
  | _ => []
noncomputable def fdAt (i : Nat) : FD := fdOf (progBody.getD i (.Pass ⟨0, 0, 0, 0⟩))
noncomputable def mdAt (i j : Nat) : FD := fdOf ((clsBody (progBody.getD i (.Pass ⟨0, 0, 0, 0⟩))).getD j (.Pass ⟨0, 0, 0, 0⟩))
noncomputable def lineOfFd : FD := { fdAt 16 with dfl := [.bool false, .str "single"] }
noncomputable abbrev ent (C f : Str) (d : FD) : (Str × Str) × FD := ((C, f), d)
noncomputable def fnList : List ((Str × Str) × FD) := [
  ent "" "erased_pen" (fdAt 5), ent "" "blank_cell" (fdAt 6), ent "" "is_blank" (fdAt 7), ent "" "is_plain_blank" (fdAt 8), ent "" "line_blanks" (fdAt 11),
  ent "" "line_slice" (fdAt 14), ent "Line" "__init__" (mdAt 15 0), ent "" "line_of" (lineOfFd),
  ent "LogicalLine" "__init__" (mdAt 19 0), ent "LogicalLine" "put" (mdAt 19 1), ent "LogicalLine" "kept_to" (mdAt 19 2),
  ent "" "reflow_used" (fdAt 20), ent "" "reflow_begins_wide" (fdAt 21), ent "" "reflow_part" (fdAt 22), ent "" "reflow_goes_on" (fdAt 23), ent "" "logical_of" (fdAt 24),
  ent "" "cut_with_places" (fdAt 25), ent "" "cut_cells" (fdAt 26), ent "" "reflow_place" (fdAt 27), ent "" "reflow_line" (fdAt 28),
  ent "Cutting" "__init__" (mdAt 29 0), ent "Cutting" "put" (mdAt 29 1), ent "Cutting" "go_behind" (mdAt 29 2), ent "Cutting" "give_up" (mdAt 29 3), ent "Cutting" "top" (mdAt 29 4),
  ent "" "is_cut_whole" (fdAt 30), ent "" "joined_pieces" (fdAt 31),
  ent "" "_law_deck" (fdAt 34), ent "" "_law_draw" (fdAt 35), ent "" "_law_text" (fdAt 36), ent "" "_law_cut" (fdAt 37), ent "" "_law_lines" (fdAt 38), ent "" "_law_starts" (fdAt 39),
  ent "" "_law_old" (fdAt 40), ent "" "_law_world" (fdAt 41), ent "" "_law_cursor" (fdAt 42), ent "" "_law_new" (fdAt 43), ent "" "_law_left" (fdAt 44), ent "" "_law_told" (fdAt 45),
  ent "" "_law_are_cut" (fdAt 46), ent "" "law" (fdAt 47)]
noncomputable def lookP (C f : Str) : List ((Str × Str) × FD) → Option FD
  | [] => Option.none
  | p :: r => if p.1.1 = C ∧ p.1.2 = f then some p.2 else lookP C f r
noncomputable def T (C f : Str) : Option FD := lookP C f fnList
noncomputable abbrev call (n : Nat) : Cl := callN T n
end
end Mine

/-! part HE -/
namespace Mine
noncomputable section
open PySem PySem.W PySem.Calls PyProof.Rows
theorem said_ok : PySem.Challenge.rw_og0267_01.wellSaid = true := by kernel_rfl
/-! the top's run, over a tree of objects -/
noncomputable def topRunT (tb : String → Option Builtin) (p : Program) (w : World) (n₀ : Nat) (ann : Option Value) : Nat → SharedT → Thread → Option SharedT
  | 0, _, _ => none
  | n + 1, s, t => match through t with
    | true => some s
    | false => match stepOk n₀ ann t with
      | false => none
      | true => match stepT (denote tb) p w s t with
        | some (s', t') => topRunT tb p w n₀ ann n s' t'
        | none => none
theorem topRunT_of {tb : String → Option Builtin} {p : Program} {w : World} {n₀ : Nat} {ann : Option Value} : ∀ {n : Nat} {s s' : SharedT} {t : Thread}, topRunT tb p w n₀ ann n s t = some s' → topRun tb p w n₀ ann n s.abs t = some s'.abs
  | 0, _, _, _, h => by cases h
  | n + 1, s, s', t, h => by
    unfold topRunT at h
    unfold topRun
    cases ht : through t with
    | true => rw [ht] at h; cases h; rfl
    | false =>
      rw [ht] at h
      cases hk : stepOk n₀ ann t with
      | false => rw [hk] at h; cases h
      | true =>
        rw [hk] at h
        cases hs : stepT (denote tb) p w s t with
        | none => rw [hs] at h; cases h
        | some r => obtain ⟨s₂, t₂⟩ := r; rw [hs] at h; rw [stepT_spec hs]; exact topRunT_of h
noncomputable def treeFrom : List Obj → Nat → BT → BT
  | [], _, t => t
  | o :: r, k, t => treeFrom r (k + 1) (t.ins k o)
noncomputable def bootT (P : Params) : BT := treeFrom (boot_heap P).objs.toList 0 .nil
noncomputable def bootL (P : Params) : Life := (boot_heap P).life
theorem boot_abs (P : Params) : absHeap (bootT P) 11 (bootL P) = boot_heap P := by kernel_rfl
noncomputable def bootS (w : World) (os : OsState) : SharedT := ⟨bootT w.params, 11, bootL w.params, #[], boot_drawn, boot_toks, os⟩
noncomputable def bootAnn (w : World) : Option Value := (boot_heap w.params).nsMap mainGlobals "__annotations__"
noncomputable def topLook {α : Type} (p q : Program) (loose : List Str) (Xt : Shared → Bool) (Yf : Shared → α) (g0 : Bool) (h₀ : Heap) (s : Shared) :=
  ((staticsOk (importedModules p.main.body) h₀ s.heap && namesBound p s.heap && gensDone s && laidKept h₀ s.heap), openSeen q loose (importedModules p.main.body) Xt g0 s, Yf s)
theorem leftO_tree {p q : Program} {loose : List Str} {Xt : Shared → Bool} {α : Type} {Yf : Shared → α} {Ya : World → α} {N : Nat} {g0 : Bool} (e : opening p = plainProg p.main.scope.names) (hN : Nat.ble 600 N = true) (f : ∀ s, fenceModules? p s = some s)
    (size : ∀ w : World, ((boot_heap w.params).isNs mainGlobals && (#[] : Array GenState).size == 0, (boot_heap w.params).objs.size) = (true, 11))
    (h : ∀ (w : World) (os : OsState), (topRunT treeTable p w 11 (bootAnn w) N (bootS w os) (topStub p)).map (fun s => topLook p q loose Xt Yf g0 (boot_heap w.params) s.abs) = some (true, openGood q loose, Ya w)) : LeftO p q loose Xt Yf Ya N g0 := fun w => by
  obtain ⟨⟨hp, gs, d, k, os⟩, e1, e'⟩ := Option.map_eq_some_iff.mp (boot_open e hN f w)
  obtain ⟨rfl, rfl, rfl, rfl⟩ : hp = boot_heap w.params ∧ gs = #[] ∧ d = boot_drawn ∧ k = boot_toks := by simpa using e'
  obtain ⟨z1, z2⟩ : _ ∧ _ := by simpa only [Prod.mk.injEq] using size w
  obtain ⟨s, hs, hl⟩ := Option.map_eq_some_iff.mp (h w os)
  unfold topLook at hl
  obtain ⟨l1, l2, l3⟩ : _ ∧ _ ∧ _ := by simpa only [Prod.mk.injEq] using hl
  have r := topRunT_of hs
  have ea : (bootS w os).abs = ⟨boot_heap w.params, #[], boot_drawn, boot_toks, os⟩ := by
    unfold bootS SharedT.abs
    dsimp only
    rw [boot_abs]
  rw [ea] at r
  have t : topFrom treeTable p w N ⟨boot_heap w.params, #[], boot_drawn, boot_toks, os⟩ = some s.abs := by
    unfold topFrom
    dsimp only
    rw [z1, z2, show (boot_heap w.params).nsMap mainGlobals "__annotations__" = bootAnn w from rfl, r]
    show (match staticsOk (importedModules p.main.body) (boot_heap w.params) s.abs.heap && namesBound p s.abs.heap && gensDone s.abs && laidKept (boot_heap w.params) s.abs.heap with | true => _ | false => _) = _
    rw [l1]
  unfold openEnds
  rw [e1]
  show (topFrom treeTable p w N _).map _ = _
  rw [t, Option.map_some, l2, l3]

/-! the part of the heap that the checks read -/
noncomputable def sV (x : String) (t : Nat) : Value := .str (Str.ofString x) t
noncomputable def ts (i : Nat) : Stmt := progBody.getD i (.Pass ⟨0, 0, 0, 0⟩)
noncomputable def ms (i j : Nat) : Stmt := (clsBody (ts i)).getD j (.Pass ⟨0, 0, 0, 0⟩)
noncomputable def fO (n q : String) (st : Stmt) (d : Value) (m : String) (t c : Nat) : Obj := match st with
  | .FunctionDef _ a b _ _ _ sc _ _ _ => { cls := .type "function", data := .func { name := Str.ofString n, qualname := Str.ofString q, params := a, body := .stmts b, scope := sc, globals := 3, closure := [], defaults := d, kwdefaults := .none, pyModule := sV m t, code := .ref c } }
  | _ => { cls := .none }
noncomputable def cO (l : List Value) : Obj := { cls := .type "code", data := .fields l.toArray }
noncomputable def tO (l : List Value) : Obj := { cls := .type "tuple", data := .seq l.toArray }
noncomputable def kO (n : String) (a ns t u : Nat) : Obj := { cls := .type "type", data := .cls { name := Str.ofString n, bases := [.type "object"], mro := [.ref a, .type "object"], ns := ns, qualname := Str.ofString n }, slots := #[none, none, some (sV n t), some (sV n u), some (.builtin "object.__new__"), some (.bool true)] }
noncomputable def dO (P : Params) (e : Nat) (l : List (String × Nat × Value)) : Obj := { cls := .type "dict", data := .dict (l.map fun x => ⟨PyData.keyHash P (Str.ofString x.1), sV x.1 x.2.1, x.2.2⟩).toArray e }
noncomputable def KK (P : Params) : Frag := [
  (3, dO P 53 [("__name__", 165, sV "law_og0267_01" 699), ("__doc__", 166, .none), ("__package__", 167, .none), ("__loader__", 168, .builtin "__main__.__loader__#opaque"), ("__spec__", 169, .none), ("__annotations__", 170, .ref 6), ("__builtins__", 171, .ref 4), ("__file__", 173, sV "/claim/cut.py" 172), ("__cached__", 174, .none), ("_wall", 193, .ref 21), ("NO_COLOUR", 198, .int (-1) 197), ("PLAIN", 201, .ref 22), ("BACK", 203, .int 2 202), ("erased_pen", 210, .ref 29), ("blank_cell", 217, .ref 36), ("is_blank", 224, .ref 43), ("is_plain_blank", 231, .ref 50), ("LINE_SIZES", 238, .ref 51), ("line_blanks", 246, .ref 58), ("right_half", 253, .ref 65), ("line_part", 261, .ref 72), ("line_slice", 271, .ref 79), ("Line", 442, .ref 204), ("line_of", 453, .ref 216), ("SINGLE", 457, sV "single" 456), ("LogicalLine", 507, .ref 247), ("reflow_used", 515, .ref 258), ("reflow_begins_wide", 522, .ref 265), ("reflow_part", 531, .ref 272), ("reflow_goes_on", 539, .ref 279), ("logical_of", 549, .ref 286), ("cut_with_places", 565, .ref 293), ("cut_cells", 573, .ref 300), ("reflow_place", 582, .ref 307), ("reflow_line", 594, .ref 314), ("Cutting", 677, .ref 359), ("is_cut_whole", 687, .ref 370), ("joined_pieces", 698, .ref 377), ("_law_pen", 707, .ref 378), ("_law_deck", 713, .ref 383), ("_law_draw", 723, .ref 390), ("_law_text", 733, .ref 397), ("_law_cut", 744, .ref 404), ("_law_lines", 750, .ref 409), ("_law_starts", 756, .ref 414), ("_law_old", 773, .ref 421), ("_law_world", 779, .ref 426), ("_law_cursor", 797, .ref 433), ("_law_new", 820, .ref 440), ("_law_left", 832, .ref 447), ("_law_told", 839, .ref 454), ("_law_are_cut", 845, .ref 459), ("law", 851, .ref 464)]),
  (22, tO [.int 0 199, .int (-1) 197, .int (-1) 197, .int (-1) 197, .int 0 200]),
  (28, cO [sV "erased_pen" 204, sV "erased_pen" 205, sV "/claim/cut.py" 206, .int 8 0, .int 1 0, .int 0 0, .int 0 0, .int 3 0, .ref 23, .bool true, .int 181 0, .ref 24, .none, .ref 25, .ref 26, .ref 27, .int 208 0, .int 8 0, sV "/claim/cut.py" 209]),
  (29, fO "erased_pen" "erased_pen" (ts 5) .none "termcore.base" 194 28),
  (35, cO [sV "blank_cell" 211, sV "blank_cell" 212, sV "/claim/cut.py" 213, .int 10 0, .int 1 0, .int 0 0, .int 0 0, .int 3 0, .ref 30, .bool true, .int 181 0, .ref 31, .none, .ref 32, .ref 33, .ref 34, .int 215 0, .int 10 0, sV "/claim/cut.py" 216]),
  (36, fO "blank_cell" "blank_cell" (ts 6) .none "termcore.base" 194 35),
  (42, cO [sV "is_blank" 218, sV "is_blank" 219, sV "/claim/cut.py" 220, .int 12 0, .int 1 0, .int 0 0, .int 0 0, .int 3 0, .ref 37, .bool true, .int 181 0, .ref 38, .none, .ref 39, .ref 40, .ref 41, .int 222 0, .int 12 0, sV "/claim/cut.py" 223]),
  (43, fO "is_blank" "is_blank" (ts 7) .none "termcore.base" 194 42),
  (49, cO [sV "is_plain_blank" 225, sV "is_plain_blank" 226, sV "/claim/cut.py" 227, .int 14 0, .int 1 0, .int 0 0, .int 0 0, .int 3 0, .ref 44, .bool true, .int 181 0, .ref 45, .none, .ref 46, .ref 47, .ref 48, .int 229 0, .int 14 0, sV "/claim/cut.py" 230]),
  (50, fO "is_plain_blank" "is_plain_blank" (ts 8) .none "termcore.base" 194 49),
  (51, tO [sV "single" 234, sV "wide" 235, sV "top" 236, sV "bottom" 237]),
  (57, cO [sV "line_blanks" 239, sV "line_blanks" 240, sV "/claim/cut.py" 241, .int 18 0, .int 2 0, .int 0 0, .int 0 0, .int 3 0, .ref 52, .bool true, .int 181 0, .ref 53, .none, .ref 54, .ref 55, .ref 56, .int 244 0, .int 18 0, sV "/claim/cut.py" 245]),
  (58, fO "line_blanks" "line_blanks" (ts 11) .none "termcore.lines" 232 57),
  (78, cO [sV "line_slice" 262, sV "line_slice" 263, sV "/claim/cut.py" 264, .int 26 0, .int 3 0, .int 0 0, .int 0 0, .int 3 0, .ref 73, .bool true, .int 181 0, .ref 74, .none, .ref 75, .ref 76, .ref 77, .int 269 0, .int 26 0, sV "/claim/cut.py" 270]),
  (79, fO "line_slice" "line_slice" (ts 14) .none "termcore.lines" 232 78),
  (92, cO [sV "__init__" 284, sV "Line.__init__" 285, sV "/claim/cut.py" 286, .int 35 0, .int 3 0, .int 0 0, .int 0 0, .int 3 0, .ref 87, .bool true, .int 181 0, .ref 88, .none, .ref 89, .ref 90, .ref 91, .int 290 0, .int 35 0, sV "/claim/cut.py" 291]),
  (93, fO "__init__" "Line.__init__" (ms 15 0) .none "termcore.lines" 232 92),
  (203, dO P 4 [("__module__", 279, sV "termcore.lines" 232), ("__firstlineno__", 283, .int 33 282), ("__init__", 292, .ref 93), ("columns", 300, .ref 101), ("shown", 307, .ref 108), ("part", 315, .ref 115), ("put", 324, .ref 122), ("put_cells", 333, .ref 129), ("erase", 344, .ref 137), ("shift", 356, .ref 144), ("insert", 367, .ref 151), ("delete", 378, .ref 158), ("fill", 388, .ref 165), ("copy", 396, .ref 172), ("codes", 406, .ref 180), ("used", 413, .ref 187), ("resized", 423, .ref 194), ("equals", 431, .ref 201), ("__static_attributes__", 435, .ref 202), ("__dict__", 437, .ref 205), ("__weakref__", 439, .ref 206), ("__doc__", 440, .none)]),
  (204, kO "Line" 204 203 272 280),
  (209, tO [.bool false, sV "single" 234]),
  (215, cO [sV "line_of" 444, sV "line_of" 445, sV "/claim/cut.py" 446, .int 102 0, .int 3 0, .int 0 0, .int 0 0, .int 3 0, .ref 210, .bool true, .int 181 0, .ref 211, .none, .ref 212, .ref 213, .ref 214, .int 451 0, .int 102 0, sV "/claim/cut.py" 452]),
  (216, fO "line_of" "line_of" (ts 16) (.ref 209) "termcore.lines" 232 215),
  (229, cO [sV "__init__" 470, sV "LogicalLine.__init__" 471, sV "/claim/cut.py" 472, .int 112 0, .int 3 0, .int 0 0, .int 0 0, .int 3 0, .ref 224, .bool true, .int 181 0, .ref 225, .none, .ref 226, .ref 227, .ref 228, .int 476 0, .int 112 0, sV "/claim/cut.py" 477]),
  (230, fO "__init__" "LogicalLine.__init__" (ms 19 0) .none "termcore.reflow" 454 229),
  (236, cO [sV "put" 479, sV "LogicalLine.put" 480, sV "/claim/cut.py" 481, .int 119 0, .int 2 0, .int 0 0, .int 0 0, .int 3 0, .ref 231, .bool true, .int 181 0, .ref 232, .none, .ref 233, .ref 234, .ref 235, .int 484 0, .int 119 0, sV "/claim/cut.py" 485]),
  (237, fO "put" "LogicalLine.put" (ms 19 1) .none "termcore.reflow" 454 236),
  (243, cO [sV "kept_to" 487, sV "LogicalLine.kept_to" 488, sV "/claim/cut.py" 489, .int 123 0, .int 2 0, .int 0 0, .int 0 0, .int 3 0, .ref 238, .bool true, .int 181 0, .ref 239, .none, .ref 240, .ref 241, .ref 242, .int 492 0, .int 123 0, sV "/claim/cut.py" 493]),
  (244, fO "kept_to" "LogicalLine.kept_to" (ms 19 2) .none "termcore.reflow" 454 243),
  (246, dO P 4 [("__module__", 465, sV "termcore.reflow" 454), ("__firstlineno__", 469, .int 110 468), ("__init__", 478, .ref 230), ("put", 486, .ref 237), ("kept_to", 494, .ref 244), ("__static_attributes__", 500, .ref 245), ("__dict__", 502, .ref 248), ("__weakref__", 504, .ref 249), ("__doc__", 505, .none)]),
  (247, kO "LogicalLine" 247 246 458 466),
  (257, cO [sV "reflow_used" 508, sV "reflow_used" 509, sV "/claim/cut.py" 510, .int 126 0, .int 1 0, .int 0 0, .int 0 0, .int 3 0, .ref 252, .bool true, .int 181 0, .ref 253, .none, .ref 254, .ref 255, .ref 256, .int 513 0, .int 126 0, sV "/claim/cut.py" 514]),
  (258, fO "reflow_used" "reflow_used" (ts 20) .none "termcore.reflow" 454 257),
  (264, cO [sV "reflow_begins_wide" 516, sV "reflow_begins_wide" 517, sV "/claim/cut.py" 518, .int 131 0, .int 1 0, .int 0 0, .int 0 0, .int 3 0, .ref 259, .bool true, .int 181 0, .ref 260, .none, .ref 261, .ref 262, .ref 263, .int 520 0, .int 131 0, sV "/claim/cut.py" 521]),
  (265, fO "reflow_begins_wide" "reflow_begins_wide" (ts 21) .none "termcore.reflow" 454 264),
  (271, cO [sV "reflow_part" 523, sV "reflow_part" 524, sV "/claim/cut.py" 525, .int 133 0, .int 2 0, .int 0 0, .int 0 0, .int 3 0, .ref 266, .bool true, .int 181 0, .ref 267, .none, .ref 268, .ref 269, .ref 270, .int 529 0, .int 133 0, sV "/claim/cut.py" 530]),
  (272, fO "reflow_part" "reflow_part" (ts 22) .none "termcore.reflow" 454 271),
  (278, cO [sV "reflow_goes_on" 532, sV "reflow_goes_on" 533, sV "/claim/cut.py" 534, .int 140 0, .int 2 0, .int 0 0, .int 0 0, .int 3 0, .ref 273, .bool true, .int 181 0, .ref 274, .none, .ref 275, .ref 276, .ref 277, .int 537 0, .int 140 0, sV "/claim/cut.py" 538]),
  (279, fO "reflow_goes_on" "reflow_goes_on" (ts 23) .none "termcore.reflow" 454 278),
  (285, cO [sV "logical_of" 540, sV "logical_of" 541, sV "/claim/cut.py" 542, .int 144 0, .int 1 0, .int 0 0, .int 0 0, .int 3 0, .ref 280, .bool true, .int 181 0, .ref 281, .none, .ref 282, .ref 283, .ref 284, .int 547 0, .int 144 0, sV "/claim/cut.py" 548]),
  (286, fO "logical_of" "logical_of" (ts 24) .none "termcore.reflow" 454 285),
  (292, cO [sV "cut_with_places" 550, sV "cut_with_places" 551, sV "/claim/cut.py" 552, .int 156 0, .int 2 0, .int 0 0, .int 0 0, .int 3 0, .ref 287, .bool true, .int 181 0, .ref 288, .none, .ref 289, .ref 290, .ref 291, .int 563 0, .int 156 0, sV "/claim/cut.py" 564]),
  (293, fO "cut_with_places" "cut_with_places" (ts 25) .none "termcore.reflow" 454 292),
  (299, cO [sV "cut_cells" 566, sV "cut_cells" 567, sV "/claim/cut.py" 568, .int 175 0, .int 2 0, .int 0 0, .int 0 0, .int 3 0, .ref 294, .bool true, .int 181 0, .ref 295, .none, .ref 296, .ref 297, .ref 298, .int 571 0, .int 175 0, sV "/claim/cut.py" 572]),
  (300, fO "cut_cells" "cut_cells" (ts 26) .none "termcore.reflow" 454 299),
  (306, cO [sV "reflow_place" 574, sV "reflow_place" 575, sV "/claim/cut.py" 576, .int 177 0, .int 3 0, .int 0 0, .int 0 0, .int 3 0, .ref 301, .bool true, .int 181 0, .ref 302, .none, .ref 303, .ref 304, .ref 305, .int 580 0, .int 177 0, sV "/claim/cut.py" 581]),
  (307, fO "reflow_place" "reflow_place" (ts 27) .none "termcore.reflow" 454 306),
  (313, cO [sV "reflow_line" 583, sV "reflow_line" 584, sV "/claim/cut.py" 585, .int 181 0, .int 3 0, .int 0 0, .int 0 0, .int 3 0, .ref 308, .bool true, .int 181 0, .ref 309, .none, .ref 310, .ref 311, .ref 312, .int 592 0, .int 181 0, sV "/claim/cut.py" 593]),
  (314, fO "reflow_line" "reflow_line" (ts 28) .none "termcore.reflow" 454 313),
  (327, cO [sV "__init__" 607, sV "Cutting.__init__" 608, sV "/claim/cut.py" 609, .int 189 0, .int 5 0, .int 0 0, .int 0 0, .int 3 0, .ref 322, .bool true, .int 181 0, .ref 323, .none, .ref 324, .ref 325, .ref 326, .int 616 0, .int 189 0, sV "/claim/cut.py" 617]),
  (328, fO "__init__" "Cutting.__init__" (ms 29 0) .none "termcore.reflow" 454 327),
  (334, cO [sV "put" 619, sV "Cutting.put" 620, sV "/claim/cut.py" 621, .int 199 0, .int 5 0, .int 0 0, .int 0 0, .int 3 0, .ref 329, .bool true, .int 181 0, .ref 330, .none, .ref 331, .ref 332, .ref 333, .int 637 0, .int 199 0, sV "/claim/cut.py" 638]),
  (335, fO "put" "Cutting.put" (ms 29 1) .none "termcore.reflow" 454 334),
  (341, cO [sV "go_behind" 640, sV "Cutting.go_behind" 641, sV "/claim/cut.py" 642, .int 226 0, .int 1 0, .int 0 0, .int 0 0, .int 3 0, .ref 336, .bool true, .int 181 0, .ref 337, .none, .ref 338, .ref 339, .ref 340, .int 644 0, .int 226 0, sV "/claim/cut.py" 645]),
  (342, fO "go_behind" "Cutting.go_behind" (ms 29 2) .none "termcore.reflow" 454 341),
  (348, cO [sV "give_up" 647, sV "Cutting.give_up" 648, sV "/claim/cut.py" 649, .int 232 0, .int 2 0, .int 0 0, .int 0 0, .int 3 0, .ref 343, .bool true, .int 181 0, .ref 344, .none, .ref 345, .ref 346, .ref 347, .int 653 0, .int 232 0, sV "/claim/cut.py" 654]),
  (349, fO "give_up" "Cutting.give_up" (ms 29 3) .none "termcore.reflow" 454 348),
  (355, cO [sV "top" 656, sV "Cutting.top" 657, sV "/claim/cut.py" 658, .int 239 0, .int 2 0, .int 0 0, .int 0 0, .int 3 0, .ref 350, .bool true, .int 181 0, .ref 351, .none, .ref 352, .ref 353, .ref 354, .int 661 0, .int 239 0, sV "/claim/cut.py" 662]),
  (356, fO "top" "Cutting.top" (ms 29 4) .none "termcore.reflow" 454 355),
  (358, dO P 4 [("__module__", 602, sV "termcore.reflow" 454), ("__firstlineno__", 606, .int 187 605), ("__init__", 618, .ref 328), ("put", 639, .ref 335), ("go_behind", 646, .ref 342), ("give_up", 655, .ref 349), ("top", 663, .ref 356), ("__static_attributes__", 670, .ref 357), ("__dict__", 672, .ref 360), ("__weakref__", 674, .ref 361), ("__doc__", 675, .none)]),
  (359, kO "Cutting" 359 358 595 603),
  (369, cO [sV "is_cut_whole" 678, sV "is_cut_whole" 679, sV "/claim/cut.py" 680, .int 243 0, .int 2 0, .int 0 0, .int 0 0, .int 3 0, .ref 364, .bool true, .int 181 0, .ref 365, .none, .ref 366, .ref 367, .ref 368, .int 685 0, .int 243 0, sV "/claim/cut.py" 686]),
  (370, fO "is_cut_whole" "is_cut_whole" (ts 30) .none "termcore.reflow" 454 369),
  (376, cO [sV "joined_pieces" 688, sV "joined_pieces" 689, sV "/claim/cut.py" 690, .int 248 0, .int 1 0, .int 0 0, .int 0 0, .int 3 0, .ref 371, .bool true, .int 181 0, .ref 372, .none, .ref 373, .ref 374, .ref 375, .int 696 0, .int 248 0, sV "/claim/cut.py" 697]),
  (377, fO "joined_pieces" "joined_pieces" (ts 31) .none "termcore.reflow" 454 376),
  (378, tO [.int 1 701, .int 3 702, .int 4 703, .int (-1) 705, .int 0 706]),
  (382, cO [sV "_law_deck" 708, sV "_law_deck" 709, sV "/claim/cut.py" 710, .int 259 0, .int 1 0, .int 0 0, .int 0 0, .int 3 0, .ref 379, .bool true, .int 181 0, .ref 380, .none, .none, .none, .ref 381, .int 711 0, .int 259 0, sV "/claim/cut.py" 712]),
  (383, fO "_law_deck" "_law_deck" (ts 34) .none "law_og0267_01" 699 382),
  (389, cO [sV "_law_draw" 714, sV "_law_draw" 715, sV "/claim/cut.py" 716, .int 261 0, .int 2 0, .int 0 0, .int 0 0, .int 3 0, .ref 384, .bool true, .int 181 0, .ref 385, .none, .ref 386, .ref 387, .ref 388, .int 721 0, .int 261 0, sV "/claim/cut.py" 722]),
  (390, fO "_law_draw" "_law_draw" (ts 35) .none "law_og0267_01" 699 389),
  (396, cO [sV "_law_text" 724, sV "_law_text" 725, sV "/claim/cut.py" 726, .int 269 0, .int 1 0, .int 0 0, .int 0 0, .int 3 0, .ref 391, .bool true, .int 181 0, .ref 392, .none, .ref 393, .ref 394, .ref 395, .int 731 0, .int 269 0, sV "/claim/cut.py" 732]),
  (397, fO "_law_text" "_law_text" (ts 36) .none "law_og0267_01" 699 396),
  (403, cO [sV "_law_cut" 734, sV "_law_cut" 735, sV "/claim/cut.py" 736, .int 278 0, .int 2 0, .int 0 0, .int 0 0, .int 3 0, .ref 398, .bool true, .int 181 0, .ref 399, .none, .ref 400, .ref 401, .ref 402, .int 742 0, .int 278 0, sV "/claim/cut.py" 743]),
  (404, fO "_law_cut" "_law_cut" (ts 37) .none "law_og0267_01" 699 403),
  (408, cO [sV "_law_lines" 745, sV "_law_lines" 746, sV "/claim/cut.py" 747, .int 294 0, .int 2 0, .int 0 0, .int 0 0, .int 3 0, .ref 405, .bool true, .int 181 0, .ref 406, .none, .none, .none, .ref 407, .int 748 0, .int 294 0, sV "/claim/cut.py" 749]),
  (409, fO "_law_lines" "_law_lines" (ts 38) .none "law_og0267_01" 699 408),
  (413, cO [sV "_law_starts" 751, sV "_law_starts" 752, sV "/claim/cut.py" 753, .int 297 0, .int 3 0, .int 0 0, .int 0 0, .int 3 0, .ref 410, .bool true, .int 181 0, .ref 411, .none, .none, .none, .ref 412, .int 754 0, .int 297 0, sV "/claim/cut.py" 755]),
  (414, fO "_law_starts" "_law_starts" (ts 39) .none "law_og0267_01" 699 413),
  (420, cO [sV "_law_old" 757, sV "_law_old" 758, sV "/claim/cut.py" 759, .int 299 0, .int 2 0, .int 0 0, .int 0 0, .int 3 0, .ref 415, .bool true, .int 181 0, .ref 416, .none, .ref 417, .ref 418, .ref 419, .int 771 0, .int 299 0, sV "/claim/cut.py" 772]),
  (421, fO "_law_old" "_law_old" (ts 40) .none "law_og0267_01" 699 420),
  (425, cO [sV "_law_world" 774, sV "_law_world" 775, sV "/claim/cut.py" 776, .int 308 0, .int 1 0, .int 0 0, .int 0 0, .int 3 0, .ref 422, .bool true, .int 181 0, .ref 423, .none, .none, .none, .ref 424, .int 777 0, .int 308 0, sV "/claim/cut.py" 778]),
  (426, fO "_law_world" "_law_world" (ts 41) .none "law_og0267_01" 699 425),
  (432, cO [sV "_law_cursor" 780, sV "_law_cursor" 781, sV "/claim/cut.py" 782, .int 316 0, .int 4 0, .int 0 0, .int 0 0, .int 3 0, .ref 427, .bool true, .int 181 0, .ref 428, .none, .ref 429, .ref 430, .ref 431, .int 795 0, .int 316 0, sV "/claim/cut.py" 796]),
  (433, fO "_law_cursor" "_law_cursor" (ts 42) .none "law_og0267_01" 699 432),
  (439, cO [sV "_law_new" 798, sV "_law_new" 799, sV "/claim/cut.py" 800, .int 324 0, .int 5 0, .int 0 0, .int 0 0, .int 3 0, .ref 434, .bool true, .int 181 0, .ref 435, .none, .ref 436, .ref 437, .ref 438, .int 818 0, .int 324 0, sV "/claim/cut.py" 819]),
  (440, fO "_law_new" "_law_new" (ts 43) .none "law_og0267_01" 699 439),
  (446, cO [sV "_law_left" 821, sV "_law_left" 822, sV "/claim/cut.py" 823, .int 340 0, .int 5 0, .int 0 0, .int 0 0, .int 3 0, .ref 441, .bool true, .int 181 0, .ref 442, .none, .ref 443, .ref 444, .ref 445, .int 830 0, .int 340 0, sV "/claim/cut.py" 831]),
  (447, fO "_law_left" "_law_left" (ts 44) .none "law_og0267_01" 699 446),
  (453, cO [sV "_law_told" 833, sV "_law_told" 834, sV "/claim/cut.py" 835, .int 347 0, .int 1 0, .int 0 0, .int 0 0, .int 3 0, .ref 448, .bool true, .int 181 0, .ref 449, .none, .ref 450, .ref 451, .ref 452, .int 837 0, .int 347 0, sV "/claim/cut.py" 838]),
  (454, fO "_law_told" "_law_told" (ts 45) .none "law_og0267_01" 699 453),
  (458, cO [sV "_law_are_cut" 840, sV "_law_are_cut" 841, sV "/claim/cut.py" 842, .int 349 0, .int 2 0, .int 0 0, .int 0 0, .int 3 0, .ref 455, .bool true, .int 181 0, .ref 456, .none, .none, .none, .ref 457, .int 843 0, .int 349 0, sV "/claim/cut.py" 844]),
  (459, fO "_law_are_cut" "_law_are_cut" (ts 46) .none "law_og0267_01" 699 458),
  (463, cO [sV "law" 846, sV "law" 847, sV "/claim/cut.py" 848, .int 360 0, .int 1 0, .int 0 0, .int 0 0, .int 3 0, .ref 460, .bool true, .int 181 0, .ref 461, .none, .none, .none, .ref 462, .int 849 0, .int 360 0, sV "/claim/cut.py" 850]),
  (464, fO "law" "law" (ts 47) .none "law_og0267_01" 699 463)]
noncomputable def asK : List Addr := [3, 22, 28, 29, 35, 36, 42, 43, 49, 50, 51, 57, 58, 78, 79, 92, 93, 203, 204, 209, 215, 216, 229, 230, 236, 237, 243, 244, 246, 247, 257, 258, 264, 265, 271, 272, 278, 279, 285, 286, 292, 293, 299, 300, 306, 307, 313, 314, 327, 328, 334, 335, 341, 342, 348, 349, 355, 356, 358, 359, 369, 370, 376, 377, 378, 382, 383, 389, 390, 396, 397, 403, 404, 408, 409, 413, 414, 420, 421, 425, 426, 432, 433, 439, 440, 446, 447, 453, 454, 458, 459, 463, 464]

theorem asK_ok (P : Params) : asK = (KK P).map (·.1) := by kernel_rfl
noncomputable abbrev HK : Hook := kHook KK asK asK_ok
noncomputable abbrev viewK : Program := view PySem.Challenge.pw_og0267_01 [47]
noncomputable abbrev looseK : List Str := [Str.ofString "_wall", Str.ofString "NO_COLOUR", Str.ofString "PLAIN", Str.ofString "BACK", Str.ofString "erased_pen", Str.ofString "blank_cell", Str.ofString "is_blank", Str.ofString "is_plain_blank", Str.ofString "LINE_SIZES", Str.ofString "line_blanks", Str.ofString "right_half", Str.ofString "line_part", Str.ofString "line_slice", Str.ofString "Line", Str.ofString "line_of", Str.ofString "SINGLE", Str.ofString "LogicalLine", Str.ofString "reflow_used", Str.ofString "reflow_begins_wide", Str.ofString "reflow_part", Str.ofString "reflow_goes_on", Str.ofString "logical_of", Str.ofString "cut_with_places", Str.ofString "cut_cells", Str.ofString "reflow_place", Str.ofString "reflow_line", Str.ofString "Cutting", Str.ofString "is_cut_whole", Str.ofString "joined_pieces", Str.ofString "_law_pen", Str.ofString "_law_deck", Str.ofString "_law_draw", Str.ofString "_law_text", Str.ofString "_law_cut", Str.ofString "_law_lines", Str.ofString "_law_starts", Str.ofString "_law_old", Str.ofString "_law_world", Str.ofString "_law_cursor", Str.ofString "_law_new", Str.ofString "_law_left", Str.ofString "_law_told", Str.ofString "_law_are_cut"]
noncomputable abbrev rowK := PySem.Challenge.rw_og0267_01.row
theorem run_ok (w : World) (os : OsState) : (topRunT treeTable rowK.prog w 11 (bootAnn w) 5460 (bootS w os) (topStub rowK.prog)).map (fun s => topLook rowK.prog viewK looseK (fun s => xlAt viewK [] s && recOk rowK.records s) (Hook.obs HK) true (boot_heap w.params) s.abs) = some (true, openGood viewK looseK, Hook.val HK w) := by kernel_rfl
end
end Mine

/-! part S0 -/
namespace Mine
noncomputable section
open PySem PySem.W PyProof.Rows
open Classical

noncomputable abbrev PF := Addr → Option Obj
noncomputable def PF.le (h h' : PF) : Prop := ∀ a o, h a = some o → h' a = some o

/-- dict entries of written str keys, in order -/
noncomputable def EsAre (pr : Params) : List DictEntry → List Str → List Value → Prop
  | [], ks, vs => ks = [] ∧ vs = []
  | e :: es, ks, vs => ∃ k kr v vr, ks = k :: kr ∧ vs = v :: vr ∧ (∃ t, e.key = .str k t) ∧ e.val = v ∧ e.hash = PyData.keyHash pr k ∧ EsAre pr es kr vr

noncomputable abbrev tupOf (ws : Array Value) (n : Nat) : Obj := { cls := .type "tuple", data := .seq ws n }

section
variable (cA : Str → Addr) (pr : Params)
mutual
noncomputable def RepV (h : PF) : CV → Value → Prop
  | .none, v => v = .none
  | .bool b, v => v = .bool b
  | .int i, v => ∃ t, v = .int i t
  | .str x, v => ∃ t, v = .str x t
  | .tup vs, v => ∃ a n ws, v = .ref a ∧ h a = some (tupOf ws n) ∧ ws.size ≤ cap ∧ RepL h vs ws.toList
  | .lst vs, v => ∃ a n ws, v = .ref a ∧ h a = some (listOf ws n) ∧ ws.size ≤ cap ∧ RepL h vs ws.toList
  | .ins C ks vs, v => ∃ x d es n ws, v = .ref x ∧ h x = some (instObj (cA C) d) ∧ h d = some (dictOf es n) ∧ EsAre pr es ks ws ∧ RepL h vs ws
  | .ref a, v => v = .ref a
  | .obj C d, v => ∃ x, v = .ref x ∧ h x = some (instObj (cA C) d)
  | .dct d, v => v = .ref d
noncomputable def RepL (h : PF) : List CV → List Value → Prop
  | [], ws => ws = []
  | c :: cs, ws => ∃ w r, ws = w :: r ∧ RepV h c w ∧ RepL h cs r
end
mutual
theorem RepV.mono {h h' : PF} (hk : h.le h') : ∀ (c : CV) (v : Value), RepV cA pr h c v → RepV cA pr h' c v
  | .none, _, x | .bool _, _, x | .int _, _, x | .str _, _, x | .ref _, _, x | .dct _, _, x => x
  | .tup vs, _, zz1 => by (refine ex3 zz1 fun a n ws zr27g => ?_; refine and4 zr27g fun e ho hz hl => ?_; clear zr27g; try clear zz1); exact (exI3 a n ws ⟨e, hk _ _ ho, hz, RepL.mono hk vs _ hl⟩)
  | .lst vs, _, zz2 => by (refine ex3 zz2 fun a n ws zr26g => ?_; refine and4 zr26g fun e ho hz hl => ?_; clear zr26g; try clear zz2); exact (exI3 a n ws ⟨e, hk _ _ ho, hz, RepL.mono hk vs _ hl⟩)
  | .ins _ _ vs, _, zz3 => by (refine ex5 zz3 fun x d es n ws zr25g => ?_; refine and5 zr25g fun e hx hd hs hl => ?_; clear zr25g; try clear zz3); exact (exI5 x d es n ws ⟨e, hk _ _ hx, hk _ _ hd, hs, RepL.mono hk vs _ hl⟩)
  | .obj _ _, _, zz4 => by (refine Exists.elim zz4 fun x zr24g => ?_; refine And.elim (fun e hx => ?_) zr24g; clear zr24g; try clear zz4); exact ⟨x, e, hk _ _ hx⟩
theorem RepL.mono {h h' : PF} (hk : h.le h') : ∀ (cs : List CV) (ws : List Value), RepL cA pr h cs ws → RepL cA pr h' cs ws
  | [], _, x => x
  | c :: cs, _, zz5 => by (refine ex2 zz5 fun w r zr23g => ?_; refine and3 zr23g fun e hv hl => ?_; clear zr23g; try clear zz5); exact (exI2 w r ⟨e, RepV.mono hk c w hv, RepL.mono hk cs r hl⟩)
end
theorem RepL.length {h : PF} : ∀ {cs : List CV} {ws : List Value}, RepL cA pr h cs ws → ws.length = cs.length
  | [], _, x => by rw [x]; rfl
  | c :: cs, _, zz6 => by (refine ex2 zz6 fun w r zr22g => ?_; refine and3 zr22g fun e _ hl => ?_; clear zr22g; try clear zz6); rw [e, List.length_cons, List.length_cons, RepL.length hl]
theorem RepL.append {h : PF} : ∀ {cs ds : List CV} {ws us : List Value}, RepL cA pr h cs ws → RepL cA pr h ds us → RepL cA pr h (cs ++ ds) (ws ++ us)
  | [], _, _, _, x, y => by rw [show _ = [] from x]; exact y
  | c :: cs, _, _, _, zz7, y => by (refine ex2 zz7 fun w r zr21g => ?_; refine and3 zr21g fun e hv hl => ?_; clear zr21g; try clear zz7); rw [e]; exact (exI2 w _ ⟨rfl, hv, RepL.append hl y⟩)
theorem RepL.unappend {h : PF} : ∀ {cs ds : List CV} {ws : List Value}, RepL cA pr h (cs ++ ds) ws → ∃ w1 w2, ws = w1 ++ w2 ∧ RepL cA pr h cs w1 ∧ RepL cA pr h ds w2
  | [], _, ws, x => (exI2 [] ws ⟨rfl, rfl, x⟩)
  | c :: cs, _, _, zz8 => by
    (refine ex2 zz8 fun w r zr20g => ?_; refine and3 zr20g fun e hv hl => ?_; clear zr20g; try clear zz8)
    (refine ex2 (RepL.unappend hl) fun w1 w2 zr19g => ?_; refine and3 zr19g fun e1 a b => ?_; clear zr19g)
    exact (exI2 (w :: w1) w2 ⟨by rw [e, e1]; rfl, (exI2 w w1 ⟨rfl, hv, a⟩), b⟩)
theorem RepL.get {h : PF} : ∀ {cs : List CV} {ws : List Value} {k : Nat} {c : CV}, RepL cA pr h cs ws → cs[k]? = some c → ∃ w, ws[k]? = some w ∧ RepV cA pr h c w
  | [], _, _, _, _, e => by simp at e
  | c :: cs, _, 0, _, zz9, q => by
    (refine ex2 zz9 fun w r zr18g => ?_; refine and3 zr18g fun e hv hl => ?_; clear zr18g; try clear zz9)
    simp only [List.getElem?_cons_zero, Option.some.injEq] at q
    subst q; exact ⟨w, by rw [e]; rfl, hv⟩
  | c :: cs, _, k + 1, _, zz10, q => by
    (refine ex2 zz10 fun w r zr17g => ?_; refine and3 zr17g fun e hv hl => ?_; clear zr17g; try clear zz10)
    rw [List.getElem?_cons_succ] at q
    (refine Exists.elim (RepL.get hl q) fun u zr16g => ?_; refine And.elim (fun a b => ?_) zr16g; clear zr16g)
    exact ⟨u, by rw [e, List.getElem?_cons_succ, a], b⟩
theorem RepL.set {h : PF} : ∀ {cs : List CV} {ws : List Value} {k : Nat} {c : CV} {w : Value}, RepL cA pr h cs ws → RepV cA pr h c w → RepL cA pr h (cs.set k c) (ws.set k w)
  | [], _, _, _, _, x, _ => by rw [show _ = [] from x]; rfl
  | c :: cs, _, 0, _, _, zz11, y => by (refine ex2 zz11 fun w r zr15g => ?_; refine and3 zr15g fun e _ hl => ?_; clear zr15g; try clear zz11); rw [e]; exact (exI2 _ _ ⟨rfl, y, hl⟩)
  | c :: cs, _, k + 1, _, _, zz12, y => by (refine ex2 zz12 fun w r zr14g => ?_; refine and3 zr14g fun e hv hl => ?_; clear zr14g; try clear zz12); rw [e]; exact (exI2 _ _ ⟨rfl, hv, RepL.set hl y⟩)
theorem RepL.drop {h : PF} : ∀ {cs : List CV} {ws : List Value} (k : Nat), RepL cA pr h cs ws → RepL cA pr h (cs.drop k) (ws.drop k)
  | [], _, _, x => by rw [show _ = [] from x]; simp; rfl
  | c :: cs, _, 0, x => x
  | c :: cs, _, k + 1, zz13 => by (refine ex2 zz13 fun w r zr13g => ?_; refine and3 zr13g fun e _ hl => ?_; clear zr13g; try clear zz13); rw [e]; exact RepL.drop k hl
theorem RepL.take {h : PF} : ∀ {cs : List CV} {ws : List Value} (k : Nat), RepL cA pr h cs ws → RepL cA pr h (cs.take k) (ws.take k)
  | [], _, _, x => by rw [show _ = [] from x]; simp; rfl
  | c :: cs, _, 0, x => rfl
  | c :: cs, _, k + 1, zz14 => by (refine ex2 zz14 fun w r zr12g => ?_; refine and3 zr12g fun e hv hl => ?_; clear zr12g; try clear zz14); rw [e]; exact (exI2 w _ ⟨rfl, hv, RepL.take k hl⟩)

end

structure Kit where
  cA : Str → Addr
  K : Frag
  p : Program
  prog : Program
  loose : List Str
  mg : Str → Option Value
  mb : Str → Option Value
  s0 : Shared
  w : World
  KX : K.In s0.heap
  T : TopRead p loose mg mb s0.heap
noncomputable abbrev Kit.pr (κ : Kit) : Params := κ.w.params

section
variable (κ : Kit)
noncomputable def MapObj (ob : Option Obj) (kvs : List (Str × Value)) : Prop :=
  ∃ o es ep, ob = some o ∧ o.ExactDict ∧ o.data = .dict es ep ∧ KeysOf (strKind κ.prog κ.w) es ∧ Pairs (strKind κ.prog κ.w) es.toList kvs ∧ (kvs.map (·.1)).Nodup
noncomputable def RepO (h : PF) : CObj → Option Obj → Prop
  | .list vs, o => ∃ ws n, o = some (listOf ws n) ∧ ws.size ≤ cap ∧ RepL κ.cA κ.pr h vs ws.toList
  | .dict es, o => ∃ es' n ws, o = some (dictOf es' n) ∧ EsAre κ.pr es' (es.map (·.1)) ws ∧ RepL κ.cA κ.pr h (es.map (·.2)) ws ∧ es.length ≤ 100
  | .map es, o => ∃ kvs, MapObj κ o kvs ∧ es.map (·.1) = kvs.map (·.1) ∧ RepL κ.cA κ.pr h (es.map (·.2)) (kvs.map (·.2)) ∧ es.length ≤ 100
theorem RepO.mono {h h' : PF} (hk : h.le h') : ∀ {c : CObj} {o : Option Obj}, RepO κ h c o → RepO κ h' c o
  | .list _, _, zz15 => by (refine ex2 zz15 fun ws n zr11g => ?_; refine and3 zr11g fun e hz hl => ?_; clear zr11g; try clear zz15); exact (exI2 ws n ⟨e, hz, RepL.mono _ _ hk _ _ hl⟩)
  | .dict _, _, zz16 => by (refine ex3 zz16 fun es n ws zr10g => ?_; refine and4 zr10g fun e ha hl hz => ?_; clear zr10g; try clear zz16); exact (exI3 es n ws ⟨e, ha, RepL.mono _ _ hk _ _ hl, hz⟩)
  | .map _, _, zz17 => by (refine Exists.elim zz17 fun kvs zr9g => ?_; refine and4 zr9g fun e ha hl hz => ?_; clear zr9g; try clear zz17); exact ⟨kvs, e, ha, RepL.mono _ _ hk _ _ hl, hz⟩
theorem RepO.some {h : PF} {c : CObj} {o : Option Obj} (x : RepO κ h c o) : ∃ ob, o = some ob := by
  induction c using Mine.CObj.casesOn with
  | list vs => (refine ex2 x fun _ _ zr8g => ?_; refine And.elim (fun e _ => ?_) zr8g; clear zr8g; try clear x); exact ⟨_, e⟩
  | dict es => (refine ex3 x fun _ _ _ zr7g => ?_; refine And.elim (fun e _ => ?_) zr7g; clear zr7g; try clear x); exact ⟨_, e⟩
  | map es => obtain ⟨_, ⟨o, _, _, e, _⟩, _⟩ := x; exact ⟨_, e⟩
end

noncomputable def cst (X : Addr → Prop) (H : CH) (h : Heap) : PF := fun a => if X a ∨ H a ≠ none then none else h.get? a
theorem cst_some {X : Addr → Prop} {H : CH} {h : Heap} {a : Addr} {o : Obj} : cst X H h a = some o ↔ ¬ X a ∧ H a = none ∧ h.get? a = some o := by
  unfold cst
  by_cases hx : X a ∨ H a ≠ none
  · rw [if_pos hx]
    constructor
    · intro e; exact nn e
    · rintro ⟨a1, a2, _⟩; exact absurd hx (by rintro (q | q); exact a1 q; exact q a2)
  · rw [if_neg hx]
    constructor
    · intro e; exact ⟨fun q => hx (.inl q), Classical.byContradiction fun q => hx (.inr q), e⟩
    · exact fun e => e.2.2

variable (κ : Kit)
noncomputable def VarIs (env : Env) (m : Str → Option Value) (c : PF) (h : Heap) (x : Str) (cv : CV) : Prop :=
  (env.kindOf x = some .local ∧ ∃ v, m x = some v ∧ RepV κ.cA κ.pr c cv v) ∨
  ((env.kindOf x = some .cell ∨ env.kindOf x = some .free) ∧ ∃ a v, env.cells.lookup x = some a ∧ h.IsCell a (some v) ∧ RepV κ.cA κ.pr c cv v)

structure EnvOk (env : Env) (W : Addr → Prop) (asg : Str → Prop) : Prop where
  hk : env.scope.kind = .function
  hg : env.globals = mainGlobals
  hb : env.builtins = builtinsNs
  wl : W env.locals
  asg : ∀ x, asg x → env.kindOf x = some .local ∨ (env.kindOf x = some .cell ∧ ∃ a, env.cells.lookup x = some a ∧ W a)
  inj : ∀ x y a, env.cells.lookup x = some a → env.cells.lookup y = some a → x = y
  nl : ∀ x a, env.cells.lookup x = some a → a ≠ env.locals

structure Rel (X W : Addr → Prop) (g : PF) (env : Env) (loc : Loc) (H : CH) (s : Shared) : Prop where
  keep : ∀ a o, g a = some o → s.heap.get? a = some o
  disj : ∀ a, H a ≠ none → g a = none
  wg : ∀ a, W a → g a = none
  wx : ∀ a, W a → X a
  xh : ∀ a, X a → H a = none
  xs : ∀ a, X a → ∃ o, s.heap.get? a = some o
  rep : ∀ a o, H a = some o → RepO κ (cst X H s.heap) o (s.heap.get? a)
  base : ∀ a o, κ.s0.heap.get? a = some o → g a = some o
  gens : s.gens = κ.s0.gens
  os : s.os = κ.s0.os
  drawn : s.drawn = κ.s0.drawn
  loc : ∃ m, s.heap.Ns env.locals m ∧ ∀ x c, look x loc = some c → VarIs κ env m (cst X H s.heap) s.heap x c
  cells : ∀ x a, env.cells.lookup x = some a → X a ∧ ∃ v, s.heap.IsCell a v

variable {κ : Kit} {X W : Addr → Prop} {g : PF} {env : Env} {loc : Loc} {H H' : CH} {s : Shared} {asg : Str → Prop}

theorem VarIs.mono {m : Str → Option Value} {c c' : PF} {h h' : Heap} {x : Str} {cv : CV} (V : VarIs κ env m c h x cv) (hc : c.le c') (hh : ∀ a v, env.cells.lookup x = some a → h.IsCell a v → h'.IsCell a v) :
    VarIs κ env m c' h' x cv := by
  rcases V with ⟨k, v, e, r⟩ | ⟨k, a, v, e, i, r⟩
  · exact .inl ⟨k, v, e, RepV.mono _ _ hc _ _ r⟩
  · exact .inr ⟨k, a, v, e, hh _ _ e i, RepV.mono _ _ hc _ _ r⟩

theorem get_none {h : Heap} {a : Addr} (ha : h.objs.size ≤ a) : h.get? a = none := by
  cases e : h.get? a with
  | none => rfl
  | some o => exact absurd (Heap.lt_size e) (Nat.not_lt.mpr ha)
theorem Rel.clean (R : Rel κ X W g env loc H s) {a : Addr} (ha : s.heap.get? a = none) : H a = none := by
  cases e : H a with
  | none => rfl
  | some o =>
    obtain ⟨ob, q⟩ := RepO.some _ (R.rep a o e)
    rw [ha] at q; exact nn q
theorem Rel.notX (R : Rel κ X W g env loc H s) {a : Addr} (ha : s.heap.get? a = none) : ¬ X a := fun q => by
  obtain ⟨o, e⟩ := R.xs a q
  rw [ha] at e; exact nn e
theorem Rel.fresh (R : Rel κ X W g env loc H s) {a : Addr} (ha : s.heap.objs.size ≤ a) : H a = none := R.clean (get_none ha)

theorem Rel.toks (R : Rel κ X W g env loc H s) (t : Nat) : Rel κ X W g env loc H { s with toks := t } :=
  ⟨R.keep, R.disj, R.wg, R.wx, R.xh, R.xs, R.rep, R.base, R.gens, R.os, R.drawn, R.loc, R.cells⟩

/-- the general step: what is no part of H stays (but for Z) -/
theorem Rel.stepX (R : Rel κ X W g env loc H s) (E : EnvOk env W asg) (X₂ Z : Addr → Prop) {h' : Heap} {tk : Nat}
    (hX : ∀ a, X₂ a → X a) (hW : ∀ a, W a → X₂ a) (hC : ∀ x a, env.cells.lookup x = some a → X₂ a)
    (hZ : ∀ a, Z a → X a ∧ g a = none ∧ a ≠ env.locals ∧ (∀ x, env.cells.lookup x ≠ some a) ∧ (X₂ a → ∃ o, h'.get? a = some o))
    (hk : ∀ a o, H a = none → ¬ Z a → s.heap.get? a = some o → h'.get? a = some o ∧ H' a = none)
    (hxh : ∀ a, X₂ a → H' a = none)
    (hrep : ∀ a o, (cst X H s.heap).le (cst X₂ H' h') → H' a = some o → RepO κ (cst X₂ H' h') o (h'.get? a)) : Rel κ X₂ W g env loc H' { s with heap := h', toks := tk } := by
  have hle : (cst X H s.heap).le (cst X₂ H' h') := by
    intro a o e
    (refine and3 (cst_some.mp e) fun e1 e2 e3 => ?_)
    have hz : ¬ Z a := fun q => e1 (hZ a q).1
    exact cst_some.mpr ⟨fun q => e1 (hX a q), (hk a o e2 hz e3).2, (hk a o e2 hz e3).1⟩
  have hg : ∀ a o, g a = some o → H a = none ∧ ¬ Z a := fun a o e =>
    ⟨Classical.byContradiction fun q => by rw [R.disj a q] at e; (exact nn e), fun q => by rw [(hZ a q).2.1] at e; (exact nn e)⟩
  refine ⟨?_, ?_, R.wg, hW, hxh, fun a q => ?_, fun a o => hrep a o hle, R.base, R.gens, R.os, R.drawn, ?_, ?_⟩
  · exact fun a o e => (hk a o (hg a o e).1 (hg a o e).2 (R.keep a o e)).1
  · intro a q
    cases e : g a with
    | none => rfl
    | some o => exact absurd (hk a o (hg a o e).1 (hg a o e).2 (R.keep a o e)).2 q
  · by_cases hz : Z a
    · exact (hZ a hz).2.2.2.2 q
    · obtain ⟨o, e⟩ := R.xs a (hX a q)
      exact ⟨o, (hk a o (R.xh a (hX a q)) hz e).1⟩
  · (refine Exists.elim R.loc fun m zr4g => ?_; refine And.elim (fun hn hl => ?_) zr4g; clear zr4g)
    (refine ex3 hn fun o es ep zr3g => ?_; refine and4 zr3g fun ho hd hs hf => ?_; clear zr3g; try clear hn)
    have hL := R.xh _ (R.wx _ E.wl)
    refine ⟨m, (exI3 o es ep ⟨(hk _ _ hL (fun q => (hZ _ q).2.2.1 rfl) ho).1, hd, hs, hf⟩), fun x c e => (hl x c e).mono hle ?_⟩
    rintro a v q ⟨oc, h1, h2⟩
    exact ⟨oc, (hk _ _ (R.xh _ (R.cells x a q).1) (fun z => (hZ _ z).2.2.2.1 x q) h1).1, h2⟩
  · intro x a q
    (refine And.elim (fun h0 zr1g => ?_) (R.cells x a q); refine ex2 zr1g fun v oc zr2g => ?_; refine And.elim (fun h1 h2 => ?_) zr2g; clear zr1g zr2g)
    exact ⟨hC x a q, v, oc, (hk _ _ (R.xh _ h0) (fun z => (hZ _ z).2.2.2.1 x q) h1).1, h2⟩
theorem Rel.step (R : Rel κ X W g env loc H s) (E : EnvOk env W asg) (Z : Addr → Prop) {h' : Heap} {tk : Nat}
    (hZ : ∀ a, Z a → X a ∧ g a = none ∧ a ≠ env.locals ∧ (∀ x, env.cells.lookup x ≠ some a) ∧ ∃ o, h'.get? a = some o)
    (hk : ∀ a o, H a = none → ¬ Z a → s.heap.get? a = some o → h'.get? a = some o ∧ H' a = none)
    (hxh : ∀ a, X a → H' a = none)
    (hrep : ∀ a o, (cst X H s.heap).le (cst X H' h') → H' a = some o → RepO κ (cst X H' h') o (h'.get? a)) : Rel κ X W g env loc H' { s with heap := h', toks := tk } :=
  R.stepX E X Z (fun _ q => q) R.wx (fun x a q => (R.cells x a q).1) (fun a q => ⟨(hZ a q).1, (hZ a q).2.1, (hZ a q).2.2.1, (hZ a q).2.2.2.1, fun _ => (hZ a q).2.2.2.2⟩) hk hxh hrep

/-- nothing of the clean heap is turned -/
theorem Rel.same (R : Rel κ X W g env loc H s) (E : EnvOk env W asg) {h' : Heap} {tk : Nat}
    (hk : ∀ a o, s.heap.get? a = some o → h'.get? a = some o) : Rel κ X W g env loc H { s with heap := h', toks := tk } := by
  refine R.step E (fun _ => False) (fun _ q => q.elim) (fun a o e _ q => ⟨hk a o q, e⟩) R.xh (fun a o hle e => ?_)
  obtain ⟨ob, q⟩ := RepO.some _ (R.rep a o e)
  rw [hk _ _ q, ← q]
  exact RepO.mono _ hle (R.rep a o e)
theorem Rel.push (R : Rel κ X W g env loc H s) (E : EnvOk env W asg) (o : Obj) : Rel κ X W g env loc H { s with heap := s.heap.push o } :=
  R.same (tk := s.toks) E (fun _ _ e => Heap.get?_push_of_some _ e)

/-- one object of the clean heap is turned -/
theorem Rel.turn (R : Rel κ X W g env loc H s) (E : EnvOk env W asg) {h' : Heap} {tk : Nat} {a : Addr} {o : CObj} (ha : H a ≠ none)
    (hk : ∀ b ob, b ≠ a → s.heap.get? b = some ob → h'.get? b = some ob)
    (hr : ∀ c, (cst X H s.heap).le c → RepO κ c o (h'.get? a)) : Rel κ X W g env loc (H.set a o) { s with heap := h', toks := tk } := by
  refine R.step E (fun _ => False) (fun _ q => q.elim) (fun b ob e _ q => ?_) (fun b q => ?_) (fun b ob hle e => ?_)
  · have hb : b ≠ a := fun q => ha (q ▸ e)
    exact ⟨hk b ob hb q, by unfold CH.set; rw [if_neg hb]; exact e⟩
  · have hb : b ≠ a := fun e => ha (e ▸ R.xh b q)
    unfold CH.set; rw [if_neg hb]; exact R.xh b q
  · unfold CH.set at e
    by_cases hb : b = a
    · rw [if_pos hb] at e; obtain rfl := Option.some.inj e; rw [hb]; exact hr _ hle
    · rw [if_neg hb] at e
      obtain ⟨o1, q⟩ := RepO.some _ (R.rep b ob e)
      rw [hk _ _ hb q, ← q]
      exact RepO.mono _ hle (R.rep b ob e)
/-- a new object enters the clean heap -/
theorem Rel.enter (R : Rel κ X W g env loc H s) (E : EnvOk env W asg) {h' : Heap} {tk : Nat} {a : Addr} {o : CObj} (ha : s.heap.get? a = none) (hxa : ¬ X a)
    (hk : ∀ b ob, s.heap.get? b = some ob → h'.get? b = some ob)
    (hr : ∀ c, (cst X H s.heap).le c → RepO κ c o (h'.get? a)) : Rel κ X W g env loc (H.set a o) { s with heap := h', toks := tk } := by
  refine R.step E (fun _ => False) (fun _ q => q.elim) (fun b ob e _ q => ?_) (fun b q => ?_) (fun b ob hle e => ?_)
  · have hb : b ≠ a := fun z => by rw [z, ha] at q; exact nn q
    exact ⟨hk b ob q, by unfold CH.set; rw [if_neg hb]; exact e⟩
  · have hb : b ≠ a := fun e => hxa (e ▸ q)
    unfold CH.set; rw [if_neg hb]; exact R.xh b q
  · unfold CH.set at e
    by_cases hb : b = a
    · rw [if_pos hb] at e; obtain rfl := Option.some.inj e; rw [hb]; exact hr _ hle
    · rw [if_neg hb] at e
      obtain ⟨o1, q⟩ := RepO.some _ (R.rep b ob e)
      rw [hk _ _ q, ← q]
      exact RepO.mono _ hle (R.rep b ob e)

/-- what an evaluation must leave: all but the clean heap and what the frame may write -/
noncomputable def big (W : Addr → Prop) (H : CH) (h : Heap) : PF := cst W H h
theorem Rel.big (R : Rel κ X W g env loc H s) : Rel κ X W (Mine.big W H s.heap) env loc H s := by
  refine ⟨fun a o e => (cst_some.mp e).2.2, fun a q => ?_, fun a q => ?_, R.wx, R.xh, R.xs, R.rep, fun a o e => ?_, R.gens, R.os, R.drawn, R.loc, R.cells⟩
  · cases e : Mine.big W H s.heap a with
    | none => rfl
    | some o => exact absurd (cst_some.mp e).2.1 q
  · cases e : Mine.big W H s.heap a with
    | none => rfl
    | some o => exact absurd q (cst_some.mp e).1
  · have e' := R.base a o e
    exact cst_some.mpr ⟨fun q => by rw [R.wg a q] at e'; (exact nn e'), Classical.byContradiction fun q => by rw [R.disj a q] at e'; (exact nn e'), R.keep a o e'⟩
theorem Rel.g_le (R : Rel κ X W g env loc H s) : g.le (Mine.big W H s.heap) := fun a o e =>
  cst_some.mpr ⟨fun q => by rw [R.wg a q] at e; (exact nn e), Classical.byContradiction fun q => by rw [R.disj a q] at e; (exact nn e), R.keep a o e⟩
theorem Rel.shrink {g₁ : PF} (R : Rel κ X W g₁ env loc H s) (hle : g.le g₁) (hb : ∀ a o, κ.s0.heap.get? a = some o → g a = some o) : Rel κ X W g env loc H s := by
  have hn : ∀ a, g₁ a = none → g a = none := fun a q => by
    cases e : g a with
    | none => rfl
    | some o => rw [hle a o e] at q; exact sn q
  exact ⟨fun a o e => R.keep a o (hle a o e), fun a q => hn a (R.disj a q), fun a q => hn a (R.wg a q), R.wx, R.xh, R.xs, R.rep, hb, R.gens, R.os, R.drawn, R.loc, R.cells⟩
/-- behind an evaluation that left `big`, the values in hand are still read -/
theorem Rel.over {loc' : Loc} {s' : Shared} (R : Rel κ X W g env loc H s) (R' : Rel κ X W (Mine.big W H s.heap) env loc' H' s') : (cst X H s.heap).le (cst X H' s'.heap) := by
  intro a o e
  (refine and3 (cst_some.mp e) fun e1 e2 e3 => ?_)
  have e4 : Mine.big W H s.heap a = some o := cst_some.mpr ⟨fun q => e1 (R.wx a q), e2, e3⟩
  exact cst_some.mpr ⟨e1, Classical.byContradiction fun q => by rw [R'.disj a q] at e4; (exact nn e4), R'.keep a o e4⟩
end
end Mine

/-! part S1 -/
namespace Mine
noncomputable section
open PySem PySem.W PyProof.Rows
open Classical

structure AOk (A : Around) (n : Nat) : Prop where
  hh : A.handled = none
  hd : A.depth + 3 * n + 3 < recursionLimit
  hu : A.units + 40 * n + 200 < cLine

noncomputable def No : Value → Shared → Prop := fun _ _ => False

section
variable {κ : Kit} {X W : Addr → Prop} {g : PF} {env : Env} {loc : Loc} {H H' : CH} {s : Shared} {asg : Str → Prop} {prog : Program} {A : Around}

noncomputable def Post (κ : Kit) (X W : Addr → Prop) (g : PF) (env : Env) (loc : Loc) (Q : CV → CH → Prop) : Value → Shared → Prop :=
  fun v s' => ∃ c H', Rel κ X W g env loc H' s' ∧ RepV κ.cA κ.pr (cst X H' s'.heap) c v ∧ Q c H'

theorem cap_is : cap = sizeLine := rfl
theorem cap_num : cap = 16777216 := rfl

theorem cst_push {o : Obj} : (cst X H s.heap).le (cst X H (s.heap.push o)) := fun _ _ e =>
  (cst_some.mp e).elim fun a zz1 => zz1.elim fun b c =>
  cst_some.mpr ⟨a, b, Heap.get?_push_of_some _ c⟩

theorem Rel.cst_new (R : Rel κ X W g env loc H s) {o : Obj} (hf : o.isFreed = false) : cst X H (s.heap.push o) s.heap.objs.size = some o :=
  cst_some.mpr ⟨R.notX (get_none (Nat.le_refl _)), R.fresh (Nat.le_refl _), Heap.get?_push_size _ hf⟩

theorem Post.simple {Q : CV → CH → Prop} {c : CV} {v : Value} {t : Nat} (R : Rel κ X W g env loc H s) (r : RepV κ.cA κ.pr (cst X H s.heap) c v) (q : Q c H) : Post κ X W g env loc Q v { s with toks := t } :=
  (exI2 c H ⟨R.toks t, r, q⟩)

theorem Post.int {Q : CV → CH → Prop} {i : Int} {t u : Nat} (R : Rel κ X W g env loc H s) (q : Q (.int i) H) : Post κ X W g env loc Q (.int i u) { s with toks := t } :=
  (exI2 (.int i) H ⟨R.toks t, ⟨u, rfl⟩, q⟩)
theorem Post.bool {Q : CV → CH → Prop} {b : Bool} {t : Nat} (R : Rel κ X W g env loc H s) (q : Q (.bool b) H) : Post κ X W g env loc Q (.bool b) { s with toks := t } :=
  (exI2 (.bool b) H ⟨R.toks t, rfl, q⟩)
theorem Post.none {Q : CV → CH → Prop} {t : Nat} (R : Rel κ X W g env loc H s) (q : Q .none H) : Post κ X W g env loc Q .none { s with toks := t } :=
  (exI2 (.none) H ⟨R.toks t, rfl, q⟩)

theorem alloc_sound {Q : CV → CH → Prop} {vs : List CV} {ws : Array Value} {n t : Nat} (R : Rel κ X W g env loc H s) (E : EnvOk env W asg) (q : allocL vs H Q) (rl : RepL κ.cA κ.pr (cst X H s.heap) vs ws.toList) :
    Post κ X W g env loc Q (.ref s.heap.objs.size) { s with heap := s.heap.push (listOf ws n), toks := t } := by
  obtain ⟨hz, q⟩ := q
  have hz' : ws.size ≤ cap := by have := RepL.length _ _ rl; rw [Array.length_toList] at this; lia
  rcases q with q | q
  · exact (exI2 (.lst vs) _ ⟨(R.push E _).toks t, (exI3 _ n ws ⟨rfl, R.cst_new rfl, hz', RepL.mono _ _ cst_push _ _ rl⟩), q⟩)
  · refine ⟨.ref s.heap.objs.size, _, R.enter (tk := t) E (a := s.heap.objs.size) (o := .list vs) (get_none (Nat.le_refl _)) (R.notX (get_none (Nat.le_refl _))) (fun _ _ e => Heap.get?_push_of_some _ e) (fun c hc => ?_), rfl, q _ (R.fresh (Nat.le_refl _))⟩
    · exact (exI2 ws n ⟨Heap.get?_push_size _ rfl, hz', RepL.mono _ _ hc _ _ rl⟩)

theorem tup_sound {Q : CV → CH → Prop} {vs : List CV} {ws : Array Value} {n t : Nat} (R : Rel κ X W g env loc H s) (E : EnvOk env W asg) (q : Q (.tup vs) H) (hz : ws.size ≤ cap) (rl : RepL κ.cA κ.pr (cst X H s.heap) vs ws.toList) :
    Post κ X W g env loc Q (.ref s.heap.objs.size) { s with heap := s.heap.push (tupOf ws n), toks := t } :=
  (exI2 (.tup vs) _ ⟨(R.push E _).toks t, (exI3 _ n ws ⟨rfl, R.cst_new rfl, hz, RepL.mono _ _ cst_push _ _ rl⟩), q⟩)

theorem items_at {a : CV} {va : Value} {vs : List CV} (R : Rel κ X W g env loc H s) (ra : RepV κ.cA κ.pr (cst X H s.heap) a va) (e : itemsOf H a = some vs) :
    ∃ l ws n, va = .ref l ∧ s.heap.get? l = some (listOf ws n) ∧ ws.size ≤ cap ∧ RepL κ.cA κ.pr (cst X H s.heap) vs ws.toList := by
  induction a using Mine.CV.casesOn with
  | lst us =>
    obtain rfl := Option.some.inj e
    (refine ex3 ra fun l n ws zr33g => ?_; refine and4 zr33g fun e ho hz hl => ?_; clear zr33g; try clear ra)
    exact (exI3 l ws n ⟨e, (cst_some.mp ho).2.2, hz, hl⟩)
  | ref l =>
    (refine ex2 (R.rep _ _ (itemsOf_ref e)) fun ws n zr32g => ?_; refine and3 zr32g fun ho hz hl => ?_; clear zr32g)
    exact (exI3 l ws n ⟨ra, ho, hz, hl⟩)
  | _ => exact nn e

theorem isList_of {l : Addr} {ws : Array Value} {n : Nat} (h : s.heap.get? l = some (listOf ws n)) : s.heap.IsList l ws := ⟨_, h, rfl, n, rfl⟩

theorem RepL.rep {cA : Str → Addr} {pr : Params} {h : PF} {cs : List CV} {ws : List Value} (x : RepL cA pr h cs ws) : ∀ k : Nat, RepL cA pr h (List.replicate k cs).flatten (List.replicate k ws).flatten
  | 0 => rfl
  | k + 1 => by rw [List.replicate_succ, List.replicate_succ, List.flatten_cons, List.flatten_cons]; exact RepL.append _ _ x (RepL.rep x k)
theorem bin_sound {Q : CV → CH → Prop} {op : Operator} {a b : CV} {va vb : Value} (R : Rel κ X W g env loc H s) (E : EnvOk env W asg) (q : wpBin op a b H Q)
    (ra : RepV κ.cA κ.pr (cst X H s.heap) a va) (rb : RepV κ.cA κ.pr (cst X H s.heap) b vb) : wpAny (model prog κ.w) A (binaryOp op va vb) (Post κ X W g env loc Q) No s := by
  have nolim : s.heap.NoLimit := κ.T.nolimit.keeps fun a o e => R.keep _ _ (R.base _ _ e)
  induction op using PySem.Operator.casesOn with
  | Add =>
    rcases q with q | q | q
    · obtain ⟨i, j, rfl, rfl, q⟩ := q
      obtain ⟨t, rfl⟩ := ra; obtain ⟨u, rfl⟩ := rb
      exact P.add_int (Post.int R q)
    · obtain ⟨vs, ws, rfl, rfl, q⟩ := q
      (refine ex3 ra fun l n ws zr25g => ?_; refine and4 zr25g fun zq24g ho hz hl => ?_; clear zr25g; try clear ra; obtain rfl := zq24g); (refine ex3 rb fun l2 n2 ws2 zr23g => ?_; refine and4 zr23g fun zq22g ho2 hz2 hl2 => ?_; clear zr23g; try clear rb; obtain rfl := zq22g)
      (refine and4 q fun h1 h2 h3 q => ?_)
      refine P.add_tuple (cst_some.mp ho).2.2 (cst_some.mp ho2).2.2 ?_ ?_ ?_ ?_
      · rw [Array.isEmpty_iff_size_eq_zero]; have := RepL.length _ _ hl; rw [Array.length_toList] at this; rw [this]; exact fun e => h1 (List.length_eq_zero_iff.mp e)
      · rw [Array.isEmpty_iff_size_eq_zero]; have := RepL.length _ _ hl2; rw [Array.length_toList] at this; rw [this]; exact fun e => h2 (List.length_eq_zero_iff.mp e)
      · have e1 := RepL.length _ _ hl
        have e2 := RepL.length _ _ hl2
        rw [Array.length_toList] at e1 e2
        exact tup_sound (t := s.toks) R E q (by rw [Array.size_append]; lia) (by rw [Array.toList_append]; exact RepL.append _ _ hl hl2)
      · have e1 := RepL.length _ _ hl
        have e2 := RepL.length _ _ hl2
        rw [Array.length_toList] at e1 e2
        rw [← cap_is]; lia
    · (refine ex2 q fun vs ws zr21g => ?_; refine and3 zr21g fun e1 e2 q => ?_; clear zr21g)
      (refine ex3 (items_at R ra e1) fun l us n zr20g => ?_; refine and4 zr20g fun zq19g ho hz hl => ?_; clear zr20g; obtain rfl := zq19g)
      (refine ex3 (items_at R rb e2) fun l2 us2 n2 zr18g => ?_; refine and4 zr18g fun zq17g ho2 hz2 hl2 => ?_; clear zr18g; obtain rfl := zq17g)
      refine P.add_list ho ho2 ?_ ?_
      · exact alloc_sound (t := s.toks) R E q (by rw [Array.toList_append]; exact RepL.append _ _ hl hl2)
      · have h1 := RepL.length _ _ hl
        have h2 := RepL.length _ _ hl2
        have h3 := q.1
        rw [Array.length_toList] at h1 h2
        rw [List.length_append] at h3
        rw [← cap_is]; lia
  | Sub =>
    obtain ⟨i, j, rfl, rfl, q⟩ := q
    obtain ⟨t, rfl⟩ := ra; obtain ⟨u, rfl⟩ := rb
    exact P.sub_int (Post.int R q)
  | Mult =>
    rcases q with q | q
    · obtain ⟨i, j, rfl, rfl, q⟩ := q
      obtain ⟨t, rfl⟩ := ra; obtain ⟨u, rfl⟩ := rb
      exact P.mul_int (Post.int R q.2) (IntMulOk.of_right (PySem.intBits_le_64 (by lia) (by lia)))
    · obtain ⟨vs, j, rfl, e, h1, h2, q⟩ := q
      obtain ⟨x, rfl⟩ := rb
      (refine ex3 (items_at R ra e) fun l ws n zr8g => ?_; refine and4 zr8g fun zq7g ho hz hl => ?_; clear zr8g; obtain rfl := zq7g)
      have hlen : ws.size ≤ 10 := by have := RepL.length _ _ hl; rw [Array.length_toList] at this; lia
      have hm : ws.size * j.toNat ≤ 10 * 1000000 := Nat.mul_le_mul hlen (by lia)
      by_cases hj : -(2 ^ 63) ≤ j
      · refine wpAny_binaryOp_repeat_ref (T := "list") (U := "int") (by decide) ⟨_, ho, rfl⟩ (fun s' => typeIs_int s' j x) noFill_list_mul F.fills_int_mul F.slot_int_rmul repeat_list F.slot_int_index.lookup
          (call_meets F.slot_int_rmul (typeIs_int s j x) F.entry_int_rmul (F.args_int_rmul_2 _ _) (lm_int_rmul_list_any j x l ws n none #[])
            ⟨ho, rfl, ⟨_, ho, rfl⟩, call_meets F.slot_list_mul ⟨_, ho, rfl⟩ F.entry_list_mul (F.args_list_mul_2 _ _)
              (lm_list_mul_any l ws n none #[] j x (by simp [Builtin.List.listFitsIndex]; lia) (by lia) (by simp [Builtin.List.listTooLong, sizeLine]; lia))
              ⟨ho, ?_⟩⟩)
        exact alloc_sound (t := s.toks) (ws := List.foldl (fun x1 x2 => x1 ++ x2) #[] (List.replicate (if ws.isEmpty = true then 0 else j.toNat) ws)) R E q (by
          rw [listMul_foldl_if]; exact RepL.rep hl _)
      · lia
  | FloorDiv =>
    obtain ⟨i, j, rfl, rfl, q⟩ := q
    obtain ⟨t, rfl⟩ := ra; obtain ⟨u, rfl⟩ := rb
    refine PyProof.Rows.floordiv_int (by lia) (Post.int R ?_) (Or.inl (PyProof.noPylong_small (by omega)))
    rw [Int.fdiv_eq_ediv_of_nonneg _ (by lia)]; exact q.2
  | Mod =>
    obtain ⟨i, j, rfl, rfl, q⟩ := q
    obtain ⟨t, rfl⟩ := ra; obtain ⟨u, rfl⟩ := rb
    refine PyProof.Rows.mod_int (by lia) (Post.int R ?_)
    rw [Int.fmod_eq_emod_of_nonneg _ (by lia)]; exact q.2
  | _ => exact q.elim
end
end
end Mine

/-! part S2 -/
namespace Mine
noncomputable section
open PySem PySem.W PyProof.Rows
open Classical

section
variable {κ : Kit} {X W : Addr → Prop} {g : PF} {env : Env} {loc : Loc} {H H' : CH} {s : Shared} {asg : Str → Prop} {prog : Program} {A : Around}

/-! comparison -/
mutual
theorem reads_of (h : Heap) (c₀ : PF) (hc : ∀ a o, c₀ a = some o → h.get? a = some o) : ∀ (c : CV) (n : Nat) (v : Value), okd c n → RepV κ.cA κ.pr c₀ c v → ∃ as, Reads h v (cdat c) as
  | .none, _, _, _, r => by rw [show _ = Value.none from r]; exact ⟨_, .none⟩
  | .bool b, _, _, _, r => by rw [show _ = Value.bool b from r]; exact ⟨_, .bool b⟩
  | .int i, _, _, _, zz1 => by obtain ⟨t, r⟩ := zz1; rw [r]; exact ⟨_, .int i t⟩
  | .str x, _, _, _, zz2 => by obtain ⟨t, r⟩ := zz2; rw [r]; exact ⟨_, .str x t⟩
  | .tup vs, n, _, k, zz3 => by
    (refine ex3 zz3 fun a m ws zr37g => ?_; refine and4 zr37g fun e ho _ hl => ?_; clear zr37g; try clear zz3)
    obtain ⟨as, q⟩ := readsL_of h c₀ hc vs (n - 1) ws.toList k.2 hl
    rw [e]; exact ⟨_, Reads.tuple (hc _ _ ho) rfl rfl q⟩
  | .lst vs, n, _, k, zz4 => by
    (refine ex3 zz4 fun a m ws zr36g => ?_; refine and4 zr36g fun e ho _ hl => ?_; clear zr36g; try clear zz4)
    obtain ⟨as, q⟩ := readsL_of h c₀ hc vs (n - 1) ws.toList k.2 hl
    rw [e]; exact ⟨_, Reads.list (hc _ _ ho) rfl rfl q⟩
  | .ins _ _ _, _, _, k, _ | .ref _, _, _, k, _ | .obj _ _, _, _, k, _ | .dct _, _, _, k, _ => k.elim
theorem readsL_of (h : Heap) (c₀ : PF) (hc : ∀ a o, c₀ a = some o → h.get? a = some o) : ∀ (cs : List CV) (n : Nat) (vs : List Value), okds cs n → RepL κ.cA κ.pr c₀ cs vs → ∃ as, ReadsAll h vs (cdats cs) as
  | [], _, _, _, r => by rw [show _ = [] from r]; exact ⟨_, .nil⟩
  | c :: cs, n, _, k, zz5 => by
    (refine ex2 zz5 fun w r zr35g => ?_; refine and3 zr35g fun e hv hl => ?_; clear zr35g; try clear zz5)
    obtain ⟨as, q⟩ := reads_of h c₀ hc c n w k.1 hv
    obtain ⟨bs, p⟩ := readsL_of h c₀ hc cs n r k.2 hl
    rw [e]; exact ⟨_, .cons q p⟩
end
mutual
theorem shaped_of : ∀ (c : CV) (n : Nat), okd c n → (cdat c).canLay0 = true ∧ (cdat c).depth ≤ n
  | .none, _, _ => ⟨rfl, Nat.zero_le _⟩
  | .bool b, _, _ => ⟨rfl, Nat.zero_le _⟩
  | .int i, _, _ => ⟨rfl, Nat.zero_le _⟩
  | .str x, _, k => ⟨k, Nat.zero_le _⟩
  | .tup vs, n, k => by
    have q := shapedL_of vs (n - 1) k.2
    refine ⟨q.1, ?_⟩
    show PyData.depthAll (cdats vs) + 1 ≤ n
    have := k.1; lia
  | .lst vs, n, k => by
    have q := shapedL_of vs (n - 1) k.2
    refine ⟨q.1, ?_⟩
    show PyData.depthAll (cdats vs) + 1 ≤ n
    have := k.1; lia
  | .ins _ _ _, _, k | .ref _, _, k | .obj _ _, _, k | .dct _, _, k => k.elim
theorem shapedL_of : ∀ (cs : List CV) (n : Nat), okds cs n → PyData.canLayAll0 (cdats cs) = true ∧ PyData.depthAll (cdats cs) ≤ n
  | [], _, _ => ⟨rfl, Nat.zero_le _⟩
  | c :: cs, n, k => by
    have a := shaped_of c n k.1
    have b := shapedL_of cs n k.2
    refine ⟨Bool.and_eq_true_iff.mpr ⟨a.1, b.1⟩, ?_⟩
    exact Nat.max_le.mpr ⟨a.2, b.2⟩
end
theorem cst_get {a : Addr} {o : Obj} (e : cst X H s.heap a = some o) : s.heap.get? a = some o := (cst_some.mp e).2.2
theorem hreads {a : CV} {v : Value} (R : Rel κ X W g env loc H s) (k : okh H a) (r : RepV κ.cA κ.pr (cst X H s.heap) a v) : (∃ as, Reads s.heap v (hdat H a) as) ∧ SeqAt.shaped (hdat H a) = true := by
  have other : okd a 61 → hdat H a = cdat a → (∃ as, Reads s.heap v (hdat H a) as) ∧ SeqAt.shaped (hdat H a) = true := fun k e => by
    rw [e]
    have q := shaped_of a 61 k
    exact ⟨reads_of s.heap _ (fun _ _ => cst_get) a 61 v k r, by unfold SeqAt.shaped; rw [q.1, Bool.true_and]; exact decide_eq_true (by lia)⟩
  induction a using Mine.CV.casesOn with
  | ref l =>
    obtain ⟨vs, e, k⟩ := k
    (refine ex2 (R.rep _ _ e) fun ws n zr33g => ?_; refine and3 zr33g fun ho _ hl => ?_; clear zr33g)
    obtain ⟨as, q⟩ := readsL_of s.heap _ (fun _ _ => cst_get) vs 60 ws.toList k hl
    have p := shapedL_of vs 60 k
    rw [hdat_ref e, show v = .ref l from r]
    refine ⟨⟨_, Reads.list ho rfl rfl q⟩, ?_⟩
    unfold SeqAt.shaped
    rw [show PyData.canLay0 (.list (cdats vs)) = true from p.1, Bool.true_and]
    exact decide_eq_true (show PyData.depthAll (cdats vs) + 1 ≤ _ by lia)
  | _ => exact other k rfl

noncomputable def PostB (κ : Kit) (X W : Addr → Prop) (g : PF) (env : Env) (loc : Loc) (H : CH) (Q : Bool → Prop) : Value → Shared → Prop :=
  fun v s' => ∃ t, v = .bool t ∧ Rel κ X W g env loc H s' ∧ Q t

theorem cmp_sound {Q : Bool → Prop} {op : CmpOp} {a b : CV} {va vb : Value} (hu : A.units + 64 < cLine) (R : Rel κ X W g env loc H s) (q : wpCmp op a b H Q)
    (ra : RepV κ.cA κ.pr (cst X H s.heap) a va) (rb : RepV κ.cA κ.pr (cst X H s.heap) b vb) : wpAny (model prog κ.w) A (compareOp op va vb) (PostB κ X W g env loc H Q) No s := by
  induction op using PySem.CmpOp.casesOn with
  | Eq =>
    obtain ⟨k1, k2, q⟩ := q
    obtain ⟨⟨as, r1⟩, s1⟩ := hreads R k1 ra
    obtain ⟨⟨bs, r2⟩, s2⟩ := hreads R k2 rb
    exact eq_dataH r1 r2 s1 s2 hu ⟨_, rfl, R, q⟩
  | NotEq =>
    obtain ⟨k1, k2, q⟩ := q
    obtain ⟨⟨as, r1⟩, s1⟩ := hreads R k1 ra
    obtain ⟨⟨bs, r2⟩, s2⟩ := hreads R k2 rb
    exact ne_dataH r1 r2 s1 s2 hu ⟨_, rfl, R, q⟩
  | Lt => obtain ⟨i, j, rfl, rfl, q⟩ := q; obtain ⟨t, rfl⟩ := ra; obtain ⟨u, rfl⟩ := rb; exact P.lt_int ⟨_, rfl, R, q⟩
  | LtE => obtain ⟨i, j, rfl, rfl, q⟩ := q; obtain ⟨t, rfl⟩ := ra; obtain ⟨u, rfl⟩ := rb; exact P.le_int ⟨_, rfl, R, q⟩
  | Gt => obtain ⟨i, j, rfl, rfl, q⟩ := q; obtain ⟨t, rfl⟩ := ra; obtain ⟨u, rfl⟩ := rb; exact P.gt_int ⟨_, rfl, R, q⟩
  | GtE => obtain ⟨i, j, rfl, rfl, q⟩ := q; obtain ⟨t, rfl⟩ := ra; obtain ⟨u, rfl⟩ := rb; exact P.ge_int ⟨_, rfl, R, q⟩
  | _ => exact q.elim

/-! items -/
theorem MapObj.dictOf {d : Addr} {kvs : List (Str × Value)} (x : MapObj κ (s.heap.get? d) kvs) : s.heap.DictOf (strKind κ.prog κ.w) d kvs := x
theorem valueAt_of {h : PF} : ∀ {es : List (Str × CV)} {kvs : List (Str × Value)} {x : Str} {c : CV}, es.map (·.1) = kvs.map (·.1) → RepL κ.cA κ.pr h (es.map (·.2)) (kvs.map (·.2)) → look x es = some c → ∃ v, valueAt kvs x = some v ∧ RepV κ.cA κ.pr h c v
  | [], _, _, _, _, _, e => by exact nn e
  | (k, u) :: es, [], _, _, hk, _, _ => by cases hk
  | (k, u) :: es, (k', v) :: kvs, x, c, hk, zz6, q => by
    (refine ex2 zz6 fun w r zr20g => ?_; refine and3 zr20g fun e hv hl => ?_; clear zr20g; try clear zz6)
    simp only [List.map_cons, List.cons.injEq] at hk e
    obtain ⟨rfl, hk⟩ := hk
    obtain ⟨rfl, rfl⟩ := e
    rw [look_cons] at q
    by_cases hx : k = x
    · rw [if_pos hx] at q; obtain rfl := Option.some.inj q
      exact ⟨v, by simp [valueAt, hx], hv⟩
    · rw [if_neg hx] at q
      (refine Exists.elim (valueAt_of hk hl q) fun v' zr19g => ?_; refine And.elim (fun a b => ?_) zr19g; clear zr19g)
      exact ⟨v', by rw [← a]; simp [valueAt, List.find?_cons, hx], b⟩
theorem pyIdx_some {vs : List CV} {k : Int} {c : CV} (e : pyIdx vs k = some c) : (0 ≤ k ∧ k < vs.length ∧ vs[k.toNat]? = some c) ∨ (k < 0 ∧ -(vs.length : Int) ≤ k ∧ vs[(k + vs.length).toNat]? = some c) := by
  unfold pyIdx at e
  by_cases h : 0 ≤ k
  · rw [if_pos h] at e
    have := (List.getElem?_eq_some_iff.mp e).1
    exact .inl ⟨h, by lia, e⟩
  · rw [if_neg h] at e
    by_cases h2 : -(vs.length : Int) ≤ k
    · rw [if_pos h2] at e; exact .inr ⟨by lia, h2, e⟩
    · rw [if_neg h2] at e; exact nn e

theorem PyIdx.list {vs : List CV} {k : Int} {t : Nat} {c : CV} {l : Addr} {ws : Array Value} {n : Nat} {Q : Value → Shared → Prop} (e : pyIdx vs k = some c) (ho : s.heap.get? l = some (listOf ws n)) (hz : ws.size ≤ cap)
    (hl : RepL κ.cA κ.pr (cst X H s.heap) vs ws.toList) (q : ∀ v, RepV κ.cA κ.pr (cst X H s.heap) c v → Q v s) : wpAny (model prog κ.w) A (getItem (.ref l) (.int k t)) Q No s := by
  have hn := RepL.length _ _ hl
  rw [Array.length_toList] at hn
  rw [cap_num] at hz
  rcases pyIdx_some e with ⟨h0, h1, e⟩ | ⟨h0, h1, e⟩
  · obtain ⟨v, hv, r⟩ := RepL.get _ _ hl e
    exact wpAny_getItem_list (isList_of ho) h0 (by lia) (by rw [← Array.getElem?_toList]; exact hv) (q v r)
  · obtain ⟨v, hv, r⟩ := RepL.get _ _ hl e
    exact wpAny_getItem_list_neg (isList_of ho) h0 (by rw [hn]; exact h1) (by lia) (by rw [← Array.getElem?_toList, hn]; exact hv) (q v r)
theorem PyIdx.tuple {vs : List CV} {k : Int} {t : Nat} {c : CV} {l : Addr} {ws : Array Value} {n : Nat} {Q : Value → Shared → Prop} (e : pyIdx vs k = some c) (ho : s.heap.get? l = some (tupOf ws n)) (hz : ws.size ≤ cap)
    (hl : RepL κ.cA κ.pr (cst X H s.heap) vs ws.toList) (q : ∀ v, RepV κ.cA κ.pr (cst X H s.heap) c v → Q v s) : wpAny (model prog κ.w) A (getItem (.ref l) (.int k t)) Q No s := by
  have hn := RepL.length _ _ hl
  rw [Array.length_toList] at hn
  rw [cap_num] at hz
  rcases pyIdx_some e with ⟨h0, h1, e⟩ | ⟨h0, h1, e⟩
  · obtain ⟨v, hv, r⟩ := RepL.get _ _ hl e
    have h9 : (2 : Int) ^ 63 = 9223372036854775808 := by decide
    have h8 : -2 ^ 63 ≤ k := by rw [h9]; lia
    have h7 : k < 2 ^ 63 := by rw [h9]; lia
    refine P.getItem_tuple (k := k.toNat) ho h8 h7 ?_ (by rw [← Array.getElem?_toList]; exact hv) (q v r)
    unfold seqIndex?; rw [if_neg (show ¬ k < 0 by lia)]; simp; lia
  · obtain ⟨v, hv, r⟩ := RepL.get _ _ hl e
    refine P.getItem_tuple (k := (k + vs.length).toNat) ho (by lia) (by lia) ?_ (by rw [← Array.getElem?_toList]; exact hv) (q v r)
    unfold seqIndex?; rw [if_pos h0, hn]; simp; lia

theorem typeIs_list {l : Addr} {ws : Array Value} {n : Nat} (ho : s.heap.get? l = some (listOf ws n)) : s.TypeIs (.ref l) "list" := ⟨_, ho, rfl⟩
theorem typeIs_tup {l : Addr} {ws : Array Value} {n : Nat} (ho : s.heap.get? l = some (tupOf ws n)) : s.TypeIs (.ref l) "tuple" := ⟨_, ho, rfl⟩

noncomputable def PostV (κ : Kit) (X W : Addr → Prop) (g : PF) (env : Env) (loc : Loc) (H : CH) (Q : CV → Prop) : Value → Shared → Prop :=
  fun v s' => ∃ c, Rel κ X W g env loc H s' ∧ RepV κ.cA κ.pr (cst X H s'.heap) c v ∧ Q c

theorem tail_sound {Q : CV → Prop} {ov iv : CV} {vo vi : Value} {value slice : Expr} (R : Rel κ X W g env loc H s) (q : wpIdx ov iv H Q) (hs : ∀ o i, subscripted slice false o i = operate [o, i] (getItem o i))
    (ra : RepV κ.cA κ.pr (cst X H s.heap) ov vo) (rb : RepV κ.cA κ.pr (cst X H s.heap) iv vi) : wpAny (model κ.prog κ.w) A (subscriptTail value slice vo vi) (PostV κ X W g env loc H Q) No s := by
  rcases q with q | q | q
  · obtain ⟨vs, k, c, rfl, rfl, e, q⟩ := q
    obtain ⟨t, rfl⟩ := rb
    (refine ex3 ra fun l n ws zr11g => ?_; refine and4 zr11g fun zq10g ho hz hl => ?_; clear zr11g; try clear ra; obtain rfl := zq10g)
    exact tail_any (typeIs_tup (cst_get ho)) slot_tuple_getitem.lookup (PyIdx.tuple e (cst_get ho) hz hl fun v r => ⟨c, R, r, q⟩) (hs _ _)
  · obtain ⟨d, x, es, c, rfl, rfl, e1, e2, q⟩ := q
    obtain ⟨t, rfl⟩ := rb
    rw [show vo = .ref _ from ra]
    (refine Exists.elim (R.rep _ _ e1) fun kvs zr6g => ?_; refine and4 zr6g fun hm hk hl hz => ?_; clear zr6g)
    obtain ⟨v, e3, r⟩ := valueAt_of hk hl e2
    have hm := MapObj.dictOf hm
    exact tail_any hm.typeIs slot_dict_getitem.lookup (wpAny_getItem_of (strKind_is _ _ _ _) hm.mapOf e3 ⟨c, R.toks _, r, q⟩) (hs _ _)
  · obtain ⟨vs, k, c, rfl, e1, e2, q⟩ := q
    obtain ⟨t, rfl⟩ := rb
    (refine ex3 (items_at R ra e1) fun l ws n zr2g => ?_; refine and4 zr2g fun zq1g ho hz hl => ?_; clear zr2g; obtain rfl := zq1g)
    exact tail_any (typeIs_list ho) slot_list_getitem.lookup (PyIdx.list e2 ho hz hl fun v r => ⟨c, R, r, q⟩) (hs _ _)
end
end
end Mine

/-! part S3 -/
namespace Mine
noncomputable section
open PySem PySem.W PyProof.Rows
open Classical

noncomputable def biFun (f : Str) : Prop := f = "len" ∨ f = "min" ∨ f = "max"
noncomputable def tyFun (f : Str) : Prop := f = "list" ∨ f = "int" ∨ f = "range" ∨ f = "enumerate"

structure KOk (κ : Kit) (T : Str → Str → Option FD) (fa : Str → Str → Addr) : Prop where
  getOk : ∀ C n, attrOk C n → plainGet κ.K (κ.cA C) n = true ∧ hasDictIn κ.K (κ.cA C) = true ∧ ∃ attr, findIn κ.K (.ref (κ.cA C)) n = some attr ∧ noGet κ.K attr = true
  setOk : ∀ C n, attrOk C n → findIn κ.K (.ref (κ.cA C)) "__setattr__" = some (some (.builtin "object.__setattr__")) ∧ plainOver κ.K (κ.cA C) = true ∧ takerIn κ.K (κ.cA C) n = some none
  glob : ∀ x c, gconst x = some c → ∃ v, nsIn κ.K mainGlobals x = some (some v) ∧ RepV κ.cA κ.pr (fun a => κ.K.lookup a) c v
  bi : ∀ f : Str, biFun f ∨ tyFun f → nsIn κ.K mainGlobals f = some none
  meth : ∀ C m, hasMeth C m → plainGet κ.K (κ.cA C) m = true ∧ findIn κ.K (.ref (κ.cA C)) m = some (some (.ref (fa C m))) ∧ isFn κ.K (.ref (fa C m)) = true ∧ keepIn κ.K (.ref (fa C m)) = true
  fn : ∀ f fd, T "" f = some fd → nsIn κ.K mainGlobals f = some (some (.ref (fa "" f))) ∧ keepIn κ.K (.ref (fa "" f)) = true
  cls : ∀ C, isClass C → nsIn κ.K mainGlobals C = some (some (.ref (κ.cA C))) ∧ keepIn κ.K (.ref (κ.cA C)) = true ∧ makesIn κ.K (κ.cA C) = true ∧ findIn κ.K (.ref (κ.cA C)) "__init__" = some (some (.ref (fa C "__init__"))) ∧ typeIn κ.K (.ref (fa C "__init__")) = some (.type "function")

theorem boot_len : bootBuiltins "len" = some (.builtin "len") := by decide +kernel
theorem boot_min : bootBuiltins "min" = some (.builtin "min") := by decide +kernel
theorem boot_max : bootBuiltins "max" = some (.builtin "max") := by decide +kernel
theorem boot_list : bootBuiltins "list" = some (.type "list") := by decide +kernel
theorem boot_int : bootBuiltins "int" = some (.type "int") := by decide +kernel
theorem boot_range : bootBuiltins "range" = some (.type "range") := by decide +kernel
theorem boot_enum : bootBuiltins "enumerate" = some (.type "enumerate") := by decide +kernel

section
variable {κ : Kit} {T : Str → Str → Option FD} {fa : Str → Str → Addr} {X W : Addr → Prop} {g : PF} {env : Env} {loc : Loc} {H H' : CH} {s : Shared} {asg : Str → Prop} {A : Around}

theorem Rel.amb (R : Rel κ X W g env loc H s) : ∀ a o, κ.s0.heap.get? a = some o → s.heap.get? a = some o := fun a o e => R.keep _ _ (R.base _ _ e)
theorem Rel.K (R : Rel κ X W g env loc H s) : κ.K.In s.heap := κ.KX.keeps R.amb
/-- an object of the world ahead is no part of what may be turned -/
theorem Rel.base_cst (R : Rel κ X W g env loc H s) (hX : ∀ a o, κ.s0.heap.get? a = some o → ¬ X a) : PF.le (fun a => κ.s0.heap.get? a) (cst X H s.heap) := fun a o e =>
  cst_some.mpr ⟨hX a o e, Classical.byContradiction fun q => by have := R.base a o e; rw [R.disj a q] at this; (exact nn this), R.amb a o e⟩

theorem name_bi (E : EnvOk env W asg) (O : KOk κ T fa) (R : Rel κ X W g env loc H s) {f : Str} {v : Value} {pos : Pos} {Q : Value → Shared → Prop} {F : Value → Shared → Prop} (hf : biFun f ∨ tyFun f) (hv : bootBuiltins f = some v)
    (hk : env.kindOf f = some .globalImplicit) (hd : (f == ("__debug__" : Str)) = false) (hn : f ≠ "__name__") (h : Q v s) : wpAny (model κ.prog κ.w) A (eval (.Name f pos) env) Q F s := by
  refine PySem.Calls.Name_function_global E.hk hk (PySem.Calls.loadGlobal_builtin (mg := κ.mg) (mb := κ.mb) ?_ (mg_none_of κ.KX κ.T.g (O.bi f hf)) ?_ ((κ.T.builtins f hn).trans hv) h) hd
  · rw [E.hg]; exact κ.T.g.keeps R.amb
  · rw [E.hb]; exact κ.T.b.keeps R.amb
theorem name_glob (E : EnvOk env W asg) (R : Rel κ X W g env loc H s) {f : Str} {v : Value} {pos : Pos} {Q : Value → Shared → Prop} {F : Value → Shared → Prop} (hf : nsIn κ.K mainGlobals f = some (some v))
    (hk : env.kindOf f = some .globalImplicit) (hd : (f == ("__debug__" : Str)) = false) (h : Q v s) : wpAny (model κ.prog κ.w) A (eval (.Name f pos) env) Q F s := by
  refine PySem.Calls.Name_function_global E.hk hk (PySem.Calls.loadGlobal_global (mg := κ.mg) ?_ (mg_of κ.KX κ.T.g hf) h) hd
  rw [E.hg]; exact κ.T.g.keeps R.amb

theorem wpName_or {x : Str} {Q : CV → Prop} (q : wpName loc x Q) : (∃ c, look x loc = some c ∧ Q c) ∨ ∃ c, gconst x = some c ∧ Q c := by
  unfold wpName at q
  cases e : look x loc with
  | none => rw [e] at q; exact .inr q
  | some c => rw [e] at q; exact .inl ⟨c, rfl, q⟩
theorem name_sound (E : EnvOk env W asg) (O : KOk κ T fa) (R : Rel κ X W g env loc H s) (hX : ∀ a o, κ.s0.heap.get? a = some o → ¬ X a) {x : Str} {pos : Pos} {Q : CV → Prop} (q : wpName loc x Q)
    (hk : gconst x ≠ none → env.kindOf x = some .globalImplicit) (hd : (x == ("__debug__" : Str)) = false) (hc : (x == ("__classdict__" : Str)) = false) : wpAny (model κ.prog κ.w) A (eval (.Name x pos) env) (PostV κ X W g env loc H Q) No s := by
  rcases wpName_or q with ⟨c, e, q⟩ | ⟨c, e, q⟩
  · obtain ⟨m, hn, hl⟩ := R.loc
    rcases hl x c e with ⟨k, v, e1, r⟩ | ⟨k, a, v, e1, i, r⟩
    · exact wpAny_Name (wpAny_loadName_local E.hk k hn e1 ⟨c, R, r, q⟩) hd
    · rcases k with k | k
      · exact wpAny_Name (wpAny_loadName_cell E.hk k e1 i ⟨c, R, r, q⟩) hd
      · exact wpAny_Name (wpAny_loadName_free E.hk k e1 i ⟨c, R, r, q⟩ hc) hd
  · (refine Exists.elim (O.glob x c e) fun v zr45g => ?_; refine And.elim (fun e1 r => ?_) zr45g; clear zr45g)
    refine name_glob E R e1 (hk (by rw [e]; simp)) hd ⟨c, R, RepV.mono _ _ (fun a o p => ?_) _ _ r, q⟩
    exact R.base_cst hX a o (κ.KX _ _ p)

/-! attributes -/
theorem RepV.handed {h : PF} : ∀ {c : CV} {v : Value}, RepV κ.cA κ.pr h c v → handedIn v = true
  | .none, _, r | .bool _, _, r | .ref _, _, r | .dct _, _, r => by rw [r]; rfl
  | .int _, _, ⟨_, r⟩ | .str _, _, ⟨_, r⟩ | .obj _ _, _, ⟨_, r, _⟩ => by rw [r]; rfl
  | .tup _, _, ⟨_, _, _, r, _⟩ | .lst _, _, ⟨_, _, _, r, _⟩ | .ins _ _ _, _, ⟨_, _, _, _, _, r, _⟩ => by rw [r]; rfl
theorem isStr_str (k x : Str) (t : Nat) : Value.isStr (.str k t) x = decide (k = x) := by
  by_cases h : k = x
  · subst h; simp [Value.isStr]
  · simp [Value.isStr, h]
theorem EsAre.noRef {pr : Params} : ∀ {es : List DictEntry} {ks : List Str} {vs : List Value}, EsAre pr es ks vs → es.any (·.refKey) = false
  | [], _, _, _ => rfl
  | e :: es, _, _, zz1 => by
    (refine ex4 zz1 fun k kr v vr zr44g => ?_; refine and6 zr44g fun _ _ zq43g _ _ r => ?_; clear zr44g; try clear zz1; obtain ⟨t, hk⟩ := zq43g)
    rw [List.any_cons, EsAre.noRef r, Bool.or_false]
    unfold DictEntry.refKey; rw [hk]
theorem getL_some {h : PF} {x : Str} : ∀ {es : List DictEntry} {ks : List Str} {ws : List Value} {cs : List CV} {c : CV}, EsAre κ.pr es ks ws → RepL κ.cA κ.pr h cs ws → look x (ks.zip cs) = some c → ∃ v, getL x es = some (some v) ∧ RepV κ.cA κ.pr h c v
  | [], _, _, _, _, zz2, _, q => by obtain ⟨e1, _⟩ := zz2; rw [e1] at q; exact nn q
  | e :: es, _, _, [], _, zz3, l, q => by (refine ex4 zz3 fun k kr v vr zr42g => ?_; refine and3 zr42g fun e1 e2 _ => ?_; clear zr42g; try clear zz3); rw [e1] at q; exact nn q
  | e :: es, _, _, c0 :: cs, c, zz4, zz5, q => by
    (refine ex4 zz4 fun k kr v vr zr41g => ?_; refine and6 zr41g fun e1 e2 zq40g hv hh r => ?_; clear zr41g; try clear zz4; obtain ⟨t, hk⟩ := zq40g)
    (refine ex2 zz5 fun w wr zr39g => ?_; refine and3 zr39g fun e3 rv rl => ?_; clear zr39g; try clear zz5)
    rw [e1] at q
    rw [e2] at e3
    obtain ⟨rfl, rfl⟩ := List.cons.inj e3
    rw [List.zip_cons_cons, look_cons] at q
    by_cases hx : k = x
    · rw [if_pos hx] at q; obtain rfl := Option.some.inj q
      refine ⟨v, ?_, rv⟩
      unfold getL; rw [List.find?_cons, hk, isStr_str, hx]; simp [hv]
    · rw [if_neg hx] at q
      (refine Exists.elim (getL_some r rl q) fun v' zr38g => ?_; refine And.elim (fun a b => ?_) zr38g; clear zr38g)
      refine ⟨v', ?_, b⟩
      rw [← a]
      unfold getL; rw [List.find?_cons, hk, isStr_str, decide_eq_false hx, List.any_cons]
      have : e.refKey = false := by unfold DictEntry.refKey; rw [hk]
      rw [this, Bool.false_or]
theorem getL_none {x : Str} : ∀ {es : List DictEntry} {es0 : List (Str × CV)} {ws : List Value}, EsAre κ.pr es (es0.map (·.1)) ws → look x es0 = none → getL x es = some none
  | [], _, _, _, _ => rfl
  | e :: es, [], _, zz6, _ => by (refine ex4 zz6 fun k kr v vr zr37g => ?_; refine And.elim (fun e1 _ => ?_) zr37g; clear zr37g; try clear zz6); cases e1
  | e :: es, (k0, c0) :: es0, _, zz7, q => by
    (refine ex4 zz7 fun k kr v vr zr36g => ?_; refine and6 zr36g fun e1 e2 zq35g hv hh r => ?_; clear zr36g; try clear zz7; obtain ⟨t, hk⟩ := zq35g)
    simp only [List.map_cons, List.cons.injEq] at e1
    obtain ⟨rfl, rfl⟩ := e1
    rw [look_cons] at q
    by_cases hx : k0 = x
    · rw [if_pos hx] at q; exact sn q
    · rw [if_neg hx] at q
      rw [← getL_none r q]
      unfold getL; rw [List.find?_cons, hk, isStr_str, decide_eq_false hx, List.any_cons]
      have : e.refKey = false := by unfold DictEntry.refKey; rw [hk]
      rw [this, Bool.false_or]
theorem zip_map {α β : Type} : ∀ l : List (α × β), (l.map (·.1)).zip (l.map (·.2)) = l
  | [] => rfl
  | (a, b) :: l => by rw [List.map_cons, List.map_cons, List.zip_cons_cons, zip_map l]

theorem attr_sound {Q : CV → Prop} {ov : CV} {vo : Value} {n : Str} {b : Bool} (O : KOk κ T fa) (R : Rel κ X W g env loc H s) (q : wpAttr ov n H Q) (ro : RepV κ.cA κ.pr (cst X H s.heap) ov vo) :
    wpAny (model κ.prog κ.w) A (getAttr vo n b) (PostV κ X W g env loc H Q) No s := by
  induction ov using Mine.CV.casesOn with
  | obj C d =>
    (refine And.elim (fun hc zr33g => ?_) q; refine ex2 zr33g fun es c zr34g => ?_; refine and3 zr34g fun e1 e2 q => ?_; clear zr33g zr34g)
    (refine Exists.elim ro fun x zr32g => ?_; refine And.elim (fun zq31g hx => ?_) zr32g; clear zr32g; try clear ro; obtain rfl := zq31g)
    (refine ex3 (R.rep _ _ e1) fun es' n' ws zr30g => ?_; refine and4 zr30g fun hd ha hl _ => ?_; clear zr30g)
    obtain ⟨v, g1, r⟩ := getL_some (x := n) ha hl (by rw [zip_map]; exact e2)
    (refine and3 (O.getOk C n hc) fun k1 k2 zr27g => ?_; refine Exists.elim zr27g fun attr zr28g => ?_; refine And.elim (fun k3 k4 => ?_) zr28g; clear zr27g zr28g)
    exact get_value R.K ⟨cst_get hx, rfl, rfl, hd⟩ (plainGet_of k1).1 (findObj_own (od := dictOf es' n') k2 k3 k4 g1) r.handed ⟨c, R.toks _, r, q⟩
  | ins C ks vs =>
    (refine And.elim (fun hc zr25g => ?_) q; refine Exists.elim zr25g fun c zr26g => ?_; refine And.elim (fun e2 q => ?_) zr26g; clear zr25g zr26g)
    (refine ex5 ro fun x d es' n' ws zr24g => ?_; refine and5 zr24g fun zq23g hx hd ha hl => ?_; clear zr24g; try clear ro; obtain rfl := zq23g)
    (refine Exists.elim (getL_some (x := n) ha hl e2) fun v zr22g => ?_; refine And.elim (fun g1 r => ?_) zr22g; clear zr22g)
    (refine and3 (O.getOk C n hc) fun k1 k2 zr20g => ?_; refine Exists.elim zr20g fun attr zr21g => ?_; refine And.elim (fun k3 k4 => ?_) zr21g; clear zr20g zr21g)
    exact get_value R.K ⟨cst_get hx, rfl, rfl, cst_get hd⟩ (plainGet_of k1).1 (findObj_own (od := dictOf es' n') k2 k3 k4 g1) r.handed ⟨c, R.toks _, r, q⟩
  | _ => exact q.elim

theorem putL_are {h : PF} {x : Str} {c : CV} {v : Value} {t : Nat} : ∀ {es : List DictEntry} {es0 : List (Str × CV)} {ws : List Value}, EsAre κ.pr es (es0.map (·.1)) ws → RepL κ.cA κ.pr h (es0.map (·.2)) ws → RepV κ.cA κ.pr h c v →
    ∃ ws', EsAre κ.pr (putL x (PyData.keyHash κ.pr x) (.str x t) v es) ((put x c es0).map (·.1)) ws' ∧ RepL κ.cA κ.pr h ((put x c es0).map (·.2)) ws'
  | [], [], _, _, _, r => ⟨[v], (exI4 x [] v [] ⟨rfl, rfl, ⟨t, rfl⟩, rfl, rfl, rfl, rfl⟩), (exI2 v [] ⟨rfl, r, rfl⟩)⟩
  | [], _ :: _, _, zz8, _, _ => by obtain ⟨e, _⟩ := zz8; cases e
  | _ :: _, [], _, zz9, _, _ => by (refine ex4 zz9 fun _ _ _ _ zr19g => ?_; refine And.elim (fun e _ => ?_) zr19g; clear zr19g; try clear zz9); cases e
  | e :: es, (k0, c0) :: es0, _, zz10, zz11, r => by
    (refine ex4 zz10 fun k kr u ur zr18g => ?_; refine and6 zr18g fun e1 e2 zq17g hv hh ra => ?_; clear zr18g; try clear zz10; obtain ⟨t', hk⟩ := zq17g)
    (refine ex2 zz11 fun w wr zr16g => ?_; refine and3 zr16g fun e3 rv rl => ?_; clear zr16g; try clear zz11)
    simp only [List.map_cons, List.cons.injEq] at e1
    obtain ⟨rfl, rfl⟩ := e1
    rw [e2] at e3
    obtain ⟨rfl, rfl⟩ := List.cons.inj e3
    unfold putL
    rw [put_cons]
    rw [hk, isStr_str]
    by_cases hx : k0 = x
    · rw [if_pos hx, decide_eq_true hx, if_pos rfl]
      exact ⟨v :: ur, (exI4 k0 _ v ur ⟨rfl, rfl, ⟨t', hx ▸ rfl⟩, rfl, hh, ra⟩), (exI2 v ur ⟨rfl, r, rl⟩)⟩
    · rw [if_neg hx, decide_eq_false hx, if_neg (by simp)]
      obtain ⟨ws', a, b⟩ := putL_are ra rl r
      exact ⟨u :: ws', (exI4 k0 _ u ws' ⟨rfl, rfl, ⟨t', hk⟩, hv, hh, a⟩), (exI2 u ws' ⟨rfl, rv, b⟩)⟩
theorem EsAre.length {pr : Params} : ∀ {es : List DictEntry} {ks : List Str} {vs : List Value}, EsAre pr es ks vs → es.length = ks.length
  | [], _, _, zz12 => by obtain ⟨e, _⟩ := zz12; rw [e]; rfl
  | _ :: _, _, _, zz13 => by (refine ex4 zz13 fun _ _ _ _ zr14g => ?_; refine and6 zr14g fun e _ _ _ _ r => ?_; clear zr14g; try clear zz13); rw [e, List.length_cons, List.length_cons, EsAre.length r]

/-- every object of a heap but two, as a ledger over nothing -/
noncomputable def allBut (h : Heap) (L d : Addr) : List (Addr × Obj) := (List.range h.objs.size).filterMap fun a => if a = L ∨ a = d then none else (h.get? a).map (a, ·)
theorem allBut_mem {h : Heap} {L d a : Addr} {o : Obj} : (a, o) ∈ allBut h L d ↔ h.get? a = some o ∧ a ≠ L ∧ a ≠ d := by
  unfold allBut
  rw [List.mem_filterMap]
  constructor
  · rintro ⟨b, _, hb⟩
    by_cases hx : b = L ∨ b = d
    · rw [if_pos hx] at hb; exact nn hb
    · rw [if_neg hx] at hb
      (refine Exists.elim (Option.map_eq_some_iff.mp hb) fun o' zr13g => ?_; refine And.elim (fun e1 e2 => ?_) zr13g; clear zr13g)
      obtain ⟨rfl, rfl⟩ := Prod.mk.inj e2
      exact ⟨e1, fun q => hx (.inl q), fun q => hx (.inr q)⟩
  · rintro ⟨e, h1, h2⟩
    refine ⟨a, List.mem_range.mpr (Heap.lt_size e), ?_⟩
    rw [if_neg (by rintro (q | q); exact h1 q; exact h2 q), e]; rfl
noncomputable def noHeap : Heap := {}
theorem noHeap_get (a : Addr) : noHeap.get? a = none := by unfold noHeap Heap.get?; simp

theorem Rel.turnL (R : Rel κ X W g env loc H s) (E : EnvOk env W asg) {h' : Heap} {tk : Nat} {a : Addr} {o : CObj} {m : Str → Option Value} (ha : H a ≠ none) (_hn : s.heap.Ns env.locals m)
    (hloc : ∀ x c, look x loc = some c → VarIs κ env m (cst X H s.heap) s.heap x c)
    (hk : ∀ b ob, b ≠ a → b ≠ env.locals → s.heap.get? b = some ob → h'.get? b = some ob) (hn' : h'.Ns env.locals m)
    (hr : ∀ c, (cst X H s.heap).le c → RepO κ c o (h'.get? a)) : Rel κ X W g env loc (H.set a o) { s with heap := h', toks := tk } := by
  have hL := R.xh _ (R.wx _ E.wl)
  have hset : ∀ b, b ≠ a → (H.set a o) b = H b := fun b hb => by unfold CH.set; rw [if_neg hb]
  have hnH : ∀ b, H b = none → b ≠ a := fun b e q => ha (q ▸ e)
  have hle : (cst X H s.heap).le (cst X (H.set a o) h') := by
    intro b ob e
    (refine and3 (cst_some.mp e) fun e1 e2 e3 => ?_)
    exact cst_some.mpr ⟨e1, by rw [hset b (hnH b e2)]; exact e2, hk b ob (hnH b e2) (fun q => e1 (q ▸ R.wx _ E.wl)) e3⟩
  have hg : ∀ b ob, g b = some ob → b ≠ a ∧ b ≠ env.locals ∧ H b = none := fun b ob e => by
    have q : H b = none := Classical.byContradiction fun q => by rw [R.disj b q] at e; (exact nn e)
    exact ⟨hnH b q, fun q => by rw [q, R.wg _ E.wl] at e; (exact nn e), q⟩
  refine ⟨fun b ob e => hk b ob (hg b ob e).1 (hg b ob e).2.1 (R.keep b ob e), fun b q => ?_, R.wg, R.wx, fun b q => by rw [hset b (hnH b (R.xh b q))]; exact R.xh b q, fun b q => ?_, fun b ob e => ?_, R.base, R.gens, R.os, R.drawn, ?_, ?_⟩
  · cases e : g b with
    | none => rfl
    | some ob => exact absurd ((hset b (hg b ob e).1).trans (hg b ob e).2.2) q
  · by_cases hb : b = env.locals
    · (refine ex3 hn' fun ol _ _ zr12g => ?_; refine And.elim (fun e _ => ?_) zr12g; clear zr12g; try clear hn'); exact ⟨ol, hb ▸ e⟩
    · obtain ⟨ob, e⟩ := R.xs b q; exact ⟨ob, hk b ob (hnH b (R.xh b q)) hb e⟩
  · by_cases hb : b = a
    · subst hb
      have : o = ob := by unfold CH.set at e; rw [if_pos rfl] at e; exact Option.some.inj e
      rw [← this]; exact hr _ hle
    · rw [hset b hb] at e
      obtain ⟨o1, q⟩ := RepO.some _ (R.rep b ob e)
      rw [hk b o1 hb (fun q => by rw [q, hL] at e; (exact nn e)) q, ← q]
      exact RepO.mono _ hle (R.rep b ob e)
  · refine ⟨m, hn', fun x c e => (hloc x c e).mono hle ?_⟩
    rintro b v q ⟨oc, h1, h2⟩
    exact ⟨oc, hk b oc (hnH b (R.xh b (R.cells x b q).1)) (E.nl x b q) h1, h2⟩
  · intro x b q
    (refine And.elim (fun h0 zr10g => ?_) (R.cells x b q); refine ex2 zr10g fun v oc zr11g => ?_; refine And.elim (fun h1 h2 => ?_) zr11g; clear zr10g zr11g)
    exact ⟨h0, v, oc, hk b oc (hnH b (R.xh b h0)) (E.nl x b q) h1, h2⟩

noncomputable def PostH (κ : Kit) (X W : Addr → Prop) (g : PF) (env : Env) (loc : Loc) (Q : CH → Prop) : Unit → Shared → Prop :=
  fun _ s' => ∃ H', Rel κ X W g env loc H' s' ∧ Q H'

theorem setAttr_sound {Q : CH → Prop} {ov c : CV} {vo v : Value} {n : Str} (O : KOk κ T fa) (E : EnvOk env W asg) (R : Rel κ X W g env loc H s) (q : wpSetAttr ov n c H Q) (ro : RepV κ.cA κ.pr (cst X H s.heap) ov vo)
    (rv : RepV κ.cA κ.pr (cst X H s.heap) c v) : wpAny (model κ.prog κ.w) A (setAttr vo n v) (PostH κ X W g env loc Q) No s := by
  induction ov using Mine.CV.casesOn with
  | obj C d =>
    (refine And.elim (fun hc zr8g => ?_) q; refine Exists.elim zr8g fun es zr9g => ?_; refine and3 zr9g fun e1 hz q => ?_; clear zr8g zr9g)
    (refine Exists.elim ro fun x zr7g => ?_; refine And.elim (fun zq6g hx => ?_) zr7g; clear zr7g; try clear ro; obtain rfl := zq6g)
    (refine ex3 (R.rep _ _ e1) fun es' n' ws zr5g => ?_; refine and4 zr5g fun hd ha hl hz' => ?_; clear zr5g)
    (refine and3 (O.getOk C n hc) fun k1 k2 zr3g => ?_; refine Exists.elim zr3g fun attr zr4g => ?_; refine And.elim (fun k3 k4 => ?_) zr4g; clear zr3g zr4g)
    (refine and3 (O.setOk C n hc) fun s1 s2 s3 => ?_)
    have I : InstAt s.heap x (instObj (κ.cA C) d) (κ.cA C) (some (dictOf es' n')) := ⟨cst_get hx, rfl, rfl, hd⟩
    (refine Exists.elim R.loc fun m zr2g => ?_; refine And.elim (fun hn hloc => ?_) zr2g; clear zr2g)
    have hdL : d ≠ env.locals := fun q => by have := R.xh _ (R.wx _ E.wl); rw [← q, e1] at this; exact sn this
    have F : Fr noHeap env.locals s.heap m := ⟨hn, fun b o e => by (rw [noHeap_get] at e; exact nn e), Nat.zero_le _⟩
    have N : News noHeap env.locals s.heap (allBut s.heap env.locals d ++ (d, dictOf es' n') :: []) := fun p hp => by
      rcases List.mem_append.mp hp with hp | hp
      · obtain ⟨a, o⟩ := p
        (refine and3 (allBut_mem.mp hp) fun h1 h2 _ => ?_)
        exact ⟨h1, h2, noHeap_get _⟩
      · rcases List.mem_singleton.mp hp with rfl
        exact ⟨hd, hdL, noHeap_get _⟩
    have lk : (getL n es').isSome = true := by
      unfold getL
      rw [EsAre.noRef ha]
      cases List.find? _ es' <;> rfl
    obtain ⟨ws', p1, p2⟩ := putL_are (x := n) (t := s.toks + 1) ha hl rv
    have hlen := EsAre.length p1
    rw [List.length_map] at hlen
    refine set_plain R.K I s1 (osa_dict (s := { s with toks := s.toks + 1 }) (post := []) F N R.K I rfl s2 s3 k2 lk (fun p hp => (allBut_mem.mp (show (p.1, p.2) ∈ _ from hp)).2.2) (fun _ hp => (nomatch hp)) (putName_dict _ _ _ _ _ _) rfl (by rw [hlen]; lia) fun h' F' N' => ?_)
    have hd' := N'.get (List.mem_append_right _ (List.mem_singleton.mpr rfl))
    refine ⟨_, R.turnL E (a := d) (by rw [e1]; simp) hn hloc (fun b ob h1 h2 q => N'.get (List.mem_append_left _ (allBut_mem.mpr ⟨q, h2, h1⟩))) F'.ns fun c' hc' => ?_, q⟩
    exact (exI3 _ _ ws' ⟨hd', p1, RepL.mono _ _ hc' _ _ p2, hz⟩)
  | _ => exact q.elim
end
end
end Mine

/-! part S4 -/
namespace Mine
noncomputable section
open PySem PySem.W PyProof.Rows
open Classical

section
variable {κ : Kit} {T : Str → Str → Option FD} {fa : Str → Str → Addr} {X W : Addr → Prop} {g : PF} {env : Env} {loc : Loc} {H H' : CH} {s : Shared} {asg : Str → Prop} {A : Around}

theorem Rel.seqTurn (R : Rel κ X W g env loc H s) (E : EnvOk env W asg) {a : Addr} {vs vs' : List CV} {ws : Array Value} {n t : Nat} {f : Array Value → Array Value} (e : H a = some (.list vs)) (ho : s.heap.get? a = some (listOf ws n))
    (hz : (f ws).size ≤ cap) (hl : RepL κ.cA κ.pr (cst X H s.heap) vs' (f ws).toList) : Rel κ X W g env loc (H.set a (.list vs')) { s with heap := s.heap.update a (Obj.mapSeq f), toks := t } := by
  refine R.turn E (by rw [e]; simp) (fun b ob hb q => (Heap.get?_update_other _ _ (Ne.symm hb)).trans q) fun c hc => ?_
  exact (exI2 (f ws) _ ⟨Heap.get?_update_self _ ho rfl, hz, RepL.mono _ _ hc _ _ hl⟩)

theorem stored_put {h : PF} {x : Str} {c : CV} {v : Value} : ∀ {es : List (Str × CV)} {kvs : List (Str × Value)} {c0 : CV}, es.map (·.1) = kvs.map (·.1) → RepL κ.cA κ.pr h (es.map (·.2)) (kvs.map (·.2)) → RepV κ.cA κ.pr h c v → (kvs.map (·.1)).Nodup → look x es = some c0 →
    (put x c es).map (·.1) = (kvs.map (fun kv => if kv.1 = x then (kv.1, v) else kv)).map (·.1) ∧ RepL κ.cA κ.pr h ((put x c es).map (·.2)) ((kvs.map (fun kv => if kv.1 = x then (kv.1, v) else kv)).map (·.2)) ∧ kvs.any (fun kv => kv.1 = x) = true ∧ (put x c es).length = es.length
  | [], _, _, _, _, _, _, q => by exact nn q
  | (k, u) :: es, [], _, hk, _, _, _, _ => by cases hk
  | (k, u) :: es, (k', w) :: kvs, c0, hk, zz1, rv, hn, q => by
    (refine ex2 zz1 fun w' r zr20g => ?_; refine and3 zr20g fun e hv hl => ?_; clear zr20g; try clear zz1)
    simp only [List.map_cons, List.cons.injEq] at hk e
    obtain ⟨rfl, hk⟩ := hk
    obtain ⟨rfl, rfl⟩ := e
    rw [look_cons] at q
    rw [put_cons]
    rw [List.map_cons, List.nodup_cons] at hn
    by_cases hx : k = x
    · rw [if_pos hx]
      have hm : kvs.map (fun kv => if kv.1 = x then (kv.1, v) else kv) = kvs := map_store_of_not_mem kvs x v (by rw [← hx]; exact hn.1)
      rw [List.map_cons (f := fun kv : Str × Value => if kv.1 = x then (kv.1, v) else kv), if_pos hx, hm]
      exact ⟨by simp [hk], (exI2 v _ ⟨rfl, rv, hl⟩), by simp [hx], rfl⟩
    · rw [if_neg hx] at q ⊢
      (refine and4 (stored_put hk hl rv hn.2 q) fun a b d f => ?_)
      rw [List.map_cons (f := fun kv : Str × Value => if kv.1 = x then (kv.1, v) else kv), if_neg hx]
      refine ⟨by rw [List.map_cons, List.map_cons, a], (exI2 w _ ⟨rfl, hv, b⟩), by rw [List.any_cons, d, Bool.or_true], by rw [List.length_cons, List.length_cons, f]⟩

theorem setIdx_sound {Q : CH → Prop} {ov iv c : CV} {vo vi v : Value} (E : EnvOk env W asg) (R : Rel κ X W g env loc H s) (q : wpSetIdx ov iv c H Q) (ro : RepV κ.cA κ.pr (cst X H s.heap) ov vo)
    (ri : RepV κ.cA κ.pr (cst X H s.heap) iv vi) (rv : RepV κ.cA κ.pr (cst X H s.heap) c v) : wpAny (model κ.prog κ.w) A (setItem vo vi v) (PostH κ X W g env loc Q) No s := by
  rcases q with q | q
  · obtain ⟨a, k, vs, rfl, rfl, e, q⟩ := q
    (refine ex2 (R.rep _ _ e) fun ws n zr16g => ?_; refine and3 zr16g fun ho hz hl => ?_; clear zr16g)
    rw [show vo = .ref a from ro]
    obtain ⟨t, rfl⟩ := ri
    have hn := RepL.length _ _ hl
    rw [Array.length_toList] at hn
    have hz' := hz
    rw [cap_num] at hz'
    rcases q with ⟨h0, h1, q⟩ | ⟨h0, h1, q⟩
    · exact ki_setAt ho h0 (by lia) (by lia) ⟨_, R.seqTurn (t := s.toks) E e ho (f := (·.setIfInBounds k.toNat v)) (by rw [Array.size_setIfInBounds]; exact hz) (by rw [Array.toList_setIfInBounds]; exact RepL.set _ _ hl rv), q⟩
    · exact ki_setBack ho h0 (by lia) (by lia) ⟨_, R.seqTurn (t := s.toks) E e ho (f := (·.setIfInBounds (k + ws.size).toNat v)) (by rw [Array.size_setIfInBounds]; exact hz) (by rw [Array.toList_setIfInBounds, hn]; exact RepL.set _ _ hl rv), q⟩
  · obtain ⟨d, x, es, c0, rfl, rfl, e, e2, q⟩ := q
    (refine Exists.elim (R.rep _ _ e) fun kvs zr12g => ?_; refine and4 zr12g fun hm hk hl hz => ?_; clear zr12g)
    rw [show vo = .ref d from ro]
    obtain ⟨t, rfl⟩ := ri
    have hm' := MapObj.dictOf hm
    (refine ex3 (id hm) fun _ _ _ zr11g => ?_; refine and6 zr11g fun _ _ _ _ _ hnd => ?_; clear zr11g)
    (refine and4 (stored_put hk hl rv hnd e2) fun p1 p2 p3 p4 => ?_)
    have hlen : kvs.length = es.length := by have := congrArg List.length hk; simpa using this.symm
    refine wpAny_setItem_pairs (strKind_is _ _ _ _) hm' (fun h' hd' hs => ?_) (by rw [hlen, ← cap_is, cap_num]; lia)
    refine ⟨_, R.turn E (by rw [e]; simp) (fun b ob hb q => (hs.2 b hb).trans q) fun c' hc' => ?_, q⟩
    refine ⟨stored kvs x v, hd', ?_, ?_, by rw [p4]; exact hz⟩
    · unfold stored; rw [if_pos p3]; exact p1
    · unfold stored; rw [if_pos p3]; exact RepL.mono _ _ hc' _ _ p2

/-! built-in functions -/
theorem ints_of {h : PF} : ∀ {is : List Int} {ws : List Value}, RepL κ.cA κ.pr h (is.map CV.int) ws → ∃ ps : List (Int × Tok), ws = ps.map (fun p => .int p.1 p.2) ∧ ps.map (·.1) = is
  | [], _, r => ⟨[], r, rfl⟩
  | i :: is, _, zz2 => by
    (refine ex2 zz2 fun w r zr10g => ?_; refine and3 zr10g fun e zq9g hl => ?_; clear zr10g; try clear zz2; obtain ⟨t, hv⟩ := zq9g)
    (refine Exists.elim (ints_of hl) fun ps zr8g => ?_; refine And.elim (fun e1 e2 => ?_) zr8g; clear zr8g)
    exact ⟨(i, t) :: ps, by rw [e, hv, e1]; rfl, by rw [List.map_cons, e2]⟩
theorem foldl_min_le : ∀ (is : List Int) (a : Int), is.foldl min a = min a (is.foldl min a)
  | [], a => by simp
  | i :: is, a => by
    rw [List.foldl_cons, foldl_min_le is (min a i)]; lia
theorem argBest_min (xs : Array (Int × Tok)) : ∀ (k : Nat), k < xs.size → argBest (fun i j => decide (numAt xs i < numAt xs j)) k ≤ k ∧
    numAt xs (argBest (fun i j => decide (numAt xs i < numAt xs j)) k) = (((xs.toList.map (·.1)).take (k + 1)).drop 1).foldl min (numAt xs 0)
  | 0, h => by
    refine ⟨Nat.le_refl _, ?_⟩
    have : (((xs.toList.map (·.1)).take (0 + 1)).drop 1) = [] := by
      apply List.eq_nil_of_length_eq_zero
      rw [List.length_drop, List.length_take]; lia
    rw [this]; rfl
  | k + 1, h => by
    obtain ⟨h1, h2⟩ := argBest_min xs k (by lia)
    have ht : ((xs.toList.map (·.1)).take (k + 1 + 1)).drop 1 = ((xs.toList.map (·.1)).take (k + 1)).drop 1 ++ [numAt xs (k + 1)] := by
      rw [List.take_add_one, List.drop_append_of_le_length (by rw [List.length_take, List.length_map, Array.length_toList]; lia)]
      have : (xs.toList.map (·.1))[k + 1]? = some (numAt xs (k + 1)) := by
        unfold numAt
        rw [List.getElem?_map, Array.getElem?_toList, Array.getElem?_eq_getElem h]; rfl
      rw [this]; rfl
    rw [ht, List.foldl_append, List.foldl_cons, List.foldl_nil, ← h2]
    rw [show argBest (fun i j => decide (numAt xs i < numAt xs j)) (k + 1) = if decide (numAt xs (k + 1) < numAt xs (argBest (fun i j => decide (numAt xs i < numAt xs j)) k)) then k + 1 else argBest (fun i j => decide (numAt xs i < numAt xs j)) k from rfl]
    by_cases q : numAt xs (k + 1) < numAt xs (argBest (fun i j => decide (numAt xs i < numAt xs j)) k)
    · rw [if_pos (by simpa using q)]; exact ⟨Nat.le_refl _, by lia⟩
    · rw [if_neg (by simpa using q)]; exact ⟨by lia, by lia⟩

theorem len_sound {Q : CV → CH → Prop} {a : CV} {va : Value} {ws : List CV} (R : Rel κ X W g env loc H s) (e : itemsOf H a = some ws) (q : Q (.int ws.length) H) (ra : RepV κ.cA κ.pr (cst X H s.heap) a va) :
    wpAny (model κ.prog κ.w) A (PySem.call (.builtin "len") [va]) (Post κ X W g env loc Q) No s := by
  (refine ex3 (items_at R ra e) fun l us n zr7g => ?_; refine and4 zr7g fun zq6g ho hz hl => ?_; clear zr7g; obtain rfl := zq6g)
  have hn := RepL.length _ _ hl
  rw [Array.length_toList] at hn
  rw [cap_num] at hz
  exact Calls.call_len_list (isList_of ho) (by lia) (by rw [hn]; exact Post.int R q)
theorem list_sound {Q : CV → CH → Prop} {a : CV} {va : Value} {ws : List CV} (E : EnvOk env W asg) (R : Rel κ X W g env loc H s) (e : itemsOf H a = some ws) (q : allocL ws H Q) (ra : RepV κ.cA κ.pr (cst X H s.heap) a va) :
    wpAny (model κ.prog κ.w) A (PySem.call (.type "list") [va]) (Post κ X W g env loc Q) No s := by
  (refine ex3 (items_at R ra e) fun l us n zr5g => ?_; refine and4 zr5g fun zq4g ho hz hl => ?_; clear zr5g; obtain rfl := zq4g)
  refine call_list_seq l (.inl rfl) ho rfl rfl (fun h' c' hk hg => ?_) hz
  -- the new list stands at the old size
  have R' := R.same (tk := s.toks) E hk
  obtain ⟨hz2, q⟩ := q
  have hn := get_none (h := s.heap) (Nat.le_refl s.heap.objs.size)
  rcases q with q | q
  · refine (exI2 (.lst ws) H ⟨R', (exI3 _ c' us ⟨rfl, cst_some.mpr ⟨R.notX hn, R.clean hn, hg⟩, hz, RepL.mono _ _ (fun b o p => ?_) _ _ hl⟩), q⟩)
    (refine and3 (cst_some.mp p) fun p1 p2 p3 => ?_)
    exact cst_some.mpr ⟨p1, p2, hk _ _ p3⟩
  · refine (exI2 (.ref s.heap.objs.size) _ ⟨R.enter (tk := s.toks) E (o := .list ws) hn (R.notX hn) hk (fun c hc => (exI2 us c' ⟨hg, hz, RepL.mono _ _ hc _ _ hl⟩)), rfl, q _ (R.clean hn)⟩)
theorem int_sound {Q : CV → CH → Prop} {a : CV} {va : Value} (R : Rel κ X W g env loc H s) (q : (match [a] with | [.int i] => Q (.int i) H | [.bool b] => Q (.int (if b then 1 else 0)) H | _ => False)) (ra : RepV κ.cA κ.pr (cst X H s.heap) a va) :
    wpAny (model κ.prog κ.w) A (PySem.call (.type "int") [va]) (Post κ X W g env loc Q) No s := by
  induction a using Mine.CV.casesOn with
  | int i => obtain ⟨t, rfl⟩ := ra; exact call_int_int (exI2 (.int i) H ⟨R, ⟨t, rfl⟩, q⟩)
  | bool b => rw [show va = .bool b from ra]; exact call_int_bool (Post.int R q)
  | _ => exact q.elim
theorem minmax2_sound {Q : CV → CH → Prop} {i j : Int} {t u : Tok} {mn : Bool} (hh : A.handled = none) (E : EnvOk env W asg) (R : Rel κ X W g env loc H s) (q : Q (.int (if mn then min i j else max i j)) H) :
    wpAny (model κ.prog κ.w) A (PySem.call (.builtin (if mn then "min" else "max")) [.int i t, .int j u]) (Post κ X W g env loc Q) No s := by
  induction mn using Bool.casesOn with
  | true =>
    refine min_two_ints hh fun h' tk hk => ?_
    by_cases c : j < i
    · rw [if_pos c]; exact ⟨.int j, H, R.same E hk, ⟨u, rfl⟩, (show min i j = j by lia) ▸ q⟩
    · rw [if_neg c]; exact ⟨.int i, H, R.same E hk, ⟨t, rfl⟩, (show min i j = i by lia) ▸ q⟩
  | false =>
    refine max_two_ints hh fun h' tk hk => ?_
    by_cases c : j > i
    · rw [if_pos c]; exact ⟨.int j, H, R.same E hk, ⟨u, rfl⟩, (show max i j = j by lia) ▸ q⟩
    · rw [if_neg c]; exact ⟨.int i, H, R.same E hk, ⟨t, rfl⟩, (show max i j = i by lia) ▸ q⟩
theorem minL_sound {Q : CV → CH → Prop} {a : CV} {va : Value} {i : Int} {is : List Int} (hh : A.handled = none) (E : EnvOk env W asg) (R : Rel κ X W g env loc H s) (e : itemsOf H a = some ((i :: is).map CV.int)) (q : Q (.int (is.foldl min i)) H)
    (ra : RepV κ.cA κ.pr (cst X H s.heap) a va) : wpAny (model κ.prog κ.w) A (PySem.call (.builtin "min") [va]) (Post κ X W g env loc Q) No s := by
  (refine ex3 (items_at R ra e) fun l us n zr3g => ?_; refine and4 zr3g fun zq2g ho hz hl => ?_; clear zr3g; obtain rfl := zq2g)
  (refine Exists.elim (ints_of hl) fun ps zr1g => ?_; refine And.elim (fun e1 e2 => ?_) zr1g; clear zr1g)
  have hlen : ps.length = is.length + 1 := by have := congrArg List.length e2; simpa using this
  have hu : us = intItems ps.toArray := by
    apply Array.toList_inj.mp
    rw [e1]; unfold intItems; simp
  refine min_intList hh (xs := ps.toArray) (by rw [← hu]; exact isList_of ho) (by simp; lia) fun v h' tk hv hk => ?_
  have hs : ps.toArray.size = is.length + 1 := by simp [hlen]
  obtain ⟨b1, b2⟩ := argBest_min ps.toArray (ps.toArray.size - 1) (by lia)
  generalize argBest (fun i j => decide (numAt ps.toArray i < numAt ps.toArray j)) (ps.toArray.size - 1) = b at hv b1 b2
  have hb : b < ps.toArray.size := by lia
  have hv' : v = .int (ps.toArray[b]).1 (ps.toArray[b]).2 := by
    unfold intItems at hv
    rw [Array.getElem?_map, Array.getElem?_eq_getElem hb] at hv
    exact (Option.some.inj hv).symm
  have h3 : numAt ps.toArray b = (ps.toArray[b]).1 := by unfold numAt; rw [Array.getElem?_eq_getElem hb]; rfl
  have h4 : numAt ps.toArray 0 = i := by
    induction ps using List.casesOn with
    | nil => cases e2
    | cons p ps => simp only [List.map_cons, List.cons.injEq] at e2; simp [numAt, e2.1]
  rw [show ps.toArray.toList = ps from rfl, e2, h4, h3, hs] at b2
  have h5 : (List.take (is.length + 1 - 1 + 1) (i :: is)).drop 1 = is := by
    rw [show is.length + 1 - 1 + 1 = is.length + 1 by lia, List.take_succ_cons, List.drop_one, List.tail_cons, List.take_length]
  rw [h5] at b2
  rw [hv']
  exact (exI2 (.int _) H ⟨R.same E hk, ⟨_, rfl⟩, by rw [b2]; exact q⟩)
end
end
end Mine

/-! part S5 -/
namespace Mine
noncomputable section
open PySem PySem.W PyProof.Rows
open Classical

/-- the oracle's word for the program's own defs -/
noncomputable def ClSound (κ : Kit) (fa : Str → Str → Addr) (n : Nat) (cl : Cl) : Prop :=
  ∀ (C f : Str) (args : List CV) (H : CH) (Q : CV → CH → Prop), cl C f args H Q → ∀ (A : Around) (X W : Addr → Prop) (g : PF) (env : Env) (loc : Loc) (s : Shared) (asg : Str → Prop) (vs : List Value),
    AOk A n → EnvOk env W asg → Rel κ X W g env loc H s → (∀ a o, κ.s0.heap.get? a = some o → ¬ X a) → RepL κ.cA κ.pr (cst X H s.heap) args vs →
    codeAny (model κ.prog κ.w) A (.call (.ref (fa C f)) ⟨vs, []⟩) (fun r s' => ∃ v, r = .ok (.ret v) ∧ Post κ X W g env loc Q v s') s

section
variable {κ : Kit} {T : Str → Str → Option FD} {fa : Str → Str → Addr} {X W : Addr → Prop} {g : PF} {env : Env} {loc : Loc} {H H' : CH} {s : Shared} {asg : Str → Prop} {A : Around} {cl : Cl} {n : Nat}

theorem wpAny_ofCode {f : Value} {vs : List Value} {Q : Value → Shared → Prop} {F : Value → Shared → Prop} {M : Model} (h : codeAny M A (.call f ⟨vs, []⟩) (fun r s' => ∃ v, r = .ok (.ret v) ∧ Q v s') s) : wpAny M A (PySem.call f vs) Q F s :=
  wpAny_call (codeAny_mono h fun r s' zz1 => zz1.elim fun v zz2 => zz2.elim fun e q => by rw [e]; exact q)

theorem Rel.back (R : Rel κ X W g env loc H s) {loc' : Loc} {s' : Shared} (R' : Rel κ X W (Mine.big W H s.heap) env loc' H' s') : Rel κ X W g env loc' H' s' := R'.shrink R.g_le R.base
/-- behind an evaluation that was asked to leave `big` -/
theorem Post.over {Q : CV → CH → Prop} {v : Value} {s' : Shared} (R : Rel κ X W g env loc H s) (p : Post κ X W (Mine.big W H s.heap) env loc Q v s') :
    ∃ c H', Rel κ X W g env loc H' s' ∧ RepV κ.cA κ.pr (cst X H' s'.heap) c v ∧ (cst X H s.heap).le (cst X H' s'.heap) ∧ Q c H' :=
  p.elim fun c zz1 => zz1.elim fun H' zz2 => zz2.elim fun R' zz3 => zz3.elim fun r q =>
  (exI2 c H' ⟨R.back R', r, R.over R', q⟩)

/-- a class is called: its instance is made, its __init__ called -/
theorem cls_sound {Q : CV → CH → Prop} {f : Str} {cs : List CV} {vs : List Value} (O : KOk κ T fa) (S : ClSound κ fa n cl) (E : EnvOk env W asg) (R : Rel κ X W g env loc H s)
    (hX : ∀ a o, κ.s0.heap.get? a = some o → ¬ X a) (hB : ∀ C, AOk (A.under (.builtin "type.__call__" ⟨.ref C :: vs, []⟩)) n)
    (hc : isClass f) (q : ∀ d, H d = none → cl f "__init__" (.obj f d :: cs) (H.set d (.dict [])) fun c H' => c = .none ∧ Q (.obj f d) H') (rl : RepL κ.cA κ.pr (cst X H s.heap) cs vs) :
    wpAny (model κ.prog κ.w) A (PySem.call (.ref (κ.cA f)) vs) (Post κ X W g env loc Q) No s := by
  (refine and5 (O.cls f hc) fun _ _ k3 k4 k5 => ?_)
  have RK := R.K
  refine wpAny_ofCode ?_
  have hd := get_none (h := s.heap) (Nat.le_refl s.heap.objs.size)
  have R1 := R.enter (tk := s.toks) (h' := s.heap.push emptyDict) E (o := .dict []) hd (R.notX hd) (fun _ _ e => Heap.get?_push_of_some _ e) (fun c _ => (exI3 [] 0 [] ⟨Heap.get?_push_size _ rfl, ⟨rfl, rfl⟩, rfl, Nat.zero_le _⟩))
  have R2 := R1.push E (instObj (κ.cA f) s.heap.objs.size)
  have hle : (cst X H s.heap).le (cst X (H.set s.heap.objs.size (.dict [])) ((s.heap.push emptyDict).push (instObj (κ.cA f) s.heap.objs.size))) := fun a o e => by
    (refine and3 (cst_some.mp e) fun e1 e2 e3 => ?_)
    refine cst_some.mpr ⟨e1, ?_, Heap.get?_push_of_some _ (Heap.get?_push_of_some _ e3)⟩
    unfold CH.set
    rw [if_neg (fun q => by rw [q, hd] at e3; exact nn e3)]; exact e2
  have hx : cst X (H.set s.heap.objs.size (.dict [])) ((s.heap.push emptyDict).push (instObj (κ.cA f) s.heap.objs.size)) (s.heap.objs.size + 1) = some (instObj (κ.cA f) s.heap.objs.size) := by
    have := R1.cst_new (o := instObj (κ.cA f) s.heap.objs.size) rfl
    rw [Heap.size_push] at this
    exact this
  obtain ⟨hh, gs, dr, tk, os⟩ := s
  refine make_core (makes_of RK k3) (looks_findIn RK k4) (fun self => bind_fn RK self k5) (.inl rfl) ?_
  refine codeAny_mono (S f "__init__" _ _ _ (q _ (R.clean hd)) _ X W _ env loc _ asg (.ref (hh.objs.size + 1) :: vs) (hB _) E R2.big hX (exI2 _ _ ⟨rfl, ⟨_, rfl, hx⟩, RepL.mono _ _ hle _ _ rl⟩)) fun r s' zz3 => zz3.elim fun v zz4 => zz4.elim fun e p => ?_
  (refine ex2 (Post.over R2 p) fun c H' zr1g => ?_; refine and5 zr1g fun R3 rv ho hcn q => ?_; clear zr1g)
  subst hcn
  rw [e]
  refine ⟨rv, .ref (hh.objs.size + 1), rfl, .obj f hh.objs.size, H', ?_, ⟨_, rfl, ho _ _ hx⟩, q⟩
  exact R3
end
end
end Mine

/-! part S6 -/
namespace Mine
noncomputable section
open PySem PySem.W PyProof.Rows
open Classical

structure BOk (A : Around) (n : Nat) : Prop where
  hh : A.handled = none
  hd : A.depth + 3 * n + 5 < recursionLimit
  hu : A.units + 40 * n + 220 < cLine

structure NOk (N : Names) (env : Env) : Prop where
  gl : ∀ x, N.lookup x = some .globalImplicit → env.kindOf x = some .globalImplicit
  lo : ∀ x, N.lookup x = some .local → env.kindOf x = some .local
  c0 : ∀ x, N.lookup x = some .cell → env.kindOf x = some .cell
  ce : ∀ x, (N.lookup x = some .cell ∨ N.lookup x = some .free) → (env.kindOf x = some .cell ∨ env.kindOf x = some .free) ∧ ∃ a, env.cells.lookup x = some a

noncomputable def fval (κ : Kit) (fa : Str → Str → Addr) (f : Str) : Value :=
  if f = "len" then .builtin "len" else if f = "min" then .builtin "min" else if f = "max" then .builtin "max" else if f = "list" then .type "list" else if f = "int" then .type "int"
  else if isClass f then .ref (κ.cA f) else .ref (fa "" f)
/-- the names that may be called -/
noncomputable def kfOf (T : Str → Str → Option FD) (f : Str) : Bool :=
  decide (f = "len" ∨ f = "min" ∨ f = "max" ∨ f = "list" ∨ f = "int" ∨ f = "range" ∨ f = "enumerate" ∨ isClass f) || (T "" f).isSome

noncomputable def isRg (f : Str) : Prop := f = "range" ∨ f = "enumerate"

section
variable {κ : Kit} {T : Str → Str → Option FD} {fa : Str → Str → Addr} {X W : Addr → Prop} {g : PF} {env : Env} {loc : Loc} {H H' : CH} {s : Shared} {asg : Str → Prop} {A : Around} {cl : Cl} {n : Nat}

theorem BOk.make {vs : List Value} (B : BOk A n) (C : Addr) : AOk (A.under (.builtin "type.__call__" ⟨.ref C :: vs, []⟩)) n :=
  ⟨B.hh, by rw [depth_under_make]; have := B.hd; lia, by rw [units_under_make]; have := B.hu; lia⟩
theorem BOk.call (B : BOk A n) : AOk A n := ⟨B.hh, by have := B.hd; lia, by have := B.hu; lia⟩

theorem fnOk_and {kf : Str → Bool} {N : Names} {f : Str} (h : fnOk kf N f = true) : (f == ("__debug__" : Str)) = false ∧ f ≠ "__name__" ∧ N.lookup f = some .globalImplicit ∧ kf f = true := by
  unfold fnOk at h
  simp only [Bool.and_eq_true, bne_iff_ne, ne_eq, beq_iff_eq] at h
  exact ⟨by simpa using h.1.1.1, h.1.1.2, h.1.2, h.2⟩

theorem fname_sound (O : KOk κ T fa) (E : EnvOk env W asg) (No' : NOk N env) (R : Rel κ X W g env loc H s) {f : Str} {pos : Pos} {Q : Value → Shared → Prop} {F : Value → Shared → Prop} (h : fnOk (kfOf T) N f = true) (hr : ¬ isRg f)
    (q : Q (fval κ fa f) s) : wpAny (model κ.prog κ.w) A (eval (.Name f pos) env) Q F s := by
  (refine and4 (fnOk_and h) fun h1 h2 h3 h4 => ?_)
  have hk := No'.gl f h3
  unfold fval at q
  by_cases c1 : f = "len"
  · rw [if_pos c1] at q; subst c1; exact name_bi E O R (.inl (.inl rfl)) boot_len hk h1 h2 q
  rw [if_neg c1] at q
  by_cases c2 : f = "min"
  · rw [if_pos c2] at q; subst c2; exact name_bi E O R (.inl (.inr (.inl rfl))) boot_min hk h1 h2 q
  rw [if_neg c2] at q
  by_cases c3 : f = "max"
  · rw [if_pos c3] at q; subst c3; exact name_bi E O R (.inl (.inr (.inr rfl))) boot_max hk h1 h2 q
  rw [if_neg c3] at q
  by_cases c4 : f = "list"
  · rw [if_pos c4] at q; subst c4; exact name_bi E O R (.inr (.inl rfl)) boot_list hk h1 h2 q
  rw [if_neg c4] at q
  by_cases c5 : f = "int"
  · rw [if_pos c5] at q; subst c5; exact name_bi E O R (.inr (.inr (.inl rfl))) boot_int hk h1 h2 q
  rw [if_neg c5] at q
  by_cases c6 : isClass f
  · rw [if_pos c6] at q; exact name_glob E R (O.cls f c6).1 hk h1 q
  rw [if_neg c6] at q
  have h5 : (T "" f).isSome = true := by
    unfold kfOf at h4
    rcases Bool.or_eq_true_iff.mp h4 with h4 | h4
    · rcases of_decide_eq_true h4 with h | h | h | h | h | h | h | h
      · exact absurd h c1
      · exact absurd h c2
      · exact absurd h c3
      · exact absurd h c4
      · exact absurd h c5
      · exact absurd (.inl h) hr
      · exact absurd (.inr h) hr
      · exact absurd h c6
    · exact h4
  obtain ⟨fd, e⟩ := Option.isSome_iff_exists.mp h5
  exact name_glob E R (O.fn f fd e).1 hk h1 q

theorem fval_cls {f : Str} (h : isClass f) : fval κ fa f = .ref (κ.cA f) := by rcases h with rfl | rfl | rfl <;> rfl
theorem fval_user {f : Str} (h : isUser f = true) : fval κ fa f = .ref (fa "" f) := by
  simp only [isUser, Bool.and_eq_true, bne_iff_ne, ne_eq, Bool.not_eq_true', decide_eq_false_iff_not] at h
  unfold fval
  rw [if_neg h.1.1.1.1.1, if_neg h.1.1.1.1.2, if_neg h.1.1.1.2, if_neg h.1.1.2, if_neg h.1.2, if_neg h.2]
/-- the value is called with the arguments -/
theorem fun_sound {Q : CV → CH → Prop} {f : Str} {cs : List CV} {vs : List Value} (O : KOk κ T fa) (S : ClSound κ fa n cl) (B : BOk A n) (E : EnvOk env W asg) (R : Rel κ X W g env loc H s)
    (hX : ∀ a o, κ.s0.heap.get? a = some o → ¬ X a) (q : wpFun cl f cs H Q) (rl : RepL κ.cA κ.pr (cst X H s.heap) cs vs) :
    wpAny (model κ.prog κ.w) A (PySem.call (fval κ fa f) vs) (Post κ X W g env loc Q) No s := by
  rcases q with ⟨rfl, a, ws, rfl, e, q⟩ | ⟨rfl, q⟩ | ⟨rfl, q⟩ | ⟨rfl, a, ws, rfl, e, q⟩ | ⟨rfl, q⟩ | ⟨c6, q⟩ | ⟨hu, q⟩
  · (refine ex2 rl fun v r zr20g => ?_; refine and3 zr20g fun zq18g rv zq19g => ?_; clear zr20g; try clear rl; obtain rfl := zq18g; obtain rfl := zq19g)
    exact len_sound R e q rv
  · rcases q with ⟨i, j, rfl, q⟩ | ⟨_, a, ws, i, is, rfl, e, rfl, q⟩
    · (refine ex2 rl fun v r zr17g => ?_; refine and3 zr17g fun zq14g zq15g zq16g => ?_; clear zr17g; try clear rl; obtain rfl := zq14g; obtain ⟨t, rfl⟩ := zq15g; obtain ⟨u, r2, rfl, ⟨t2, rfl⟩, rfl⟩ := zq16g)
      exact minmax2_sound (mn := true) B.hh E R q
    · (refine ex2 rl fun v r zr13g => ?_; refine and3 zr13g fun zq11g rv zq12g => ?_; clear zr13g; try clear rl; obtain rfl := zq11g; obtain rfl := zq12g)
      exact minL_sound B.hh E R e q rv
  · rcases q with ⟨i, j, rfl, q⟩ | q
    · (refine ex2 rl fun v r zr10g => ?_; refine and3 zr10g fun zq7g zq8g zq9g => ?_; clear zr10g; try clear rl; obtain rfl := zq7g; obtain ⟨t, rfl⟩ := zq8g; obtain ⟨u, r2, rfl, ⟨t2, rfl⟩, rfl⟩ := zq9g)
      exact minmax2_sound (mn := false) B.hh E R q
    · exact nomatch q.1
  · (refine ex2 rl fun v r zr6g => ?_; refine and3 zr6g fun zq4g rv zq5g => ?_; clear zr6g; try clear rl; obtain rfl := zq4g; obtain rfl := zq5g)
    exact list_sound E R e q rv
  · rcases q with ⟨i, rfl, q⟩ | ⟨b, rfl, q⟩ <;>
    · (refine ex2 rl fun v r zr3g => ?_; refine and3 zr3g fun zq1g rv zq2g => ?_; clear zr3g; try clear rl; obtain rfl := zq1g; obtain rfl := zq2g)
      exact int_sound R q rv
  · rw [fval_cls c6]
    exact cls_sound O S E R hX (fun C => B.make C) c6 q rl
  · rw [fval_user hu]
    exact wpAny_ofCode (S "" f cs H Q q A X W g env loc s asg vs B.call E R hX rl)

theorem star_false {e : Expr} {r : List Expr} (h : noStar e = true) : starEach (e :: r) env = (false, eval e env) :: starEach r env := by
  induction e using PySem.Expr.casesOn <;> first | rfl | exact noB h
theorem star_any {pos : Pos} : ∀ {es : List Expr}, es.all noStar = true → (backTo pos (starEach es env)).any (·.1) = false
  | [], _ => rfl
  | e :: es, h => by
    rw [List.all_cons, Bool.and_eq_true] at h
    rw [star_false h.1]
    show (false || (backTo pos (starEach es env)).any (·.1)) = false
    rw [star_any h.2]; rfl

/-- a name is called: the arguments, then the call -/
theorem callFn_sound {Q : CV → CH → Prop} {P : List CV → CH → Prop} {f : Str} {fp pos : Pos} {args : List Expr} {N : Names} (O : KOk κ T fa) (S : ClSound κ fa n cl) (B : BOk A n) (E : EnvOk env W asg) (No' : NOk N env) (R : Rel κ X W g env loc H s)
    (hX : ∀ a o, κ.s0.heap.get? a = some o → ¬ X a) (h : fnOk (kfOf T) N f = true) (hr : ¬ isRg f) (hs : args.all noStar = true) (h0 : args.isEmpty = false)
    (ih : wpAny (model κ.prog κ.w) A (spliced (backTo pos (starEach args env))) (fun ws s' => ∃ cs H', Rel κ X W g env loc H' s' ∧ RepL κ.cA κ.pr (cst X H' s'.heap) cs ws ∧ P cs H') No s) (hq : ∀ cs H', P cs H' → wpFun cl f cs H' Q) :
    wpAny (model κ.prog κ.w) A (eval (.Call (.Name f fp) args [] pos) env) (Post κ X W g env loc Q) No s := by
  refine wpAny_Call_NameR (fname_sound O E No' R h hr ?_)
  obtain ⟨e, r, rfl⟩ : ∃ e r, args = e :: r := by induction args using List.casesOn with | nil => exact tf h0 | cons e r => exact (exI2 e r rfl)
  rw [List.all_cons, Bool.and_eq_true] at hs
  have he := star_false (env := env) (r := r) hs.1
  have hp := star_any (env := env) (pos := pos) hs.2
  have fin : wpAny (model κ.prog κ.w) A (spliced (backTo pos (starEach (e :: r) env))) (fun ws s' => κ.K.In s'.heap ∧ wpAny (model κ.prog κ.w) A (PySem.call (fval κ fa f) ws) (Post κ X W g env loc Q) No s') No s :=
    wpAny_mono ih (fun ws s' zz1 => zz1.elim fun cs zz2 => zz2.elim fun H' zz3 => zz3.elim fun R' zz4 => zz4.elim fun rl p => ⟨R'.K, fun_sound O S B E R' hX (hq cs H' p) rl⟩) fun _ _ x => x
  have fin' := wpAny_mono fin (fun ws s' x => x.2) fun _ _ x => x
  (refine and4 (fnOk_and h) fun h1 h2 h3 h4 => ?_)
  by_cases c1 : f = "len"
  · have ev : fval κ fa f = .builtin "len" := by unfold fval; rw [if_pos c1]
    rw [ev] at fin' ⊢; exact PyProof.Rows.callWith_builtin1 fin' he hp
  by_cases c2 : f = "min"
  · have ev : fval κ fa f = .builtin "min" := by unfold fval; rw [if_neg c1, if_pos c2]
    rw [ev] at fin' ⊢; exact PyProof.Rows.callWith_builtin1 fin' he hp
  by_cases c3 : f = "max"
  · have ev : fval κ fa f = .builtin "max" := by unfold fval; rw [if_neg c1, if_neg c2, if_pos c3]
    rw [ev] at fin' ⊢; exact PyProof.Rows.callWith_builtin1 fin' he hp
  by_cases c4 : f = "list"
  · have ev : fval κ fa f = .type "list" := by unfold fval; rw [if_neg c1, if_neg c2, if_neg c3, if_pos c4]
    rw [ev] at fin' ⊢; exact PyProof.Rows.callWith_type1 fin' he hp
  by_cases c5 : f = "int"
  · have ev : fval κ fa f = .type "int" := by unfold fval; rw [if_neg c1, if_neg c2, if_neg c3, if_neg c4, if_pos c5]
    rw [ev] at fin' ⊢; exact PyProof.Rows.callWith_type1 fin' he hp
  by_cases c6 : isClass f
  · have ev : fval κ fa f = .ref (κ.cA f) := by unfold fval; rw [if_neg c1, if_neg c2, if_neg c3, if_neg c4, if_neg c5, if_pos c6]
    rw [ev] at fin ⊢; exact callWith_K R.K (O.cls f c6).2.1 fin he hp
  · have ev : fval κ fa f = .ref (fa "" f) := by unfold fval; rw [if_neg c1, if_neg c2, if_neg c3, if_neg c4, if_neg c5, if_neg c6]
    have h5 : (T "" f).isSome = true := by
      unfold kfOf at h4
      rcases Bool.or_eq_true_iff.mp h4 with h4 | h4
      · rcases of_decide_eq_true h4 with h | h | h | h | h | h | h | h
        · exact absurd h c1
        · exact absurd h c2
        · exact absurd h c3
        · exact absurd h c4
        · exact absurd h c5
        · exact absurd (.inl h) hr
        · exact absurd (.inr h) hr
        · exact absurd h c6
      · exact h4
    obtain ⟨fd, e⟩ := Option.isSome_iff_exists.mp h5
    rw [ev] at fin ⊢; exact callWith_K R.K (O.fn f fd e).2 fin he hp
end
end
end Mine

/-! part S7 -/
namespace Mine
noncomputable section
open PySem PySem.W PyProof.Rows
open Classical

section
variable {κ : Kit} {T : Str → Str → Option FD} {fa : Str → Str → Addr} {X W : Addr → Prop} {g : PF} {env : Env} {loc : Loc} {H H' : CH} {s : Shared} {asg : Str → Prop} {A : Around} {cl : Cl} {n : Nat}

theorem base_plain {o : Expr} {m : Str} {whole : Sem Value} (h : baseOk o = true) : attributeBase o m env whole = whole := by
  induction o using PySem.Expr.casesOn <;> first | rfl | exact noB h

theorem callAttr {M : Model} {o : Expr} {name : Str} {apos pos : Pos} {args : List Expr} {Q : Value → Shared → Prop} {F : Value → Shared → Prop} (hb : baseOk o = true) (hs : args.all noStar = true) (hl : args.length < 29) (hline : (apos.endLine == pos.line) = true)
    (h : wpAny M A (eval o env) (fun ov s₁ => ∀ pl, wpAny M A (getMethod ov name pl) (fun fm s₂ => wpAny M A (callWith pos fm.1 fm.2 (backTo pos (starEach args env)) []) Q F s₂) F s₁) F s) :
    wpAny M A (eval (.Call (.Attribute o name apos) args [] pos) env) Q F s := by
  have hst := star_any (env := env) (pos := pos) hs
  have hall : (backTo pos (starEach args env)).all (fun x => !x.1) = true := by
    rw [List.all_eq_not_any_not]
    simp only [Bool.not_not]
    rw [hst]; rfl
  have hform : methodCallForm (args.length + ([] : List Keyword).length) (backTo pos (starEach args env)) (backToKw pos (keywordEach [] env)) = true := by
    unfold methodCallForm
    rw [hall]
    rw [show backToKw pos (keywordEach [] env) = [] from rfl]
    simp; lia
  have hpos : methodCallPos true o env apos pos = pure pos := by unfold methodCallPos; simp [hline]
  rw [arm_eval_Call, base_plain hb]
  refine wpAny_bind (wpAny_mono h (fun ov s₁ h₁ => ?_) fun _ _ e => e)
  refine wpAny_bind (wpAny_standAt ?_)
  unfold methodCall
  rw [hform]
  refine wpAny_bind (wpAny_holding (wpAny_mono (h₁ _) (fun fm s₂ h₂ => ?_) fun _ _ e => e))
  exact wpAny_bind (wpAny_of_eq hpos h₂)

theorem extend_sound {Q : CV → CH → Prop} {a : Addr} {c : CV} {v : Value} {vs ws : List CV} (E : EnvOk env W asg) (R : Rel κ X W g env loc H s) (e : H a = some (.list vs)) (e2 : itemsOf H c = some ws) (hz : vs.length + ws.length ≤ cap)
    (q : Q .none (H.set a (.list (vs ++ ws)))) (rv : RepV κ.cA κ.pr (cst X H s.heap) c v) : wpAny (model κ.prog κ.w) A (PySem.call (.builtin "list.extend") [.ref a, v]) (Post κ X W g env loc Q) No s := by
  (refine ex2 (R.rep _ _ e) fun us n1 zr21g => ?_; refine and3 zr21g fun ho hz1 hl => ?_; clear zr21g)
  (refine ex3 (items_at R rv e2) fun b us2 n2 zr20g => ?_; refine and4 zr20g fun zq19g ho2 hz2 hl2 => ?_; clear zr20g; obtain rfl := zq19g)
  (refine Exists.elim R.loc fun m zr18g => ?_; refine And.elim (fun hn hloc => ?_) zr18g; clear zr18g)
  have haL : a ≠ env.locals := fun q => by have := R.xh _ (R.wx _ E.wl); rw [← q, e] at this; exact sn this
  have h1 := RepL.length _ _ hl
  have h2 := RepL.length _ _ hl2
  rw [Array.length_toList] at h1 h2
  have F : Fr noHeap env.locals s.heap m := ⟨hn, fun b o e => by (rw [noHeap_get] at e; exact nn e), Nat.zero_le _⟩
  have N : News noHeap env.locals s.heap (allBut s.heap env.locals a ++ (a, listOf us n1) :: []) := fun p hp => by
    rcases List.mem_append.mp hp with hp | hp
    · obtain ⟨a, o⟩ := p
      (refine and3 (allBut_mem.mp hp) fun h1 h2 _ => ?_)
      exact ⟨h1, h2, noHeap_get _⟩
    · rcases List.mem_singleton.mp hp with rfl
      exact ⟨ho, haL, noHeap_get _⟩
  refine extend_in (own := allBut s.heap env.locals a) (rest := []) (ys := us.toList) (n := n1) F (by simpa using N) (fun p hp => (allBut_mem.mp (show (p.1, p.2) ∈ _ from hp)).2.2) (fun _ hp => (nomatch hp)) ho2 (fun h' n' F' N' => ?_) (by rw [Array.length_toList, ← cap_is]; lia)
  have hd' := N'.get (List.mem_append_right _ (List.mem_singleton.mpr rfl))
  refine (exI2 (.none) _ ⟨R.turnL (tk := s.toks) E (a := a) (by rw [e]; simp) hn hloc (fun b ob h1 h2 q => N'.get (List.mem_append_left _ (allBut_mem.mpr ⟨q, h2, h1⟩))) F'.ns fun c' hc' => ?_, rfl, q⟩)
  refine (exI2 _ n' ⟨hd', ?_, ?_⟩)
  · rw [List.size_toArray, List.length_append, Array.length_toList, Array.length_toList]; lia
  · rw [List.toList_toArray]; exact RepL.mono _ _ hc' _ _ (RepL.append _ _ hl hl2)
theorem append_sound {Q : CV → CH → Prop} {a : Addr} {c : CV} {v : Value} {vs : List CV} (E : EnvOk env W asg) (R : Rel κ X W g env loc H s) (e : H a = some (.list vs)) (hz : vs.length < cap)
    (q : Q .none (H.set a (.list (vs ++ [c])))) (rv : RepV κ.cA κ.pr (cst X H s.heap) c v) : wpAny (model κ.prog κ.w) A (PySem.call (.builtin "list.append") [.ref a, v]) (Post κ X W g env loc Q) No s := by
  (refine ex2 (R.rep _ _ e) fun us n1 zr17g => ?_; refine and3 zr17g fun ho hz1 hl => ?_; clear zr17g)
  have h1 := RepL.length _ _ hl
  rw [Array.length_toList] at h1
  refine append_at ho (fun h' hs hd' => ?_) (by rw [← cap_is]; omega)
  refine (exI2 (.none) _ ⟨R.turn (tk := s.toks) E (by rw [e]; simp) (fun b ob hb q => (hs.2 b hb).trans q) fun c' hc' => ?_, rfl, q⟩)
  refine (exI2 _ _ ⟨hd', by rw [Array.size_push]; lia, ?_⟩)
  rw [Array.toList_push]
  exact RepL.mono _ _ hc' _ _ (RepL.append _ _ hl (exI2 v [] ⟨rfl, rv, rfl⟩))
theorem pop_sound {Q : CV → CH → Prop} {a : Addr} {c : CV} {vs : List CV} (E : EnvOk env W asg) (R : Rel κ X W g env loc H s) (e : H a = some (.list (vs ++ [c])))
    (q : Q c (H.set a (.list vs))) : wpAny (model κ.prog κ.w) A (PySem.call (.builtin "list.pop") [.ref a]) (Post κ X W g env loc Q) No s := by
  (refine ex2 (R.rep _ _ e) fun us n1 zr16g => ?_; refine and3 zr16g fun ho hz1 hl => ?_; clear zr16g)
  have h1 := RepL.length _ _ hl
  rw [Array.length_toList, List.length_append, List.length_singleton] at h1
  (refine ex2 (RepL.unappend _ _ hl) fun w1 w2 zr15g => ?_; refine and3 zr15g fun e1 r1 zq14g => ?_; clear zr15g; obtain ⟨w, r, e2, rw', e3⟩ := zq14g)
  have h2 := RepL.length _ _ r1
  subst e2; rw [show r = [] from e3] at e1
  have hy : us[us.size - 1]? = some w := by
    rw [← Array.getElem?_toList, e1, h1, Nat.add_sub_cancel, ← h2, List.getElem?_append_right (Nat.le_refl _), Nat.sub_self]; rfl
  refine PyProof.Rows.Copied.pop_at ho hy (fun h' hs hd' => ?_) hz1
  have hle : ∀ c' : PF, (cst X H s.heap).le c' → RepO κ c' (.list vs) (h'.get? a) := fun c' hc' => by
    refine (exI2 _ _ ⟨hd', by rw [Array.size_pop]; lia, ?_⟩)
    rw [Array.toList_pop, e1, List.dropLast_concat]
    exact RepL.mono _ _ hc' _ _ r1
  have R' := R.turn (tk := s.toks) (h' := h') E (o := .list vs) (by rw [e]; simp) (fun b ob hb q => (hs.2 b hb).trans q) hle
  refine (exI2 c _ ⟨R', RepV.mono _ _ (fun b o p => ?_) _ _ rw', q⟩)
  (refine and3 (cst_some.mp p) fun p1 p2 p3 => ?_)
  have hb : b ≠ a := fun z => by rw [z, e] at p2; exact sn p2
  exact cst_some.mpr ⟨p1, by unfold CH.set; rw [if_neg hb]; exact p2, (hs.2 b hb).trans p3⟩

/-- a method is found and called -/
theorem meth_sound {Q : CV → CH → Prop} {P : List CV → CH → Prop} {ov : CV} {vo : Value} {m : Str} {pos : Pos} {args : List Expr} {pl : Sem Bool} (O : KOk κ T fa) (S : ClSound κ fa n cl) (B : BOk A n) (E : EnvOk env W asg)
    (R : Rel κ X W g env loc H s) (hX : ∀ a o, κ.s0.heap.get? a = some o → ¬ X a) (hs : args.all noStar = true) (ha : arityOk m args.length = true) (hm : methOk ov m H) (ro : RepV κ.cA κ.pr (cst X H s.heap) ov vo)
    (ih : wpAny (model κ.prog κ.w) A (spliced (backTo pos (starEach args env))) (fun ws s' => ∃ cs H', Rel κ X W (Mine.big W H s.heap) env loc H' s' ∧ RepL κ.cA κ.pr (cst X H' s'.heap) cs ws ∧ P cs H') No s)
    (ih0 : args = [] → P [] H) (hq : ∀ cs H', P cs H' → wpMeth cl ov m cs H' Q) :
    wpAny (model κ.prog κ.w) A (getMethod vo m pl) (fun fm s₂ => wpAny (model κ.prog κ.w) A (callWith pos fm.1 fm.2 (backTo pos (starEach args env)) []) (Post κ X W g env loc Q) No s₂) No s := by
  induction ov using Mine.CV.casesOn with
  | ref a =>
    (refine And.elim (fun hmm zr13g => ?_) hm; refine Exists.elim zr13g fun vs e => ?_; clear zr13g; try clear hm)
    rw [show vo = .ref a from ro]
    obtain ⟨us, n1, ho, hz1, hl⟩ := R.rep _ _ e
    have nod : ∀ b, Value.ref a = .ref b → ∃ o, s.heap.get? b = some o ∧ o.dict = none := fun b q => by obtain rfl := PySem.Value.ref.inj q; exact ⟨_, ho, rfl⟩
    have one : ∀ id, (∀ cs H' s' ws, Rel κ X W g env loc H' s' → RepL κ.cA κ.pr (cst X H' s'.heap) cs ws → wpMeth cl (.ref a) m cs H' Q → wpAny (model κ.prog κ.w) A (PySem.call (.builtin id) ([.ref a] ++ ws)) (Post κ X W g env loc Q) No s') →
        args.length = 1 → wpAny (model κ.prog κ.w) A (callWith pos (.builtin id) [.ref a] (backTo pos (starEach args env)) []) (Post κ X W g env loc Q) No s := fun id hc hlen => by
      obtain ⟨e1, rfl⟩ : ∃ e1, args = [e1] := by
        induction args using List.casesOn with
        | nil => cases hlen
        | cons e1 r => induction r using List.casesOn with
          | nil => exact ⟨e1, rfl⟩
          | cons _ _ => simp at hlen
      simp only [List.all_cons, List.all_nil, Bool.and_true] at hs
      exact callWith_method1 (wpAny_mono ih (fun ws s' zz1 => zz1.elim fun cs zz2 => zz2.elim fun H' zz3 => zz3.elim fun R' zz4 => zz4.elim fun rl p => hc cs H' s' ws (R.back R') rl (hq cs H' p)) fun _ _ x => x) (star_false hs) rfl
    rcases hmm with rfl | rfl | rfl
    · refine PySem.getMethod_builtin (typeIs_list ho) F.plainAttrs_list F.slot_list_append F.type_list_append nod ?_
      refine one _ (fun cs H' s' ws R' rl q => ?_) (by simpa [arityOk] using ha)
      rcases q with ⟨_, v0, vs', rfl, e', hz, q⟩ | ⟨h, _⟩ | ⟨h, _⟩
      · (refine ex2 rl fun v r zr11g => ?_; refine and3 zr11g fun zq9g rv zq10g => ?_; clear zr11g; try clear rl; obtain rfl := zq9g; obtain rfl := zq10g)
        exact append_sound E R' e' hz q rv
      · exact absurd h (by decide +kernel)
      · exact absurd h (by decide +kernel)
    · refine PySem.getMethod_builtin (typeIs_list ho) F.plainAttrs_list F.slot_list_extend F.type_list_extend nod ?_
      refine one _ (fun cs H' s' ws R' rl q => ?_) (by simpa [arityOk] using ha)
      rcases q with ⟨h, _⟩ | ⟨_, v0, vs', ws', rfl, _, e', e2, hz, q⟩ | ⟨h, _⟩
      · exact absurd h (by decide +kernel)
      · (refine ex2 rl fun v r zr8g => ?_; refine and3 zr8g fun zq6g rv zq7g => ?_; clear zr8g; try clear rl; obtain rfl := zq6g; obtain rfl := zq7g)
        exact extend_sound E R' e' e2 hz q rv
      · exact absurd h (by decide +kernel)
    · refine PySem.getMethod_builtin (typeIs_list ho) F.plainAttrs_list F.slot_list_pop F.type_list_pop nod ?_
      have hlen : args = [] := by
        unfold arityOk at ha
        rw [if_neg (by decide +kernel), if_pos rfl] at ha
        exact List.length_eq_zero_iff.mp (by simpa using ha)
      subst hlen
      refine callWith_method0 ?_
      rcases hq [] H (ih0 rfl) with ⟨h, _⟩ | ⟨h, _⟩ | ⟨_, _, vs', v, e', q⟩
      · exact absurd h (by decide +kernel)
      · exact absurd h (by decide +kernel)
      · exact pop_sound E R e' q
  | obj C d =>
    (refine And.elim (fun hme zr4g => ?_) hm; refine Exists.elim zr4g fun es zr5g => ?_; refine And.elim (fun e e2 => ?_) zr5g; clear zr4g zr5g; try clear hm)
    (refine Exists.elim ro fun x zr3g => ?_; refine And.elim (fun zq2g hx => ?_) zr3g; clear zr3g; try clear ro; obtain rfl := zq2g)
    (refine ex3 (R.rep _ _ e) fun es' n' ws zr1g => ?_; refine and4 zr1g fun hd ha' hl hz' => ?_; clear zr1g)
    (refine and4 (O.meth C m hme) fun k1 k2 k3 k4 => ?_)
    have I : InstAt s.heap x (instObj (κ.cA C) d) (κ.cA C) (some (dictOf es' n')) := ⟨cst_get hx, rfl, rfl, hd⟩
    refine method_fn R.K I (plainGet_of k1).1 (plainGet_of k1).2 k2 (beq_iff_eq.mp k3) (by show (lookIn m (dictOf es' n')).map _ = _; rw [lookIn_dict, getL_none ha' e2]; rfl) ?_
    have fin : ∀ ws s', (∃ cs H', Rel κ X W (Mine.big W H s.heap) env loc H' s' ∧ RepL κ.cA κ.pr (cst X H' s'.heap) cs ws ∧ P cs H') → κ.K.In s'.heap ∧ wpAny (model κ.prog κ.w) A (PySem.call (.ref (fa C m)) ([.ref x] ++ ws)) (Post κ X W g env loc Q) No s' := by
      rintro ws s' ⟨cs, H', R', rl, p⟩
      have Rb := R.back R'
      refine ⟨Rb.K, wpAny_ofCode (S C m _ H' Q (hq cs H' p) A X W g env loc s' asg _ B.call E Rb hX (exI2 _ _ ⟨rfl, ⟨x, rfl, R.over R' _ _ hx⟩, rl⟩))⟩
    induction args using List.casesOn with
    | nil =>
      refine callWith_K0 R.K k4 ?_
      exact (fin [] s (exI2 [] H ⟨R.big, rfl, ih0 rfl⟩)).2
    | cons e1 r =>
      rw [List.all_cons, Bool.and_eq_true] at hs
      exact callWith_K R.K k4 (wpAny_mono ih (fun ws s' p => fin ws s' p) fun _ _ x => x) (star_false hs.1) (star_any hs.2)
  | _ => exact hm.elim
end
end
end Mine

/-! part S8 -/
namespace Mine
noncomputable section
open PySem PySem.W PyProof.Rows
open Classical

inductive ItK where
  | lst (l : Addr) | rng (n : Nat) | enm (it l : Addr)

noncomputable def itA (I : Addr) : ItK → Addr → Prop
  | .enm it _, a => a = I ∨ a = it
  | _, a => a = I
noncomputable def orP (X Y : Addr → Prop) : Addr → Prop := fun a => X a ∨ Y a

section
variable {κ : Kit} {T : Str → Str → Option FD} {fa : Str → Str → Addr} {X W : Addr → Prop} {g : PF} {env : Env} {loc : Loc} {H H' : CH} {s : Shared} {asg : Str → Prop} {A : Around} {cl : Cl} {n : Nat}

noncomputable def ListSrc (κ : Kit) (c : PF) (l : Addr) : Option (Addr × List CV) → List CV → Prop
  | none, vs => ∃ ws n, c l = some (listOf ws n) ∧ ws.size ≤ cap ∧ RepL κ.cA κ.pr c vs ws.toList
  | some (a, us), vs => a = l ∧ us = vs
noncomputable def ItAt (κ : Kit) (c : PF) (h : Heap) (I : Addr) (gd : Option (Addr × List CV)) : ItK → List CV → Nat → Prop
  | .lst l, vs, i => h.IsListIter I l i ∧ ListSrc κ c l gd vs
  | .rng n, vs, i => IsRangeIter h I i ((n : Int) - i) 1 ∧ vs = rangeItems n ∧ gd = none
  | .enm it l, vs, i => ∃ us old, IsEnum h I it i old ∧ h.IsListIter it l i ∧ I ≠ it ∧ vs = enumItems us ∧ ListSrc κ c l gd us

theorem ListSrc.mono {c c' : PF} {l : Addr} {gd : Option (Addr × List CV)} {vs : List CV} (hc : c.le c') (x : ListSrc κ c l gd vs) : ListSrc κ c' l gd vs := by
  induction gd using Option.casesOn with
  | none => (refine ex2 x fun ws n zr14g => ?_; refine and3 zr14g fun e hz hl => ?_; clear zr14g; try clear x); exact (exI2 ws n ⟨hc _ _ e, hz, RepL.mono _ _ hc _ _ hl⟩)
  | some p => exact x

/-- a new object that no value bears is hidden -/
theorem Rel.hideNew (R : Rel κ X W g env loc H s) (Y : Addr → Prop) {h' : Heap} {tk : Nat} (hk : ∀ a o, s.heap.get? a = some o → h'.get? a = some o) (hY : ∀ a, Y a → s.heap.get? a = none ∧ ∃ o, h'.get? a = some o) :
    Rel κ (orP X Y) W g env loc H { s with heap := h', toks := tk } ∧ (cst X H s.heap).le (cst (orP X Y) H h') := by
  have hle : (cst X H s.heap).le (cst (orP X Y) H h') := by
    intro a o e
    (refine and3 (cst_some.mp e) fun e1 e2 e3 => ?_)
    exact cst_some.mpr ⟨fun q => q.elim e1 fun y => by (rw [(hY a y).1] at e3; exact nn e3), e2, hk a o e3⟩
  refine ⟨⟨fun a o e => hk a o (R.keep a o e), R.disj, R.wg, fun a q => .inl (R.wx a q), fun a q => q.elim (R.xh a) fun y => R.clean (hY a y).1, fun a q => ?_, fun a o e => ?_, R.base, R.gens, R.os, R.drawn, ?_, ?_⟩, hle⟩
  · rcases q with q | q
    · obtain ⟨o, e⟩ := R.xs a q; exact ⟨o, hk a o e⟩
    · exact (hY a q).2
  · obtain ⟨o1, q⟩ := RepO.some _ (R.rep a o e)
    rw [hk a o1 q, ← q]; exact RepO.mono _ hle (R.rep a o e)
  · (refine Exists.elim R.loc fun m zr13g => ?_; refine And.elim (fun zq12g hl => ?_) zr13g; clear zr13g; obtain ⟨o, es, ep, ho, hd, hs, hf⟩ := zq12g)
    refine ⟨m, (exI3 o es ep ⟨hk _ _ ho, hd, hs, hf⟩), fun x c e => (hl x c e).mono hle ?_⟩
    rintro a v _ ⟨oc, h1, h2⟩; exact ⟨oc, hk _ _ h1, h2⟩
  · intro x a q
    (refine And.elim (fun h0 zr10g => ?_) (R.cells x a q); refine ex2 zr10g fun v oc zr11g => ?_; refine And.elim (fun h1 h2 => ?_) zr11g; clear zr10g zr11g)
    exact ⟨.inl h0, v, oc, hk _ _ h1, h2⟩

/-- what stands behind the making of an iterator -/
noncomputable def SrcPost (κ : Kit) (X W : Addr → Prop) (g : PF) (env : Env) (loc : Loc) (b : Bool) (K : List CV → Option (Addr × List CV) → CH → Prop) : Value → Shared → Prop :=
  fun it s' => ∃ I k vs gd H', it = .ref I ∧ (∀ a, itA I k a → ¬ X a ∧ g a = none) ∧ (∀ it l, k = .enm it l → b = true) ∧ Rel κ (orP X (itA I k)) W g env loc H' s' ∧ ItAt κ (cst (orP X (itA I k)) H' s'.heap) s'.heap I gd k vs 0 ∧ K vs gd H'

theorem iter_sound {b : Bool} {K : List CV → Option (Addr × List CV) → Prop} {c : CV} {v : Value} (R : Rel κ X W g env loc H s) (q : wpIter c H K) (rv : RepV κ.cA κ.pr (cst X H s.heap) c v) :
    wpAny (model κ.prog κ.w) A (pyIter v) (SrcPost κ X W g env loc b fun vs gd H' => H' = H ∧ K vs gd) No s := by
  have hn := get_none (h := s.heap) (Nat.le_refl s.heap.objs.size)
  have hg : g s.heap.objs.size = none := by
    cases e : g s.heap.objs.size with
    | none => rfl
    | some o => have := R.keep _ _ e; rw [hn] at this; exact nn this
  have main : ∀ (l : Addr) (ws : Array Value) (n : Nat) (gd : Option (Addr × List CV)) (vs : List CV), s.heap.get? l = some (listOf ws n) → ListSrc κ (cst X H s.heap) l gd vs → K vs gd →
      wpAny (model κ.prog κ.w) A (pyIter (.ref l)) (SrcPost κ X W g env loc b fun vs gd H' => H' = H ∧ K vs gd) No s := by
    intro l ws n gd vs ho hl q
    refine wpAny_pyIter_list (isList_of ho) ?_
    obtain ⟨R', hle⟩ := R.hideNew (itA s.heap.objs.size (.lst l)) (h' := s.heap.push { cls := .type "list_iterator", data := .fields #[.ref l, .int 0 0] }) (tk := s.toks) (fun a o e => Heap.get?_push_of_some _ e)
      (fun a q => by rw [show a = s.heap.objs.size from q]; exact ⟨hn, _, Heap.get?_push_size _ rfl⟩)
    refine (exI5 _ (.lst l) vs gd H ⟨rfl, fun a q => by rw [show a = s.heap.objs.size from q]; exact ⟨R.notX hn, hg⟩, (fun _ _ e => by cases e), R', ⟨⟨_, Heap.get?_push_size _ rfl, rfl, rfl⟩, hl.mono hle⟩, rfl, q⟩)
  induction c using Mine.CV.casesOn with
  | lst us =>
    obtain ⟨l, n, ws, rfl, ho, hz, hl⟩ := rv
    exact main l ws n none _ (cst_get ho) ⟨ws, n, ho, hz, hl⟩ q
  | ref a =>
    (refine Exists.elim q fun vs zr7g => ?_; refine And.elim (fun e q => ?_) zr7g; clear zr7g)
    rw [show v = .ref a from rv]
    obtain ⟨ws, n, ho, hz, hl⟩ := R.rep _ _ e
    exact main a ws n (some (a, vs)) vs ho ⟨rfl, rfl⟩ q
  | _ => exact q.elim

theorem range_sound {b : Bool} {K : List CV → Option (Addr × List CV) → CH → Prop} {i : Int} {t : Nat} (E : EnvOk env W asg) (R : Rel κ X W g env loc H s) (hi : -1000000 < i ∧ i < 1000000) (q : K (rangeItems i) none H) :
    wpAny (model κ.prog κ.w) A (PySem.call (.type "range") [.int i t]) (fun v s₁ => wpAny (model κ.prog κ.w) A (pyIter v) (SrcPost κ X W g env loc b K) No s₁) No s := by
  refine call_range_1 ?_
  have R1 := (R.push E { cls := .type "range", data := .fields #[.int 0 s.toks, .int i t, .int 1 (s.toks + 1)] }).toks (s.toks + 1 + 1)
  have hsz : Builtin.Range.rangeSize 0 i 1 = (i.toNat : Int) := by
    unfold Builtin.Range.rangeSize
    by_cases h : 0 < i
    · rw [if_pos (by decide), if_pos h]; lia
    · rw [if_pos (by decide), if_neg h]; lia
  have hsm : Builtin.Range.small 0 i 1 = true := by
    unfold Builtin.Range.small
    rw [hsz]
    simp [Builtin.Range.rangeFitsLong]; omega
  have hs : IsRange (s.heap.push { cls := .type "range", data := .fields #[.int 0 s.toks, .int i t, .int 1 (s.toks + 1)] }) s.heap.objs.size 0 i 1 s.toks t (s.toks + 1) := Heap.get?_push_size _ rfl
  generalize he : (s.heap.push { cls := .type "range", data := .fields #[.int 0 s.toks, .int i t, .int 1 (s.toks + 1)] }) = h1 at *
  refine wpAny_pyIter_range hs hsm ?_
  have hn := get_none (h := h1) (Nat.le_refl h1.objs.size)
  have hg : g h1.objs.size = none := by
    cases e : g h1.objs.size with
    | none => rfl
    | some o => have := R1.keep _ _ e; rw [show h1.get? h1.objs.size = none from hn] at this; exact nn this
  obtain ⟨R', hle⟩ := R1.hideNew (itA h1.objs.size (.rng i.toNat)) (h' := h1.push { cls := .type "range_iterator", data := .fields #[rawInt 0, rawInt (Builtin.Range.rangeSize 0 i 1), rawInt 1] }) (tk := s.toks + 1 + 1) (fun a o e => Heap.get?_push_of_some _ e)
    (fun a q => by rw [show a = h1.objs.size from q]; exact ⟨hn, _, Heap.get?_push_size _ rfl⟩)
  refine (exI5 _ (.rng i.toNat) (rangeItems i) none H ⟨rfl, fun a q => by rw [show a = h1.objs.size from q]; exact ⟨R1.notX hn, hg⟩, (fun _ _ e => by cases e), R', ⟨?_, ?_, rfl⟩, q⟩)
  · rw [hsz]; simp only [Int.natCast_zero, Int.sub_zero]; exact Heap.get?_push_size _ rfl
  · unfold rangeItems; rw [Int.toNat_natCast]

theorem enum_sound {K : List CV → Option (Addr × List CV) → CH → Prop} {c : CV} {v : Value} (R : Rel κ X W g env loc H s) (q : wpIter c H fun vs gd => K (enumItems vs) gd H) (rv : RepV κ.cA κ.pr (cst X H s.heap) c v) :
    wpAny (model κ.prog κ.w) A (PySem.call (.type "enumerate") [v]) (fun v s₁ => wpAny (model κ.prog κ.w) A (pyIter v) (SrcPost κ X W g env loc true K) No s₁) No s := by
  have hn := get_none (h := s.heap) (Nat.le_refl s.heap.objs.size)
  have hn1 := get_none (h := s.heap) (Nat.le_succ s.heap.objs.size)
  have gn : ∀ a, s.heap.get? a = none → g a = none := fun a ha => by
    cases e : g a with
    | none => rfl
    | some o => have := R.keep _ _ e; rw [ha] at this; exact nn this
  have main : ∀ (l : Addr) (ws : Array Value) (n : Nat) (gd : Option (Addr × List CV)) (vs : List CV), s.heap.get? l = some (listOf ws n) → ListSrc κ (cst X H s.heap) l gd vs → K (enumItems vs) gd H →
      wpAny (model κ.prog κ.w) A (PySem.call (.type "enumerate") [.ref l]) (fun v s₁ => wpAny (model κ.prog κ.w) A (pyIter v) (SrcPost κ X W g env loc true K) No s₁) No s := by
    intro l ws n gd vs ho hl q
    refine call_enumerate_1 ho fun h' he hit hsz hk => ?_
    refine wpAny_pyIter_enum he ?_
    (refine Exists.elim (id hit) fun oi zr5g => ?_; refine And.elim (fun hoi _ => ?_) zr5g; clear zr5g)
    obtain ⟨R', hle⟩ := R.hideNew (itA (s.heap.objs.size + 1) (.enm s.heap.objs.size l)) (h' := h') (tk := s.toks) hk (fun a q => by
      rcases q with q | q
      · rw [q]; exact ⟨hn1, _, he⟩
      · rw [q]; exact ⟨hn, _, hoi⟩)
    refine (exI5 _ (.enm s.heap.objs.size l) (enumItems vs) gd H ⟨rfl, fun a q => ?_, (fun _ _ _ => rfl), R', (exI2 vs (.none) ⟨he, hit, Nat.succ_ne_self _, rfl, hl.mono hle⟩), q⟩)
    rcases q with q | q
    · rw [q]; exact ⟨R.notX hn1, gn _ hn1⟩
    · rw [q]; exact ⟨R.notX hn, gn _ hn⟩
  induction c using Mine.CV.casesOn with
  | lst us =>
    obtain ⟨l, n, ws, rfl, ho, hz, hl⟩ := rv
    exact main l ws n none _ (cst_get ho) ⟨ws, n, ho, hz, hl⟩ q
  | ref a =>
    obtain ⟨vs, e, q⟩ := q
    rw [show v = .ref a from rv]
    obtain ⟨ws, n, ho, hz, hl⟩ := R.rep _ _ e
    exact main a ws n (some (a, vs)) vs ho ⟨rfl, rfl⟩ q
  | _ => exact q.elim
end
end
end Mine

/-! part S9 -/
namespace Mine
noncomputable section
open PySem PySem.W PyProof.Rows
open Classical

noncomputable def tgtOk (t : Expr) : ItK → Prop
  | .enm _ _ => ∃ ts j p, t = .Tuple ts j p
  | _ => (∃ x p, t = .Name x p) ∨ ∃ ts j p, t = .Tuple ts j p

section
variable {κ : Kit} {T : Str → Str → Option FD} {fa : Str → Str → Addr} {X W : Addr → Prop} {g : PF} {env : Env} {loc : Loc} {H H' : CH} {s : Shared} {asg : Str → Prop} {A : Around} {cl : Cl} {n : Nat}

theorem src_at {l : Addr} {gd : Option (Addr × List CV)} {vs : List CV} (R : Rel κ X W g env loc H s) (hg : guardOk gd H) (x : ListSrc κ (cst X H s.heap) l gd vs) :
    ∃ ws n, s.heap.get? l = some (listOf ws n) ∧ ws.size ≤ cap ∧ RepL κ.cA κ.pr (cst X H s.heap) vs ws.toList ∧ (gd = none → cst X H s.heap l = some (listOf ws n)) ∧ (gd ≠ none → H l ≠ none) := by
  induction gd using Option.casesOn with
  | none => (refine ex2 x fun ws n zr22g => ?_; refine and3 zr22g fun e hz hl => ?_; clear zr22g; try clear x); exact (exI2 ws n ⟨cst_get e, hz, hl, fun _ => e, fun q => absurd rfl q⟩)
  | some p =>
    obtain ⟨a, us⟩ := p
    obtain ⟨rfl, rfl⟩ := x
    (refine ex2 (R.rep _ _ hg) fun ws n zr21g => ?_; refine and3 zr21g fun ho hz hl => ?_; clear zr21g)
    exact (exI2 ws n ⟨ho, hz, hl, (fun q => by exact sn q), fun _ q => by (rw [show H a = some (.list us) from hg] at q; exact sn q)⟩)
theorem src_ne {l I : Addr} {gd : Option (Addr × List CV)} {vs : List CV} (R : Rel κ X W g env loc H s) (hg : guardOk gd H) (x : ListSrc κ (cst X H s.heap) l gd vs) (hI : X I) : l ≠ I := by
  (refine ex2 (src_at R hg x) fun ws n zr20g => ?_; refine and5 zr20g fun _ _ _ h1 h2 => ?_; clear zr20g)
  intro q
  by_cases hd : gd = none
  · exact (cst_some.mp (h1 hd)).1 (q ▸ hI)
  · exact h2 hd (q ▸ R.xh I hI)

/-- hidden objects alone are turned -/
theorem Rel.itStep (R : Rel κ X W g env loc H s) (E : EnvOk env W asg) (Z : Addr → Prop) {h' : Heap} {tk : Nat} (hZ : ∀ a, Z a → X a ∧ g a = none ∧ a ≠ env.locals ∧ (∀ x, env.cells.lookup x ≠ some a) ∧ ∃ o, h'.get? a = some o)
    (hk : ∀ a o, ¬ Z a → s.heap.get? a = some o → h'.get? a = some o) : Rel κ X W g env loc H { s with heap := h', toks := tk } ∧ (cst X H s.heap).le (cst X H h') := by
  refine ⟨R.step E Z hZ (fun a o e hz q => ⟨hk a o hz q, e⟩) R.xh (fun a o hle e => ?_), fun a o e => ?_⟩
  · have hz : ¬ Z a := fun q => by have := R.xh a (hZ a q).1; rw [e] at this; exact sn this
    obtain ⟨o1, q⟩ := RepO.some _ (R.rep a o e)
    rw [hk a o1 hz q, ← q]; exact RepO.mono _ hle (R.rep a o e)
  · (refine and3 (cst_some.mp e) fun e1 e2 e3 => ?_)
    exact cst_some.mpr ⟨e1, e2, hk a o (fun q => e1 (hZ a q).1) e3⟩

theorem letOwned_list {t : Expr} {I l : Addr} {i : Nat} {v : Value} {M : Unit → Shared → Prop} {F : Value → Shared → Prop} (ht : (∃ x p, t = .Name x p) ∨ ∃ ts j p, t = .Tuple ts j p) (hit : s.heap.IsListIter I l i) (q : M () s) :
    wpAny (model κ.prog κ.w) A (letOwnedTupleGo t (.ref I) v) M F s := by
  rcases ht with ⟨x, p, rfl⟩ | ⟨ts, j, p, rfl⟩
  · exact wpAny_pure q
  · induction v using PySem.Value.casesOn <;> first | exact wpAny_letOwnedTupleGo_listiter hit q | exact wpAny_pure q

theorem zipIdx_get : ∀ (us : List CV) (i k : Nat) (c : CV), (us.zipIdx k)[i]? = some (c, k + i) ↔ us[i]? = some c := by
  intro us i k c
  rw [List.getElem?_zipIdx]
  cases us[i]? <;> simp
theorem enum_get {us : List CV} {i : Nat} {c : CV} (e : (enumItems us)[i]? = some c) : ∃ u, us[i]? = some u ∧ c = .tup [.int (i : Nat), u] := by
  unfold enumItems at e
  rw [List.getElem?_map, List.getElem?_zipIdx] at e
  cases h : us[i]? with
  | none => rw [h] at e; exact nn e
  | some u => rw [h] at e; simp at e; exact ⟨u, rfl, e.symm⟩
theorem enum_len {us : List CV} : (enumItems us).length = us.length := by unfold enumItems; simp

theorem next_item {t : Expr} {I : Addr} {k : ItK} {gd : Option (Addr × List CV)} {vs : List CV} {i : Nat} {c : CV} {Q : Option Value → Shared → Prop} (E : EnvOk env W asg) (R : Rel κ X W g env loc H s)
    (hI : ∀ a, itA I k a → X a ∧ g a = none ∧ a ≠ env.locals ∧ ∀ x, env.cells.lookup x ≠ some a) (hit : ItAt κ (cst X H s.heap) s.heap I gd k vs i) (hg : guardOk gd H) (ht : tgtOk t k) (hc : vs[i]? = some c)
    (hQ : ∀ v s', (∀ F, wpAny (model κ.prog κ.w) A (letOwnedTupleGo t (.ref I) v) (fun _ s'' => Rel κ X W g env loc H s'' ∧ ItAt κ (cst X H s''.heap) s''.heap I gd k vs (i + 1) ∧ RepV κ.cA κ.pr (cst X H s''.heap) c v ∧ (∀ a o, ¬ itA I k a → s.heap.get? a = some o → s''.heap.get? a = some o)) F s') → Q (some v) s') :
    wpAny (model κ.prog κ.w) A (pyNext (.ref I)) Q No s := by
  induction k using Mine.ItK.casesOn with
  | lst l =>
    obtain ⟨h1, h2⟩ := hit
    (refine ex2 (src_at R hg h2) fun ws n zr19g => ?_; refine and5 zr19g fun ho hz hl _ _ => ?_; clear zr19g)
    (refine Exists.elim (RepL.get _ _ hl hc) fun v zr18g => ?_; refine And.elim (fun hv rv => ?_) zr18g; clear zr18g)
    refine wpAny_pyNext_list_item h1 (isList_of ho) (by rw [← Array.getElem?_toList]; exact hv) fun h' hit' hs => hQ _ _ fun F => ?_
    obtain ⟨oi, hoi, _⟩ := id hit'
    obtain ⟨R', hle⟩ := R.itStep (tk := s.toks) (h' := h') E (fun a => a = I) (fun a q => by rw [q]; exact ⟨(hI I rfl).1, (hI I rfl).2.1, (hI I rfl).2.2.1, (hI I rfl).2.2.2, oi, hoi⟩) (fun a o hz q => (hs.2 a hz).trans q)
    exact letOwned_list ht hit' ⟨R', ⟨hit', h2.mono hle⟩, RepV.mono _ _ hle _ _ rv, fun a o hz q => (hs.2 a hz).trans q⟩
  | rng n =>
    (refine and3 hit fun h1 zq15g zq16g => ?_; try clear hit; obtain rfl := zq15g; obtain rfl := zq16g)
    have hi : i < n ∧ c = .int (i : Nat) := by
      unfold rangeItems at hc
      rw [List.getElem?_map, Int.toNat_natCast] at hc
      by_cases h : i < n
      · rw [List.getElem?_range h] at hc; exact ⟨h, (Option.some.inj hc).symm⟩
      · rw [List.getElem?_eq_none (by simpa using Nat.not_lt.mp h)] at hc; exact nn hc
    obtain ⟨hi, rfl⟩ := hi
    refine wpAny_pyNext_range_item h1 (by lia) fun h' hit' hs => hQ _ _ fun F => ?_
    obtain ⟨R', hle⟩ := R.itStep (tk := s.toks + 1) (h' := h') E (fun a => a = I) (fun a q => by rw [q]; exact ⟨(hI I rfl).1, (hI I rfl).2.1, (hI I rfl).2.2.1, (hI I rfl).2.2.2, _, hit'⟩) (fun a o hz q => (hs.2 a hz).trans q)
    have fin : Rel κ X W g env loc H { s with heap := h', toks := s.toks + 1 } ∧ ItAt κ (cst X H h') h' I none (.rng n) (rangeItems n) (i + 1) ∧ RepV κ.cA κ.pr (cst X H h') (.int (i : Nat)) (.int i s.toks) ∧ (∀ a o, ¬ itA I (.rng n) a → s.heap.get? a = some o → h'.get? a = some o) := by
      refine ⟨R', ⟨?_, rfl, rfl⟩, ⟨_, rfl⟩, fun a o hz q => (hs.2 a hz).trans q⟩
      have e : ((n : Int) - ((i + 1 : Nat) : Int)) = (n : Int) - i - 1 := by lia
      rw [e, show (((i + 1 : Nat) : Int)) = (i : Int) + 1 by lia]
      exact hit'
    rcases ht with ⟨x, p, rfl⟩ | ⟨ts, j, p, rfl⟩
    · exact wpAny_pure fin
    · exact wpAny_pure fin
  | enm it l =>
    (refine ex2 hit fun us old zr14g => ?_; refine and5 zr14g fun h1 h2 hne zq13g h3 => ?_; clear zr14g; try clear hit; obtain rfl := zq13g)
    (refine ex3 ht fun ts j p zq12g => ?_; try clear ht; obtain rfl := zq12g)
    (refine ex2 (src_at R hg h3) fun ws n zr11g => ?_; refine and5 zr11g fun ho hz hl hl1 hl2 => ?_; clear zr11g)
    (refine Exists.elim (enum_get hc) fun u zr10g => ?_; refine And.elim (fun hu zq9g => ?_) zr10g; clear zr10g; obtain rfl := zq9g)
    obtain ⟨v, hv, rv⟩ := RepL.get _ _ hl hu
    have hn := get_none (h := s.heap) (Nat.le_refl s.heap.objs.size)
    refine wpAny_pyNext_enum_item h1 h2 (isList_of ho) (by rw [← Array.getElem?_toList]; exact hv) hne fun h' he' hit' htup hsz hk => hQ _ _ fun F => ?_
    refine wpAny_letOwnedTupleGo_enum he' fun h'' he'' hs'' => ?_
    have hIx := hI I (.inl rfl)
    have hitx := hI it (.inr rfl)
    (refine Exists.elim (id hit') fun oi zr7g => ?_; refine and3 zr7g fun hoi hoc hod => ?_; clear zr7g)
    have hit'' : h''.IsListIter it l (i + 1) := ⟨oi, (hs''.2 it (Ne.symm hne)).trans hoi, hoc, hod⟩
    obtain ⟨R', hle⟩ := R.itStep (tk := s.toks + 1) (h' := h'') E (fun a => a = I ∨ a = it) (fun a q => by
      rcases q with q | q
      · rw [q]; exact ⟨hIx.1, hIx.2.1, hIx.2.2.1, hIx.2.2.2, _, he''⟩
      · rw [q]; exact ⟨hitx.1, hitx.2.1, hitx.2.2.1, hitx.2.2.2, oi, (hs''.2 it (Ne.symm hne)).trans hoi⟩) (fun a o hz q => (hs''.2 a (fun z => hz (.inl z))).trans (hk a o (fun z => hz (.inl z)) (fun z => hz (.inr z)) q))
    have hsI : s.heap.objs.size ≠ I := fun q => by
      obtain ⟨o, e⟩ := R.xs I hIx.1
      rw [← q, hn] at e; exact nn e
    refine ⟨R', (exI2 us v ⟨he'', hit'', hne, rfl, h3.mono hle⟩), ?_, fun a o hz q => (hs''.2 a (fun z => hz (.inl z))).trans (hk a o (fun z => hz (.inl z)) (fun z => hz (.inr z)) q)⟩
    refine (exI3 _ 0 _ ⟨rfl, cst_some.mpr ⟨R.notX hn, R.clean hn, (hs''.2 _ hsI).trans htup⟩, by simp [cap_num], (exI2 _ _ ⟨rfl, ⟨_, rfl⟩, (exI2 _ _ ⟨rfl, RepV.mono _ _ hle _ _ rv, rfl⟩)⟩)⟩)

theorem next_end {I : Addr} {k : ItK} {gd : Option (Addr × List CV)} {vs : List CV} {i : Nat} (hh : A.handled = none) (E : EnvOk env W asg) (R : Rel κ (orP X (itA I k)) W g env loc H s)
    (hI : ∀ a, itA I k a → ¬ X a ∧ g a = none) (hW : ∀ a, W a → X a) (hC : ∀ x a, env.cells.lookup x = some a → X a)
    (hit : ItAt κ (cst (orP X (itA I k)) H s.heap) s.heap I gd k vs i) (hg : guardOk gd H) (hi : vs.length ≤ i) :
    wpAny (model κ.prog κ.w) A (pyNext (.ref I)) (fun r s' => r = none ∧ Rel κ X W g env loc H s' ∧ (cst (orP X (itA I k)) H s.heap).le (cst X H s'.heap) ∧ (∀ a o, ¬ itA I k a → s.heap.get? a = some o → s'.heap.get? a = some o)) No s := by
  have drop : ∀ (h' : Heap) (J : Addr), itA I k J → Heap.ExtBut J s.heap h' → Rel κ X W g env loc H { s with heap := h' } ∧ (cst (orP X (itA I k)) H s.heap).le (cst X H h') ∧ (∀ a o, ¬ itA I k a → s.heap.get? a = some o → h'.get? a = some o) := by
    intro h' J hJ hs
    refine ⟨R.stepX (tk := s.toks) E X (fun a => a = J) (fun a q => .inl q) hW hC (fun a q => ?_) (fun a o e hz q => ⟨hs a o hz q, e⟩) (fun a q => R.xh a (.inl q)) (fun a o hle e => ?_), fun a o e => ?_, fun a o hz q => hs a o (fun z => hz (z ▸ hJ)) q⟩
    · subst q
      have h1 := hI a hJ
      exact ⟨.inr hJ, h1.2, fun q => h1.1 (q ▸ hW _ E.wl), fun x q => h1.1 (hC x a q), fun q => absurd q h1.1⟩
    · have hz : a ≠ J := fun q => by have := R.xh J (.inr hJ); rw [← q, e] at this; exact sn this
      obtain ⟨o1, q⟩ := RepO.some _ (R.rep a o e)
      rw [hs a o1 hz q, ← q]; exact RepO.mono _ hle (R.rep a o e)
    · (refine and3 (cst_some.mp e) fun e1 e2 e3 => ?_)
      exact cst_some.mpr ⟨fun q => e1 (.inl q), e2, hs a o (fun q => e1 (.inr (q ▸ hJ))) e3⟩
  induction k using Mine.ItK.casesOn with
  | lst l =>
    obtain ⟨h1, h2⟩ := hit
    (refine ex2 (src_at R hg h2) fun ws n zr6g => ?_; refine and5 zr6g fun ho hz hl _ _ => ?_; clear zr6g)
    have hn := RepL.length _ _ hl
    rw [Array.length_toList] at hn
    exact wpAny_pyNext_list_end hh h1 (isList_of ho) (Array.getElem?_eq_none (by lia)) fun h' hs => ⟨rfl, drop h' I rfl hs⟩
  | rng n =>
    obtain ⟨h1, rfl, rfl⟩ := hit
    unfold rangeItems at hi
    simp at hi
    exact wpAny_pyNext_range_end hh h1 (by lia) fun h' hs => ⟨rfl, drop h' I rfl hs⟩
  | enm it l =>
    (refine ex2 hit fun us old zr3g => ?_; refine and5 zr3g fun h1 h2 hne zq2g h3 => ?_; clear zr3g; try clear hit; obtain rfl := zq2g)
    (refine ex2 (src_at R hg h3) fun ws n zr1g => ?_; refine and5 zr1g fun ho hz hl hl1 hl2 => ?_; clear zr1g)
    have hn := RepL.length _ _ hl
    rw [Array.length_toList] at hn
    rw [enum_len] at hi
    exact wpAny_pyNext_enum_end hh h1 h2 (isList_of ho) (Array.getElem?_eq_none (by lia)) fun h' hs => ⟨rfl, drop h' it (.inr rfl) hs⟩
end
end
end Mine

/-! part S10 -/
namespace Mine
noncomputable section
open PySem PySem.W PyProof.Rows
open Classical

section
variable {κ : Kit} {T : Str → Str → Option FD} {fa : Str → Str → Addr} {X W : Addr → Prop} {g : PF} {env : Env} {loc loc' : Loc} {H H' : CH} {s : Shared} {asg : Str → Prop} {A : Around} {cl : Cl} {n : Nat}

theorem Rel.forget (R : Rel κ X W g env loc H s) (h : ∀ x c, look x loc' = some c → look x loc = some c) : Rel κ X W g env loc' H s := by
  (refine Exists.elim R.loc fun m zr12g => ?_; refine And.elim (fun hn hl => ?_) zr12g; clear zr12g)
  exact ⟨R.keep, R.disj, R.wg, R.wx, R.xh, R.xs, R.rep, R.base, R.gens, R.os, R.drawn, ⟨m, hn, fun x c e => hl x c (h x c e)⟩, R.cells⟩

theorem store_sound {x : Str} {c : CV} {v : Value} (E : EnvOk env W asg) (R : Rel κ X W g env loc H s) (ha : asg x) (rv : RepV κ.cA κ.pr (cst X H s.heap) c v) :
    wpAny (model κ.prog κ.w) A (storeName env x v) (fun _ s' => Rel κ X W g env (put x c loc) H s' ∧ (cst X H s.heap).le (cst X H s'.heap)) No s := by
  (refine Exists.elim R.loc fun m zr11g => ?_; refine And.elim (fun hn hl => ?_) zr11g; clear zr11g)
  rcases E.asg x ha with hk | ⟨hk, a, ea, wa⟩
  · refine wpAny_storeName_local hk hn (fun h' hn' hs => ?_) (by rw [E.hk]; rfl)
    have hle : (cst X H s.heap).le (cst X H h') := fun b o e => by
      (refine and3 (cst_some.mp e) fun e1 e2 e3 => ?_)
      exact cst_some.mpr ⟨e1, e2, (hs.2 b (fun q => e1 (q ▸ R.wx _ E.wl))).trans e3⟩
    have hneH : ∀ b o, H b = some o → b ≠ env.locals := fun b o e q => by have := R.xh _ (R.wx _ E.wl); rw [← q, e] at this; exact sn this
    refine ⟨⟨fun b o e => (hs.2 b (fun q => by (rw [q, R.wg _ E.wl] at e; exact nn e))).trans (R.keep b o e), R.disj, R.wg, R.wx, R.xh, fun b q => ?_, fun b o e => ?_, R.base, R.gens, R.os, R.drawn, ⟨_, hn', fun y cy e => ?_⟩, fun y b e => ?_⟩, hle⟩
    · by_cases hb : b = env.locals
      · (refine ex3 hn' fun ol _ _ zr10g => ?_; refine And.elim (fun e _ => ?_) zr10g; clear zr10g; try clear hn'); exact ⟨ol, hb ▸ e⟩
      · obtain ⟨o, e⟩ := R.xs b q; exact ⟨o, (hs.2 b hb).trans e⟩
    · rw [hs.2 b (hneH b o e)]; exact RepO.mono _ hle (R.rep b o e)
    · rw [look_put] at e
      by_cases hy : x = y
      · rw [if_pos hy] at e; obtain rfl := Option.some.inj e
        exact .inl ⟨hy ▸ hk, v, by simp [hy], RepV.mono _ _ hle _ _ rv⟩
      · rw [if_neg hy] at e
        rcases hl y cy e with ⟨k, u, e1, r⟩ | ⟨k, b, u, e1, ⟨oc, i1, i2⟩, r⟩
        · exact .inl ⟨k, u, by simp only; rw [if_neg (fun q => hy q.symm)]; exact e1, RepV.mono _ _ hle _ _ r⟩
        · exact .inr ⟨k, b, u, e1, ⟨oc, (hs.2 b (E.nl y b e1)).trans i1, i2⟩, RepV.mono _ _ hle _ _ r⟩
    · (refine And.elim (fun h0 zr8g => ?_) (R.cells y b e); refine ex2 zr8g fun u oc zr9g => ?_; refine And.elim (fun i1 i2 => ?_) zr9g; clear zr8g zr9g)
      exact ⟨h0, u, oc, (hs.2 b (E.nl y b e)).trans i1, i2⟩
  · (refine And.elim (fun xa zr7g => ?_) (R.cells x a ea); refine Exists.elim zr7g fun v0 hi => ?_; clear zr7g)
    refine wpAny_storeName_cell E.hk hk ea hi fun h' hi' hs => ?_
    have hle : (cst X H s.heap).le (cst X H h') := fun b o e => by
      (refine and3 (cst_some.mp e) fun e1 e2 e3 => ?_)
      exact cst_some.mpr ⟨e1, e2, (hs.2 b (fun q => e1 (q ▸ xa))).trans e3⟩
    have hneH : ∀ b o, H b = some o → b ≠ a := fun b o e q => by have := R.xh _ xa; rw [← q, e] at this; exact sn this
    have hL : env.locals ≠ a := fun q => E.nl x a ea q.symm
    refine ⟨⟨fun b o e => (hs.2 b (fun q => by (rw [q, R.wg _ wa] at e; exact nn e))).trans (R.keep b o e), R.disj, R.wg, R.wx, R.xh, fun b q => ?_, fun b o e => ?_, R.base, R.gens, R.os, R.drawn, ⟨m, hn.sameBut hs hL, fun y cy e => ?_⟩, fun y b e => ?_⟩, hle⟩
    · by_cases hb : b = a
      · (refine Exists.elim hi' fun ol zr6g => ?_; refine And.elim (fun e _ => ?_) zr6g; clear zr6g; try clear hi'); exact ⟨ol, hb ▸ e⟩
      · obtain ⟨o, e⟩ := R.xs b q; exact ⟨o, (hs.2 b hb).trans e⟩
    · rw [hs.2 b (hneH b o e)]; exact RepO.mono _ hle (R.rep b o e)
    · rw [look_put] at e
      by_cases hy : x = y
      · rw [if_pos hy] at e; obtain rfl := Option.some.inj e
        exact .inr ⟨.inl (hy ▸ hk), a, v, hy ▸ ea, hi', RepV.mono _ _ hle _ _ rv⟩
      · rw [if_neg hy] at e
        rcases hl y cy e with ⟨k, u, e1, r⟩ | ⟨k, b, u, e1, ⟨oc, i1, i2⟩, r⟩
        · exact .inl ⟨k, u, e1, RepV.mono _ _ hle _ _ r⟩
        · exact .inr ⟨k, b, u, e1, ⟨oc, (hs.2 b (fun q => hy (E.inj x y a ea (q ▸ e1)))).trans i1, i2⟩, RepV.mono _ _ hle _ _ r⟩
    · by_cases hb : b = a
      · subst hb; exact ⟨xa, _, hi'⟩
      · (refine And.elim (fun h0 zr4g => ?_) (R.cells y b e); refine ex2 zr4g fun u oc zr5g => ?_; refine And.elim (fun i1 i2 => ?_) zr5g; clear zr4g zr5g)
        exact ⟨h0, u, oc, (hs.2 b hb).trans i1, i2⟩

/-- the targets of a comprehension -/
theorem bindNames_sound {P : Loc → Prop} {N : Names} : ∀ (ts : List Expr) (vs : List CV) (ws : List Value) (loc : Loc) (s : Shared), (∀ x, asgIn N x = true → asg x) → EnvOk env W asg → Rel κ X W g env loc H s →
    ts.all (nmIn N) = true → RepL κ.cA κ.pr (cst X H s.heap) vs ws → bindNames ts vs loc P →
    wpAny (model κ.prog κ.w) A (assignInOrder ((assignEach ts env).map (·.2)) ws) (fun _ s' => ∃ loc', Rel κ X W g env loc' H s' ∧ (∀ x c, look x loc = some c → look x loc' = some c) ∧ (cst X H s.heap).le (cst X H s'.heap) ∧ P loc') No s
  | [], [], ws, loc, s, _, _, R, _, rl, q => by
    rw [show ws = [] from rl]
    exact wpAny_pure ⟨loc, R, fun _ _ e => e, fun _ _ e => e, q⟩
  | [], _ :: _, _, _, _, _, _, _, _, _, q => q.elim
  | t :: ts, [], _, _, _, _, _, _, _, _, q => by induction t using PySem.Expr.casesOn <;> exact q.elim
  | t :: ts, v :: vs, ws, loc, s, hA, E, R, hn, zz1, q => by
    (refine ex2 zz1 fun w r zr3g => ?_; refine and3 zr3g fun e0 rv rl => ?_; clear zr3g; try clear zz1)
    subst e0
    rw [List.all_cons, Bool.and_eq_true] at hn
    induction t using PySem.Expr.casesOn with
    | Name x p =>
      obtain ⟨q0, q⟩ := q
      show wpAny _ _ (assignInOrder (assign (.Name x p) env :: (assignEach ts env).map (·.2)) (w :: r)) _ _ _
      refine wpAny_bind (wpAny_holding (wpAny_assign_Name (wpAny_mono (store_sound E R (hA x hn.1) rv) (fun _ s' zz1 => zz1.elim fun R' hle => ?_) fun _ _ x => x)))
      refine wpAny_mono (bindNames_sound ts vs r _ s' hA E R' hn.2 (RepL.mono _ _ hle _ _ rl) q) (fun _ s'' zz2 => zz2.elim fun loc' zz3 => zz3.elim fun R'' zz4 => zz4.elim fun hs zz5 => zz5.elim fun hle' p => ⟨loc', R'', fun y c e => hs y c ?_, fun a o e => hle' a o (hle a o e), p⟩) fun _ _ x => x
      rw [look_put, if_neg (fun q => by rw [← q, q0] at e; exact nn e)]; exact e
    | _ => exact noB hn.1
theorem each_names {N : Names} : ∀ {ts : List Expr}, ts.all (nmIn N) = true → (assignEach ts env).length = ts.length ∧ (assignEach ts env).findIdx? (·.1) = none
  | [], _ => ⟨rfl, rfl⟩
  | t :: ts, h => by
    rw [List.all_cons, Bool.and_eq_true] at h
    obtain ⟨a, b⟩ := each_names h.2
    induction t using PySem.Expr.casesOn with
    | Name x p =>
      show ((false, _) :: assignEach ts env).length = _ ∧ _
      refine ⟨by rw [List.length_cons, List.length_cons, a], ?_⟩
      show List.findIdx? _ ((false, _) :: assignEach ts env) = none
      rw [List.findIdx?_cons]; simp [b]
    | _ => exact noB h.1
theorem bindNames_len {P : Loc → Prop} : ∀ (ts : List Expr) (vs : List CV) (loc : Loc), bindNames ts vs loc P → ts.length = vs.length
  | [], [], _, _ => rfl
  | [], _ :: _, _, q => q.elim
  | t :: ts, [], _, q => by induction t using PySem.Expr.casesOn <;> exact q.elim
  | t :: ts, v :: vs, loc, q => by
    induction t using PySem.Expr.casesOn with
    | Name x p => rw [List.length_cons, List.length_cons, bindNames_len ts vs _ q.2]
    | _ => exact q.elim
theorem bind_sound {P : Loc → Prop} {N : Names} {t : Expr} {c : CV} {v : Value} (hh : A.handled = none) (hA : ∀ x, asgIn N x = true → asg x) (E : EnvOk env W asg) (R : Rel κ X W g env loc H s) (ht : targetOk N t = true)
    (rv : RepV κ.cA κ.pr (cst X H s.heap) c v) (q : wpBind t c loc P) :
    wpAny (model κ.prog κ.w) A (assign t env v) (fun _ s' => ∃ loc', Rel κ X W g env loc' H s' ∧ (∀ x c, look x loc = some c → look x loc' = some c) ∧ (cst X H s.heap).le (cst X H s'.heap) ∧ P loc') No s := by
  induction t using PySem.Expr.casesOn with
  | Name x p =>
    obtain ⟨q0, q⟩ := q
    refine wpAny_assign_Name (wpAny_mono (store_sound E R (hA x ht) rv) (fun _ s' zz6 => zz6.elim fun R' hle => ⟨_, R', fun y c e => ?_, hle, q⟩) fun _ _ x => x)
    rw [look_put, if_neg (fun q => by rw [← q, q0] at e; exact nn e)]; exact e
  | Tuple ts j p =>
    induction c using Mine.CV.casesOn with
    | tup vs =>
      (refine ex3 rv fun a n ws zr2g => ?_; refine and4 zr2g fun zq1g ho hz hl => ?_; clear zr2g; try clear rv; obtain rfl := zq1g)
      have hl' := RepL.length _ _ hl
      rw [Array.length_toList] at hl'
      obtain ⟨e1, e2⟩ := each_names (env := env) (N := N) ht
      refine wpAny_assign_Tuple hh (t := a) (items := ws) ⟨_, cst_get ho, rfl, n, rfl⟩ (by rw [e1, hl', bindNames_len ts vs loc q]) e2 fun h' hs => ?_
      have R' := R.same (tk := s.toks) (h' := h') E fun b o e => hs b o (Nat.ne_of_lt (Heap.lt_size e)) e
      have hle : (cst X H s.heap).le (cst X H h') := fun b o e => by
        (refine and3 (cst_some.mp e) fun p1 p2 p3 => ?_)
        exact cst_some.mpr ⟨p1, p2, hs b o (Nat.ne_of_lt (Heap.lt_size p3)) p3⟩
      refine wpAny_mono (bindNames_sound ts vs ws.toList loc _ hA E R' ht (RepL.mono _ _ hle _ _ hl) q) (fun _ s'' zz7 => zz7.elim fun loc' zz8 => zz8.elim fun R'' zz9 => zz9.elim fun hs' zz10 => zz10.elim fun hle' p => ⟨loc', R'', hs', fun a o e => hle' a o (hle a o e), p⟩) fun _ _ x => x
    | _ => exact q.elim
  | _ => exact noB ht
end
end
end Mine

/-! part S11 -/
namespace Mine
noncomputable section
open PySem PySem.W PyProof.Rows
open Classical

noncomputable def testsTree (ifs : List Expr) (env : Env) : Sem Bool := forIn ifs true fun c r => if r = true then do let ok ← isTrue c env (eval c env); pure (ForInStep.yield ok) else pure (ForInStep.yield r)
/-- what stands behind the tests of a turn: the element, or the next generator -/
noncomputable def EmitWp (M : Model) (A : Around) (elt : Expr) (gens : List Comprehension) (sc : Scope) (pos : Pos) (acc : Value) (env : Env) (F : Value → Shared → Prop) (d : Nat) (Q : Shared → Prop) (s : Shared) : Prop :=
  match gens[d]? with
  | none => wpAny M A (eval elt env) (fun v s' => wpAny M A (PySem.call (.builtin "list.append") [acc, v]) (fun _ s'' => Q s'') F s') F s
  | some g' => g'.is_async = 0 ∧ (∀ x, foldedSetIterable g'.iter env x = pure x) ∧ wpAny M A (eval g'.iter env) (fun x s₁ => wpAny M A (pyIter x) (fun it s₂ => codeAny M A (.compStart (.ListComp elt gens sc pos) d it acc env) (fun r s' => match r with
      | .ok _ => Q s'
      | .error e => cameBackBy M A env F e s') s₂) F s₁) F s

section
variable {κ : Kit} {T : Str → Str → Option FD} {fa : Str → Str → Addr} {X W : Addr → Prop} {g : PF} {env : Env} {loc loc' : Loc} {H H' : CH} {s : Shared} {asg : Str → Prop} {A : Around} {cl : Cl} {n : Nat}

theorem comp_turn {M : Model} {elt : Expr} {gens : List Comprehension} {sc : Scope} {pos : Pos} {d : Nat} {it acc : Value} {t iter : Expr} {ifs : List Expr} {Q : Fin → Shared → Prop} {F : Value → Shared → Prop}
    (h : gens[d]? = some ⟨t, iter, ifs, 0⟩)
    (hw : wpAny M A (pyNext it) (fun r s₁ => match r with
      | none => Q (.done .next) s₁
      | some v => wpAny M A (letOwnedTupleGo t it v) (fun _ s₂ => wpAny M A (assign t env v) (fun _ s₃ => wpAny M A (testsTree ifs env) (fun ok s₄ =>
          if ok = true then EmitWp M A elt gens sc pos acc env F (d + 1) (Q (.again (.compLoop (.ListComp elt gens sc pos) d it acc env))) s₄ else Q (.again (.compLoop (.ListComp elt gens sc pos) d it acc env)) s₄) F s₃) F s₂) F s₁) F s) :
    wpAny M A (compTurn (.ListComp elt gens sc pos) d it acc env) Q F s := by
  unfold compTurn
  simp only [h]
  unfold EmitWp at hw
  cases h2 : gens[d + 1]? with
  | none =>
    rw [h2] at hw
    simp only at hw ⊢
    refine wpAny_bind (wpAny_standAt (wpAny_bind (wpAny_mono hw (fun r s₁ h₁ => ?_) fun _ _ x => x)))
    induction r using Option.casesOn with
    | none => exact wpAny_pure h₁
    | some v =>
      refine wpAny_bind (wpAny_mono h₁ (fun _ s₂ h₂ => wpAny_bind (wpAny_mono h₂ (fun _ s₃ h₃ => wpAny_bind (wpAny_mono h₃ (fun ok s₄ h₄ => ?_) fun _ _ x => x)) fun _ _ x => x)) fun _ _ x => x)
      induction ok using Bool.casesOn with
      | false => exact wpAny_pure (by simpa using h₄)
      | true =>
        rw [if_pos rfl] at h₄
        exact wpAny_bind (wpAny_bind (wpAny_mono h₄ (fun v s₅ h₅ => wpAny_bind (wpAny_mono h₅ (fun _ s₆ h₆ => wpAny_pure (wpAny_pure h₆)) fun _ _ x => x)) fun _ _ x => x))
  | some g' =>
    rw [h2] at hw
    simp only at hw ⊢
    refine wpAny_bind (wpAny_standAt (wpAny_bind (wpAny_mono hw (fun r s₁ h₁ => ?_) fun _ _ x => x)))
    induction r using Option.casesOn with
    | none => exact wpAny_pure h₁
    | some v =>
      refine wpAny_bind (wpAny_mono h₁ (fun _ s₂ h₂ => wpAny_bind (wpAny_mono h₂ (fun _ s₃ h₃ => wpAny_bind (wpAny_mono h₃ (fun ok s₄ h₄ => ?_) fun _ _ x => x)) fun _ _ x => x)) fun _ _ x => x)
      induction ok using Bool.casesOn with
      | false => exact wpAny_pure (by simpa using h₄)
      | true =>
        rw [if_pos rfl] at h₄
        (refine and3 h₄ fun ha hf h₄ => ?_)
        have e0 : (g'.is_async != 0) = false := by rw [ha]; rfl
        simp only [e0, Bool.false_eq_true, if_false]
        refine wpAny_bind (wpAny_mono h₄ (fun x s₅ h₅ => wpAny_bind (wpAny_standAt (wpAny_bind (wpAny_of_eq (hf x) ?_)))) fun _ _ x => x)
        refine wpAny_bind (wpAny_holding (wpAny_mono h₅ (fun itv s₆ h₆ => ?_) fun _ _ x => x))
        refine wpAny_bind (wpAny_runOwn (codeAny_mono h₆ fun r s' q => ?_))
        induction r using Except.casesOn with
        | ok f => exact wpAny_pure q
        | error e => exact q
end
end
end Mine

/-! part S12 -/
namespace Mine
noncomputable section
open PySem PySem.W PyProof.Rows
open Classical

noncomputable def AccAt (κ : Kit) (c : PF) (h : Heap) (D : Addr) (acc : List CV) : Prop := ∃ ws n, h.get? D = some (listOf ws n) ∧ ws.size ≤ cap ∧ RepL κ.cA κ.pr c acc ws.toList
/-- an object that is hidden and not the frame's own -/
structure Aside (X W : Addr → Prop) (g : PF) (env : Env) (D : Addr) : Prop where
  x : X D
  w : ¬ W D
  g : g D = none
  c : ∀ x, env.cells.lookup x ≠ some D

section
variable {κ : Kit} {T : Str → Str → Option FD} {fa : Str → Str → Addr} {X W : Addr → Prop} {g : PF} {env : Env} {loc loc' : Loc} {H H' : CH} {s s' : Shared} {asg : Str → Prop} {A : Around} {cl : Cl} {n : Nat}

/-- what an evaluation under `big` leaves -/
structure Left (W : Addr → Prop) (X : Addr → Prop) (H : CH) (s : Shared) (H' : CH) (s' : Shared) : Prop where
  le : (cst X H s.heap).le (cst X H' s'.heap)
  ob : ∀ a o, ¬ W a → H a = none → s.heap.get? a = some o → s'.heap.get? a = some o ∧ H' a = none
theorem Rel.left (R : Rel κ X W g env loc H s) (R' : Rel κ X W (Mine.big W H s.heap) env loc' H' s') : Left W X H s H' s' :=
  ⟨R.over R', fun a o hw hh e => by
    have e4 : Mine.big W H s.heap a = some o := cst_some.mpr ⟨hw, hh, e⟩
    exact ⟨R'.keep a o e4, Classical.byContradiction fun q => by rw [R'.disj a q] at e4; (exact nn e4)⟩⟩
theorem Rel.bigY (R : Rel κ X W g env loc H s) (Y : Addr → Prop) (hWY : ∀ a, W a → Y a) (hb : ∀ a o, κ.s0.heap.get? a = some o → ¬ Y a) : Rel κ X W (Mine.big Y H s.heap) env loc H s := by
  refine R.big.shrink (fun a o e => ?_) (fun a o e => ?_)
  · (refine and3 (cst_some.mp e) fun e1 e2 e3 => ?_)
    exact cst_some.mpr ⟨fun q => e1 (hWY a q), e2, e3⟩
  · have e' := R.base a o e
    exact cst_some.mpr ⟨hb a o e, Classical.byContradiction fun q => by rw [R.disj a q] at e'; (exact nn e'), R.keep a o e'⟩
theorem Rel.backY {Y : Addr → Prop} (R : Rel κ X W g env loc H s) (hg : ∀ a, Y a → g a = none) {s' : Shared} (R' : Rel κ X W (Mine.big Y H s.heap) env loc' H' s') : Rel κ X W g env loc' H' s' :=
  R'.shrink (fun a o e => cst_some.mpr ⟨fun q => by rw [hg a q] at e; (exact nn e), Classical.byContradiction fun q => by rw [R.disj a q] at e; (exact nn e), R.keep a o e⟩) R.base
theorem Rel.leftY {Y : Addr → Prop} (hYX : ∀ a, Y a → X a) {s' : Shared} (R' : Rel κ X W (Mine.big Y H s.heap) env loc' H' s') : Left Y X H s H' s' := by
  have ob : ∀ a o, ¬ Y a → H a = none → s.heap.get? a = some o → s'.heap.get? a = some o ∧ H' a = none := fun a o hw hh e => by
    have e4 : Mine.big Y H s.heap a = some o := cst_some.mpr ⟨hw, hh, e⟩
    exact ⟨R'.keep a o e4, Classical.byContradiction fun q => by rw [R'.disj a q] at e4; (exact nn e4)⟩
  refine ⟨fun a o e => ?_, ob⟩
  (refine and3 (cst_some.mp e) fun e1 e2 e3 => ?_)
  have := ob a o (fun q => e1 (hYX a q)) e2 e3
  exact cst_some.mpr ⟨e1, this.2, this.1⟩
theorem Left.trans {H'' : CH} {s'' : Shared} (x : Left W X H s H' s') (y : Left W X H' s' H'' s'') : Left W X H s H'' s'' :=
  ⟨fun a o e => y.le a o (x.le a o e), fun a o hw hh e => y.ob a o hw (x.ob a o hw hh e).2 (x.ob a o hw hh e).1⟩
theorem Left.ofStore (E : EnvOk env W asg) (h : (cst X H s.heap).le (cst X H s'.heap)) (hk : ∀ a o, ¬ W a → s.heap.get? a = some o → s'.heap.get? a = some o) : Left W X H s H s' :=
  ⟨h, fun a o hw hh e => ⟨hk a o hw e, hh⟩⟩

theorem AccAt.left {D : Addr} {acc : List CV} (x : AccAt κ (cst X H s.heap) s.heap D acc) (l : Left W X H s H' s') (hw : ¬ W D) (hh : H D = none) : AccAt κ (cst X H' s'.heap) s'.heap D acc :=
  x.elim fun ws zz1 => zz1.elim fun n zz2 => zz2.elim fun e zz3 => zz3.elim fun hz hl =>
  (exI2 ws n ⟨(l.ob D _ hw hh e).1, hz, RepL.mono _ _ l.le _ _ hl⟩)
theorem ItAt.left {I : Addr} {gd : Option (Addr × List CV)} {k : ItK} {vs : List CV} {i : Nat} (x : ItAt κ (cst X H s.heap) s.heap I gd k vs i) (l : Left W X H s H' s') (hI : ∀ a, itA I k a → ¬ W a ∧ H a = none) :
    ItAt κ (cst X H' s'.heap) s'.heap I gd k vs i := by
  induction k using Mine.ItK.casesOn with
  | lst b =>
    obtain ⟨⟨o, h1, h2, h3⟩, h4⟩ := x
    exact ⟨⟨o, (l.ob I o (hI I rfl).1 (hI I rfl).2 h1).1, h2, h3⟩, h4.mono l.le⟩
  | rng b =>
    obtain ⟨h1, h2⟩ := x
    exact ⟨(l.ob I _ (hI I rfl).1 (hI I rfl).2 h1).1, h2⟩
  | enm it b =>
    (refine ex2 x fun us old zr6g => ?_; refine and5 zr6g fun h1 zq5g h5 h6 h7 => ?_; clear zr6g; try clear x; obtain ⟨o, h2, h3, h4⟩ := zq5g)
    exact (exI2 us old ⟨(l.ob I _ (hI I (.inl rfl)).1 (hI I (.inl rfl)).2 h1).1, ⟨o, (l.ob it o (hI it (.inr rfl)).1 (hI it (.inr rfl)).2 h2).1, h3, h4⟩, h5, h6, h7.mono l.le⟩)

noncomputable def TestsOk (κ : Kit) (W : Addr → Prop) (env : Env) (A : Around) (cl : Cl) (ifs : List Expr) : Prop :=
  ∀ (X : Addr → Prop) (g : PF) (loc : Loc) (H : CH) (s : Shared) (Q : Bool → CH → Prop), (∀ a o, κ.s0.heap.get? a = some o → ¬ X a) → Rel κ X W g env loc H s → wpTs cl .And ifs loc H Q →
    wpAny (model κ.prog κ.w) A (testsTree ifs env) (fun ok s' => ∃ H', Rel κ X W g env loc H' s' ∧ Q ok H') No s
noncomputable def EmitOk (κ : Kit) (W : Addr → Prop) (env : Env) (A : Around) (cl : Cl) (emit : Emit) (elt : Expr) (gens : List Comprehension) (sc : Scope) (pos : Pos) (d : Nat) (gs : List Comprehension) : Prop :=
  ∀ (X : Addr → Prop) (g : PF) (loc : Loc) (acc : List CV) (H : CH) (s : Shared) (D : Addr) (K : List CV → CH → Prop), (∀ a o, κ.s0.heap.get? a = some o → ¬ X a) → Rel κ X W g env loc H s → AccAt κ (cst X H s.heap) s.heap D acc → Aside X W g env D →
    wpGens cl emit gs loc acc H K → EmitWp (model κ.prog κ.w) A elt gens sc pos (.ref D) env No d (fun s' => ∃ loc' acc' H', Rel κ X W g env loc' H' s' ∧ (∀ x c, look x loc = some c → look x loc' = some c) ∧ AccAt κ (cst X H' s'.heap) s'.heap D acc' ∧ K acc' H') s

theorem EmitWp.mono {M : Model} {elt : Expr} {gens : List Comprehension} {sc : Scope} {pos : Pos} {acc : Value} {d : Nat} {F F' : Value → Shared → Prop} {Q Q' : Shared → Prop} (h : EmitWp M A elt gens sc pos acc env F d Q s) (hQ : ∀ s, Q s → Q' s) (hF : ∀ v s, F v s → F' v s) :
    EmitWp M A elt gens sc pos acc env F' d Q' s := by
  unfold EmitWp at h ⊢
  split
  · rename_i e
    rw [e] at h
    exact wpAny_mono h (fun v s' h' => wpAny_mono h' (fun _ s'' q => hQ _ q) hF) hF
  · rename_i g' e
    rw [e] at h
    refine ⟨h.1, h.2.1, wpAny_mono h.2.2 (fun x s₁ h₁ => wpAny_mono h₁ (fun it s₂ h₂ => codeAny_mono h₂ fun r s' q => ?_) hF) hF⟩
    induction r using Except.casesOn with
    | ok f => exact hQ _ q
    | error e => exact wpAny_mono q (fun _ _ q => hF _ _ q) hF

theorem no_any {F : Value → Shared → Prop} : ∀ v s, No v s → F v s := fun _ _ x => x.elim

noncomputable def compStep (cl : Cl) (emit : Emit) (t : Expr) (ifs : List Expr) (gs : List Comprehension) (loc : Loc) : CV → List CV → CH → (List CV → CH → Prop) → Prop :=
  fun v acc H K => wpBind t v loc fun loc' => wpTs cl .And ifs loc' H fun b H => (b = false → K acc H) ∧ (b = true → wpGens cl emit gs loc' acc H K)

theorem gen_loop {N : Names} {emit : Emit} {elt : Expr} {gens : List Comprehension} {sc : Scope} {pos : Pos} {d : Nat} {t iter : Expr} {ifs : List Expr} {gs : List Comprehension} {I D : Addr} {k : ItK} {gd : Option (Addr × List CV)} {vs acc : List CV} {K : List CV → CH → Prop}
    (hg : gens[d]? = some ⟨t, iter, ifs, 0⟩) (hh : A.handled = none) (hA : ∀ x, asgIn N x = true → asg x) (E : EnvOk env W asg) (ht : targetOk N t = true) (htk : tgtOk t k) (hX : ∀ a o, κ.s0.heap.get? a = some o → ¬ X a)
    (hT : TestsOk κ W env A cl ifs) (hE : EmitOk κ W env A cl emit elt gens sc pos (d + 1) gs) (hW : ∀ a, W a → X a) (hC : ∀ x a, env.cells.lookup x = some a → X a)
    (hI : ∀ a, itA I k a → ¬ X a ∧ g a = none ∧ κ.s0.heap.get? a = none) (R : Rel κ (orP X (itA I k)) W g env loc H s) (hit : ItAt κ (cst (orP X (itA I k)) H s.heap) s.heap I gd k vs 0)
    (ha : AccAt κ (cst (orP X (itA I k)) H s.heap) s.heap D acc) (hD : Aside X W g env D) (q : compItems gd (compStep cl emit t ifs gs loc) vs acc H K) :
    codeAny (model κ.prog κ.w) A (.compLoop (.ListComp elt gens sc pos) d (.ref I) (.ref D) env) (fun r s' => r = .ok .next ∧ ∃ loc' acc' H', Rel κ X W g env loc' H' s' ∧ (∀ x c, look x loc = some c → look x loc' = some c) ∧ AccAt κ (cst X H' s'.heap) s'.heap D acc' ∧ K acc' H') s := by
  have hX' : ∀ a o, κ.s0.heap.get? a = some o → ¬ orP X (itA I k) a := fun a o e q => q.elim (hX a o e) fun q => by rw [(hI a q).2.2] at e; exact nn e
  have hI' : ∀ a, itA I k a → orP X (itA I k) a ∧ g a = none ∧ a ≠ env.locals ∧ ∀ x, env.cells.lookup x ≠ some a := fun a q =>
    ⟨.inr q, (hI a q).2.1, fun z => (hI a q).1 (z ▸ hW _ E.wl), fun x z => (hI a q).1 (hC x a z)⟩
  have hIW : ∀ a, itA I k a → ¬ W a := fun a q z => (hI a q).1 (hW a z)
  have hD' : Aside (orP X (itA I k)) W g env D := ⟨.inl hD.x, hD.w, hD.g, hD.c⟩
  refine codeAny_loop rfl (fun n s => ∃ i acc H loc1, n = vs.length - i ∧ i ≤ vs.length ∧ Rel κ (orP X (itA I k)) W g env loc1 H s ∧ (∀ x c, look x loc = some c → look x loc1 = some c) ∧ ItAt κ (cst (orP X (itA I k)) H s.heap) s.heap I gd k vs i ∧
    AccAt κ (cst (orP X (itA I k)) H s.heap) s.heap D acc ∧ compItems gd (compStep cl emit t ifs gs loc) (vs.drop i) acc H K) (fun n s hInv => ?_) vs.length (exI4 0 acc H loc ⟨by simp, Nat.zero_le _, R, fun _ _ e => e, hit, ha, by simpa using q⟩)
  (refine ex4 hInv fun i acc H loc1 zr4g => ?_; refine and7 zr4g fun zq3g hi R hl hit ha q => ?_; clear zr4g; try clear hInv; obtain rfl := zq3g)
  show wpAny _ A ((compTurn (.ListComp elt gens sc pos) d (.ref I) (.ref D) env).onRaise (fun x => do noteFrame x env; theTreesLotGoes x)) _ _ s
  refine wpAny_noted (wpAny_mono (comp_turn (F := No) hg ?_) (fun _ _ x => x) no_any)
  by_cases hlt : i < vs.length
  · obtain ⟨c, hc⟩ : ∃ c, vs[i]? = some c := ⟨_, List.getElem?_eq_getElem hlt⟩
    have hdr : vs.drop i = c :: vs.drop (i + 1) := by
      rw [List.drop_eq_getElem_cons hlt]; rw [List.getElem?_eq_getElem hlt] at hc; rw [Option.some.inj hc]
    rw [hdr] at q
    obtain ⟨hgd, q⟩ := q
    refine next_item E (R.forget hl) hI' hit hgd htk hc fun v s₁ hlet => ?_
    refine wpAny_mono (hlet No) (fun _ s₂ zz1 => zz1.elim fun R2 zz2 => zz2.elim fun it2 zz3 => zz3.elim fun rv kept => ?_) no_any
    have hDi : ¬ itA I k D := fun q => (hI D q).1 hD.x
    have le2 : (cst (orP X (itA I k)) H s.heap).le (cst (orP X (itA I k)) H s₂.heap) := fun a o e => by
      (refine and3 (cst_some.mp e) fun e1 e2 e3 => ?_)
      exact cst_some.mpr ⟨e1, e2, kept a o (fun q => e1 (.inr q)) e3⟩
    have ha2 : AccAt κ (cst (orP X (itA I k)) H s₂.heap) s₂.heap D acc := by
      (refine ex2 ha fun ws m zr2g => ?_; refine and3 zr2g fun e hz hl => ?_; clear zr2g; try clear ha)
      exact (exI2 ws m ⟨kept D _ hDi e, hz, RepL.mono _ _ le2 _ _ hl⟩)
    -- the targets
    refine wpAny_mono (bind_sound hh hA E R2.big ht rv q) (fun _ s₃ zz4 => zz4.elim fun loc3 zz5 => zz5.elim fun R3 zz6 => zz6.elim fun hl3 zz7 => zz7.elim fun _ q => ?_) no_any
    have L3 := R2.left R3
    have it3 := it2.left L3 (fun a z => ⟨hIW a z, R2.xh a (.inr z)⟩)
    have ha3 := ha2.left L3 hD.w (R2.xh D (.inl hD.x))
    have R3 := R2.back R3
    -- the tests
    refine wpAny_mono (hT _ _ loc3 H s₃ _ hX' R3.big q) (fun ok s₄ zz8 => zz8.elim fun H4 zz9 => zz9.elim fun R4 q => ?_) no_any
    have L4 := R3.left R4
    have it4 := it3.left L4 (fun a z => ⟨hIW a z, R3.xh a (.inr z)⟩)
    have ha4 := ha3.left L4 hD.w (R3.xh D (.inl hD.x))
    have R4 := R3.back R4
    induction ok using Bool.casesOn with
    | false =>
      rw [if_neg (by simp)]
      exact ⟨rfl, vs.length - (i + 1), by omega, i + 1, acc, H4, loc3, rfl, hlt, R4, hl3, it4, ha4, q.1 rfl⟩
    | true =>
      rw [if_pos rfl]
      have hYX : ∀ a, orP W (fun a => a = D) a → orP X (itA I k) a := fun a z => z.elim (fun z => .inl (hW a z)) fun z => .inl (z ▸ hD.x)
      have hYb : ∀ a o, κ.s0.heap.get? a = some o → ¬ orP W (fun a => a = D) a := fun a o e z => hX' a o e (hYX a z)
      have hYg : ∀ a, orP W (fun a => a = D) a → g a = none := fun a z => z.elim (R4.wg a) fun z => z ▸ hD.g
      have R4y := R4.bigY (orP W (fun a => a = D)) (fun a z => .inl z) hYb
      have hDy : Aside (orP X (itA I k)) W (Mine.big (orP W (fun a => a = D)) H4 s₄.heap) env D := ⟨hD'.x, hD'.w, by
        cases e : Mine.big (orP W (fun a => a = D)) H4 s₄.heap D with
        | none => rfl
        | some o => exact absurd (.inr rfl) (cst_some.mp e).1, hD'.c⟩
      refine EmitWp.mono (hE _ _ loc3 acc H4 s₄ D _ hX' R4y ha4 hDy (q.2 rfl)) (fun s₅ zz10 => zz10.elim fun loc5 zz11 => zz11.elim fun acc5 zz12 => zz12.elim fun H5 zz13 => zz13.elim fun R5 zz14 => zz14.elim fun hl5 zz15 => zz15.elim fun ha5 q => ?_) no_any
      have L5 := Rel.leftY hYX R5
      have it5 := it4.left L5 (fun a z => ⟨fun y => y.elim (hIW a z) fun y => hDi (y ▸ z), R4.xh a (.inr z)⟩)
      exact ⟨rfl, vs.length - (i + 1), by omega, i + 1, acc5, H5, loc5, rfl, hlt, R4.backY hYg R5, fun x c e => hl5 x c (hl3 x c e), it5, ha5, q⟩
  · have hi' : i = vs.length := by omega
    subst hi'
    rw [List.drop_length] at q
    obtain ⟨hgd, q⟩ := q
    refine wpAny_mono (next_end hh E R (fun a q => ⟨(hI a q).1, (hI a q).2.1⟩) hW hC hit hgd (Nat.le_refl _)) (fun r s' zz16 => zz16.elim fun e zz17 => zz17.elim fun R' zz18 => zz18.elim fun hle kept => ?_) no_any
    subst e
    refine ⟨rfl, loc1, acc, H, R', hl, ?_, q⟩
    (refine ex2 ha fun ws m zr1g => ?_; refine and3 zr1g fun e hz hl => ?_; clear zr1g; try clear ha)
    exact (exI2 ws m ⟨kept D _ (fun q => (hI D q).1 hD.x) e, hz, RepL.mono _ _ hle _ _ hl⟩)
end
end
end Mine

/-! part S13 -/
namespace Mine
noncomputable section
open PySem PySem.W PyProof.Rows
open Classical

/-! the frame of a comprehension -/
noncomputable def closOf (env : Env) : Names → List (Str × Addr) → List (Str × Addr)
  | [], acc => acc
  | (x, k) :: r, acc => if k == NameKind.free then closOf env r ((x, (env.cells.lookup x).getD 0) :: acc) else closOf env r acc

theorem closure_go (env : Env) (f : Str × NameKind → List (Str × Addr) → Sem (ForInStep (List (Str × Addr))))
    (hf : ∀ x k cs, f (x, k) cs = if k == NameKind.free then (do let a ← cellOf env x; pure (.yield ((x, a) :: cs))) else pure (.yield cs)) :
    ∀ (names : Names) (acc : List (Str × Addr)), (∀ p ∈ names, p.2 = .free → ∃ a, env.cells.lookup p.1 = some a) → forIn names acc f = pure (closOf env names acc)
  | [], acc, _ => by rw [List.forIn_nil]; rfl
  | (x, k) :: r, acc, h => by
    rw [List.forIn_cons, hf]
    unfold closOf
    by_cases hk : k = .free
    · subst hk
      obtain ⟨a, e⟩ := h _ (.head _) rfl
      have hc : cellOf env x = pure a := by unfold cellOf; rw [e]
      simp only [beq_self_eq_true, if_true, hc, e, Option.getD_some]
      exact closure_go env f hf r _ fun p hp => h p (.tail _ hp)
    · have : (k == NameKind.free) = false := by simpa using hk
      simp only [this, Bool.false_eq_true, if_false]
      exact closure_go env f hf r _ fun p hp => h p (.tail _ hp)
theorem closure_eq {sc : Scope} {env : Env} (h : ∀ p ∈ sc.names, p.2 = .free → ∃ a, env.cells.lookup p.1 = some a) : closureFor sc env = pure (closOf env sc.names []) := by
  unfold closureFor
  show (forIn sc.names [] _ >>= fun cs => pure cs) = _
  refine (congrArg (· >>= fun cs => pure cs) (closure_go env _ (fun x k cs => ?_) sc.names [] h)).trans rfl
  cases hk : k == NameKind.free <;> simp [hk]
theorem closOf_lookup (env : Env) : ∀ (names : Names) (acc : List (Str × Addr)) (x : Str), (names.map (·.1)).Nodup →
    (closOf env names acc).lookup x = if (x, NameKind.free) ∈ names then some ((env.cells.lookup x).getD 0) else acc.lookup x
  | [], acc, x, _ => by simp [closOf]
  | (y, k) :: r, acc, x, hn => by
    rw [List.map_cons, List.nodup_cons] at hn
    unfold closOf
    by_cases hk : k = .free
    · subst hk
      simp only [beq_self_eq_true, if_true]
      rw [closOf_lookup env r _ x hn.2]
      by_cases hm : (x, NameKind.free) ∈ r
      · rw [if_pos hm, if_pos (.tail _ hm)]
      · rw [if_neg hm]
        by_cases hx : x = y
        · subst hx; rw [if_pos (.head _)]; simp
        · rw [if_neg (by simp [hx, hm]), List.lookup_cons]
          have : (x == y) = false := by simpa using hx
          rw [this]
    · have h1 : (k == NameKind.free) = false := by simpa using hk
      simp only [h1, Bool.false_eq_true, if_false]
      rw [closOf_lookup env r acc x hn.2]
      have : (x, NameKind.free) ∈ (y, k) :: r ↔ (x, NameKind.free) ∈ r := by
        constructor
        · intro h; rcases List.mem_cons.mp h with h | h
          · obtain ⟨rfl, rfl⟩ := Prod.mk.inj h; exact absurd rfl hk
          · exact h
        · exact .tail _
      simp only [this]

theorem cellsFrom_app : ∀ (names : Names) (n : Nat) (acc : List (Str × Addr)), cellsFrom n names acc = cellsFrom n names [] ++ acc
  | [], _, _ => rfl
  | (x, k) :: r, n, acc => by
    unfold cellsFrom
    by_cases hk : (k == NameKind.cell) = true
    · rw [if_pos hk, if_pos hk, cellsFrom_app r (n + 1) ((x, n) :: acc), cellsFrom_app r (n + 1) [(x, n)], List.append_assoc]; rfl
    · rw [if_neg hk, if_neg hk]; exact cellsFrom_app r n acc
theorem cellsFrom_mem : ∀ {names : Names} {n : Nat} {x : Str} {c : Addr}, (x, c) ∈ cellsFrom n names [] → (x, NameKind.cell) ∈ names
  | [], _, _, _, h => nomatch h
  | (y, k) :: r, n, x, c, h => by
    unfold cellsFrom at h
    by_cases hk : (k == NameKind.cell) = true
    · rw [if_pos hk, cellsFrom_app] at h
      rcases List.mem_append.mp h with h | h
      · exact .tail _ (cellsFrom_mem h)
      · rcases List.mem_singleton.mp h with h
        obtain ⟨rfl, rfl⟩ := Prod.mk.inj h; rw [beq_iff_eq.mp hk]; exact .head _
    · rw [if_neg hk] at h; exact .tail _ (cellsFrom_mem h)
theorem cellsFrom_has : ∀ {names : Names} {n : Nat} {x : Str}, (x, NameKind.cell) ∈ names → ∃ c, (x, c) ∈ cellsFrom n names []
  | (y, k) :: r, n, x, h => by
    unfold cellsFrom
    rcases List.mem_cons.mp h with h | h
    · obtain ⟨rfl, rfl⟩ := Prod.mk.inj h
      simp only [beq_self_eq_true, if_true]
      rw [cellsFrom_app]
      exact ⟨n, List.mem_append_right _ (.head _)⟩
    · by_cases hk : (k == NameKind.cell) = true
      · rw [if_pos hk, cellsFrom_app]
        obtain ⟨c, hc⟩ := cellsFrom_has (n := n + 1) h
        exact ⟨c, List.mem_append_left _ hc⟩
      · rw [if_neg hk]; exact cellsFrom_has h

section
variable {κ : Kit} {T : Str → Str → Option FD} {fa : Str → Str → Addr} {X W : Addr → Prop} {g : PF} {env : Env} {loc loc' : Loc} {H H' : CH} {s s' : Shared} {asg : Str → Prop} {A : Around} {cl : Cl} {n : Nat}

theorem newEnv_any {M : Model} {F : Value → Shared → Prop} {sc : Scope} {cls : List (Str × Addr)} {qual : Str} {Q : Env → Shared → Prop}
    (h : Q (newEnv sc s.heap.objs.size env.globals (cellsFrom (s.heap.objs.size + 1) sc.names [] ++ cls) qual none .none (some env) builtinsNs) { s with heap := pushCells (s.heap.push { cls := .type "dict", data := .dict #[] }) sc.names }) :
    wpAny M A (newFunctionEnv sc env.globals cls [] qual none .none (some env)) Q F s := by
  simp only [newFunctionEnv, Option.isSome_some, if_true]
  refine wpAny_bind (wpAny_alloc ?_)
  refine wpAny_bind (wpAny_layCells _ (fun name kind cells => by cases hkc : kind == NameKind.cell <;> simp [hkc]) _ _ _ _ ?_)
  rw [show ({ s with heap := s.heap.push { cls := .type "dict", data := .dict #[] } } : Shared).heap.objs.size = s.heap.objs.size + 1 from Heap.size_push .., cellsFrom_app]
  exact wpAny_bind (wpAny_pure (wpAny_pure h))

theorem comp_start {elt : Expr} {gens : List Comprehension} {sc : Scope} {pos : Pos} {d : Nat} {it acc : Value} {t iter : Expr} {ifs : List Expr} {R : Result → Shared → Prop} (hg : gens[d]? = some ⟨t, iter, ifs, 0⟩)
    (h0 : codeAny (model κ.prog κ.w) A (.compLoop (.ListComp elt gens sc pos) d it acc env) R s)
    (h : wpAny (model κ.prog κ.w) A (pyIter it) (fun it' s' => codeAny (model κ.prog κ.w) A (.compLoop (.ListComp elt gens sc pos) d it' acc env) R s') (notedBy (model κ.prog κ.w) A env fun x s' => R (.error x) s') s) :
    codeAny (model κ.prog κ.w) A (.compStart (.ListComp elt gens sc pos) d it acc env) R s := by
  refine codeAny_of_tree ?_
  show wpAny _ A ((compStart (.ListComp elt gens sc pos) d it acc env).onRaise (fun x => do noteFrame x env; standAt theWindowsPlace)) _ _ s
  refine wpAny_notedAt ?_
  have hc : (clausesOf (.ListComp elt gens sc pos))[d]? = some ⟨t, iter, ifs, 0⟩ := hg
  unfold compStart
  simp only [hc, Option.elim_some, bne_self_eq_false, Bool.false_eq_true, if_false]
  refine wpAny_bind (wpAny_askSetting (wpAny_ite ?_))
  split
  · first
      | exact wpAny_bind (wpAny_pure (wpAny_pure (And.intro rfl h0)))
      | exact wpAny_pure (And.intro rfl h0)
  · refine wpAny_bind (wpAny_rule (wpAny_bind (wpAny_standAt (wpAny_bind (wpAny_mono h (fun it' s' h' => ?_) fun _ _ x => x)))))
    exact wpAny_pure (And.intro rfl h')

theorem iter_self {I : Addr} {gd : Option (Addr × List CV)} {k : ItK} {vs : List CV} {i : Nat} {c : PF} {Q : Value → Shared → Prop} {F : Value → Shared → Prop} (x : ItAt κ c s.heap I gd k vs i) (q : Q (.ref I) s) : wpAny (model κ.prog κ.w) A (pyIter (.ref I)) Q F s := by
  induction k using Mine.ItK.casesOn with
  | lst l => exact wpAny_pyIter_listiter x.1 q
  | rng n => exact wpAny_pyIter_rangeiter x.1 q
  | enm it l => (refine ex2 x fun us old zr1g => ?_; refine And.elim (fun h1 _ => ?_) zr1g; clear zr1g; try clear x); exact wpAny_pyIter_enum h1 q
end
end
end Mine

/-! part S14 -/
namespace Mine
noncomputable section
open PySem PySem.W PyProof.Rows
open Classical

structure EOk (N : Names) (env : Env) (W : Addr → Prop) : Prop where
  E : EnvOk env W (fun x => asgIn N x = true)
  n : NOk N env
structure Amb (κ : Kit) (T : Str → Str → Option FD) (fa : Str → Str → Addr) (n : Nat) (cl : Cl) (A : Around) : Prop where
  O : KOk κ T fa
  S : ClSound κ fa n cl
  B : BOk A n
noncomputable abbrev HX (κ : Kit) (X : Addr → Prop) : Prop := ∀ a o, κ.s0.heap.get? a = some o → ¬ X a

noncomputable def PostL (κ : Kit) (X W : Addr → Prop) (g : PF) (env : Env) (loc : Loc) (k : Nat) (Q : List CV → CH → Prop) : List Value → Shared → Prop :=
  fun ws s' => ws.length = k ∧ ∃ cs H', Rel κ X W g env loc H' s' ∧ RepL κ.cA κ.pr (cst X H' s'.heap) cs ws ∧ Q cs H'
noncomputable def PostT (κ : Kit) (X W : Addr → Prop) (g : PF) (env : Env) (loc : Loc) (Q : Bool → CH → Prop) : Bool → Shared → Prop :=
  fun b s' => ∃ H', Rel κ X W g env loc H' s' ∧ Q b H'

section
variable (κ : Kit) (cl : Cl) (A : Around) (N : Names)
noncomputable def SE (e : Expr) : Prop := ∀ (W : Addr → Prop) (env : Env) (X : Addr → Prop) (g : PF) (loc : Loc) (H : CH) (s : Shared) (Q : CV → CH → Prop), EOk N env W → HX κ X → Rel κ X W g env loc H s → wpE cl e loc H Q →
  wpAny (model κ.prog κ.w) A (eval e env) (Post κ X W g env loc Q) No s
noncomputable def ST (e : Expr) : Prop := ∀ (W : Addr → Prop) (env : Env) (X : Addr → Prop) (g : PF) (loc : Loc) (H : CH) (s : Shared) (Q : Bool → CH → Prop), EOk N env W → HX κ X → Rel κ X W g env loc H s → wpT cl e loc H Q →
  wpAny (model κ.prog κ.w) A (isTrue e env (eval e env)) (PostT κ X W g env loc Q) No s
noncomputable def SL (es : List Expr) : Prop := ∀ (W : Addr → Prop) (env : Env) (pos : Pos) (X : Addr → Prop) (g : PF) (loc : Loc) (H : CH) (s : Shared) (Q : List CV → CH → Prop), EOk N env W → HX κ X → Rel κ X W g env loc H s → wpEs cl es loc H Q →
  wpAny (model κ.prog κ.w) A (spliced (backTo pos (starEach es env))) (PostL κ X W g env loc es.length Q) No s
noncomputable def STs (op : BoolOp) (es : List Expr) : Prop := ∀ (W : Addr → Prop) (env : Env) (X : Addr → Prop) (g : PF) (loc : Loc) (H : CH) (s : Shared) (Q : Bool → CH → Prop), EOk N env W → HX κ X → Rel κ X W g env loc H s → wpTs cl op es loc H Q →
  wpAny (model κ.prog κ.w) A (allTrue op es env) (PostT κ X W g env loc Q) No s
noncomputable def SO (e : Option Expr) : Prop := ∀ (W : Addr → Prop) (env : Env) (X : Addr → Prop) (g : PF) (loc : Loc) (H : CH) (s : Shared) (Q : Option Int → CH → Prop), EOk N env W → HX κ X → Rel κ X W g env loc H s → wpOpt cl e loc H Q →
  wpAny (model κ.prog κ.w) A (evalPart e env) (fun v s' => ∃ o H', Rel κ X W g env loc H' s' ∧ IsPart v o ∧ Q o H') No s
end

section
variable {κ : Kit} {T : Str → Str → Option FD} {fa : Str → Str → Addr} {X W : Addr → Prop} {g : PF} {env : Env} {loc loc' : Loc} {H H' : CH} {s s' : Shared} {A : Around} {cl : Cl} {n : Nat} {N : Names}

theorem SE.ite {e : Expr} {Q : CV → CH → Prop} (h : SE κ cl A N e) (E : EOk N env W) (hX : HX κ X) (R : Rel κ X W g env loc H s) (q : wpE cl e loc H Q) {P : Value → Shared → Prop}
    (k : ∀ v s' c H', Rel κ X W g env loc H' s' → RepV κ.cA κ.pr (cst X H' s'.heap) c v → (cst X H s.heap).le (cst X H' s'.heap) → Q c H' → P v s') : wpAny (model κ.prog κ.w) A (eval e env) P No s :=
  wpAny_mono (h W env X _ loc H s Q E hX R.big q) (fun v s' zz1 => zz1.elim fun c zz2 => zz2.elim fun H' zz3 => zz3.elim fun R' zz4 => zz4.elim fun r q => k v s' c H' (R.back R') r (R.over R') q) no_any
theorem SL.ite {es : List Expr} {pos : Pos} {Q : List CV → CH → Prop} (h : SL κ cl A N es) (E : EOk N env W) (hX : HX κ X) (R : Rel κ X W g env loc H s) (q : wpEs cl es loc H Q) {P : List Value → Shared → Prop}
    (k : ∀ ws s' cs H', ws.length = es.length → Rel κ X W g env loc H' s' → RepL κ.cA κ.pr (cst X H' s'.heap) cs ws → (cst X H s.heap).le (cst X H' s'.heap) → Q cs H' → P ws s') : wpAny (model κ.prog κ.w) A (spliced (backTo pos (starEach es env))) P No s :=
  wpAny_mono (h W env pos X _ loc H s Q E hX R.big q) (fun v s' zz5 => zz5.elim fun hl zz6 => zz6.elim fun c zz7 => zz7.elim fun H' zz8 => zz8.elim fun R' zz9 => zz9.elim fun r q => k v s' c H' hl (R.back R') r (R.over R') q) no_any
theorem SO.ite {e : Option Expr} {Q : Option Int → CH → Prop} (h : SO κ cl A N e) (E : EOk N env W) (hX : HX κ X) (R : Rel κ X W g env loc H s) (q : wpOpt cl e loc H Q) {P : Value → Shared → Prop}
    (k : ∀ v s' o H', Rel κ X W g env loc H' s' → IsPart v o → (cst X H s.heap).le (cst X H' s'.heap) → Q o H' → P v s') : wpAny (model κ.prog κ.w) A (evalPart e env) P No s :=
  wpAny_mono (h W env X _ loc H s Q E hX R.big q) (fun v s' zz10 => zz10.elim fun c zz11 => zz11.elim fun H' zz12 => zz12.elim fun R' zz13 => zz13.elim fun r q => k v s' c H' (R.back R') r (R.over R') q) no_any

theorem nameOk_and {x : Str} (h : nameOk N x = true) : (x == ("__debug__" : Str)) = false ∧ (x == ("__classdict__" : Str)) = false ∧ (gconst x ≠ none → N.lookup x = some .globalImplicit) := by
  unfold nameOk at h
  simp only [Bool.and_eq_true, bne_iff_ne, ne_eq, Bool.or_eq_true, beq_iff_eq] at h
  refine ⟨by simpa using h.1.1, by simpa using h.1.2, fun q => h.2.elim (fun z => absurd (Option.isNone_iff_eq_none.mp z) q) id⟩

theorem sConst {c : Const} {k : Nat} {pos : Pos} : SE κ cl A N (.Constant c k pos) := by
  intro W env X g loc H s Q E hX R q
  obtain ⟨v, e, q⟩ := q
  induction c using PySem.Const.casesOn with
  | none => obtain rfl := Option.some.inj e; exact wpAny_Constant_none (Post.none (t := s.toks) R q)
  | bool b => obtain rfl := Option.some.inj e; exact wpAny_Constant_bool (Post.bool (t := s.toks) R q)
  | int i => obtain rfl := Option.some.inj e; exact wpAny_Constant_int (Post.int R q)
  | str x => obtain rfl := Option.some.inj e; exact wpAny_Constant_str (exI2 (.str x) H ⟨R.toks _, ⟨_, rfl⟩, q⟩)
  | _ => exact nn e
theorem sName {x : Str} {pos : Pos} (B : Amb κ T fa n cl A) (hn : nameOk N x = true) : SE κ cl A N (.Name x pos) := by
  intro W env X g loc H s Q E hX R q
  (refine and3 (nameOk_and hn) fun h1 h2 h3 => ?_)
  exact wpAny_mono (name_sound E.E B.O R hX q (fun z => E.n.gl x (h3 z)) h1 h2) (fun v s' zz14 => zz14.elim fun c zz15 => zz15.elim fun R' zz16 => zz16.elim fun r q => (exI2 c H ⟨R', r, q⟩)) no_any
theorem sBin {l r : Expr} {op : Operator} {pos : Pos} (hl : SE κ cl A N l) (hr : SE κ cl A N r) : SE κ cl A N (.BinOp l op r pos) := by
  intro W env X g loc H s Q E hX R q
  refine wpAny_BinOp (hl.ite E hX R q fun a s1 c1 H1 R1 r1 _ q1 => hr.ite E hX R1 q1 fun b s2 c2 H2 R2 r2 le q2 => ?_)
  exact bin_sound R2 E.E q2 (RepV.mono _ _ le _ _ r1) r2
theorem truth_sound {Q : Bool → Prop} {P : Bool → Shared → Prop} {F : Value → Shared → Prop} {c : CV} {v : Value} {h : PF} (q : wpTruth c Q) (r : RepV κ.cA κ.pr h c v) (k : ∀ b, Q b → P b s) : wpAny (model κ.prog κ.w) A (truthy v) P F s := by
  induction c using Mine.CV.casesOn with
  | bool b => rw [show v = _ from r]; exact wpAny_truthy_bool (k _ q)
  | _ => exact q.elim
theorem sUn {x : Expr} {op : UnaryOp} {pos : Pos} (hx : SE κ cl A N x) : SE κ cl A N (.UnaryOp op x pos) := by
  intro W env X g loc H s Q E hX R q
  refine wpAny_UnaryOp (hx.ite E hX R q fun a s1 c1 H1 R1 r1 _ q1 => ?_)
  induction op using PySem.UnaryOp.casesOn with
  | USub =>
    (refine Exists.elim q1 fun i zr5g => ?_; refine And.elim (fun zq4g q => ?_) zr5g; clear zr5g; try clear q1; obtain rfl := zq4g)
    obtain ⟨t, rfl⟩ := r1
    exact P.neg_int (Post.int R1 q)
  | Not => exact not_of (truth_sound q1 r1 fun b q => Post.bool (t := s1.toks) R1 q)
  | _ => exact q1.elim
theorem sIf {t b o : Expr} {pos : Pos} (ht : ST κ cl A N t) (hb : SE κ cl A N b) (ho : SE κ cl A N o) : SE κ cl A N (.IfExp t b o pos) := by
  intro W env X g loc H s Q E hX R q
  refine wpAny_IfExp (wpAny_mono (ht W env X g loc H s _ E hX R q) (fun c s1 zz17 => zz17.elim fun H1 zz18 => zz18.elim fun R1 q1 => ?_) no_any)
  induction c using Bool.casesOn with
  | true => exact hb W env X g loc H1 s1 Q E hX R1 (q1.1 rfl)
  | false => exact ho W env X g loc H1 s1 Q E hX R1 (q1.2 rfl)
theorem sLnil : SL κ cl A N [] := fun _ _ _ _ _ _ H _ _ _ _ R q => spliced_none ⟨rfl, [], H, R, rfl, q⟩
theorem sLcons {e : Expr} {r : List Expr} (hs : noStar e = true) (he : SE κ cl A N e) (hr : SL κ cl A N r) : SL κ cl A N (e :: r) := by
  intro W env pos X g loc H s Q E hX R q
  refine spliced_more (he.ite E hX R q fun a s1 c1 H1 R1 r1 _ q1 => hr.ite E hX R1 q1 fun b s2 c2 H2 hl R2 r2 le q2 => ?_) (star_false hs)
  exact ⟨by rw [List.length_cons, List.length_cons, hl], c1 :: c2, H2, R2, (exI2 _ _ ⟨rfl, RepV.mono _ _ le _ _ r1, r2⟩), q2⟩
theorem sList {es : List Expr} {pos : Pos} (hl : SL κ cl A N es) : SE κ cl A N (.List es pos) := by
  intro W env X g loc H s Q E hX R q
  refine wpAny_List (hl.ite E hX R q fun a s1 c1 H1 hl R1 r1 _ q1 => ?_)
  have hlen := RepL.length _ _ r1
  refine ⟨by have := q1.1; rw [← cap_is]; lia, ?_⟩
  exact alloc_sound (t := s1.toks) R1 E.E q1 r1
theorem sTup {es : List Expr} {k : Nat} {pos : Pos} (hz : es.length ≤ cap) (hl : SL κ cl A N es) : SE κ cl A N (.Tuple es k pos) := by
  intro W env X g loc H s Q E hX R q
  refine wpAny_Tuple (hl.ite E hX R q fun a s1 c1 H1 hl R1 r1 _ q1 => ?_)
  exact ⟨by rw [hl, ← cap_is]; exact hz, tup_sound (t := s1.toks) R1 E.E q1 (by rw [List.size_toArray, hl]; exact hz) r1⟩
theorem sOnone : SO κ cl A N none := fun _ _ _ _ _ H _ _ _ _ R q => wpAny_pure (exI2 none H ⟨R, .none, q⟩)
theorem sOsome {e : Expr} (he : SE κ cl A N e) : SO κ cl A N (some e) := by
  intro W env X g loc H s Q E hX R q
  refine wpAny_mono (he W env X g loc H s _ E hX R q) (fun v s1 zz19 => zz19.elim fun c zz20 => zz20.elim fun H1 zz21 => zz21.elim fun R1 zz22 => zz22.elim fun r zz23 => zz23.elim fun i zz24 => zz24.elim fun e q => ?_) no_any
  subst e
  obtain ⟨t, rfl⟩ := r
  exact (exI2 (some i) H1 ⟨R1, .int i t, q⟩)
theorem sAttr {o : Expr} {m : Str} {pos : Pos} (B : Amb κ T fa n cl A) (hb : baseOk o = true) (ho : SE κ cl A N o) : SE κ cl A N (.Attribute o m pos) := by
  intro W env X g loc H s Q E hX R q
  refine Attribute_any_ (ho.ite E hX R q fun a s1 c1 H1 R1 r1 _ q1 => ?_) (by rw [arm_eval_Attribute, base_plain hb])
  exact wpAny_mono (attr_sound B.O R1 q1 r1) (fun v s2 zz25 => zz25.elim fun c zz26 => zz26.elim fun R2 zz27 => zz27.elim fun r q => (exI2 c H1 ⟨R2, r, q⟩)) no_any
theorem notSlice_sub {i : Expr} (h : notSlice i = true) (o v : Value) : subscripted i false o v = operate [o, v] (getItem o v) := by
  induction i using PySem.Expr.casesOn <;> first | rfl | exact noB h
theorem sSub {v i : Expr} {pos : Pos} (hi : notSlice i = true) (hv : SE κ cl A N v) (hs : SE κ cl A N i) : SE κ cl A N (.Subscript v i pos) := by
  intro W env X g loc H s Q E hX R q
  have q : wpE cl v loc H fun ov H => wpE cl i loc H fun iv H => wpIdx ov iv H fun c => Q c H := by
    induction i using PySem.Expr.casesOn <;> first | exact q | exact noB hi
  refine Subscript_ (hv.ite E hX R q fun a s1 c1 H1 R1 r1 _ q1 => hs.ite E hX R1 q1 fun b s2 c2 H2 R2 r2 le q2 => ?_)
  exact wpAny_mono (tail_sound R2 q2 (notSlice_sub hi) (RepV.mono _ _ le _ _ r1) r2) (fun v s3 zz28 => zz28.elim fun c zz29 => zz29.elim fun R3 zz30 => zz30.elim fun r q => (exI2 c H2 ⟨R3, r, q⟩)) no_any
theorem sSlice {v : Expr} {lo hi : Option Expr} {p pos : Pos} (hn : isName v = true) (hv : SE κ cl A N v) (hl : SO κ cl A N lo) (hh : SO κ cl A N hi) : SE κ cl A N (.Subscript v (.Slice lo hi none p) pos) := by
  intro W env X g loc H s Q E hX R q
  refine wpAny_Subscript_list_slice (hv.ite E hX R q fun a s1 c1 H1 R1 r1 _ q1 => hl.ite E hX R1 q1 fun b s2 o2 H2 R2 i2 le2 q2 => hh.ite E hX R2 q2 fun d s3 o3 H3 R3 i3 le3 q3 => ?_) (by induction v using PySem.Expr.casesOn <;> first | (intro _ _; rfl) | exact noB hn)
  (refine Exists.elim q3 fun vs zr3g => ?_; refine And.elim (fun e q => ?_) zr3g; clear zr3g; try clear q3)
  have r1' := RepV.mono _ _ le3 _ _ (RepV.mono _ _ le2 _ _ r1)
  (refine ex3 (items_at R3 r1' e) fun l ws m zr2g => ?_; refine and4 zr2g fun zq1g ho hz hl => ?_; clear zr2g; obtain rfl := zq1g)
  refine (exI4 l ws o2 o3 ⟨rfl, isList_of ho, hz, i2, i3, ?_⟩)
  have hlen := RepL.length _ _ hl
  rw [Array.length_toList] at hlen
  have R4 := R3.push E.E { cls := .type "slice", data := .fields #[b, d, .none] }
  have fin := alloc_sound (t := s3.toks) (n := 0) (ws := slicePick ws o2 o3 none) (s := { s3 with heap := s3.heap.push { cls := .type "slice", data := .fields #[b, d, .none] } }) R4 E.E q (by
    rw [slicePick_plain, List.toList_toArray, hlen]
    exact RepL.mono _ _ cst_push _ _ (RepL.take _ _ _ (RepL.drop _ _ _ hl)))
  rw [show ({ s3 with heap := s3.heap.push { cls := .type "slice", data := .fields #[b, d, .none] } } : Shared).heap.objs.size = s3.heap.objs.size + 1 from Heap.size_push ..] at fin
  exact fin

theorem behind_set {op : CmpOp} {r : Expr} (h : notSet r = true) : behindInMarks op r = false := by
  induction r using PySem.Expr.casesOn <;> first | rfl | exact noB h
theorem sCmp1 {l r : Expr} {op : CmpOp} {pos : Pos} (B : Amb κ T fa n cl A) (hs : notSet r = true) (hl : SE κ cl A N l) (hr : SE κ cl A N r) : SE κ cl A N (.Compare l [op] [r] pos) := by
  intro W env X g loc H s Q E hX R q
  refine wpAny_Compare1 (hl.ite E hX R q fun a s1 c1 H1 R1 r1 _ q1 => hr.ite E hX R1 q1 fun b s2 c2 H2 R2 r2 le q2 => ?_) (behind_set hs)
  exact wpAny_mono (cmp_sound (by have := B.B.hu; lia) R2 q2 (RepV.mono _ _ le _ _ r1) r2) (fun v s3 zz31 => zz31.elim fun t zz32 => zz32.elim fun e zz33 => zz33.elim fun R3 q => (exI2 (.bool t) H2 ⟨R3, e, q⟩)) no_any
theorem sCmp2 {l m r : Expr} {op1 op2 : CmpOp} {pos : Pos} (B : Amb κ T fa n cl A) (hs : notSet r = true) (hl : SE κ cl A N l) (hm : SE κ cl A N m) (hr : SE κ cl A N r) : SE κ cl A N (.Compare l [op1, op2] [m, r] pos) := by
  intro W env X g loc H s Q E hX R q
  have hu : A.units + 64 < cLine := by have := B.B.hu; lia
  refine Compare_chain (hl.ite E hX R q fun a s1 c1 H1 R1 r1 _ q1 => chain_link (hm.ite E hX R1 q1 fun b s2 c2 H2 R2 r2 le q2 => ?_)) (by simp [lastMarks, behind_set hs])
  refine wpAny_mono (cmp_sound hu R2.big q2 (RepV.mono _ _ le _ _ r1) r2) (fun v s3 zz34 => zz34.elim fun t zz35 => zz35.elim fun e zz36 => zz36.elim fun R3 q => ?_) no_any
  subst e
  refine wpAny_truthy_bool ?_
  have le3 := R2.over R3
  have R3 := R2.back R3
  cases t with
  | false => exact (exI2 (.bool false) H2 ⟨R3, rfl, q.1 rfl⟩)
  | true =>
    obtain ⟨o1, o2⟩ := q
    refine chain_last (wpAny_mono (hr W env X _ loc H2 s3 _ E hX R3.big (o2 rfl)) (fun d s4 zz37 => zz37.elim fun c4 zz38 => zz38.elim fun H4 zz39 => zz39.elim fun R4 zz40 => zz40.elim fun r4 q4 => ?_) no_any)
    have r2' := RepV.mono _ _ (R3.over R4) _ _ (RepV.mono _ _ le3 _ _ r2)
    exact wpAny_mono (cmp_sound hu (R3.back R4) q4 r2' r4) (fun v s3 zz41 => zz41.elim fun t zz42 => zz42.elim fun e zz43 => zz43.elim fun R3 q => (exI2 (.bool t) H4 ⟨R3, e, q⟩)) no_any
/-! tests -/
theorem tCmp1 {l r : Expr} {op : CmpOp} {pos : Pos} (B : Amb κ T fa n cl A) (hs : notSet r = true) (hl : SE κ cl A N l) (hr : SE κ cl A N r) : ST κ cl A N (.Compare l [op] [r] pos) := by
  intro W env X g loc H s Q E hX R q
  refine wpAny_isTrue_Compare1 (hl.ite E hX R q fun a s1 c1 H1 R1 r1 _ q1 => hr.ite E hX R1 q1 fun b s2 c2 H2 R2 r2 le q2 => ?_) (behind_set hs)
  refine wpAny_mono (cmp_sound (by have := B.B.hu; lia) R2 q2 (RepV.mono _ _ le _ _ r1) r2) (fun v s3 zz44 => zz44.elim fun t zz45 => zz45.elim fun e zz46 => zz46.elim fun R3 q => ?_) no_any
  subst e
  exact wpAny_truthy_bool ⟨H2, R3, q⟩
theorem test_last {M : Model} {pos : Pos} {a : Value} {op : CmpOp} {r : Sem Value} {Q : Bool → Shared → Prop} {F : Value → Shared → Prop}
    (h : wpAny M A r (fun b s₁ => wpAny M A (compareOp op a b) (fun c s₂ => wpAny M A (truthy c) Q F s₂) F s₁) F s) : wpAny M A (testChain pos a [op] [r]) Q F s := by
  show wpAny M A (do
    let rv ← holding [a] r
    standAt pos
    let c ← operate [a, rv] (compareOp op a rv)
    holding [c] (truthy c)) Q F s
  exact wpAny_bind (wpAny_holding (wpAny_mono h (fun b s₁ h₁ => wpAny_bind (wpAny_standAt (wpAny_bind (wpAny_operate' (wpAny_mono h₁ (fun c s₂ h₂ => wpAny_holding h₂) fun _ _ x => x))))) fun _ _ x => x))
theorem test_link {M : Model} {pos : Pos} {a : Value} {op op' : CmpOp} {ops : List CmpOp} {r r' : Sem Value} {rs : List (Sem Value)} {Q : Bool → Shared → Prop} {F : Value → Shared → Prop}
    (h : wpAny M A r (fun b s₁ => wpAny M A (compareOp op a b) (fun c s₂ => wpAny M A (truthy c)
      (fun t s₃ => if t then wpAny M A (testChain pos b (op' :: ops) (r' :: rs)) Q F s₃ else Q false s₃) F s₂) F s₁) F s) :
    wpAny M A (testChain pos a (op :: op' :: ops) (r :: r' :: rs)) Q F s := by
  show wpAny M A (do
    let rv ← holding [a] r
    standAt pos
    let c ← holding [a, rv] (compareOp op a rv)
    release [a, rv] [c]
    if ← holding [c, rv] (truthy c) then testChain pos rv (op' :: ops) (r' :: rs) else pure false) Q F s
  refine wpAny_bind (wpAny_holding (wpAny_mono h (fun b s₁ h₁ => wpAny_bind (wpAny_standAt (wpAny_bind (wpAny_holding (wpAny_mono h₁ (fun c s₂ h₂ =>
    wpAny_bind (wpAny_release' (wpAny_bind (wpAny_holding (wpAny_mono h₂ (fun t s₃ h₃ => ?_) fun _ _ x => x))))) fun _ _ x => x))))) fun _ _ x => x))
  induction t using Bool.casesOn with
  | false => exact wpAny_pure h₃
  | true => exact h₃
theorem tCmp2 {l m r : Expr} {op1 op2 : CmpOp} {pos : Pos} (B : Amb κ T fa n cl A) (hs : notSet r = true) (hl : SE κ cl A N l) (hm : SE κ cl A N m) (hr : SE κ cl A N r) : ST κ cl A N (.Compare l [op1, op2] [m, r] pos) := by
  intro W env X g loc H s Q E hX R q
  have hu : A.units + 64 < cLine := by have := B.B.hu; lia
  refine isTrue_chain (hl.ite E hX R q fun a s1 c1 H1 R1 r1 _ q1 => test_link (hm.ite E hX R1 q1 fun b s2 c2 H2 R2 r2 le q2 => ?_)) (by simp [lastMarks, behind_set hs])
  refine wpAny_mono (cmp_sound hu R2.big q2 (RepV.mono _ _ le _ _ r1) r2) (fun v s3 zz47 => zz47.elim fun t zz48 => zz48.elim fun e zz49 => zz49.elim fun R3 q => ?_) no_any
  subst e
  refine wpAny_truthy_bool ?_
  have le3 := R2.over R3
  have R3 := R2.back R3
  cases t with
  | false => exact ⟨H2, R3, q.1 rfl⟩
  | true =>
    obtain ⟨o1, o2⟩ := q
    refine test_last (wpAny_mono (hr W env X _ loc H2 s3 _ E hX R3.big (o2 rfl)) (fun d s4 zz50 => zz50.elim fun c4 zz51 => zz51.elim fun H4 zz52 => zz52.elim fun R4 zz53 => zz53.elim fun r4 q4 => ?_) no_any)
    have r2' := RepV.mono _ _ (R3.over R4) _ _ (RepV.mono _ _ le3 _ _ r2)
    refine wpAny_mono (cmp_sound hu (R3.back R4) q4 r2' r4) (fun v s3 zz54 => zz54.elim fun t zz55 => zz55.elim fun e zz56 => zz56.elim fun R3 q => ?_) no_any
    subst e
    exact wpAny_truthy_bool ⟨H4, R3, q⟩
theorem tNot {x : Expr} {pos : Pos} (hx : ST κ cl A N x) : ST κ cl A N (.UnaryOp .Not x pos) := by
  intro W env X g loc H s Q E hX R q
  exact isTrue_not (hx W env X g loc H s _ E hX R q)
theorem tBool {op : BoolOp} {es : List Expr} {pos : Pos} (h : STs κ cl A N op es) : ST κ cl A N (.BoolOp op es pos) := fun W env X g loc H s Q E hX R q => wpAny_isTrue_BoolOp (h W env X g loc H s Q E hX R q)
theorem tVal {e : Expr} (he : ∀ env whole, isTrue e env whole = (do let v ← whole; standAt e.pos; holding [v] (truthy v))) (hw : ∀ loc H Q, wpT cl e loc H Q → wpE cl e loc H fun v H => wpTruth v fun b => Q b H) (h : SE κ cl A N e) : ST κ cl A N e := by
  intro W env X g loc H s Q E hX R q
  refine isTrue_plain (wpAny_mono (h W env X g loc H s _ E hX R (hw _ _ _ q)) (fun v s1 zz57 => zz57.elim fun c zz58 => zz58.elim fun H1 zz59 => zz59.elim fun R1 zz60 => zz60.elim fun r q => truth_sound q r fun b q => ⟨H1, R1, q⟩) no_any) (he _ _)
theorem tsNil {op : BoolOp} : STs κ cl A N op [] := by
  intro W env X g loc H s Q E hX R q
  induction op using PySem.BoolOp.casesOn with
  | And => exact wpAny_allTrue_And_nil ⟨H, R, q⟩
  | Or => exact wpAny_allTrue_Or_nil ⟨H, R, q⟩
theorem tsCons {op : BoolOp} {e : Expr} {r : List Expr} (he : ST κ cl A N e) (hr : STs κ cl A N op r) : STs κ cl A N op (e :: r) := by
  intro W env X g loc H s Q E hX R q
  have k := he W env X g loc H s _ E hX R q
  induction op using PySem.BoolOp.casesOn with
  | And =>
    refine wpAny_allTrue_And_cons (wpAny_mono k (fun b s1 zz61 => zz61.elim fun H1 zz62 => zz62.elim fun R1 zz63 => zz63.elim fun q1 q2 => ?_) no_any)
    cases b with
    | true => exact hr W env X g loc H1 s1 Q E hX R1 (q2 rfl)
    | false => exact ⟨H1, R1, q1 rfl⟩
  | Or =>
    refine wpAny_allTrue_Or_cons (wpAny_mono k (fun b s1 zz64 => zz64.elim fun H1 zz65 => zz65.elim fun R1 zz66 => zz66.elim fun q1 q2 => ?_) no_any)
    cases b with
    | false => exact hr W env X g loc H1 s1 Q E hX R1 (q2 rfl)
    | true => exact ⟨H1, R1, q1 rfl⟩
/-- the tests of a generator -/
theorem tests_stop {M : Model} {F : Value → Shared → Prop} {Q : Bool → Shared → Prop} : ∀ (ifs : List Expr) (s : Shared), Q false s → wpAny M A (forIn ifs false fun c r => if r = true then do let ok ← isTrue c env (eval c env); pure (ForInStep.yield ok) else pure (ForInStep.yield r)) Q F s
  | [], s, q => by rw [List.forIn_nil]; exact wpAny_pure q
  | e :: r, s, q => by
    rw [List.forIn_cons]
    refine wpAny_bind ?_
    rw [if_neg (by simp)]
    exact wpAny_pure (tests_stop r s q)
theorem testsCons {e : Expr} {r : List Expr} (E : EOk N env W) (he : ST κ cl A N e) (hr : TestsOk κ W env A cl r) : TestsOk κ W env A cl (e :: r) := by
  intro X g loc H s Q hX R q
  unfold testsTree
  rw [List.forIn_cons]
  refine wpAny_bind ?_
  rw [if_pos rfl]
  refine wpAny_bind (wpAny_mono (he W env X g loc H s _ E hX R q) (fun b s1 zz67 => zz67.elim fun H1 zz68 => zz68.elim fun R1 zz69 => zz69.elim fun q1 q2 => wpAny_pure ?_) no_any)
  induction b using Bool.casesOn with
  | true => exact hr X g loc H1 s1 Q hX R1 (q2 rfl)
  | false => exact tests_stop r s1 ⟨H1, R1, q1 rfl⟩
theorem testsNil : TestsOk κ W env A cl [] := by
  intro X g loc H s Q hX R q
  unfold testsTree
  rw [List.forIn_nil]
  exact wpAny_pure ⟨H, R, q⟩
/-! the value of a boolean operation -/
noncomputable def SBs (κ : Kit) (cl : Cl) (A : Around) (N : Names) (op : BoolOp) (es : List Expr) : Prop := ∀ (pos : Pos) (W : Addr → Prop) (env : Env) (X : Addr → Prop) (g : PF) (loc : Loc) (H : CH) (s : Shared) (Q : CV → CH → Prop), EOk N env W → HX κ X → Rel κ X W g env loc H s → wpBools cl op es loc H Q →
  wpAny (model κ.prog κ.w) A (eval (.BoolOp op es pos) env) (Post κ X W g env loc Q) No s
theorem bNil {op : BoolOp} : SBs κ cl A N op [] := fun _ _ _ _ _ _ _ _ _ _ _ _ q => q.elim
theorem bOne {op : BoolOp} {e : Expr} (he : SE κ cl A N e) : SBs κ cl A N op [e] := fun _ W env X g loc H s Q E hX R q => BoolOp_one (he W env X g loc H s Q E hX R q)
theorem bCons {op : BoolOp} {e e2 : Expr} {r : List Expr} (he : SE κ cl A N e) (hr : SBs κ cl A N op (e2 :: r)) : SBs κ cl A N op (e :: e2 :: r) := by
  intro pos W env X g loc H s Q E hX R q
  have q : wpE cl e loc H fun v H => wpTruth v fun b => ((b == (op == .Or)) = true → Q v H) ∧ ((b == (op == .Or)) = false → wpBools cl op (e2 :: r) loc H Q) := q
  have k := he W env X g loc H s _ E hX R q
  induction op using PySem.BoolOp.casesOn with
  | And =>
    refine BoolOp_and (wpAny_mono k (fun v s1 zz70 => zz70.elim fun c zz71 => zz71.elim fun H1 zz72 => zz72.elim fun R1 zz73 => zz73.elim fun r1 q1 => truth_sound q1 r1 fun b q => ?_) no_any)
    cases b with
    | true => exact hr pos W env X g loc H1 s1 Q E hX R1 (q.2 rfl)
    | false => exact ⟨c, H1, R1, r1, q.1 rfl⟩
  | Or =>
    refine BoolOp_or (wpAny_mono k (fun v s1 zz74 => zz74.elim fun c zz75 => zz75.elim fun H1 zz76 => zz76.elim fun R1 zz77 => zz77.elim fun r1 q1 => truth_sound q1 r1 fun b q => ?_) no_any)
    cases b with
    | false => exact hr pos W env X g loc H1 s1 Q E hX R1 (q.2 rfl)
    | true => exact ⟨c, H1, R1, r1, q.1 rfl⟩
/-! calls -/
theorem sCall {f : Str} {fp pos : Pos} {args : List Expr} (B : Amb κ T fa n cl A) (h : fnOk (kfOf T) N f = true) (hr : notRg f = true) (hs : args.all noStar = true) (h0 : args.isEmpty = false) (hl : SL κ cl A N args) : SE κ cl A N (.Call (.Name f fp) args [] pos) := by
  intro W env X g loc H s Q E hX R q
  refine callFn_sound B.O B.S B.B E.E E.n R hX h (fun z => ?_) hs h0 (wpAny_mono (hl W env pos X g loc H s _ E hX R q) (fun ws s1 zz78 => zz78.elim fun _ zz79 => zz79.elim fun cs zz80 => zz80.elim fun H1 zz81 => zz81.elim fun R1 zz82 => zz82.elim fun r q => (exI2 cs H1 ⟨R1, r, q⟩)) no_any) fun _ _ q => q
  unfold notRg at hr
  simp only [Bool.and_eq_true, bne_iff_ne, ne_eq] at hr
  exact z.elim hr.1 hr.2
theorem sMeth {o : Expr} {m : Str} {apos pos : Pos} {args : List Expr} (B : Amb κ T fa n cl A) (hb : baseOk o = true) (hs : args.all noStar = true) (hlen : args.length < 29) (hline : (apos.endLine == pos.line) = true) (ha : arityOk m args.length = true)
    (ho : SE κ cl A N o) (hl : SL κ cl A N args) : SE κ cl A N (.Call (.Attribute o m apos) args [] pos) := by
  intro W env X g loc H s Q E hX R q
  refine callAttr hb hs hlen hline (ho.ite E hX R q fun v s1 c1 H1 R1 r1 _ q1 => fun pl => ?_)
  refine meth_sound B.O B.S B.B E.E R1 hX hs ha q1.1 r1 (wpAny_mono (hl W env pos X _ loc H1 s1 _ E hX R1.big q1.2) (fun ws s2 zz83 => zz83.elim fun _ zz84 => zz84.elim fun cs zz85 => zz85.elim fun H2 zz86 => zz86.elim fun R2 zz87 => zz87.elim fun r q => (exI2 cs H2 ⟨R2, r, q⟩)) no_any) (fun z => ?_) fun _ _ q => q
  subst z
  exact q1.2
end
end
end Mine

/-! part S15 -/
namespace Mine
noncomputable section
open PySem PySem.W PyProof.Rows
open Classical

section
variable (κ : Kit) (cl : Cl) (A : Around) (N : Names)
noncomputable def SSrc (e : Expr) : Prop := ∀ (W : Addr → Prop) (env : Env) (X : Addr → Prop) (g : PF) (loc : Loc) (H : CH) (s : Shared) (K : List CV → Option (Addr × List CV) → CH → Prop), EOk N env W → HX κ X → Rel κ X W g env loc H s → wpSrc cl e loc H K →
  wpAny (model κ.prog κ.w) A (eval e env) (fun x s₁ => wpAny (model κ.prog κ.w) A (pyIter x) (SrcPost κ X W g env loc (isEn e) K) No s₁) No s
end

section
variable {κ : Kit} {T : Str → Str → Option FD} {fa : Str → Str → Addr} {X W : Addr → Prop} {g : PF} {env : Env} {loc loc' : Loc} {H H' : CH} {s s' : Shared} {A : Around} {cl : Cl} {n : Nat} {N : Names}

theorem SrcPost.mono {b : Bool} {K K' : List CV → Option (Addr × List CV) → CH → Prop} {v : Value} (p : SrcPost κ X W g env loc b K v s) (h : ∀ vs gd H, K vs gd H → K' vs gd H) : SrcPost κ X W g env loc b K' v s :=
  p.elim fun I zz1 => zz1.elim fun k zz2 => zz2.elim fun vs zz3 => zz3.elim fun gd zz4 => zz4.elim fun H' zz5 => zz5.elim fun a zz6 => zz6.elim fun b zz7 => zz7.elim fun c zz8 => zz8.elim fun d zz9 => zz9.elim fun e q =>
  (exI5 I k vs gd H' ⟨a, b, c, d, e, h _ _ _ q⟩)
theorem iter_here {b : Bool} {K : List CV → Option (Addr × List CV) → CH → Prop} {c : CV} {v : Value} (R : Rel κ X W g env loc H s) (q : wpIter c H fun vs gd => K vs gd H) (rv : RepV κ.cA κ.pr (cst X H s.heap) c v) :
    wpAny (model κ.prog κ.w) A (pyIter v) (SrcPost κ X W g env loc b K) No s :=
  wpAny_mono (iter_sound (b := b) R q rv) (fun _ _ p => p.mono fun vs gd H' ⟨e, q⟩ => e ▸ q) no_any
/-- a source that is a plain value -/
theorem srcVal {e : Expr} (hw : ∀ loc H K, wpSrc cl e loc H K → wpE cl e loc H fun v H => wpIter v H fun vs gd => K vs gd H) (h : SE κ cl A N e) : SSrc κ cl A N e := by
  intro W env X g loc H s K E hX R q
  exact wpAny_mono (h W env X g loc H s _ E hX R (hw _ _ _ q)) (fun v s1 zz1 => zz1.elim fun c zz2 => zz2.elim fun H1 zz3 => zz3.elim fun R1 zz4 => zz4.elim fun r q => iter_here R1 q r) no_any

theorem rg_name {f : Str} {fp : Pos} {T' : String} (B : Amb κ T fa n cl A) (E : EOk N env W) (R : Rel κ X W g env loc H s) (h : fnOk (kfOf T) N f = true) (hf : tyFun f) (hb : bootBuiltins f = some (.type T')) {Q : Value → Shared → Prop}
    (q : Q (.type T') s) : wpAny (model κ.prog κ.w) A (eval (.Name f fp) env) Q No s := by
  (refine and4 (fnOk_and h) fun h1 h2 h3 _ => ?_)
  exact name_bi E.E B.O R (.inr hf) hb (E.n.gl f h3) h1 h2 q
theorem srcCall {f : Str} {fp pos : Pos} {e : Expr} (B : Amb κ T fa n cl A) (h : fnOk (kfOf T) N f = true) (hs : noStar e = true) (he : SE κ cl A N e) : SSrc κ cl A N (.Call (.Name f fp) [e] [] pos) := by
  intro W env X g loc H s K E hX R q
  have q : wpE cl e loc H fun v H =>
      if f = "range" then ∃ n, v = .int n ∧ (-1000000 < n ∧ n < 1000000) ∧ K (rangeItems n) Option.none H
      else if f = "enumerate" then wpIter v H fun vs g => K (enumItems vs) g H
      else wpFun cl f [v] H fun r H => wpIter r H fun vs g => K vs g H := q
  have hst := star_false (env := env) (r := []) hs
  have one : ∀ {P : List Value → Shared → Prop}, (∀ v s' c H', Rel κ X W g env loc H' s' → RepV κ.cA κ.pr (cst X H' s'.heap) c v → (if f = "range" then ∃ n, c = .int n ∧ (-1000000 < n ∧ n < 1000000) ∧ K (rangeItems n) Option.none H'
      else if f = "enumerate" then wpIter c H' fun vs g => K (enumItems vs) g H'
      else wpFun cl f [c] H' fun r H => wpIter r H fun vs g => K vs g H) → P [v] s') → wpAny (model κ.prog κ.w) A (spliced (backTo pos (starEach [e] env))) P No s := fun k =>
    spliced_more (wpAny_mono (he W env X g loc H s _ E hX R q) (fun v s' zz5 => zz5.elim fun c zz6 => zz6.elim fun H' zz7 => zz7.elim fun R' zz8 => zz8.elim fun r q => spliced_none (k v s' c H' R' r q)) no_any) hst
  by_cases c1 : f = "range"
  · subst c1
    refine wpAny_Call_NameR (rg_name B E R h (.inr (.inr (.inl rfl))) boot_range ?_)
    refine PyProof.Rows.callWith_type1 (one fun v s' c H' R' r q => ?_) hst rfl
    rw [if_pos rfl] at q
    obtain ⟨i, rfl, hi, q⟩ := q
    obtain ⟨t, rfl⟩ := r
    exact range_sound E.E R' hi q
  by_cases c2 : f = "enumerate"
  · subst c2
    refine wpAny_Call_NameR (rg_name B E R h (.inr (.inr (.inr rfl))) boot_enum ?_)
    refine PyProof.Rows.callWith_type1 (one fun v s' c H' R' r q => ?_) hst rfl
    rw [if_neg c1, if_pos rfl] at q
    have := enum_sound (A := A) (K := K) R' q r
    rw [show isEn (.Call (.Name "enumerate" fp) [e] [] pos) = true from beq_iff_eq.mpr rfl]; exact this
  · have hb : isEn (.Call (.Name f fp) [e] [] pos) = false := beq_eq_false_iff_ne.mpr c2
    refine wpAny_mono (callFn_sound (Q := fun r H => wpIter r H fun vs g => K vs g H) (P := fun cs H => wpFun cl f cs H fun r H => wpIter r H fun vs g => K vs g H) B.O B.S B.B E.E E.n R hX h (fun z => z.elim c1 c2) (by simp [hs]) rfl
      (one fun v s' c H' R' r q => (exI2 [c] H' ⟨R', (exI2 v [] ⟨rfl, r, rfl⟩), by rw [if_neg c1, if_neg c2] at q; exact q⟩)) fun _ _ q => q) (fun v s1 zz9 => zz9.elim fun c zz10 => zz10.elim fun H1 zz11 => zz11.elim fun R1 zz12 => zz12.elim fun r q => iter_here R1 q r) no_any

/-- a source, the frame's own objects left -/
theorem SSrc.ite {e : Expr} {K : List CV → Option (Addr × List CV) → CH → Prop} (h : SSrc κ cl A N e) (E : EOk N env W) (hX : HX κ X) (R : Rel κ X W g env loc H s) (q : wpSrc cl e loc H K) {P : Value → Shared → Prop}
    (k : ∀ I k vs gd s' H', (∀ a, itA I k a → ¬ X a ∧ g a = none ∧ κ.s0.heap.get? a = none) → (∀ it l, k = .enm it l → isEn e = true) → Rel κ (orP X (itA I k)) W g env loc H' s' → ItAt κ (cst (orP X (itA I k)) H' s'.heap) s'.heap I gd k vs 0 →
      (∀ a o, ¬ W a → H a = none → s.heap.get? a = some o → s'.heap.get? a = some o ∧ H' a = none ∧ ¬ itA I k a) → K vs gd H' → P (.ref I) s') :
    wpAny (model κ.prog κ.w) A (eval e env) (fun x s₁ => wpAny (model κ.prog κ.w) A (pyIter x) P No s₁) No s := by
  refine wpAny_mono (h W env X _ loc H s K E hX R.big q) (fun x s1 h1 => wpAny_mono h1 (fun v s2 p => ?_) no_any) no_any
  (refine ex5 p fun I kk vs gd H' zr4g => ?_; refine and6 zr4g fun zq3g h1 h2 R' hit q => ?_; clear zr4g; try clear p; obtain rfl := zq3g)
  have hgn : ∀ a, Mine.big W H s.heap a = none → g a = none := fun a e => by
    cases e' : g a with
    | none => rfl
    | some o => rw [R.g_le a o e'] at e; exact sn e
  refine k I kk vs gd s2 H' (fun a q => ⟨(h1 a q).1, hgn a (h1 a q).2, ?_⟩) h2 (R'.shrink R.g_le R.base) hit (fun a o hw hh e => ?_) q
  · cases e : κ.s0.heap.get? a with
    | none => rfl
    | some o => have := R'.base a o e; rw [(h1 a q).2] at this; exact nn this
  · have e4 : Mine.big W H s.heap a = some o := cst_some.mpr ⟨hw, hh, e⟩
    exact ⟨R'.keep a o e4, Classical.byContradiction fun q => (by rw [R'.disj a q] at e4; exact nn e4), fun q => by rw [(h1 a q).2] at e4; exact nn e4⟩

theorem folded_not {e : Expr} (h : ∀ es k p, e ≠ .Set es k p) (x : Value) : foldedSetIterable e env x = pure x := by
  induction e using PySem.Expr.casesOn <;> first | rfl | exact absurd rfl (h _ _ _)

/-- the element is added -/
theorem emitElt {elt : Expr} {gens : List Comprehension} {sc : Scope} {pos : Pos} {d : Nat} (hd : gens[d]? = none) (E : EOk N env W) (he : SE κ cl A N elt) :
    EmitOk κ W env A cl (fun inl acc H K => wpE cl elt inl H fun v H => acc.length < cap ∧ K (acc ++ [v]) H) elt gens sc pos d [] := by
  intro X g loc acc H s D K hX R ha hD q
  unfold EmitWp
  rw [hd]
  have q : wpE cl elt loc H fun v H => acc.length < cap ∧ K (acc ++ [v]) H := q
  refine wpAny_mono (he W env X _ loc H s _ E hX R.big q) (fun v s1 zz13 => zz13.elim fun c zz14 => zz14.elim fun H1 zz15 => zz15.elim fun R1 zz16 => zz16.elim fun r zz17 => zz17.elim fun hz q => ?_) no_any
  have L := R.left R1
  have ha1 := ha.left L hD.w (R.xh D hD.x)
  have R1 := R.back R1
  (refine ex2 ha1 fun ws m zr2g => ?_; refine and3 zr2g fun e hz1 hl => ?_; clear zr2g; try clear ha1)
  have hlen := RepL.length _ _ hl
  rw [Array.length_toList] at hlen
  refine append_at e (fun h' hs hd' => ?_) (by rw [← cap_is]; omega)
  obtain ⟨R2, le⟩ := R1.itStep (tk := s1.toks) (h' := h') E.E (fun a => a = D) (fun a q => by subst q; exact ⟨hD.x, hD.g, fun z => hD.w (z ▸ E.E.wl), hD.c, _, hd'⟩) (fun a o hz q => (hs.2 a hz).trans q)
  refine (exI3 loc (acc ++ [c]) H1 ⟨R2, fun _ _ e => e, (exI2 _ _ ⟨hd', by rw [Array.size_push]; omega, ?_⟩), q⟩)
  rw [Array.toList_push]
  exact RepL.mono _ _ le _ _ (RepL.append _ _ hl (exI2 v [] ⟨rfl, r, rfl⟩))

theorem tgt_of {e t : Expr} {k : ItK} (h : srcT e t = true) (ht : targetOk N t = true) (hk : ∀ it l, k = .enm it l → isEn e = true) : tgtOk t k := by
  have tup : isTup t = true → ∃ ts j p, t = .Tuple ts j p := fun h => by cases t <;> first | exact ⟨_, _, _, rfl⟩ | exact noB h
  have any : (∃ x p, t = .Name x p) ∨ ∃ ts j p, t = .Tuple ts j p := by
    cases t <;> first | exact .inl (exI2 _ _ rfl) | exact .inr ⟨_, _, _, rfl⟩ | exact noB ht
  induction k using Mine.ItK.casesOn with
  | enm it l =>
    unfold srcT at h
    rw [hk it l rfl] at h
    exact tup (by simpa using h)
  | _ => exact any

/-- the next generator -/
theorem emitGen {emit : Emit} {elt : Expr} {gens : List Comprehension} {sc : Scope} {pos : Pos} {d : Nat} {t it : Expr} {ifs : List Expr} {gs : List Comprehension} (hd : gens[d]? = some ⟨t, it, ifs, 0⟩) (B : Amb κ T fa n cl A) (E : EOk N env W)
    (hset : ∀ es k p, it ≠ .Set es k p) (hst : srcT it t = true) (ht : targetOk N t = true) (hs : SSrc κ cl A N it) (hT : TestsOk κ W env A cl ifs) (hE : EmitOk κ W env A cl emit elt gens sc pos (d + 1) gs) :
    EmitOk κ W env A cl emit elt gens sc pos d (⟨t, it, ifs, 0⟩ :: gs) := by
  intro X g loc acc H s D K hX R ha hD q
  unfold EmitWp
  rw [hd]
  refine ⟨rfl, folded_not hset, ?_⟩
  have q : wpSrc cl it loc H fun vs gd H => compItems gd (compStep cl emit t ifs gs loc) vs acc H K := q
  refine hs.ite E hX R q fun I k vs gd s' H' h1 h2 R' hit kept q => ?_
  have kD : ∀ o, s.heap.get? D = some o → s'.heap.get? D = some o := fun o e => (kept D o hD.w (R.xh D hD.x) e).1
  have le : (cst X H s.heap).le (cst (orP X (itA I k)) H' s'.heap) := fun a o e => by
    (refine and3 (cst_some.mp e) fun e1 e2 e3 => ?_)
    (refine and3 (kept a o (fun z => e1 (R.wx a z)) e2 e3) fun k1 k2 k3 => ?_)
    exact cst_some.mpr ⟨fun z => z.elim e1 k3, k2, k1⟩
  (refine ex2 ha fun ws m zr1g => ?_; refine and3 zr1g fun e hz1 hl => ?_; clear zr1g; try clear ha)
  have ha' : AccAt κ (cst (orP X (itA I k)) H' s'.heap) s'.heap D acc := (exI2 ws m ⟨kD _ e, hz1, RepL.mono _ _ le _ _ hl⟩)
  have loop := gen_loop (N := N) (sc := sc) (pos := pos) (elt := elt) hd B.B.hh (fun _ h => h) E.E ht (tgt_of hst ht h2) hX hT hE R.wx (fun x a z => (R.cells x a z).1) h1 R' hit ha' hD q
  have loop' := codeAny_mono (R' := fun r s' => match r with
      | .ok _ => ∃ loc' acc' H', Rel κ X W g env loc' H' s' ∧ (∀ x c, look x loc = some c → look x loc' = some c) ∧ AccAt κ (cst X H' s'.heap) s'.heap D acc' ∧ K acc' H'
      | .error e => cameBackBy (model κ.prog κ.w) A env No e s') loop (fun r s' zz18 => zz18.elim fun e p => by rw [e]; exact p)
  exact comp_start hd loop' (iter_self hit loop')
end
end
end Mine

/-! part S16 -/
namespace Mine
noncomputable section
open PySem PySem.W PyProof.Rows
open Classical

theorem freeLoc_look {loc : Loc} {x : Str} {c : CV} : ∀ {names : Names}, look x (names.filterMap fun p => if p.2 = .free then (look p.1 loc).map (p.1, ·) else none) = some c → (x, NameKind.free) ∈ names ∧ look x loc = some c
  | [], h => by exact nn h
  | (y, k) :: r, h => by
    rw [List.filterMap_cons] at h
    by_cases hk : k = .free
    · simp only [hk, if_true] at h
      cases e : look y loc with
      | none => rw [e] at h; exact ⟨.tail _ (freeLoc_look h).1, (freeLoc_look h).2⟩
      | some u =>
        rw [e] at h
        simp only [Option.map_some, look] at h
        by_cases hx : y = x
        · rw [if_pos hx] at h
          subst hx; subst hk
          exact ⟨.head _, by rw [e]; exact h⟩
        · rw [if_neg hx] at h; exact ⟨.tail _ (freeLoc_look h).1, (freeLoc_look h).2⟩
    · rw [if_neg hk] at h; exact ⟨.tail _ (freeLoc_look h).1, (freeLoc_look h).2⟩

/-! the frame's names, relabelled -/
theorem relabel_lookup {sc : Scope} {env : Env} {x : Str} {k : NameKind} : ∀ {names : Names}, names.lookup x = some k →
    (names.map fun (n, k) => if (k == NameKind.free && env.scope.kind == .function && env.kindOf n == some .cell) then (n, NameKind.cell) else (n, k)).lookup x = some k ∨
    (k = .free ∧ (names.map fun (n, k) => if (k == NameKind.free && env.scope.kind == .function && env.kindOf n == some .cell) then (n, NameKind.cell) else (n, k)).lookup x = some .cell)
  | [], h => by exact nn h
  | (y, u) :: r, h => by
    rw [List.lookup_cons] at h
    rw [List.map_cons]
    dsimp only
    by_cases hx : (x == y) = true
    · rw [hx] at h
      simp only [Option.some.injEq] at h
      subst h
      by_cases hc : (u == NameKind.free && env.scope.kind == .function && env.kindOf y == some .cell) = true
      · rw [if_pos hc, List.lookup_cons, hx]
        simp only [Bool.and_eq_true, beq_iff_eq] at hc
        exact .inr ⟨hc.1.1, rfl⟩
      · rw [if_neg hc, List.lookup_cons, hx]; exact .inl rfl
    · have hx' : (x == y) = false := by simpa using hx
      rw [hx'] at h
      by_cases hc : (u == NameKind.free && env.scope.kind == .function && env.kindOf y == some .cell) = true
      · rw [if_pos hc, List.lookup_cons, hx']; exact relabel_lookup (sc := sc) h
      · rw [if_neg hc, List.lookup_cons, hx']; exact relabel_lookup (sc := sc) h
theorem kindOf_relabel {cenv env : Env} {sc : Scope} {x : Str} {k : NameKind} (h : sc.names.lookup x = some k) :
    ({ cenv with scope := relabel sc env } : Env).kindOf x = some k ∨ (k = .free ∧ ({ cenv with scope := relabel sc env } : Env).kindOf x = some .cell) := relabel_lookup (sc := sc) h

theorem cellsFrom_addr : ∀ {names : Names} {n : Nat} {x : Str} {c : Addr}, (x, c) ∈ cellsFrom n names [] → @LE.le Nat _ n c ∧ @LT.lt Nat _ c (n + names.length)
  | [], _, _, _, h => nomatch h
  | (y, k) :: r, n, x, c, h => by
    unfold cellsFrom at h
    rw [List.length_cons]
    by_cases hk : (k == NameKind.cell) = true
    · rw [if_pos hk, cellsFrom_app] at h
      rcases List.mem_append.mp h with h | h
      · have := cellsFrom_addr h; lia
      · have h := List.mem_singleton.mp h
        have h := congrArg Prod.snd h
        dsimp only at h; subst h; lia
    · rw [if_neg hk] at h; have := cellsFrom_addr h; lia
theorem cellsFrom_inj : ∀ {names : Names} {n : Nat} {x y : Str} {c : Addr}, (x, c) ∈ cellsFrom n names [] → (y, c) ∈ cellsFrom n names [] → x = y
  | [], _, _, _, _, h, _ => nomatch h
  | (z, k) :: r, n, x, y, c, h1, h2 => by
    unfold cellsFrom at h1 h2
    by_cases hk : (k == NameKind.cell) = true
    · rw [if_pos hk, cellsFrom_app] at h1 h2
      rcases List.mem_append.mp h1 with h1 | h1 <;> rcases List.mem_append.mp h2 with h2 | h2
      · exact cellsFrom_inj h1 h2
      · have := cellsFrom_addr h1; have h2 : @Eq Nat c n := congrArg Prod.snd (List.mem_singleton.mp h2); lia
      · have := cellsFrom_addr h2; have h1 : @Eq Nat c n := congrArg Prod.snd (List.mem_singleton.mp h1); lia
      · cases List.mem_singleton.mp h1; cases List.mem_singleton.mp h2; rfl
    · rw [if_neg hk] at h1 h2; exact cellsFrom_inj h1 h2
theorem lookup_mem {α : Type} {x : Str} {c : α} : ∀ {l : List (Str × α)}, l.lookup x = some c → (x, c) ∈ l
  | [], h => by exact nn h
  | (y, u) :: r, h => by
    rw [List.lookup_cons] at h
    by_cases hx : (x == y) = true
    · rw [hx] at h; obtain rfl := Option.some.inj h; rw [beq_iff_eq.mp hx]; exact .head _
    · have hx' : (x == y) = false := by simpa using hx
      rw [hx'] at h; exact .tail _ (lookup_mem h)
theorem lookup_app {α : Type} {x : Str} {c : α} : ∀ {l r : List (Str × α)}, (l ++ r).lookup x = some c → (x, c) ∈ l ∨ (l.lookup x = none ∧ r.lookup x = some c)
  | [], r, h => .inr ⟨rfl, h⟩
  | (y, u) :: l, r, h => by
    rw [List.cons_append, List.lookup_cons] at h
    by_cases hx : (x == y) = true
    · rw [hx] at h; obtain rfl := Option.some.inj h; rw [beq_iff_eq.mp hx]; exact .inl (.head _)
    · have hx' : (x == y) = false := by simpa using hx
      rw [hx'] at h
      rcases lookup_app h with h | h
      · exact .inl (.tail _ h)
      · exact .inr ⟨by rw [List.lookup_cons, hx']; exact h.1, h.2⟩
theorem lookup_has {α : Type} {x : Str} {c : α} : ∀ {l r : List (Str × α)}, (x, c) ∈ l → ∃ d, (l ++ r).lookup x = some d ∧ (x, d) ∈ l
  | (y, u) :: l, r, h => by
    rw [List.cons_append, List.lookup_cons]
    by_cases hx : (x == y) = true
    · rw [hx]; exact ⟨u, rfl, by rw [beq_iff_eq.mp hx]; exact .head _⟩
    · have hx' : (x == y) = false := by simpa using hx
      rw [hx']
      rcases List.mem_cons.mp h with h | h
      · obtain ⟨rfl, rfl⟩ := Prod.mk.inj h; simp at hx
      · (refine Exists.elim (lookup_has (r := r) h) fun d zr7g => ?_; refine And.elim (fun e m => ?_) zr7g; clear zr7g)
        exact ⟨d, e, .tail _ m⟩
theorem nodup_lookup {α : Type} {x : Str} {c : α} : ∀ {l : List (Str × α)}, (l.map (·.1)).Nodup → (x, c) ∈ l → l.lookup x = some c
  | (y, u) :: l, hn, h => by
    rw [List.map_cons, List.nodup_cons] at hn
    rw [List.lookup_cons]
    rcases List.mem_cons.mp h with h | h'
    · obtain ⟨rfl, rfl⟩ := Prod.mk.inj h; simp
    · have hx' : (x == y) = false := by
        simp only [beq_eq_false_iff_ne]
        rintro rfl
        exact hn.1 (List.mem_map.mpr ⟨_, h', rfl⟩)
      rw [hx']; exact nodup_lookup hn.2 h'
theorem pushCells_get : ∀ {names : Names} {h : Heap} {a : Addr} {o : Obj}, h.get? a = some o → (pushCells h names).get? a = some o
  | [], _, _, _, e => e
  | (_, k) :: r, h, a, o, e => by
    unfold pushCells
    by_cases hk : (k == NameKind.cell) = true
    · rw [if_pos hk]; exact pushCells_get (Heap.get?_push_of_some _ e)
    · rw [if_neg hk]; exact pushCells_get e
theorem pushCells_cell : ∀ {names : Names} {h : Heap} {x : Str} {c : Addr}, (x, c) ∈ cellsFrom h.objs.size names [] → (pushCells h names).IsCell c none
  | [], _, _, _, e => nomatch e
  | (y, k) :: r, h, x, c, e => by
    unfold cellsFrom at e
    unfold pushCells
    by_cases hk : (k == NameKind.cell) = true
    · rw [if_pos hk] at e ⊢
      rw [cellsFrom_app] at e
      rcases List.mem_append.mp e with e | e
      · rw [show h.objs.size + 1 = (h.push { cls := .type "cell", data := .cell none }).objs.size from (Heap.size_push ..).symm] at e
        exact pushCells_cell e
      · cases List.mem_singleton.mp e
        exact ⟨_, pushCells_get (Heap.get?_push_size _ rfl), rfl⟩
    · rw [if_neg hk] at e ⊢; exact pushCells_cell e

structure CompOut (κ : Kit) (X W : Addr → Prop) (g : PF) (env : Env) (loc : Loc) (Q : CV → CH → Prop) (D C : Addr) (s : Shared) : Prop where
  c : ∃ cv H', Rel κ (orP X (fun a => a = C)) W g env loc H' s ∧ RepV κ.cA κ.pr (cst (orP X (fun a => a = C)) H' s.heap) cv (.ref D) ∧ Q cv H'
  x : ¬ X C
  g : g C = none
  l : C ≠ env.locals
  k : ∀ x, env.cells.lookup x ≠ some C
  n : ∃ m, s.heap.Ns C m

section
variable {κ : Kit} {T : Str → Str → Option FD} {fa : Str → Str → Addr} {X W : Addr → Prop} {g : PF} {env : Env} {loc loc' : Loc} {H H' : CH} {s s' : Shared} {A : Around} {cl : Cl} {n : Nat} {N : Names} {asg : Str → Prop}

/-- the frame of a comprehension is let go -/
theorem Rel.dropC {C : Addr} (E : EnvOk env W asg) (R : Rel κ (orP X (fun a => a = C)) W g env loc H s) (hw : ∀ a, W a → X a) (hc : ∀ x a, env.cells.lookup x = some a → X a) (x : ¬ X C) (gC : g C = none) (l : C ≠ env.locals) (k : ∀ x, env.cells.lookup x ≠ some C) {h' : Heap} (hs : Heap.SameBut C s.heap h') :
    Rel κ X W g env loc H { s with heap := h' } ∧ (cst (orP X (fun a => a = C)) H s.heap).le (cst X H h') := by
  refine ⟨R.stepX (tk := s.toks) E X (fun a => a = C) (fun a q => .inl q) hw hc (fun a q => ?_) (fun a o e hz q => ⟨(hs.2 a hz).trans q, e⟩) (fun a q => R.xh a (.inl q)) (fun a o hle e => ?_), fun a o e => ?_⟩
  · subst q; exact ⟨.inr rfl, gC, l, k, fun q => absurd q x⟩
  · have hz : a ≠ C := fun q => by have := R.xh C (.inr rfl); rw [← q, e] at this; exact sn this
    obtain ⟨o1, q⟩ := RepO.some _ (R.rep a o e)
    rw [hs.2 a hz, q, ← q]; exact RepO.mono _ hle (R.rep a o e)
  · (refine and3 (cst_some.mp e) fun e1 e2 e3 => ?_)
    exact cst_some.mpr ⟨fun q => e1 (.inl q), e2, (hs.2 a fun q => e1 (.inr q)).trans e3⟩

theorem frame_ok {sc : Scope} {h1 : Heap} {cenv : Env} (E : EOk N env W) (hc : compNames N sc = true) (hold : ∀ x a, env.cells.lookup x = some a → @LT.lt Nat _ a h1.objs.size)
    (he : cenv = { newEnv sc (h1.objs.size + 1) env.globals (cellsFrom (h1.objs.size + 2) sc.names [] ++ closOf env sc.names []) env.qual none .none (some env) builtinsNs with scope := relabel sc env }) :
    EOk sc.names cenv (fun a => a = h1.objs.size + 1 ∨ ∃ x, (x, a) ∈ cellsFrom (h1.objs.size + 2) sc.names []) ∧
    (∀ x a, cenv.cells.lookup x = some a → (x, a) ∈ cellsFrom (h1.objs.size + 2) sc.names [] ∨ ((x, NameKind.free) ∈ sc.names ∧ env.cells.lookup x = some a)) ∧
    (∀ x, (x, NameKind.free) ∈ sc.names → (cenv.kindOf x = some .cell ∨ cenv.kindOf x = some .free) ∧ (env.kindOf x = some .cell ∨ env.kindOf x = some .free) ∧ ∃ a, cenv.cells.lookup x = some a ∧ env.cells.lookup x = some a) := by
  unfold compNames at hc
  simp only [Bool.and_eq_true, beq_iff_eq, List.all_eq_true, Bool.or_eq_true, bne_iff_ne, ne_eq, decide_eq_true_eq] at hc
  obtain ⟨⟨hk, hall⟩, hnd⟩ := hc
  have kof : ∀ {x k}, sc.names.lookup x = some k → cenv.kindOf x = some k ∨ (k = .free ∧ cenv.kindOf x = some .cell) := fun {x k} e => by rw [he]; exact kindOf_relabel e
  have hcells : cenv.cells = cellsFrom (h1.objs.size + 2) sc.names [] ++ closOf env sc.names [] := by rw [he]; rfl
  have mem_free : ∀ x, (x, NameKind.free) ∈ sc.names → (N.lookup x = some .cell ∨ N.lookup x = some .free) ∧ sc.names.lookup x = some .free := fun x m => by
    have := (hall _ m).1.2
    rcases this with h | h
    · exact absurd rfl h
    · exact h
  have clk : ∀ x a, cenv.cells.lookup x = some a → (x, a) ∈ cellsFrom (h1.objs.size + 2) sc.names [] ∨ ((x, NameKind.free) ∈ sc.names ∧ env.cells.lookup x = some a) := fun x a e => by
    rw [hcells] at e
    rcases lookup_app e with e | ⟨_, e⟩
    · exact .inl e
    · rw [closOf_lookup env _ _ x hnd] at e
      by_cases hm : (x, NameKind.free) ∈ sc.names
      · rw [if_pos hm] at e
        (refine And.elim (fun _ zr6g => ?_) (E.n.ce x (mem_free x hm).1); refine Exists.elim zr6g fun b eb => ?_; clear zr6g)
        rw [eb] at e; obtain rfl := Option.some.inj e
        exact .inr ⟨hm, eb⟩
      · rw [if_neg hm] at e; exact nn e
  have free3 : ∀ x, (x, NameKind.free) ∈ sc.names → (cenv.kindOf x = some .cell ∨ cenv.kindOf x = some .free) ∧ (env.kindOf x = some .cell ∨ env.kindOf x = some .free) ∧ ∃ a, cenv.cells.lookup x = some a ∧ env.cells.lookup x = some a := fun x m => by
    obtain ⟨h1', h2⟩ := mem_free x m
    (refine And.elim (fun k1 zr5g => ?_) (E.n.ce x h1'); refine Exists.elim zr5g fun b eb => ?_; clear zr5g)
    refine ⟨(kof h2).elim .inr fun q => .inl q.2, k1, b, ?_, eb⟩
    rw [hcells]
    have no : ∀ c, (x, c) ∉ cellsFrom (h1.objs.size + 2) sc.names [] := fun c m' => by
      have := nodup_lookup hnd (cellsFrom_mem m')
      rw [h2] at this; cases this
    have : (cellsFrom (h1.objs.size + 2) sc.names []).lookup x = none := by
      cases e : (cellsFrom (h1.objs.size + 2) sc.names []).lookup x with
      | none => rfl
      | some c => exact absurd (lookup_mem e) (no c)
    rw [List.lookup_append, this, Option.none_or, closOf_lookup env _ _ x hnd, if_pos m, eb]; rfl
  refine ⟨⟨⟨?_, ?_, ?_, ?_, fun x ha => ?_, fun x y a e1 e2 => ?_, fun x a e => ?_⟩, ⟨fun x e => ?_, fun x e => ?_, fun x e => ?_, fun x e => ?_⟩⟩, clk, free3⟩
  · rw [he]; exact hk
  · rw [he]; exact E.E.hg
  · rw [he]; exact E.E.hb
  · rw [he]; exact .inl rfl
  · unfold asgIn at ha
    rcases Bool.or_eq_true_iff.mp ha with ha | ha
    · rcases kof (beq_iff_eq.mp ha) with h | h
      · exact .inl h
      · cases h.1
    · have ha := beq_iff_eq.mp ha
      rcases kof ha with h | h
      · obtain ⟨c, hm⟩ := cellsFrom_has (n := h1.objs.size + 2) (lookup_mem ha)
        (refine Exists.elim (lookup_has (r := closOf env sc.names []) hm) fun d zr4g => ?_; refine And.elim (fun e m => ?_) zr4g; clear zr4g)
        exact .inr ⟨h, d, by rw [hcells]; exact e, .inr ⟨x, m⟩⟩
      · cases h.1
  · rcases clk x a e1 with h1' | ⟨m1, h1'⟩ <;> rcases clk y a e2 with h2 | ⟨m2, h2⟩
    · exact cellsFrom_inj h1' h2
    · have := cellsFrom_addr h1'; have := hold y a h2; lia
    · have := cellsFrom_addr h2; have := hold x a h1'; lia
    · exact E.E.inj x y a h1' h2
  · have hl : cenv.locals = h1.objs.size + 1 := by rw [he]; rfl
    rw [hl]
    rcases clk x a e with h | ⟨_, h⟩
    · have := cellsFrom_addr h; exact Nat.ne_of_gt (by lia)
    · have := hold x a h; exact Nat.ne_of_lt (by lia)
  · rcases kof e with h | h
    · exact h
    · cases h.1
  · rcases kof e with h | h
    · exact h
    · cases h.1
  · rcases kof e with h | h
    · exact h
    · cases h.1
  · rcases e with e | e
    · rcases kof e with h | h
      · obtain ⟨c, hm⟩ := cellsFrom_has (n := h1.objs.size + 2) (lookup_mem e)
        (refine Exists.elim (lookup_has (r := closOf env sc.names []) hm) fun d zr3g => ?_; refine And.elim (fun e m => ?_) zr3g; clear zr3g)
        exact ⟨.inl h, d, by rw [hcells]; exact e⟩
      · cases h.1
    · (refine and3 (free3 x (lookup_mem e)) fun k1 _ zr1g => ?_; refine Exists.elim zr1g fun b zr2g => ?_; refine And.elim (fun e1 _ => ?_) zr2g; clear zr1g zr2g)
      exact ⟨k1, b, e1⟩
end
end
end Mine

/-! part S17 -/
namespace Mine
noncomputable section
open PySem PySem.W PyProof.Rows
open Classical

section
variable {κ : Kit} {T : Str → Str → Option FD} {fa : Str → Str → Addr} {X W : Addr → Prop} {g : PF} {env : Env} {loc loc' : Loc} {H H' : CH} {s s' : Shared} {A : Around} {cl : Cl} {n : Nat} {N : Names} {asg : Str → Prop}

theorem shared_eq {s s5 : Shared} {h4 : Heap} (h1 : s5.gens = s.gens) (h2 : s5.os = s.os) (h3 : s5.drawn = s.drawn) : s5 = { ({ s with heap := h4, toks := s.toks } : Shared) with heap := s5.heap, toks := s5.toks } := by
  induction s5 using PySem.Shared.casesOn; induction s using PySem.Shared.casesOn; subst h1; subst h2; subst h3; rfl
theorem orP_swap {X Y Z : Addr → Prop} : orP (orP X Y) Z = orP (orP X Z) Y := funext fun _ => propext ⟨fun h => h.elim (fun h => h.elim (fun h => .inl (.inl h)) .inr) fun h => .inl (.inr h), fun h => h.elim (fun h => h.elim (fun h => .inl (.inl h)) .inr) fun h => .inl (.inr h)⟩
theorem comp_core {elt : Expr} {sc : Scope} {pos : Pos} {t it : Expr} {ifs : List Expr} {gs : List Comprehension} {emit : Emit} {Q : CV → CH → Prop} {I : Addr} {k : ItK} {gd : Option (Addr × List CV)} {vs : List CV}
    (B : Amb κ T fa n cl A) (E : EOk N env W) (hX : HX κ X) (hWX : ∀ a, W a → X a) (hCX : ∀ x a, env.cells.lookup x = some a → X a) (hc : compNames N sc = true) (hst : srcT it t = true) (ht : targetOk sc.names t = true) (hk : ∀ i l, k = .enm i l → isEn it = true)
    (hT : ∀ env' W', EOk sc.names env' W' → TestsOk κ W' env' A cl ifs) (hE : ∀ env' W', EOk sc.names env' W' → EmitOk κ W' env' A cl emit elt (⟨t, it, ifs, 0⟩ :: gs) sc pos 1 gs)
    (hI : ∀ a, itA I k a → ¬ X a ∧ g a = none ∧ κ.s0.heap.get? a = none) (R : Rel κ (orP X (itA I k)) W g env loc H s) (hit : ItAt κ (cst (orP X (itA I k)) H s.heap) s.heap I gd k vs 0)
    (q : compItems gd (compStep cl emit t ifs gs (freeLoc sc loc)) vs [] H fun vs H => allocL vs H Q) :
    wpAny (model κ.prog κ.w) A (newList []) (fun acc s₃ => wpAny (model κ.prog κ.w) A (newFunctionEnv sc env.globals (closOf env sc.names []) [] env.qual none .none (some env)) (fun cenv s₄ =>
      codeAny (model κ.prog κ.w) A (.compStart (.ListComp elt (⟨t, it, ifs, 0⟩ :: gs) sc pos) 0 (.ref I) acc { cenv with scope := relabel sc env }) (fun r s₅ => r = .ok .next ∧ ∃ D, acc = .ref D ∧ CompOut κ X W g env loc Q D cenv.locals s₅) s₄) No s₃) No s := by
  refine wpAny_newList ?_
  refine newEnv_any ?_
  refine genEq s.heap.objs.size fun D hD => ?_
  have hC2 : ({ s with heap := s.heap.push { cls := .type "list", data := .seq ([] : List Value).toArray } } : Shared).heap.objs.size = D + 1 := by rw [← hD]; exact Heap.size_push ..
  rw [hC2]
  dsimp only
  have gl : env.globals = env.globals := rfl
  refine genEq (pushCells ((s.heap.push { cls := .type "list", data := .seq ([] : List Value).toArray }).push { cls := .type "dict", data := .dict #[] }) sc.names) fun h4 hh4 => ?_
  refine genEq (newEnv sc (D + 1) env.globals (cellsFrom (D + 1 + 1) sc.names [] ++ closOf env sc.names []) env.qual none .none (some env) builtinsNs) fun cenv0 hcenv => ?_
  have hCl : cenv0.locals = D + 1 := by rw [← hcenv]; rfl
  refine genEq ({ cenv0 with scope := relabel sc env } : Env) fun cenv hcenv1 => ?_
  rw [hCl]
  have old : ∀ a o, s.heap.get? a = some o → h4.get? a = some o := fun a o e => by rw [← hh4]; exact pushCells_get (Heap.get?_push_of_some _ (Heap.get?_push_of_some _ e))
  have atD : h4.get? D = some (listOf #[] 0) := by rw [← hh4, ← hD]; exact pushCells_get (Heap.get?_push_of_some _ (Heap.get?_push_size _ rfl))
  have size1 : (s.heap.push { cls := .type "list", data := .seq ([] : List Value).toArray }).objs.size = D + 1 := hC2
  have size2 : ((s.heap.push { cls := .type "list", data := .seq ([] : List Value).toArray }).push { cls := .type "dict", data := .dict #[] }).objs.size = D + 2 := by rw [Heap.size_push, size1]
  have nsC : h4.Ns (D + 1) fun _ => none := by
    have hn := Heap.Ns.new (s.heap.push { cls := .type "list", data := .seq ([] : List Value).toArray }) (.type "dict")
    rw [size1] at hn
    (refine ex3 hn fun o es ep zr12g => ?_; refine And.elim (fun e r => ?_) zr12g; clear zr12g; try clear hn)
    exact (exI3 o es ep ⟨by rw [← hh4]; exact pushCells_get e, r⟩)
  have cellN : ∀ x c, (x, c) ∈ cellsFrom (D + 2) sc.names [] → h4.IsCell c none := fun x c m => by
    rw [← hh4]; rw [← size2] at m; exact pushCells_cell m
  have below : ∀ a o, s.heap.get? a = some o → @LT.lt Nat _ a D := fun a o e => by rw [← hD]; exact Heap.lt_size e
  have fresh : ∀ a, @LE.le Nat _ D a → s.heap.get? a = none := fun a ha => get_none (by rw [hD]; exact ha)
  have hold : ∀ x a, env.cells.lookup x = some a → @LT.lt Nat _ a s.heap.objs.size := fun x a e => by
    (refine And.elim (fun _ zr10g => ?_) (R.cells x a e); refine ex2 zr10g fun v o zr11g => ?_; refine And.elim (fun e _ => ?_) zr11g; clear zr10g zr11g)
    exact Heap.lt_size e
  (refine and3 (frame_ok (h1 := s.heap) (cenv := cenv) E hc hold (by rw [← hcenv1, ← hcenv, hD])) fun EC clk free3 => ?_)
  rw [hD] at EC clk
  -- what is new
  let Y : Addr → Prop := fun a => s.heap.get? a = none ∧ ∃ o, h4.get? a = some o
  obtain ⟨R4, le4⟩ := R.hideNew Y (h' := h4) (tk := s.toks) old (fun a h => h)
  have hset : orP (orP X Y) (itA I k) = orP (orP X (itA I k)) Y := orP_swap
  have YD : Y D := ⟨fresh D (Nat.le_refl _), _, atD⟩
  have YC : Y (D + 1) := ⟨fresh (D + 1) (Nat.le_succ _), nsC.elim fun o zz1 => zz1.elim fun _ zz2 => zz2.elim fun _ zz3 => zz3.elim fun e _ =>  ⟨o, e⟩⟩
  have Ycell : ∀ x c, (x, c) ∈ cellsFrom (D + 2) sc.names [] → Y c := fun x c m => ⟨fresh c (by have := cellsFrom_addr m; lia), (cellN x c m).elim fun o zz4 => zz4.elim fun e _ =>  ⟨o, e⟩⟩
  have WcY : ∀ a, (a = D + 1 ∨ ∃ x, (x, a) ∈ cellsFrom (D + 2) sc.names []) → Y a := fun a h => h.elim (fun h => h ▸ YC) fun zz1 => zz1.elim fun x m => Ycell x a m
  let gc : PF := cst (itA I k) H s.heap
  have gcY : ∀ a, Y a → gc a = none := fun a h => by
    cases e : gc a with
    | none => rfl
    | some o => have := (cst_some.mp e).2.2; rw [h.1] at this; exact nn this
  have cellsX : ∀ x a, cenv.cells.lookup x = some a → orP X Y a ∧ ∃ v, h4.IsCell a v := fun x a e => by
    rcases clk x a e with h | ⟨_, h⟩
    · exact ⟨.inr (Ycell x a h), _, cellN x a h⟩
    · (refine And.elim (fun _ zr8g => ?_) (R.cells x a h); refine ex2 zr8g fun v o zr9g => ?_; refine And.elim (fun h1 h2 => ?_) zr9g; clear zr8g zr9g)
      exact ⟨.inl (hCX x a h), v, o, old a o h1, h2⟩
  have hNX : HX κ (orP X Y) := fun a o e h => h.elim (hX a o e) fun h => by have := R.keep a o (R.base a o e); rw [h.1] at this; exact nn this
  have Ri : Rel κ (orP (orP X Y) (itA I k)) (fun a => a = D + 1 ∨ ∃ x, (x, a) ∈ cellsFrom (D + 2) sc.names []) gc cenv (freeLoc sc loc) H { s with heap := h4, toks := s.toks } := by
    rw [hset]
    refine ⟨fun a o e => old a o (cst_some.mp e).2.2, fun a h => ?_, fun a h => gcY a (WcY a h), fun a h => .inr (WcY a h), R4.xh, R4.xs, R4.rep, fun a o e => ?_, R4.gens, R4.os, R4.drawn, ?_, fun x a e => ?_⟩
    · cases e : gc a with
      | none => rfl
      | some o => exact absurd (cst_some.mp e).2.1 h
    · have e' := R.base a o e
      exact cst_some.mpr ⟨fun h => by (rw [(hI a h).2.2] at e; exact nn e), Classical.byContradiction fun q => by rw [R.disj a q] at e'; (exact nn e'), R.keep a o e'⟩
    · have hl : cenv.locals = D + 1 := by rw [← hcenv1]; exact hCl
      rw [hl]
      refine ⟨_, nsC, fun x c e => ?_⟩
      obtain ⟨hm, e⟩ := freeLoc_look e
      (refine and3 (free3 x hm) fun k1 k2 zr6g => ?_; refine Exists.elim zr6g fun b zr7g => ?_; refine And.elim (fun e1 e2 => ?_) zr7g; clear zr6g zr7g)
      (refine Exists.elim R.loc fun m0 zr5g => ?_; refine And.elim (fun _ hl0 => ?_) zr5g; clear zr5g)
      rcases hl0 x c e with ⟨h, _⟩ | ⟨_, a, v, e3, ⟨oc, h1, h2⟩, r⟩
      · rcases k2 with k2 | k2 <;> (rw [k2] at h; cases h)
      · rw [e2] at e3; obtain rfl := Option.some.inj e3
        exact .inr ⟨k1, b, v, e1, ⟨oc, old b oc h1, h2⟩, RepV.mono _ _ le4 _ _ r⟩
    · obtain ⟨h1, h2⟩ := cellsX x a e
      exact ⟨h1.elim (fun h => .inl (.inl h)) .inr, h2⟩
  have gcI : ∀ a, itA I k a → ¬ orP X Y a ∧ gc a = none ∧ κ.s0.heap.get? a = none := fun a h => by
    refine ⟨fun z => z.elim (hI a h).1 fun y => ?_, ?_, (hI a h).2.2⟩
    · obtain ⟨o, e⟩ := R.xs a (.inr h)
      rw [y.1] at e; exact nn e
    · cases e : gc a with
      | none => rfl
      | some o => exact absurd h (cst_some.mp e).1
  have hit' : ItAt κ (cst (orP (orP X Y) (itA I k)) H h4) h4 I gd k vs 0 := by
    rw [hset]
    have keepI : ∀ a o, s.heap.get? a = some o → h4.get? a = some o := old
    induction k using Mine.ItK.casesOn with
    | lst b => obtain ⟨⟨o, h1, h2, h3⟩, h4⟩ := hit; exact ⟨⟨o, keepI _ _ h1, h2, h3⟩, h4.mono le4⟩
    | rng b => obtain ⟨h1, h2⟩ := hit; exact ⟨keepI _ _ h1, h2⟩
    | enm i b =>
      (refine ex2 hit fun us oldv zr4g => ?_; refine and5 zr4g fun h1 zq3g h5 h6 h7 => ?_; clear zr4g; try clear hit; obtain ⟨o, h2, h3, h4'⟩ := zq3g)
      exact (exI2 us oldv ⟨keepI _ _ h1, ⟨o, keepI _ _ h2, h3, h4'⟩, h5, h6, h7.mono le4⟩)
  have hacc : AccAt κ (cst (orP (orP X Y) (itA I k)) H h4) h4 D [] := (exI2 (#[]) 0 ⟨atD, Nat.zero_le _, rfl⟩)
  have hAs : Aside (orP X Y) (fun a => a = D + 1 ∨ ∃ x, (x, a) ∈ cellsFrom (D + 2) sc.names []) gc cenv D := by
    refine ⟨.inr YD, fun h => ?_, gcY D YD, fun x e => ?_⟩
    · rcases h with h | ⟨x, m⟩
      · exact absurd (show @Eq Nat D (D + 1) from h) (Nat.ne_of_lt (Nat.lt_succ_self D))
      · have := cellsFrom_addr m; lia
    · rcases clk x D e with m | ⟨_, h⟩
      · have := cellsFrom_addr m; lia
      · have := hold x D h; rw [hD] at this; exact Nat.lt_irrefl _ this
  have loop := gen_loop (N := sc.names) (gens := ⟨t, it, ifs, 0⟩ :: gs) (d := 0) (sc := sc) (pos := pos) (elt := elt) (s := { s with heap := h4, toks := s.toks }) rfl B.B.hh (fun _ h => h) EC.E ht (tgt_of hst ht hk) hNX (hT _ _ EC) (hE _ _ EC)
    (fun a h => .inr (WcY a h)) (fun x a e => (cellsX x a e).1) gcI Ri hit' hacc hAs q
  have loop' := codeAny_mono (R' := fun r s₅ => r = .ok .next ∧ ∃ D', Value.ref D = .ref D' ∧ CompOut κ X W g env loc Q D' (D + 1) s₅) loop (fun r s5 ⟨e, loc', acc', H', R5, _, ha, hz, q⟩ => ?_)
  · exact comp_start rfl loop' (iter_self hit' loop')
  refine ⟨e, D, rfl, ?_⟩
  have hgC : g (D + 1) = none := by
    cases e : g (D + 1) with
    | none => rfl
    | some o => have := R.keep _ o e; rw [YC.1] at this; exact nn this
  have hXC : ¬ X (D + 1) := fun h => by
    obtain ⟨o, e⟩ := R.xs _ (.inl h); rw [YC.1] at e; exact nn e
  have hXD : ¬ X D := fun h => by
    obtain ⟨o, e⟩ := R.xs _ (.inl h); rw [YD.1] at e; exact nn e
  have hL : env.locals ≠ D + 1 := fun h => by
    obtain ⟨o, e⟩ := R.xs _ (.inl (hWX _ E.E.wl)); rw [h, YC.1] at e; exact nn e
  have hK : ∀ x, env.cells.lookup x ≠ some (D + 1) := fun x h => by
    have := hold x _ h; rw [hD] at this; exact absurd this (Nat.not_lt.mpr (Nat.le_succ _))
  have hCD : D + 1 ≠ D := Nat.succ_ne_self D
  have H'D : H' D = none := R5.xh D (.inr YD)
  have H'C : H' (D + 1) = none := R5.xh _ (.inr YC)
  -- the outer frame again
  have outer : ∀ H2 : CH, (∀ a, a ≠ D → H2 a = H' a) → (H2 D ≠ none → ∀ c : PF, (cst (orP X Y) H' s5.heap).le c → ∀ o, H2 D = some o → RepO κ c o (s5.heap.get? D)) → Rel κ (orP X fun a => a = D + 1) W g env loc H2 s5 ∧ (cst (orP X Y) H' s5.heap).le (cst (orP X fun a => a = D + 1) H2 s5.heap) := by
    intro H2 he hd
    have le5 : (cst (orP X Y) H' s5.heap).le (cst (orP X fun a => a = D + 1) H2 s5.heap) := fun a o e => by
      (refine and3 (cst_some.mp e) fun e1 e2 e3 => ?_)
      have hne : a ≠ D := fun z => e1 (.inr (z ▸ YD))
      exact cst_some.mpr ⟨fun z => z.elim (fun z => e1 (.inl z)) fun z => e1 (.inr (z ▸ YC)), (he a hne).trans e2, e3⟩
    refine ⟨?_, le5⟩
    have hs5 : s5 = { ({ s with heap := h4, toks := s.toks } : Shared) with heap := s5.heap, toks := s5.toks } := shared_eq (R5.gens.trans R.gens.symm) (R5.os.trans R.os.symm) (R5.drawn.trans R.drawn.symm)
    rw [hs5]
    refine R4.stepX E.E (orP X fun a => a = D + 1) (fun a => itA I k a ∨ Y a) (fun a h => h.elim (fun h => .inl (.inl h)) fun h => .inr (h ▸ YC)) (fun a h => .inl (hWX a h)) (fun x a h => .inl (hCX x a h)) (fun a h => ?_) (fun a o e hz p => ?_) (fun a h => ?_) (fun a o hle e => ?_)
    · refine ⟨h.elim (fun h => .inl (.inr h)) .inr, ?_, fun z => ?_, fun x z => ?_, fun z => ?_⟩
      · rcases h with h | h
        · exact (hI a h).2.1
        · cases e : g a with
          | none => rfl
          | some o => have := R.keep _ o e; rw [h.1] at this; exact nn this
      · have hx := hWX _ E.E.wl
        rw [← z] at hx
        rcases h with h | h
        · exact (hI a h).1 hx
        · obtain ⟨o, e⟩ := R.xs a (.inl hx); rw [h.1] at e; exact nn e
      · have hx := hCX x a z
        rcases h with h | h
        · exact (hI a h).1 hx
        · obtain ⟨o, e⟩ := R.xs a (.inl hx); rw [h.1] at e; exact nn e
      · rcases z with z | z
        · rcases h with h | h
          · exact absurd z (hI a h).1
          · obtain ⟨o, e⟩ := R.xs a (.inl z); rw [h.1] at e; exact nn e
        · exact R5.xs a (.inr (z ▸ YC))
    · have hs : s.heap.get? a = some o := by
        cases e' : s.heap.get? a with
        | none => exact absurd (.inr ⟨e', o, p⟩) hz
        | some o' => have := old a o' e'; rw [p] at this; exact this.symm ▸ rfl
      have hgc : gc a = some o := cst_some.mpr ⟨fun h => hz (.inl h), e, hs⟩
      have hne : a ≠ D := fun z => by rw [z, YD.1] at hs; exact nn hs
      refine ⟨R5.keep a o hgc, (he a hne).trans (Classical.byContradiction fun q => ?_)⟩
      rw [R5.disj a q] at hgc; exact nn hgc
    · rcases h with h | h
      · have hne : a ≠ D := fun z => hXD (z ▸ h)
        exact (he a hne).trans (R5.xh a (.inl h))
      · subst h; exact (he _ hCD).trans H'C
    · by_cases hne : a = D
      · subst hne
        exact hd (by rw [e]; simp) _ le5 o e
      · rw [he a hne] at e
        exact RepO.mono _ le5 (R5.rep a o e)
  (refine ex2 ha fun ws m zr2g => ?_; refine and3 zr2g fun eD hz1 hl => ?_; clear zr2g; try clear ha)
  refine ⟨?_, hXC, hgC, Ne.symm hL, hK, ?_⟩
  · rcases q with q | q
    · obtain ⟨R6, le6⟩ := outer H' (fun _ _ => rfl) (fun z => absurd H'D z)
      exact (exI2 (.lst acc') H' ⟨R6, (exI3 D m ws ⟨rfl, cst_some.mpr ⟨fun z => z.elim hXD fun z => hCD z.symm, H'D, eD⟩, hz1, RepL.mono _ _ le6 _ _ hl⟩), q⟩)
    · obtain ⟨R6, le6⟩ := outer (H'.set D (.list acc')) (fun a h => by unfold CH.set; rw [if_neg h]) (fun _ c hc o e => by
        unfold CH.set at e; rw [if_pos rfl] at e; obtain rfl := Option.some.inj e
        exact (exI2 ws m ⟨eD, hz1, RepL.mono _ _ hc _ _ hl⟩))
      exact (exI2 (.ref D) _ ⟨R6, rfl, q D H'D⟩)
  · (refine Exists.elim R5.loc fun m zr1g => ?_; refine And.elim (fun hn _ => ?_) zr1g; clear zr1g)
    have hl : cenv.locals = D + 1 := by rw [← hcenv1]; exact hCl
    rw [hl] at hn
    exact ⟨m, hn⟩
end
end
end Mine

/-! part S18 -/
namespace Mine
noncomputable section
open PySem PySem.W PyProof.Rows
open Classical

section
variable {κ : Kit} {T : Str → Str → Option FD} {fa : Str → Str → Addr} {X W : Addr → Prop} {g : PF} {env : Env} {loc loc' : Loc} {H H' : CH} {s s' : Shared} {A : Around} {cl : Cl} {n : Nat} {N : Names} {asg : Str → Prop}

theorem compNames_free {sc : Scope} (E : EOk N env W) (hc : compNames N sc = true) : ∀ p ∈ sc.names, p.2 = .free → ∃ a, env.cells.lookup p.1 = some a := fun p hp hf => by
  unfold compNames at hc
  simp only [Bool.and_eq_true, beq_iff_eq, List.all_eq_true, Bool.or_eq_true, bne_iff_ne, ne_eq, decide_eq_true_eq] at hc
  rcases (hc.1.2 p hp).1.2 with h | h
  · exact absurd hf h
  · exact (E.n.ce p.1 h.1).2
theorem compNames_local {sc : Scope} (hc : compNames N sc = true) : sc.kind = .function ∧ ∀ x ∈ sc.names, x.2 = .local → sc.names.lookup x.1 = some .local := by
  unfold compNames at hc
  simp only [Bool.and_eq_true, beq_iff_eq, List.all_eq_true, Bool.or_eq_true, bne_iff_ne, ne_eq, decide_eq_true_eq] at hc
  exact ⟨hc.1.1, fun p hp hf => (hc.1.2 p hp).1.1.elim (fun h => absurd hf h) id⟩

/-- a comprehension, and what is done with its list -/
theorem comp_use {elt : Expr} {sc : Scope} {pos : Pos} {t it : Expr} {ifs : List Expr} {gs : List Comprehension} {Q : CV → CH → Prop} {use : Option (Value → Sem Unit)} {P : Value → Shared → Prop}
    (B : Amb κ T fa n cl A) (E : EOk N env W) (hX : HX κ X) (R : Rel κ X W g env loc H s) (hc : compNames N sc = true) (hset : ∀ es k p, it ≠ .Set es k p) (hst : srcT it t = true) (ht : targetOk sc.names t = true) (hs : SSrc κ cl A N it)
    (hT : ∀ env' W', EOk sc.names env' W' → TestsOk κ W' env' A cl ifs)
    (hE : ∀ env' W', EOk sc.names env' W' → EmitOk κ W' env' A cl (fun inl acc H K => wpE cl elt inl H fun v H => acc.length < cap ∧ K (acc ++ [v]) H) elt (⟨t, it, ifs, 0⟩ :: gs) sc pos 1 gs)
    (q : wpE cl (.ListComp elt (⟨t, it, ifs, 0⟩ :: gs) sc pos) loc H Q)
    (k : ∀ D C s₅, CompOut κ X W g env loc Q D C s₅ → compPost (model κ.prog κ.w) A No use P (.ref D) C (.ok .next) s₅) :
    wpAny (model κ.prog κ.w) A (comprehension (.ListComp elt (⟨t, it, ifs, 0⟩ :: gs) sc pos) sc env (firstIterPos (⟨t, it, ifs, 0⟩ :: gs) pos) (newList []) (firstAsync (⟨t, it, ifs, 0⟩ :: gs)) (firstIter (⟨t, it, ifs, 0⟩ :: gs) env) use) P No s := by
  obtain ⟨hk, hl⟩ := compNames_local hc
  have q : wpSrc cl it loc H fun vs gd H => compItems gd (compStep cl (fun inl acc H K => wpE cl elt inl H fun v H => acc.length < cap ∧ K (acc ++ [v]) H) t ifs gs (freeLoc sc loc)) vs [] H fun vs H => allocL vs H Q := q
  refine wpAny_comprehension_free (use := use) (cl := closOf env sc.names []) rfl (folded_not hset) (closure_eq (compNames_free E hc)) hk hl ?_
  refine hs.ite E hX R q fun I kk vs gd s1 H1 h1 h2 R1 hit _ q => ?_
  refine wpAny_mono (comp_core B E hX R.wx (fun x a e => (R.cells x a e).1) hc hst ht h2 hT hE h1 R1 hit q) (fun acc s3 h3 => wpAny_mono h3 (fun cenv s4 h4 => codeAny_mono h4 fun r s5 zz1 => zz1.elim fun e zz2 => zz2.elim fun D zz3 => zz3.elim fun e2 out => ?_) no_any) no_any
  rw [e, e2]
  exact k D _ s5 out

theorem sComp {elt : Expr} {sc : Scope} {pos : Pos} {t it : Expr} {ifs : List Expr} {gs : List Comprehension}
    (B : Amb κ T fa n cl A) (hc : compNames N sc = true) (hset : ∀ es k p, it ≠ .Set es k p) (hst : srcT it t = true) (ht : targetOk sc.names t = true) (hs : SSrc κ cl A N it)
    (hT : ∀ env' W', EOk sc.names env' W' → TestsOk κ W' env' A cl ifs)
    (hE : ∀ env' W', EOk sc.names env' W' → EmitOk κ W' env' A cl (fun inl acc H K => wpE cl elt inl H fun v H => acc.length < cap ∧ K (acc ++ [v]) H) elt (⟨t, it, ifs, 0⟩ :: gs) sc pos 1 gs) :
    SE κ cl A N (.ListComp elt (⟨t, it, ifs, 0⟩ :: gs) sc pos) := by
  intro W env X g loc H s Q E hX R q
  rw [eval_ListComp]
  refine comp_use (use := none) B E hX R hc hset hst ht hs hT hE q fun D C s5 out => ?_
  obtain ⟨m, hn⟩ := out.n
  refine ⟨m, hn, fun h' hs' => ?_⟩
  (refine ex2 out.c fun c H' zr4g => ?_; refine and3 zr4g fun R5 r q => ?_; clear zr4g)
  obtain ⟨R6, le⟩ := R5.dropC E.E R.wx (fun x a e => (R.cells x a e).1) out.x out.g out.l out.k hs'
  exact (exI2 c H' ⟨R6, RepV.mono _ _ le _ _ r, q⟩)

/-- its list is put under a name -/
theorem compAssign {elt : Expr} {sc : Scope} {pos : Pos} {t it : Expr} {ifs : List Expr} {gs : List Comprehension} {y : Str} {py spos : Pos} {Q : Loc → CH → Prop}
    (B : Amb κ T fa n cl A) (E : EOk N env W) (hX : HX κ X) (R : Rel κ X W g env loc H s) (hc : compNames N sc = true) (hset : ∀ es k p, it ≠ .Set es k p) (hst : srcT it t = true) (ht : targetOk sc.names t = true) (hs : SSrc κ cl A N it)
    (hT : ∀ env' W', EOk sc.names env' W' → TestsOk κ W' env' A cl ifs)
    (hE : ∀ env' W', EOk sc.names env' W' → EmitOk κ W' env' A cl (fun inl acc H K => wpE cl elt inl H fun v H => acc.length < cap ∧ K (acc ++ [v]) H) elt (⟨t, it, ifs, 0⟩ :: gs) sc pos 1 gs)
    (hy : asgIn N y = true) (hsw : swapsWith (.ListComp elt (⟨t, it, ifs, 0⟩ :: gs) sc pos) (some (.Name y py)) spos.line env = pure true)
    (q : wpE cl (.ListComp elt (⟨t, it, ifs, 0⟩ :: gs) sc pos) loc H fun v H => Q (put y v loc) H) :
    wpAny (model κ.prog κ.w) A (exec (.Assign [.Name y py] (.ListComp elt (⟨t, it, ifs, 0⟩ :: gs) sc pos) spos) env) (fun r s' => r = .next ∧ ∃ loc' H', Rel κ X W g env loc' H' s' ∧ Q loc' H') No s := by
  rw [exec_Assign_Name_used _ _ _ _ hsw]
  refine wpAny_bind (wpAny_standAt (wpAny_bind ?_))
  show wpAny _ A (do let _ ← comprehension (.ListComp elt (⟨t, it, ifs, 0⟩ :: gs) sc pos) sc env (firstIterPos (⟨t, it, ifs, 0⟩ :: gs) pos) (newList []) (firstAsync (⟨t, it, ifs, 0⟩ :: gs)) (firstIter (⟨t, it, ifs, 0⟩ :: gs) env) (some (assign (.Name y py) env))) _ _ s
  refine wpAny_bind (wpAny_mono (comp_use (use := some (assign (.Name y py) env)) (P := fun _ s' => ∃ loc' H', Rel κ X W g env loc' H' s' ∧ Q loc' H') B E hX R hc hset hst ht hs hT hE q fun D C s5 out => ?_) (fun _ s' hq => wpAny_pure (wpAny_pure ⟨rfl, hq⟩)) no_any)
  obtain ⟨m, hn⟩ := out.n
  (refine ex2 out.c fun c H' zr3g => ?_; refine and3 zr3g fun R5 r q => ?_; clear zr3g)
  show wpAny _ A (assign (.Name y py) env (.ref D)) _ _ _
  refine wpAny_assign_Name (wpAny_mono (store_sound E.E R5.big hy r) (fun _ s6 zz4 => zz4.elim fun R6 le => ?_) no_any)
  have kept : ∀ o, s5.heap.get? C = some o → s6.heap.get? C = some o := fun o e => R6.keep C o (cst_some.mpr ⟨fun h => out.x (R.wx C h), R5.xh C (.inr rfl), e⟩)
  have R7 := R5.back R6
  (refine ex3 hn fun o es ep zr2g => ?_; refine And.elim (fun e r' => ?_) zr2g; clear zr2g; try clear hn)
  refine ⟨m, (exI3 o es ep ⟨kept o e, r'⟩), fun h' hs' => ?_⟩
  obtain ⟨R8, _⟩ := R7.dropC E.E R.wx (fun x a e => (R.cells x a e).1) out.x out.g out.l out.k hs'
  exact (exI2 _ H' ⟨R8, q⟩)

/-! a dict display -/
theorem str_const {x : Str} {k : Nat} {p : Pos} {Q : Value → Shared → Prop} {F : Value → Shared → Prop} {M : Model} (h : Q (.str x s.toks) { s with toks := s.toks + 1 }) : wpAny M A (eval (.Constant (.str x) k p) env) Q F s := wpAny_Constant_str h
theorem dk_cons {x : Str} {kk : Nat} {p : Pos} {ks : List (Option Expr)} {xs : List Str} (e : dictKeys (some (.Constant (.str x) kk p) :: ks) = some xs) : ∃ ys, dictKeys ks = some ys ∧ x :: ys = xs := Option.map_eq_some_iff.mp e
theorem dict_pairs {pos : Pos} : ∀ (ks : List (Option Expr)) (es : List Expr) (xs : List Str) (g : PF) (H : CH) (s : Shared) (Q : List CV → CH → Prop), dictKeys ks = some xs → ks.length = es.length → (∀ e ∈ es, SE κ cl A N e) → EOk N env W → HX κ X → Rel κ X W g env loc H s → wpEs cl es loc H Q →
    wpAny (model κ.prog κ.w) A (evalPairs (pairTrees ks es env pos)) (fun vs s' => ∃ cs H' us, Rel κ X W g env loc H' s' ∧ allStrKeys vs = true ∧ strPairs vs = xs.zip us ∧ us.length = xs.length ∧ RepL κ.cA κ.pr (cst X H' s'.heap) cs us ∧ Q cs H') No s
  | [], [], xs, g, H, s, Q, e, _, _, E, hX, R, q => by
    obtain rfl := Option.some.inj e
    exact pairTrees_nil_walk (exI3 [] H [] ⟨R, rfl, rfl, rfl, rfl, q⟩)
  | [], _ :: _, _, _, _, _, _, _, h, _, _, _, _, _ => by simp at h
  | _ :: _, [], _, _, _, _, _, _, h, _, _, _, _, _ => by simp at h
  | none :: _, _ :: _, _, _, _, _, _, e, _, _, _, _, _, _ => by exact nn e
  | some k :: ks, v :: es, xs, g, H, s, Q, e, hl, h, E, hX, R, q => by
    obtain ⟨x, kk, p, rfl⟩ : ∃ x kk p, k = .Constant (.str x) kk p := by
      induction k using PySem.Expr.casesOn with
      | Constant c kk p => induction c using PySem.Const.casesOn with
        | str x => exact (exI3 x kk p rfl)
        | _ => exact nn e
      | _ => exact nn e
    (refine Exists.elim (dk_cons e) fun ys zz => ?_; refine And.elim (fun e1 ey => ?_) zz; clear zz; subst ey)
    refine pairTrees_cons_walk (str_const ?_)
    have q : wpE cl v loc H fun c H => wpEs cl es loc H fun cs H => Q (c :: cs) H := q
    refine (h v (.head _)).ite E hX (R.toks _) q fun w s1 c H1 R1 r1 _ q1 => ?_
    refine wpAny_mono (dict_pairs ks es ys _ H1 s1 _ e1 (by simpa using hl) (fun e he => h e (.tail _ he)) E hX R1.big q1) (fun vs s2 zz5 => zz5.elim fun cs zz6 => zz6.elim fun H2 zz7 => zz7.elim fun us zz8 => zz8.elim fun R2 zz9 => zz9.elim fun a zz10 => zz10.elim fun b zz11 => zz11.elim fun c' zz12 => zz12.elim fun d q2 => ?_) no_any
    refine (exI3 (c :: cs) H2 (w :: us) ⟨R1.back R2, by simpa [allStrKeys] using a, by simp [strPairs, b], by simp [c'], (exI2 _ _ ⟨rfl, RepV.mono _ _ (R1.over R2) _ _ r1, d⟩), q2⟩)
theorem zip_fst {α β : Type} : ∀ {xs : List α} {us : List β}, us.length = xs.length → (xs.zip us).map (·.1) = xs ∧ (xs.zip us).map (·.2) = us
  | [], [], _ => ⟨rfl, rfl⟩
  | [], _ :: _, h => by simp at h
  | _ :: _, [], h => by simp at h
  | x :: xs, u :: us, h => by
    obtain ⟨a, b⟩ := zip_fst (xs := xs) (us := us) (by simpa using h)
    simp [a, b]
theorem keys_some : ∀ {ks : List (Option Expr)} {xs : List Str}, dictKeys ks = some xs → ks.all (·.isSome) = true ∧ ks.length = xs.length
  | [], xs, e => by obtain rfl := Option.some.inj e; exact ⟨rfl, rfl⟩
  | none :: _, _, e => by exact nn e
  | some k :: ks, xs, e => by
    obtain ⟨x, kk, p, rfl⟩ : ∃ x kk p, k = .Constant (.str x) kk p := by
      induction k using PySem.Expr.casesOn with
      | Constant c kk p => induction c using PySem.Const.casesOn with
        | str x => exact (exI3 x kk p rfl)
        | _ => exact nn e
      | _ => exact nn e
    (refine Exists.elim (dk_cons e) fun ys zz => ?_; refine And.elim (fun e1 ey => ?_) zz; clear zz; subst ey)
    obtain ⟨a, b⟩ := keys_some e1
    exact ⟨a, congrArg (· + 1) b⟩
theorem keysOk_some {ks : List (Option Expr)} (hk : keysOk ks = true) : ∃ xs, dictKeys ks = some xs ∧ xs.Nodup ∧ xs.length ≤ 10 ∧ xs ≠ [] := by
  unfold keysOk at hk
  cases e : dictKeys ks with
  | none => rw [e] at hk; exact noB hk
  | some xs =>
    rw [e] at hk
    have hk := band3 hk
    exact ⟨xs, rfl, of_decide_eq_true hk.1.1, of_decide_eq_true hk.1.2, fun z => by rw [z] at hk; exact noB hk.2⟩
theorem sDict {ks : List (Option Expr)} {es : List Expr} {pos : Pos} (hk : keysOk ks = true) (hl : ks.length = es.length) (h : ∀ e ∈ es, SE κ cl A N e) : SE κ cl A N (.Dict ks es pos) := by
  intro W env X g loc H s Q E hX R q
  have q : wpEs cl es loc H fun ws H => ∃ xs, dictKeys ks = some xs ∧ ∀ d, H d = Option.none → Q (.dct d) (H.set d (.map (xs.zip ws))) := q
  obtain ⟨xs, ek, hnd, hle, hne⟩ := keysOk_some hk
  have hsz : xs.length ≤ 100 := Nat.le_trans hle (by decide)
  obtain ⟨ka, kl⟩ := keys_some ek
  have hn := get_none (h := s.heap) (Nat.le_refl s.heap.objs.size)
  have gn : ∀ a, s.heap.get? a = none → g a = none := fun a ha => by
    cases e : g a with
    | none => rfl
    | some o => have := R.keep _ _ e; rw [ha] at this; exact nn this
  have hXn : ∀ a, s.heap.get? a = none → ¬ X a := fun a ha h => by obtain ⟨o, e⟩ := R.xs a h; rw [ha] at e; exact nn e
  obtain ⟨R1, le1⟩ := R.hideNew (fun a => a = s.heap.objs.size) (h' := s.heap.push { cls := .type "dict", data := .dict #[] }) (tk := s.toks) (fun a o e => Heap.get?_push_of_some _ e) (fun a e => by subst e; exact ⟨hn, _, Heap.get?_push_size _ rfl⟩)
  have hD := Heap.DictOf.new (knd := strKind κ.prog κ.w) s.heap
  refine wpAny_Dict_walk (knd := strKind κ.prog κ.w) ka hl (fun z => hne (by rw [z] at kl; exact List.length_eq_zero_iff.mp kl.symm)) (by lia) ?_
  have hX1 : HX κ (orP X fun a => a = s.heap.objs.size) := fun a o e z => z.elim (hX a o e) fun z => by have := R.keep a o (R.base a o e); rw [z, hn] at this; exact nn this
  refine wpAny_mono (dict_pairs ks es xs _ H _ _ ek hl h E hX1 R1.big q) (fun vs s2 zz13 => zz13.elim fun cs zz14 => zz14.elim fun H2 zz15 => zz15.elim fun us zz16 => zz16.elim fun R2 zz17 => zz17.elim fun a zz18 => zz18.elim fun b zz19 => zz19.elim fun c zz20 => zz20.elim fun d zz21 => zz21.elim fun xs' zz22 => zz22.elim fun e1 q2 => ?_) no_any
  rw [ek] at e1; obtain rfl := Option.some.inj e1
  have hDW : ¬ W s.heap.objs.size := fun z => hXn _ hn (R.wx _ z)
  have kept : ∀ b o, b = s.heap.objs.size → (s.heap.push { cls := .type "dict", data := .dict #[] }).get? b = some o → s2.heap.get? b = some o := fun b o hb e => by
    subst hb
    exact R2.keep _ o (cst_some.mpr ⟨hDW, R.clean hn, e⟩)
  have hH2 : H2 s.heap.objs.size = none := R2.xh _ (.inr rfl)
  have hD2 : s2.heap.DictOf (strKind κ.prog κ.w) s.heap.objs.size [] := by
    (refine ex3 hD fun o es' ep zr1g => ?_; refine And.elim (fun e r => ?_) zr1g; clear zr1g; try clear hD)
    exact (exI3 o es' ep ⟨kept _ o rfl e, r⟩)
  have R2 := R1.back R2
  obtain ⟨z1, z2⟩ := zip_fst c
  refine display_done_str (P := fun h' => Post κ X W g env loc Q (.ref s.heap.objs.size) { s2 with heap := h', toks := s2.toks + vs.length }) a (by rw [b, z1]; exact hnd) hD2 fun h' hd' hs' => ?_
  rw [b] at hd'
  refine (exI2 (.dct s.heap.objs.size) _ ⟨R2.stepX (tk := s2.toks + vs.length) (h' := h') (H' := H2.set s.heap.objs.size (.map (xs.zip cs))) E.E X (fun a => a = s.heap.objs.size) (fun a h => .inl h) R.wx (fun x a e => (R.cells x a e).1) (fun a z => ?_) (fun a o e hz p => ?_) (fun a z => ?_) (fun a o hle e => ?_), rfl, q2 _ hH2⟩)
  · subst z
    exact ⟨.inr rfl, gn _ hn, fun z => hXn _ hn (z ▸ R.wx _ E.E.wl), fun x z => hXn _ hn (R.cells x _ z).1, fun z => absurd z (hXn _ hn)⟩
  · exact ⟨(hs'.2 a hz).trans p, by unfold CH.set; rw [if_neg hz]; exact e⟩
  · have hz : a ≠ s.heap.objs.size := fun y => hXn _ hn (y ▸ z)
    unfold CH.set; rw [if_neg hz]; exact R2.xh a (.inl z)
  · unfold CH.set at e
    by_cases hz : a = s.heap.objs.size
    · rw [if_pos hz] at e
      obtain rfl := Option.some.inj e
      have hcs := RepL.length _ _ d
      obtain ⟨y1, y2⟩ := zip_fst (xs := xs) (us := cs) (by lia)
      refine ⟨xs.zip us, hz ▸ hd', by rw [y1, z1], by rw [y2, z2]; exact RepL.mono _ _ hle _ _ d, ?_⟩
      rw [List.length_zip]; exact Nat.le_trans (Nat.min_le_left ..) hsz
    · rw [if_neg hz] at e
      obtain ⟨o1, p⟩ := RepO.some _ (R2.rep a o e)
      rw [hs'.2 a hz, p, ← p]; exact RepO.mono _ hle (R2.rep a o e)
end
end
end Mine

/-! part S19 -/
namespace Mine
noncomputable section
open PySem PySem.W PyProof.Rows
open Classical

section
variable {κ : Kit} {T : Str → Str → Option FD} {fa : Str → Str → Addr} {A : Around} {cl : Cl} {n : Nat} {N : Names}

theorem sL_all : ∀ {es : List Expr}, (∀ e ∈ es, SE κ cl A N e) → es.all noStar = true → SL κ cl A N es
  | [], _, _ => sLnil
  | e :: es, h, hs => by
    rw [List.all_cons, Bool.and_eq_true] at hs
    exact sLcons hs.1 (h e (.head _)) (sL_all (fun e he => h e (.tail _ he)) hs.2)
theorem sB_all {op : BoolOp} : ∀ {es : List Expr}, (∀ e ∈ es, SE κ cl A N e) → SBs κ cl A N op es
  | [], _ => bNil
  | [e], h => bOne (h e (.head _))
  | e :: e2 :: r, h => bCons (h e (.head _)) (sB_all fun e he => h e (.tail _ he))
theorem sTs_all {op : BoolOp} : ∀ {es : List Expr}, (∀ e ∈ es, ST κ cl A N e) → STs κ cl A N op es
  | [], _ => tsNil
  | e :: r, h => tsCons (h e (.head _)) (sTs_all fun e he => h e (.tail _ he))
theorem tests_all : ∀ {es : List Expr}, (∀ e ∈ es, ST κ cl A N e) → ∀ env W, EOk N env W → TestsOk κ W env A cl es
  | [], _, _, _, _ => testsNil
  | e :: r, h, env, W, E => testsCons E (h e (.head _)) (tests_all (fun e he => h e (.tail _ he)) env W E)
theorem notSet_of {kf : Str → Bool} {e : Expr} (h : okSrc kf e N = true) : ∀ es k p, e ≠ .Set es k p := by
  rintro es k p rfl; exact noB h
theorem all1 {r : Expr} (h : [r].all notSet = true) : notSet r = true := by simpa using h

noncomputable abbrev emitOf (cl : Cl) (elt : Expr) : Emit := fun inl acc H K => wpE cl elt inl H fun v H => acc.length < cap ∧ K (acc ++ [v]) H
noncomputable def SGens (κ : Kit) (cl : Cl) (A : Around) (M : Names) (gs : List Comprehension) : Prop := ∀ (elt : Expr) (gens : List Comprehension) (sc : Scope) (pos : Pos) (d : Nat), gens.drop d = gs → SE κ cl A M elt → ∀ env W, EOk M env W → EmitOk κ W env A cl (emitOf cl elt) elt gens sc pos d gs
theorem drop_get {α : Type} {l r : List α} {d : Nat} {a : α} (h : l.drop d = a :: r) : l[d]? = some a ∧ l.drop (d + 1) = r := by
  constructor
  · have := congrArg (·[0]?) h
    simpa using this
  · rw [← List.drop_drop, h]; rfl
theorem gens_nil : SGens κ cl A N [] := fun elt gens sc pos d h he env W E => emitElt (by
  have : gens.length ≤ d := by have := congrArg List.length h; simp at this; lia
  exact List.getElem?_eq_none this) E he
theorem gens_cons {t it : Expr} {ifs : List Expr} {k : Int} {gs : List Comprehension} (B : Amb κ T fa n cl A) (hset : ∀ es k p, it ≠ .Set es k p) (hst : srcT it t = true) (ht : targetOk N t = true) (hs : SSrc κ cl A N it) (hT : ∀ e ∈ ifs, ST κ cl A N e) (hg : SGens κ cl A N gs) :
    SGens κ cl A N (⟨t, it, ifs, k⟩ :: gs) := by
  intro elt gens sc pos d h he env W E
  obtain ⟨h1, h2⟩ := drop_get h
  rcases k with (_ | k) | k
  · exact emitGen h1 B E hset hst ht hs (tests_all hT env W E) (hg elt gens sc pos (d + 1) h2 he env W E)
  · intro X g loc acc H s D K hX R ha hD q; exact q.elim
  · intro X g loc acc H s D K hX R ha hD q; exact q.elim
theorem comp_ok {elt : Expr} {sc : Scope} {pos : Pos} {t it : Expr} {ifs : List Expr} {k : Int} {gs : List Comprehension}
    (B : Amb κ T fa n cl A) (hc : compNames N sc = true) (hset : ∀ es k p, it ≠ .Set es k p) (hst : srcT it t = true) (ht : targetOk sc.names t = true) (hs : SSrc κ cl A N it) (hT : ∀ e ∈ ifs, ST κ cl A sc.names e) (hg : SGens κ cl A sc.names gs) (he : SE κ cl A sc.names elt) :
    SE κ cl A N (.ListComp elt (⟨t, it, ifs, k⟩ :: gs) sc pos) := by
  rcases k with (_ | k) | k
  · exact sComp B hc hset hst ht hs (tests_all hT) fun env W E => hg elt _ sc pos 1 rfl he env W E
  · intro W env X g loc H s Q E hX R q; exact q.elim
  · intro W env X g loc H s Q E hX R q; exact q.elim
end


theorem okEs_mem {kf : Str → Bool} {N : Names} : ∀ {es : List Expr}, okEs kf es N = true → ∀ e ∈ es, okE kf e N = true
  | [], _, _, h => nomatch h
  | e :: es, h, e', he => by
    have h := band2 h
    rcases List.mem_cons.mp he with q | q
    · rw [q]; exact h.1
    · exact okEs_mem h.2 e' q
theorem okTs_mem {kf : Str → Bool} {N : Names} : ∀ {es : List Expr}, okTs kf es N = true → ∀ e ∈ es, okT kf e N = true
  | [], _, _, h => nomatch h
  | e :: es, h, e', he => by
    have h := band2 h
    rcases List.mem_cons.mp he with q | q
    · rw [q]; exact h.1
    · exact okTs_mem h.2 e' q

section
variable {κ : Kit} {T : Str → Str → Option FD} {fa : Str → Str → Addr} {A : Around} {cl : Cl} {n : Nat}
structure AllS (κ : Kit) (T : Str → Str → Option FD) (cl : Cl) (A : Around) (m : Nat) : Prop where
  E : ∀ (e : Expr) (N : Names), sizeOf e < m → okE (kfOf T) e N = true → SE κ cl A N e
  B : ∀ (e : Expr) (N : Names), sizeOf e < m → okT (kfOf T) e N = true → ST κ cl A N e
  S : ∀ (e : Expr) (N : Names), sizeOf e < m → okSrc (kfOf T) e N = true → SSrc κ cl A N e
  G : ∀ (gs : List Comprehension) (N : Names), sizeOf gs < m → okGens (kfOf T) gs N = true → SGens κ cl A N gs
theorem AllS.Es {m : Nat} (I : AllS κ T cl A m) {es : List Expr} {N : Names} (hs : sizeOf es < m) (h : okEs (kfOf T) es N = true) : ∀ e ∈ es, SE κ cl A N e :=
  fun e he => I.E e N (Nat.lt_trans (List.sizeOf_lt_of_mem he) hs) (okEs_mem h e he)
theorem AllS.Ts {m : Nat} (I : AllS κ T cl A m) {es : List Expr} {N : Names} (hs : sizeOf es < m) (h : okTs (kfOf T) es N = true) : ∀ e ∈ es, ST κ cl A N e :=
  fun e he => I.B e N (Nat.lt_trans (List.sizeOf_lt_of_mem he) hs) (okTs_mem h e he)
theorem AllS.L {m : Nat} (I : AllS κ T cl A m) {es : List Expr} {N : Names} (hs : sizeOf es < m) (h : okEs (kfOf T) es N = true) (h2 : es.all noStar = true) : SL κ cl A N es := sL_all (I.Es hs h) h2
theorem AllS.O {m : Nat} (I : AllS κ T cl A m) {o : Option Expr} {N : Names} (hs : sizeOf o < m) (h : okOpt (kfOf T) o N = true) : SO κ cl A N o := by
  cases o with
  | none => exact sOnone
  | some e => exact sOsome (I.E e N (by simp at hs; lia) h)

theorem all_S (B : Amb κ T fa n cl A) : ∀ m, AllS κ T cl A m
  | 0 => ⟨fun _ _ h => absurd h (Nat.not_lt_zero _), fun _ _ h => absurd h (Nat.not_lt_zero _), fun _ _ h => absurd h (Nat.not_lt_zero _), fun _ _ h => absurd h (Nat.not_lt_zero _)⟩
  | m + 1 => by
    have I := all_S B m
    refine ⟨fun e N hs h => ?_, fun e N hs h => ?_, fun e N hs h => ?_, fun gs N hs h => ?_⟩
    · induction e using PySem.Expr.casesOn with
      | Constant _ _ _ => exact sConst
      | Name _ _ => exact sName B h
      | BinOp _ _ _ _ =>
        have h := band2 h; simp at hs
        exact sBin (I.E _ N (by lia) h.1) (I.E _ N (by lia) h.2)
      | UnaryOp _ _ _ => simp at hs; exact sUn (I.E _ N (by lia) h)
      | BoolOp _ _ _ =>
        simp at hs
        intro W env X g loc H s Q E hX R q
        exact sB_all (I.Es (by lia) h) _ W env X g loc H s Q E hX R q
      | IfExp _ _ _ _ =>
        have h := band3 h; simp at hs
        exact sIf (I.B _ N (by lia) h.1.1) (I.E _ N (by lia) h.1.2) (I.E _ N (by lia) h.2)
      | Dict _ _ _ =>
        have h := band3 h; simp at hs
        exact sDict h.1.1 (beq_iff_eq.mp h.1.2) (I.Es (by lia) h.2)
      | List _ _ =>
        have h := band2 h; simp at hs
        exact sList (I.L (by lia) h.1 h.2)
      | Tuple _ _ _ =>
        have h := band3 h; simp at hs
        exact sTup (by have := of_decide_eq_true h.2; rw [cap_num]; lia) (I.L (by lia) h.1.1 h.1.2)
      | ListComp elt gens sc _ =>
        cases gens with
        | nil => exact noB (band3 h).1.2
        | cons g0 gs =>
          obtain ⟨t, it, ifs, k⟩ := g0
          obtain ⟨⟨h1, h26⟩, h7⟩ := band3 h
          obtain ⟨⟨⟨⟨h2, h3⟩, h4⟩, h5⟩, h6⟩ := band5 h26
          simp at hs
          exact comp_ok B h1 (notSet_of h3) h2 h4 (I.S it N (by lia) h3) (I.Ts (by lia) h5) (I.G gs sc.names (by lia) h6) (I.E elt sc.names (by lia) h7)
      | Compare l ops rs _ =>
        obtain ⟨⟨h1, h2⟩, h3⟩ := band3 h
        simp at hs
        have hl := I.E l N (by lia) h1
        have hr := I.Es (es := rs) (by lia) h2
        rw [List.all_eq_true] at h3
        intro W env X g loc H s Q E hX R q
        match ops, rs, hr, h3, q with
        | [op], [r], hr, h3, q => exact sCmp1 B (h3 r (.head _)) hl (hr r (.head _)) W env X g loc H s Q E hX R q
        | [op1, op2], [m, r], hr, h3, q => exact sCmp2 B (h3 r (.tail _ (.head _))) hl (hr m (.head _)) (hr r (.tail _ (.head _))) W env X g loc H s Q E hX R q
        | [], _, _, _, q => exact q.elim
        | [_], [], _, _, q => exact q.elim
        | [_], _ :: _ :: _, _, _, q => exact q.elim
        | [_, _], [], _, _, q => exact q.elim
        | [_, _], [_], _, _, q => exact q.elim
        | [_, _], _ :: _ :: _ :: _, _, _, q => exact q.elim
        | _ :: _ :: _ :: _, _, _, _, q => exact q.elim
      | Call f args kws _ =>
        cases kws with
        | cons k ks => induction f using PySem.Expr.casesOn <;> exact noB h
        | nil =>
          induction f using PySem.Expr.casesOn with
          | Name _ _ =>
            have h := band5 h; simp at hs
            exact sCall B h.1.1.1.1 h.1.1.1.2 h.1.2 (bnot h.2) (I.L (by lia) h.1.1.2 h.1.2)
          | Attribute _ _ _ =>
            obtain ⟨⟨⟨⟨⟨⟨h1, h2⟩, h3⟩, h4⟩, h5⟩, h6⟩, h7⟩ := band7 h
            simp at hs
            exact sMeth B h2 h4 (of_decide_eq_true h5) h3 h7 (I.E _ N (by lia) h1) (I.L (by lia) h6 h4)
          | _ => exact noB h
      | Attribute _ _ _ =>
        have h := band2 h; simp at hs
        exact sAttr B h.2 (I.E _ N (by lia) h.1)
      | Subscript v i _ =>
        have hh : (∃ lo hi sp, i = .Slice lo hi none sp) ∨ (okE (kfOf T) v N && okE (kfOf T) i N && notSlice i) = true := by
          induction i using PySem.Expr.casesOn with
          | Slice lo hi st sp =>
            cases st with
            | none => exact .inl (exI3 lo hi sp rfl)
            | some _ => exact .inr h
          | _ => exact .inr h
        rcases hh with ⟨lo, hi, sp, rfl⟩ | hh
        · have h := band4 h; simp at hs
          exact sSlice h.1.1.1 (I.E _ N (by lia) h.1.1.2) (I.O (by lia) h.1.2) (I.O (by lia) h.2)
        · have h := band3 hh; simp at hs
          exact sSub h.2 (I.E _ N (by lia) h.1.1) (I.E _ N (by lia) h.1.2)
      | _ => exact noB h
    · induction e using PySem.Expr.casesOn with
      | UnaryOp op _ _ =>
        cases op with
        | Not => simp at hs; exact tNot (I.B _ N (by lia) h)
        | _ => exact noB h
      | BoolOp _ _ _ => simp at hs; exact tBool (sTs_all (I.Ts (by lia) h))
      | Compare l ops rs _ =>
        obtain ⟨⟨h1, h2⟩, h3⟩ := band3 h
        simp at hs
        have hl := I.E l N (by lia) h1
        have hr := I.Es (es := rs) (by lia) h2
        rw [List.all_eq_true] at h3
        intro W env X g loc H s Q E hX R q
        match ops, rs, hr, h3, q with
        | [op], [r], hr, h3, q => exact tCmp1 B (h3 r (.head _)) hl (hr r (.head _)) W env X g loc H s Q E hX R q
        | [op1, op2], [m, r], hr, h3, q => exact tCmp2 B (h3 r (.tail _ (.head _))) hl (hr m (.head _)) (hr r (.tail _ (.head _))) W env X g loc H s Q E hX R q
        | [], _, _, _, q => exact q.elim
        | [_], [], _, _, q => exact q.elim
        | [_], _ :: _ :: _, _, _, q => exact q.elim
        | [_, _], [], _, _, q => exact q.elim
        | [_, _], [_], _, _, q => exact q.elim
        | [_, _], _ :: _ :: _ :: _, _, _, q => exact q.elim
        | _ :: _ :: _ :: _, _, _, _, q => exact q.elim
      | Name _ _ => exact tVal (fun _ _ => rfl) (fun _ _ _ q => q) (sName B h)
      | Attribute _ _ _ =>
        have h := band2 h; simp at hs
        exact tVal (fun _ _ => rfl) (fun _ _ _ q => q) (sAttr B h.2 (I.E _ N (by lia) h.1))
      | Call f args kws _ =>
        cases kws with
        | cons k ks => induction f using PySem.Expr.casesOn <;> exact noB h
        | nil =>
          induction f using PySem.Expr.casesOn with
          | Name _ _ =>
            have h := band5 h; simp at hs
            exact tVal (fun _ _ => rfl) (fun _ _ _ q => q) (sCall B h.1.1.1.1 h.1.1.1.2 h.1.2 (bnot h.2) (I.L (by lia) h.1.1.2 h.1.2))
          | _ => exact noB h
      | Subscript v i _ =>
        obtain ⟨⟨h1, h2⟩, h3⟩ := band3 h
        simp at hs
        exact tVal (fun _ _ => rfl) (fun _ _ _ q => by induction i using PySem.Expr.casesOn <;> first | exact q | exact noB h3) (sSub h3 (I.E _ N (by lia) h1) (I.E _ N (by lia) h2))
      | _ => exact noB h
    · induction e using PySem.Expr.casesOn with
      | Call f args kws _ =>
        induction f using PySem.Expr.casesOn with
        | Name _ _ =>
          cases kws with
          | cons k ks =>
            cases args with
            | nil => exact noB h
            | cons a r => cases r <;> exact noB h
          | nil =>
            cases args with
            | nil => exact noB (band5 h).2
            | cons a r =>
              cases r with
              | nil =>
                have h := band3 h; simp at hs
                exact srcCall B h.1.1 h.2 (I.E _ N (by lia) h.1.2)
              | cons b r =>
                have h := band5 h; simp at hs
                exact srcVal (fun loc H K q => q) (sCall B h.1.1.1.1 h.1.1.1.2 h.1.2 (bnot h.2) (I.L (by simp; lia) h.1.1.2 h.1.2))
        | _ => exact noB h
      | Name _ _ => exact srcVal (fun _ _ _ q => q) (sName B h)
      | Attribute _ _ _ =>
        have h := band2 h; simp at hs
        exact srcVal (fun _ _ _ q => q) (sAttr B h.2 (I.E _ N (by lia) h.1))
      | Subscript v i _ =>
        induction i using PySem.Expr.casesOn with
        | Slice lo hi st sp =>
          cases st with
          | none =>
            have h := band4 h; simp at hs
            exact srcVal (fun _ _ _ q => q) (sSlice h.1.1.1 (I.E _ N (by lia) h.1.1.2) (I.O (by lia) h.1.2) (I.O (by lia) h.2))
          | some _ => exact noB h
        | _ => exact noB h
      | _ => exact noB h
    · cases gs with
      | nil => exact gens_nil
      | cons g0 gs =>
        obtain ⟨t, it, ifs, k⟩ := g0
        obtain ⟨⟨⟨⟨h2, h3⟩, h4⟩, h5⟩, h6⟩ := band5 h
        simp at hs
        exact gens_cons B (notSet_of h3) h2 h4 (I.S it N (by lia) h3) (I.Ts (by lia) h5) (I.G gs N (by lia) h6)

theorem sE (B : Amb κ T fa n cl A) {e : Expr} {N : Names} (h : okE (kfOf T) e N = true) : SE κ cl A N e := (all_S B (sizeOf e + 1)).E e N (Nat.lt_succ_self _) h
theorem sT (B : Amb κ T fa n cl A) {e : Expr} {N : Names} (h : okT (kfOf T) e N = true) : ST κ cl A N e := (all_S B (sizeOf e + 1)).B e N (Nat.lt_succ_self _) h
theorem sSrc (B : Amb κ T fa n cl A) {e : Expr} {N : Names} (h : okSrc (kfOf T) e N = true) : SSrc κ cl A N e := (all_S B (sizeOf e + 1)).S e N (Nat.lt_succ_self _) h
theorem sGens (B : Amb κ T fa n cl A) {gs : List Comprehension} {N : Names} (h : okGens (kfOf T) gs N = true) : SGens κ cl A N gs := (all_S B (sizeOf gs + 1)).G gs N (Nat.lt_succ_self _) h
theorem sTsM (B : Amb κ T fa n cl A) {es : List Expr} {N : Names} (h : okTs (kfOf T) es N = true) : ∀ e ∈ es, ST κ cl A N e := fun e he => sT B (okTs_mem h e he)
end
end
end Mine

/-! part S20 -/
namespace Mine
noncomputable section
open PySem PySem.W PyProof.Rows
open Classical

section
variable {κ : Kit} {T : Str → Str → Option FD} {fa : Str → Str → Addr} {X W : Addr → Prop} {g : PF} {env : Env} {loc loc' : Loc} {H H' : CH} {s s' : Shared} {A : Around} {cl : Cl} {n : Nat} {N : Names} {asg : Str → Prop}

/-! freezing and forgetting -/
mutual
theorem frz_rep (R : Rel κ X W g env loc H s) {P : Addr → Prop} (hf : ∀ a, P a → H' a = none) (hle : (cst X H s.heap).le (cst X H' s.heap)) : ∀ (c' c : CV) (v : Value), Frz H P c' c → RepV κ.cA κ.pr (cst X H s.heap) c v → RepV κ.cA κ.pr (cst X H' s.heap) c' v
  | .none, c, v, f, r => by rw [show c = .none from f] at r; exact r
  | .bool b, c, v, f, r => by rw [show c = .bool b from f] at r; exact r
  | .int b, c, v, f, r => by rw [show c = .int b from f] at r; exact r
  | .str b, c, v, f, r => by rw [show c = .str b from f] at r; exact r
  | .ref b, c, v, f, r => by rw [show c = .ref b from f] at r; exact r
  | .dct b, c, v, f, r => by rw [show c = .dct b from f] at r; exact r
  | .obj C b, c, v, f, r => by rw [show c = .obj C b from f] at r; exact RepV.mono _ _ hle _ _ r
  | .tup vs', c, v, zz1, r => by
    (refine Exists.elim zz1 fun vs zr25g => ?_; refine And.elim (fun e f => ?_) zr25g; clear zr25g; try clear zz1)
    subst e
    (refine ex3 r fun a n ws zr24g => ?_; refine and4 zr24g fun e ho hz hl => ?_; clear zr24g; try clear r)
    exact (exI3 a n ws ⟨e, hle _ _ ho, hz, frz_repL R hf hle vs' vs ws.toList f hl⟩)
  | .lst vs', c, v, f, r => by
    rcases f with ⟨vs, e, f⟩ | ⟨a, vs, e, hp, ha, f⟩
    · subst e
      (refine ex3 r fun a n ws zr23g => ?_; refine and4 zr23g fun e ho hz hl => ?_; clear zr23g; try clear r)
      exact (exI3 a n ws ⟨e, hle _ _ ho, hz, frz_repL R hf hle vs' vs ws.toList f hl⟩)
    · subst e
      (refine ex2 (R.rep _ _ ha) fun ws n zr22g => ?_; refine and3 zr22g fun ho hz hl => ?_; clear zr22g)
      refine (exI3 a n ws ⟨r, cst_some.mpr ⟨fun q => ?_, hf a hp, ho⟩, hz, frz_repL R hf hle vs' vs ws.toList f hl⟩)
      have := R.xh a q; rw [ha] at this; exact sn this
  | .ins C ks vs', c, v, f, r => by
    rcases f with ⟨vs, e, f⟩ | ⟨d, es, e, hp, hd, hk, f⟩
    · subst e
      (refine ex5 r fun x d es n ws zr21g => ?_; refine and5 zr21g fun e hx hd ha hl => ?_; clear zr21g; try clear r)
      exact (exI5 x d es n ws ⟨e, hle _ _ hx, hle _ _ hd, ha, frz_repL R hf hle vs' vs ws f hl⟩)
    · subst e
      obtain ⟨x, e, hx⟩ := r
      (refine ex3 (R.rep _ _ hd) fun es' n ws zr19g => ?_; refine and4 zr19g fun ho ha hl hz => ?_; clear zr19g)
      refine (exI5 x d es' n ws ⟨e, hle _ _ hx, cst_some.mpr ⟨fun q => ?_, hf d hp, ho⟩, by rw [hk]; exact ha, frz_repL R hf hle vs' _ ws f hl⟩)
      have := R.xh d q; rw [hd] at this; exact sn this
theorem frz_repL (R : Rel κ X W g env loc H s) {P : Addr → Prop} (hf : ∀ a, P a → H' a = none) (hle : (cst X H s.heap).le (cst X H' s.heap)) : ∀ (cs' cs : List CV) (vs : List Value), FrzL H P cs' cs → RepL κ.cA κ.pr (cst X H s.heap) cs vs → RepL κ.cA κ.pr (cst X H' s.heap) cs' vs
  | [], cs, vs, f, r => by rw [show cs = [] from f] at r; exact r
  | c' :: cs', cs, vs, zz2, r => by
    (refine ex2 zz2 fun c cr zr18g => ?_; refine and3 zr18g fun e f fl => ?_; clear zr18g; try clear zz2)
    subst e
    (refine ex2 r fun w wr zr17g => ?_; refine and3 zr17g fun e rv rl => ?_; clear zr17g; try clear r)
    exact (exI2 w wr ⟨e, frz_rep R hf hle c' c w f rv, frz_repL R hf hle cs' cr wr fl rl⟩)
end
theorem frz_facts {P : Addr → Prop} (h : FrzH H P H') : (∀ a, P a → H' a = none) ∧ (∀ a, H a = none → H' a = none) ∧ ∀ (X : Addr → Prop) (hp : Heap), (cst X H hp).le (cst X H' hp) := by
  have h2 : ∀ a, H a = none → H' a = none := fun a e => by
    cases e' : H' a with
    | none => rfl
    | some o => (refine And.elim (fun _ zr15g => ?_) (h a o e'); refine Exists.elim zr15g fun o' zr16g => ?_; refine And.elim (fun e2 _ => ?_) zr16g; clear zr15g zr16g); rw [e] at e2; exact nn e2
  refine ⟨fun a hp => ?_, h2, fun X hp a o e => ?_⟩
  · cases e : H' a with
    | none => rfl
    | some o => exact absurd hp (h a o e).1
  · (refine and3 (cst_some.mp e) fun e1 e2 e3 => ?_)
    exact cst_some.mpr ⟨e1, h2 a e2, e3⟩
theorem frz_map {es es' : List (Str × CV)} (h : es'.map (·.1) = es.map (·.1)) : es'.length = es.length := by
  have := congrArg List.length h; simpa using this
theorem frz_repO (R : Rel κ X W g env loc H s) {P : Addr → Prop} (h : FrzH H P H') {a : Addr} {o' : CObj} (e : H' a = some o') : RepO κ (cst X H' s.heap) o' (s.heap.get? a) := by
  (refine and3 (frz_facts h) fun f1 f2 f3 => ?_)
  (refine And.elim (fun _ zr13g => ?_) (h a o' e); refine Exists.elim zr13g fun o zr14g => ?_; refine And.elim (fun e2 f => ?_) zr14g; clear zr13g zr14g)
  have r := R.rep a o e2
  induction o' using Mine.CObj.casesOn with
  | list vs' =>
    obtain ⟨vs, e3, f⟩ := f
    subst e3
    (refine ex2 r fun ws n zr11g => ?_; refine and3 zr11g fun ho hz hl => ?_; clear zr11g; try clear r)
    exact (exI2 ws n ⟨ho, hz, frz_repL R f1 (f3 X _) _ _ _ f hl⟩)
  | dict es' =>
    obtain ⟨es, e3, hk, f⟩ := f
    subst e3
    (refine ex3 r fun es2 n ws zr9g => ?_; refine and4 zr9g fun ho ha hl hz => ?_; clear zr9g; try clear r)
    exact (exI3 es2 n ws ⟨ho, by rw [hk]; exact ha, frz_repL R f1 (f3 X _) _ _ _ f hl, by rw [frz_map hk]; exact hz⟩)
  | map es' =>
    rw [show o = .map es' from f] at r
    exact RepO.mono _ (f3 X _) r
theorem Rel.weak (R : Rel κ X W g env loc H s) (h : Weak loc H loc' H') : Rel κ X W g env loc' H' s ∧ (cst X H s.heap).le (cst X H' s.heap) := by
  (refine Exists.elim h fun P zr8g => ?_; refine And.elim (fun hv hh => ?_) zr8g; clear zr8g; try clear h)
  (refine and3 (frz_facts hh) fun f1 f2 f3 => ?_)
  refine ⟨⟨R.keep, fun a q => R.disj a (fun z => q (f2 a z)), R.wg, R.wx, fun a q => f2 a (R.xh a q), R.xs, fun a o e => frz_repO R hh e, R.base, R.gens, R.os, R.drawn, ?_, R.cells⟩, f3 X _⟩
  obtain ⟨m, hn, hl⟩ := R.loc
  refine ⟨m, hn, fun x c' e => ?_⟩
  (refine Exists.elim (hv x c' e) fun c zr6g => ?_; refine And.elim (fun e2 f => ?_) zr6g; clear zr6g)
  rcases hl x c e2 with ⟨k, v, e3, r⟩ | ⟨k, a, v, e3, i, r⟩
  · exact .inl ⟨k, v, e3, frz_rep R f1 (f3 X _) _ _ _ f r⟩
  · exact .inr ⟨k, a, v, e3, i, frz_rep R f1 (f3 X _) _ _ _ f r⟩

/-! assignments -/
noncomputable def SA (κ : Kit) (cl : Cl) (A : Around) (N : Names) (t : Expr) : Prop := ∀ (W : Addr → Prop) (env : Env) (X : Addr → Prop) (g : PF) (loc : Loc) (H : CH) (s : Shared) (c : CV) (v : Value) (K : Loc → CH → Prop), EOk N env W → HX κ X → Rel κ X W g env loc H s → RepV κ.cA κ.pr (cst X H s.heap) c v → wpA cl t c loc H K →
  wpAny (model κ.prog κ.w) A (assign t env v) (fun _ s' => ∃ loc' H', Rel κ X W g env loc' H' s' ∧ K loc' H') No s
theorem aName {x : Str} {p : Pos} (h : asgIn N x = true) : SA κ cl A N (.Name x p) := by
  intro W env X g loc H s c v K E hX R rv q
  exact wpAny_assign_Name (wpAny_mono (store_sound E.E R h rv) (fun _ s' zz1 => zz1.elim fun R' _ => (exI2 _ H ⟨R', q⟩)) no_any)
theorem aAttr {o : Expr} {m : Str} {p : Pos} (B : Amb κ T fa n cl A) (ho : SE κ cl A N o) : SA κ cl A N (.Attribute o m p) := by
  intro W env X g loc H s c v K E hX R rv q
  rw [arm_assign_Attribute]
  refine wpAny_bind (wpAny_holding (ho.ite E hX R q fun ov s1 c1 H1 R1 r1 le q1 => ?_))
  refine wpAny_bind (wpAny_standAt (wpAny_bind (wpAny_holding (wpAny_mono (setAttr_sound B.O E.E R1 q1 r1 (RepV.mono _ _ le _ _ rv)) (fun _ s2 zz2 => zz2.elim fun H2 zz3 => zz3.elim fun R2 q2 => ?_) no_any))))
  exact wpAny_release' (exI2 loc H2 ⟨R2, q2⟩)
theorem aSub {o i : Expr} {p : Pos} (ho : SE κ cl A N o) (hi : SE κ cl A N i) : SA κ cl A N (.Subscript o i p) := by
  intro W env X g loc H s c v K E hX R rv q
  rw [arm_assign_Subscript]
  refine wpAny_bind (wpAny_holding (ho.ite E hX R q fun ov s1 c1 H1 R1 r1 le q1 => wpAny_bind (wpAny_holding (hi.ite E hX R1 q1 fun iv s2 c2 H2 R2 r2 le2 q2 => ?_))))
  refine wpAny_bind (wpAny_standAt (wpAny_bind (wpAny_holding (wpAny_mono (setIdx_sound E.E R2 q2 (RepV.mono _ _ le2 _ _ r1) r2 (RepV.mono _ _ le2 _ _ (RepV.mono _ _ le _ _ rv))) (fun _ s3 zz4 => zz4.elim fun H3 zz5 => zz5.elim fun R3 q3 => ?_) no_any))))
  exact wpAny_release' (exI2 loc H3 ⟨R3, q3⟩)
theorem as_seq : ∀ (ts : List Expr), (∀ t ∈ ts, SA κ cl A N t) → (∀ t ∈ ts, noStar t = true) → ∀ (W : Addr → Prop) (env : Env) (X : Addr → Prop) (g : PF) (loc : Loc) (H : CH) (s : Shared) (cs : List CV) (vs : List Value) (K : Loc → CH → Prop), EOk N env W → HX κ X → Rel κ X W g env loc H s →
    RepL κ.cA κ.pr (cst X H s.heap) cs vs → wpAs cl ts cs loc H K → wpAny (model κ.prog κ.w) A (assignInOrder ((assignEach ts env).map (·.2)) vs) (fun _ s' => ∃ loc' H', Rel κ X W g env loc' H' s' ∧ K loc' H') No s
  | [], _, _, W, env, X, g, loc, H, s, [], vs, K, E, hX, R, rl, q => by
    rw [show vs = [] from rl]
    exact wpAny_pure (exI2 loc H ⟨R, q⟩)
  | [], _, _, _, _, _, _, _, _, _, _ :: _, _, _, _, _, _, _, q => q.elim
  | t :: ts, _, _, _, _, _, _, _, _, _, [], _, _, _, _, _, _, q => q.elim
  | t :: ts, h, hs, W, env, X, g, loc, H, s, c :: cs, vs, K, E, hX, R, zz3, q => by
    (refine ex2 zz3 fun w r zr5g => ?_; refine and3 zr5g fun e rv rl => ?_; clear zr5g; try clear zz3)
    subst e
    have he : assignEach (t :: ts) env = (false, assign t env) :: assignEach ts env := by
      have := hs t (.head _)
      induction t using PySem.Expr.casesOn <;> first | rfl | exact noB this
    rw [he]
    show wpAny _ _ (assignInOrder (assign t env :: (assignEach ts env).map (·.2)) (w :: r)) _ _ _
    refine wpAny_bind (wpAny_holding (wpAny_mono (h t (.head _) W env X _ loc H s c w _ E hX R.big rv q) (fun _ s1 zz6 => zz6.elim fun loc1 zz7 => zz7.elim fun H1 zz8 => zz8.elim fun R1 q1 => ?_) no_any))
    exact as_seq ts (fun t ht => h t (.tail _ ht)) (fun t ht => hs t (.tail _ ht)) W env X g loc1 H1 s1 cs r K E hX (R.back R1) (RepL.mono _ _ (R.over R1) _ _ rl) q1
theorem each_plain (env : Env) : ∀ {ts : List Expr}, (∀ t ∈ ts, noStar t = true) → (assignEach ts env).length = ts.length ∧ (assignEach ts env).findIdx? (·.1) = none
  | [], _ => ⟨rfl, rfl⟩
  | t :: ts, h => by
    obtain ⟨a, b⟩ := each_plain env fun t ht => h t (.tail _ ht)
    have he : assignEach (t :: ts) env = (false, assign t env) :: assignEach ts env := by
      have := h t (.head _)
      induction t using PySem.Expr.casesOn <;> first | rfl | exact noB this
    rw [he, List.findIdx?_cons]
    simp [a, b]
theorem aTup {ts : List Expr} {k : Nat} {p : Pos} (hh : A.handled = none) (h : ∀ t ∈ ts, SA κ cl A N t) (hs : ∀ t ∈ ts, noStar t = true) : SA κ cl A N (.Tuple ts k p) := by
  intro W env X g loc H s c v K E hX R rv q
  obtain ⟨vs, rfl, hlen, q⟩ := q
  (refine ex3 rv fun a n ws zr2g => ?_; refine and4 zr2g fun zq1g ho hz hl => ?_; clear zr2g; try clear rv; obtain rfl := zq1g)
  have hl' := RepL.length _ _ hl
  rw [Array.length_toList] at hl'
  obtain ⟨e1, e2⟩ := each_plain env hs
  refine wpAny_assign_Tuple hh (t := a) (items := ws) ⟨_, cst_get ho, rfl, n, rfl⟩ (by rw [e1, hl', hlen]) e2 fun h' hs' => ?_
  have R' := R.same (tk := s.toks) (h' := h') E.E fun b o e => hs' b o (Nat.ne_of_lt (Heap.lt_size e)) e
  have hle : (cst X H s.heap).le (cst X H h') := fun b o e => by
    (refine and3 (cst_some.mp e) fun p1 p2 p3 => ?_)
    exact cst_some.mpr ⟨p1, p2, hs' b o (Nat.ne_of_lt (Heap.lt_size p3)) p3⟩
  exact as_seq ts h hs W env X g loc H _ vs ws.toList K E hX R' (RepL.mono _ _ hle _ _ hl) q
theorem sA (B : Amb κ T fa n cl A) {t : Expr} (h : okA (kfOf T) t N = true) : SA κ cl A N t := by
  have one : ∀ t, plA (kfOf T) N t = true → SA κ cl A N t ∧ noStar t = true := fun t ht => by
    induction t using PySem.Expr.casesOn with
    | Name _ _ => exact ⟨aName ht, rfl⟩
    | Attribute _ _ _ => exact ⟨aAttr B (sE B ht), rfl⟩
    | _ => exact noB ht
  induction t using PySem.Expr.casesOn with
  | Name _ _ => exact aName h
  | Attribute _ _ _ => exact aAttr B (sE B h)
  | Subscript _ _ _ => exact aSub (sE B (band3 h).1.1) (sE B (band3 h).1.2)
  | Tuple _ _ _ =>
    have h := List.all_eq_true.mp h
    exact aTup B.B.hh (fun t ht => (one t (h t ht)).1) (fun t ht => (one t (h t ht)).2)
  | _ => exact noB h
end
end
end Mine

/-! part S21 -/
namespace Mine
noncomputable section
open PySem PySem.W PyProof.Rows
open Classical

section
variable {env : Env} {N : Names}
theorem filterMap_lt {α β : Type} {f : α → Option β} : ∀ {l : List α}, (∃ a ∈ l, f a = none) → (l.filterMap f).length < l.length
  | [], zz1 => by (refine Exists.elim zz1 fun _ zr10g => ?_; refine And.elim (fun h _ => ?_) zr10g; clear zr10g; try clear zz1); exact nomatch h
  | a :: l, zz2 => by
    (refine Exists.elim zz2 fun b zr9g => ?_; refine And.elim (fun hb e => ?_) zr9g; clear zr9g; try clear zz2)
    rw [List.filterMap_cons]
    have le := List.length_filterMap_le f l
    rcases List.mem_cons.mp hb with rfl | hb
    · rw [e]; simp; omega
    · have := filterMap_lt (f := f) ⟨b, hb, e⟩
      cases f a <;> simp only [List.length_cons] <;> omega
theorem ite_any {α : Type} {c : Prop} [Decidable c] {a b d : α} (h1 : a = d) (h2 : b = d) : (if c then a else b) = d := by
  by_cases h : c
  · rw [if_pos h, h1]
  · rw [if_neg h, h2]
theorem swap_none {t v : Expr} (h : swapNone t v = true) : swappedStores [t] v env = pure none := by
  induction t using PySem.Expr.casesOn with
  | Tuple ts k p =>
    induction v using PySem.Expr.casesOn with
    | Tuple vs k2 p2 =>
      have h : (!(ts.length == 2 || ts.length == 3) || ts.any (fun t => !isName t)) = true := h
      by_cases h1 : (!(ts.length == 2 || ts.length == 3) || vs.length != ts.length || env.blockKind != .function) = true
      · exact if_pos h1
      · have h2 : ts.any (fun t => !isName t) = true := (Bool.or_eq_true_iff.mp h).elim (fun h => absurd (Bool.or_eq_true_iff.mpr (.inl (Bool.or_eq_true_iff.mpr (.inl h)))) h1) id
        refine Eq.trans (if_neg h1) (ite_any rfl (if_pos (Bool.or_eq_true_iff.mpr (.inl (bne_iff_ne.mpr (Nat.ne_of_lt (filterMap_lt ?_)))))))
        (refine Exists.elim (List.any_eq_true.mp h2) fun t zr8g => ?_; refine And.elim (fun ht hn => ?_) zr8g; clear zr8g)
        refine ⟨t, ht, ?_⟩
        induction t using PySem.Expr.casesOn <;> first | rfl | exact noB hn
    | _ => rfl
  | List _ _ => exact noB h
  | _ => rfl
theorem names_filter {f : Expr → Option Str} : ∀ {ts : List Expr}, (∀ t ∈ ts, ∃ x p, t = .Name x p ∧ f t = some x) → ts.filterMap f = tNames ts ∧ (tNames ts).length = ts.length
  | [], _ => ⟨rfl, rfl⟩
  | t :: ts, h => by
    (refine ex2 (h t (.head _)) fun x p zr7g => ?_; refine And.elim (fun zq6g e => ?_) zr7g; clear zr7g; obtain rfl := zq6g)
    obtain ⟨a, b⟩ := names_filter (f := f) fun t ht => h t (.tail _ ht)
    refine ⟨?_, congrArg (· + 1) b⟩
    rw [List.filterMap_cons, e]
    exact congrArg (x :: ·) a
theorem swap_some {ts vs : List Expr} {k k2 : Nat} {p p2 : Pos} (hb : env.blockKind = .function) (hn : NOk N env) (h : swapSome N (.Tuple ts k p) (.Tuple vs k2 p2) = true) :
    swappedStores [.Tuple ts k p] (.Tuple vs k2 p2) env = pure (some (tNames ts)) ∧ (tNames ts).length = ts.length ∧ (tNames ts).Nodup ∧ (∀ t ∈ ts, ∃ x p, t = .Name x p ∧ N.lookup x = some .local) := by
  have a := band7 (band2 h).1
  have h1 := a.1.1.1.1.1.1
  have h2 := beq_iff_eq.mp a.1.1.1.1.1.2
  have h3 := List.all_eq_true.mp a.1.1.1.1.2
  have h4 := List.all_eq_true.mp a.1.1.1.2
  have h5 := of_decide_eq_true a.1.1.2
  have h6 := beq_iff_eq.mp a.1.2
  have hN : ∀ t ∈ ts, ∃ x q, t = .Name x q ∧ N.lookup x = some .local ∧ q.line = (ts.head?.map (·.pos.line)).getD 0 := fun t ht => by
    have := h4 t ht
    induction t using PySem.Expr.casesOn with
    | Name _ _ => exact (exI2 _ _ ⟨rfl, beq_iff_eq.mp (band2 this).1, beq_iff_eq.mp (band2 this).2⟩)
    | _ => exact noB this
  have e2 : (tNames ts).length = ts.length := (names_filter (ts := ts) (f := fun t => match t with | .Name x _ => some x | _ => none) fun t ht => by
    (refine ex2 (hN t ht) fun x q zr5g => ?_; refine And.elim (fun zq4g _ => ?_) zr5g; clear zr5g; obtain rfl := zq4g); exact (exI2 x q ⟨rfl, rfl⟩)).2
  refine ⟨?_, e2, h5, fun t ht => (hN t ht).elim fun x zz1 => zz1.elim fun q zz2 => zz2.elim fun e zz3 => zz3.elim fun hl _ =>  (exI2 x q ⟨e, hl⟩)⟩
  have c1 : (!(ts.length == 2 || ts.length == 3) || vs.length != ts.length || env.blockKind != .function) = false := by
    rw [h1, h2, hb]; simp
  refine Eq.trans (if_neg (Bool.eq_false_iff.mp c1)) (Eq.trans (if_neg fun hc => ?_) ?_)
  · (refine Exists.elim (List.any_eq_true.mp hc) fun v zr3g => ?_; refine And.elim (fun hv hm => ?_) zr3g; clear zr3g)
    have := h3 v hv
    induction v using PySem.Expr.casesOn <;> first | exact noB hm | exact noB this
  have en := (names_filter (ts := ts) (f := fun | .Name id pos => if env.kindOf id == some .local && pos.line == (ts.head?.map (·.pos.line)).getD 0 then some id else none | _ => none) fun t ht => by
      (refine ex2 (hN t ht) fun x q zr2g => ?_; refine and3 zr2g fun zq1g hl hp => ?_; clear zr2g; obtain rfl := zq1g)
      exact (exI2 x q ⟨rfl, if_pos (by rw [hn.lo x hl, hp]; simp)⟩)).1
  have c2 : ((tNames ts).length != ts.length || (tNames ts).eraseDups.length != (tNames ts).length) = false := by rw [e2, h6, bne_self_eq_false]; rw [e2, bne_self_eq_false]; rfl
  have go : ∀ names : List Str, names = tNames ts → (if (names.length != ts.length || names.eraseDups.length != names.length) = true then (pure none : Sem (Option (List Str))) else if vs.all (foldedForSure 8) = true then pure none else if vs.all (constantsAlone 8) = true then (do unsupported "assign.tuple-of-constant-expressions:order-of-the-stores"; pure (some names)) else pure (some names)) = pure (some (tNames ts)) := fun names e => by
    rw [e]
    exact Eq.trans (if_neg (Bool.eq_false_iff.mp c2)) (Eq.trans (if_neg (Bool.eq_false_iff.mp (bnot a.2))) (if_neg (Bool.eq_false_iff.mp (bnot (band2 h).2))))
  exact go _ en

theorem notComp_false {v : Expr} (h : notComp v = true) (t : Option Expr) (l : Nat) : swapsWith v t l env = pure false := by
  induction v using PySem.Expr.casesOn <;> first | rfl | exact noB h
theorem sole_false {t v : Expr} {l : Nat} (hn : NOk N env) (h : compPlain N t v = true) : swapsWith v (some t) l env = pure false := by
  induction v using PySem.Expr.casesOn with
  | ListComp elt gs sc q =>
    induction t using PySem.Expr.casesOn with
    | Name y p =>
      show (pure _ : Sem Bool) = pure false
      have := hn.c0 y (beq_iff_eq.mp h)
      rw [this, show (some NameKind.cell == some NameKind.local) = false from rfl]; simp
    | _ => rfl
  | SetComp _ _ _ _ =>
    induction t using PySem.Expr.casesOn with
    | Name y p => exact noB h
    | _ => rfl
  | DictComp _ _ _ _ _ =>
    induction t using PySem.Expr.casesOn with
    | Name y p => exact noB h
    | _ => rfl
  | _ => rfl
theorem used_true {y : Str} {py p : Pos} {elt : Expr} {gs : List Comprehension} {sc : Scope} {l : Nat} (hb : env.blockKind = .function) (hn : NOk N env) (h : compUsed N (.Name y py) (.ListComp elt gs sc p) = true) : swapsWith (.ListComp elt gs sc p) (some (.Name y py)) l env = pure true ∧ N.lookup y = some .local := by
  have a := band3 h
  have h1 := beq_iff_eq.mp a.1.1
  have h2 := beq_iff_eq.mp a.1.2
  have h3 := a.2
  refine ⟨?_, h1⟩
  show (pure (env.blockKind == .function && env.kindOf y == some .local && py.line == p.line && !(sc.names.any fun (n, k) => n == y && (k == .local || k == .cell))) : Sem Bool) = pure true
  rw [hb, hn.lo y h1, h2, h3]; simp
end
end
end Mine

/-! part S22 -/
namespace Mine
noncomputable section
open PySem PySem.W PyProof.Rows
open Classical

noncomputable def PostS (κ : Kit) (X W : Addr → Prop) (g : PF) (env : Env) (Q : SPost) : Flow → Shared → Prop :=
  fun f s' => ∃ loc' H', Rel κ X W g env loc' H' s' ∧ ((f = .next ∧ Q .next loc' H') ∨ ∃ v c, f = .ret v ∧ RepV κ.cA κ.pr (cst X H' s'.heap) c v ∧ Q (.ret c) loc' H')
section
variable (κ : Kit) (cl : Cl) (A : Around) (N : Names)
noncomputable def SS (st : Stmt) : Prop := ∀ (W : Addr → Prop) (env : Env) (X : Addr → Prop) (g : PF) (loc : Loc) (H : CH) (s : Shared) (Q : SPost), EOk N env W → HX κ X → Rel κ X W g env loc H s → wpS cl st loc H Q → wpAny (model κ.prog κ.w) A (exec st env) (PostS κ X W g env Q) No s
noncomputable def SSs (b : List Stmt) : Prop := ∀ (W : Addr → Prop) (env : Env) (X : Addr → Prop) (g : PF) (loc : Loc) (H : CH) (s : Shared) (Q : SPost), EOk N env W → HX κ X → Rel κ X W g env loc H s → wpSs cl b loc H Q → wpAny (model κ.prog κ.w) A (execs b env) (PostS κ X W g env Q) No s
end
section
variable {κ : Kit} {T : Str → Str → Option FD} {fa : Str → Str → Addr} {X W : Addr → Prop} {g : PF} {env : Env} {loc loc' : Loc} {H H' : CH} {s s' : Shared} {A : Around} {cl : Cl} {n : Nat} {N : Names} {asg : Str → Prop}

theorem EOk.bk (E : EOk N env W) : env.blockKind = .function := by unfold Env.blockKind; rw [E.E.hk]; rfl
theorem EOk.inter (E : EOk N env W) : interactive env = false := by unfold interactive; rw [E.E.hk]; rfl

theorem ssNil : SSs κ cl A N [] := fun W env X g loc H s Q E hX R q => wpAny_execs_nil (exI2 loc H ⟨R, .inl ⟨rfl, q⟩⟩)
theorem ssCons {st : Stmt} {r : List Stmt} (h : SS κ cl A N st) (hr : SSs κ cl A N r) : SSs κ cl A N (st :: r) := by
  intro W env X g loc H s Q E hX R q
  refine wpAny_execs_cons (wpAny_mono (h W env X g loc H s _ E hX R q) (fun f s1 zz1 => zz1.elim fun loc1 zz2 => zz2.elim fun H1 zz3 => zz3.elim fun R1 q1 => ?_) no_any)
  rcases q1 with ⟨e, q⟩ | ⟨v, c, e, r, q⟩
  · rw [e]; exact hr W env X g loc1 H1 s1 Q E hX R1 q
  · rw [e]; exact (exI2 loc1 H1 ⟨R1, .inr (exI2 v c ⟨rfl, r, q⟩)⟩)
theorem ssExpr {e : Expr} {p : Pos} (he : SE κ cl A N e) (hc : notComp e = true) : SS κ cl A N (.Expr e p) := by
  intro W env X g loc H s Q E hX R q
  exact wpAny_Expr_any (wpAny_mono (he W env X g loc H s _ E hX R q) (fun v s1 zz4 => zz4.elim fun c zz5 => zz5.elim fun H1 zz6 => zz6.elim fun R1 zz7 => zz7.elim fun r q => (exI2 loc H1 ⟨R1, .inl ⟨rfl, q⟩⟩)) no_any) E.inter (notComp_false hc _ _)
theorem ssRet {e : Expr} {p : Pos} (he : SE κ cl A N e) : SS κ cl A N (.Return (some e) p) := by
  intro W env X g loc H s Q E hX R q
  rw [exec_Return_some]
  refine wpAny_bind (wpAny_standAt (wpAny_bind (wpAny_mono (he W env X g loc H s _ E hX R q) (fun v s1 zz8 => zz8.elim fun c zz9 => zz9.elim fun H1 zz10 => zz10.elim fun R1 zz11 => zz11.elim fun r q => wpAny_pure (exI2 loc H1 ⟨R1, .inr (exI2 v c ⟨rfl, r, q⟩)⟩)) no_any)))
theorem ssRet0 {p : Pos} : SS κ cl A N (.Return none p) := fun W env X g loc H s Q E hX R q => wpAny_Return_none (exI2 loc H ⟨R, .inr (exI2 (.none) (.none) ⟨rfl, rfl, q⟩)⟩)
theorem ssIf {t : Expr} {b o : List Stmt} {p : Pos} (ht : ST κ cl A N t) (hb : SSs κ cl A N b) (ho : SSs κ cl A N o) : SS κ cl A N (.If t b o p) := by
  intro W env X g loc H s Q E hX R q
  refine wpAny_If (wpAny_mono (ht W env X g loc H s _ E hX R q) (fun c s1 zz12 => zz12.elim fun H1 zz13 => zz13.elim fun R1 q1 => ?_) no_any)
  induction c using Bool.casesOn with
  | true => exact hb W env X g loc H1 s1 Q E hX R1 (q1.1 rfl)
  | false => exact ho W env X g loc H1 s1 Q E hX R1 (q1.2 rfl)
theorem ssWhile {t : Expr} {b : List Stmt} {p : Pos} (ht : ST κ cl A N t) (hb : SSs κ cl A N b) : SS κ cl A N (.While t b [] p) := by
  intro W env X g loc H s Q E hX R q
  (refine Exists.elim q fun I zr5g => ?_; refine And.elim (fun zq4g hI => ?_) zr5g; clear zr5g; try clear q; obtain ⟨n0, loc0, H0, hw0, hI0⟩ := zq4g)
  obtain ⟨R0, _⟩ := R.weak hw0
  refine wpAny_While (codeAny_mono (codeAny_whileLoop (R := fun r s' => ∃ f, r = .ok f ∧ PostS κ X W g env Q f s') (fun n s => ∃ loc H, Rel κ X W g env loc H s ∧ I n loc H) (fun n s zz14 => zz14.elim fun loc1 zz15 => zz15.elim fun H1 zz16 => zz16.elim fun R1 hi => ?_) n0 (exI2 loc0 H0 ⟨R0, hI0⟩)) (fun r s' zz17 => zz17.elim fun f zz18 => zz18.elim fun e h => by rw [e]; exact h))
  refine wpAny_mono (ht W env X g loc1 H1 s _ E hX R1 (hI n loc1 H1 hi)) (fun c s1 zz19 => zz19.elim fun H2 zz20 => zz20.elim fun R2 q2 => ?_) no_any
  induction c using Bool.casesOn with
  | false => exact wpAny_execs_nil ⟨.next, rfl, loc1, H2, R2, .inl ⟨rfl, q2.2 rfl⟩⟩
  | true =>
    refine wpAny_mono (hb W env X g loc1 H2 s1 _ E hX R2 (q2.1 rfl)) (fun f s2 zz21 => zz21.elim fun loc3 zz22 => zz22.elim fun H3 zz23 => zz23.elim fun R3 q3 => ?_) no_any
    rcases q3 with ⟨e, m, hm, loc4, H4, hw, hi4⟩ | ⟨v, c, e, r, q⟩
    · rw [e]; exact ⟨m, hm, loc4, H4, (R3.weak hw).1, hi4⟩
    · rw [e]; exact ⟨.ret v, rfl, loc3, H3, R3, .inr (exI2 v c ⟨rfl, r, q⟩)⟩

theorem Rel.unhide {Y : Addr → Prop} (E : EnvOk env W asg) (R : Rel κ (orP X Y) W g env loc H s) (hw : ∀ a, W a → X a) (hc : ∀ x a, env.cells.lookup x = some a → X a) : Rel κ X W g env loc H s ∧ (cst (orP X Y) H s.heap).le (cst X H s.heap) := by
  have le : (cst (orP X Y) H s.heap).le (cst X H s.heap) := fun a o e => by
    (refine and3 (cst_some.mp e) fun e1 e2 e3 => ?_)
    exact cst_some.mpr ⟨fun q => e1 (.inl q), e2, e3⟩
  refine ⟨?_, le⟩
  have := R.stepX (tk := s.toks) (h' := s.heap) (H' := H) E X (fun _ => False) (fun a q => .inl q) hw hc (fun a q => q.elim) (fun a o e _ q => ⟨q, e⟩) (fun a q => R.xh a (.inl q)) (fun a o hle e => RepO.mono _ hle (R.rep a o e))
  exact this

theorem ssFor {t it : Expr} {b : List Stmt} {p : Pos} (B : Amb κ T fa n cl A) (hset : ∀ es k p, it ≠ .Set es k p) (hst : srcT it t = true) (ht : targetOk N t = true) (hs : SSrc κ cl A N it) (hb : SSs κ cl A N b) (ha : SA κ cl A N t) : SS κ cl A N (.For t it b [] p) := by
  intro W env X g loc H s Q E hX R q
  have q : wpSrc cl it loc H fun vs g H => forItems g (fun v loc H K => wpA cl t v loc H fun loc H => wpSs cl b loc H fun fl loc H => match fl with
        | .next => K loc H
        | .ret c => Q (.ret c) loc H) vs loc H fun loc H => Q .next loc H := q
  refine wpAny_For (hs.ite E hX R q fun I k vs gd s1 H1 h1 h2 R1 hit _ q => ?_) (folded_not hset)
  have hW := R.wx
  have hC : ∀ x a, env.cells.lookup x = some a → X a := fun x a e => (R.cells x a e).1
  have hX' : HX κ (orP X (itA I k)) := fun a o e q => q.elim (hX a o e) fun q => by rw [(h1 a q).2.2] at e; exact nn e
  have hI' : ∀ a, itA I k a → orP X (itA I k) a ∧ g a = none ∧ a ≠ env.locals ∧ ∀ x, env.cells.lookup x ≠ some a := fun a q =>
    ⟨.inr q, (h1 a q).2.1, fun z => (h1 a q).1 (z ▸ hW _ E.E.wl), fun x z => (h1 a q).1 (hC x a z)⟩
  have hIW : ∀ a, itA I k a → ¬ W a := fun a q z => (h1 a q).1 (hW a z)
  refine codeAny_mono (codeAny_forLoop_any (R := fun r s' => ∃ f, r = .ok f ∧ PostS κ X W g env Q f s') (fun n s => ∃ i loc H, n = vs.length - i ∧ i ≤ vs.length ∧ Rel κ (orP X (itA I k)) W g env loc H s ∧ ItAt κ (cst (orP X (itA I k)) H s.heap) s.heap I gd k vs i ∧
    forItems gd (fun v loc H K => wpA cl t v loc H fun loc H => wpSs cl b loc H fun fl loc H => match fl with
        | .next => K loc H
        | .ret c => Q (.ret c) loc H) (vs.drop i) loc H fun loc H => Q .next loc H) (fun n s hInv => ?_) vs.length (exI3 0 loc H1 ⟨by simp, Nat.zero_le _, R1, hit, by simpa using q⟩)) (fun r s' zz24 => zz24.elim fun f zz25 => zz25.elim fun e h => by rw [e]; exact h)
  (refine ex3 hInv fun i loc2 H2 zr3g => ?_; refine and5 zr3g fun zq2g hi R2 hit q => ?_; clear zr3g; try clear hInv; obtain rfl := zq2g)
  by_cases hlt : i < vs.length
  · obtain ⟨c, hc⟩ : ∃ c, vs[i]? = some c := ⟨_, List.getElem?_eq_getElem hlt⟩
    have hdr : vs.drop i = c :: vs.drop (i + 1) := by
      rw [List.drop_eq_getElem_cons hlt]; rw [List.getElem?_eq_getElem hlt] at hc; rw [Option.some.inj hc]
    rw [hdr] at q
    obtain ⟨hgd, q⟩ := q
    refine wpAny_mono (next_item (Q := fun r s₁ => ∃ v, r = some v ∧ ∀ F, wpAny (model κ.prog κ.w) A (letOwnedTupleGo t (.ref I) v) (fun _ s'' => Rel κ (orP X (itA I k)) W g env loc2 H2 s'' ∧ ItAt κ (cst (orP X (itA I k)) H2 s''.heap) s''.heap I gd k vs (i + 1) ∧ RepV κ.cA κ.pr (cst (orP X (itA I k)) H2 s''.heap) c v ∧ (∀ a o, ¬ itA I k a → s.heap.get? a = some o → s''.heap.get? a = some o)) F s₁) E.E R2 hI' hit hgd (tgt_of hst ht h2) hc fun v s' h => ⟨v, rfl, h⟩) (fun r s₁ zz26 => zz26.elim fun v zz27 => zz27.elim fun e hlet => ?_) no_any
    rw [e]
    refine wpAny_mono (hlet No) (fun _ s₂ zz28 => zz28.elim fun R3 zz29 => zz29.elim fun it3 zz30 => zz30.elim fun rv _ => ?_) no_any
    refine wpAny_mono (ha W env _ _ loc2 H2 s₂ c v _ E hX' R3.big rv q) (fun _ s₃ zz31 => zz31.elim fun loc4 zz32 => zz32.elim fun H4 zz33 => zz33.elim fun R4 q4 => ?_) no_any
    have it4 := it3.left (R3.left R4) (fun a z => ⟨hIW a z, R3.xh a (.inr z)⟩)
    have R4 := R3.back R4
    refine wpAny_mono (hb W env _ _ loc4 H4 s₃ _ E hX' R4.big q4) (fun f s₄ zz34 => zz34.elim fun loc5 zz35 => zz35.elim fun H5 zz36 => zz36.elim fun R5 q5 => ?_) no_any
    have it5 := it4.left (R4.left R5) (fun a z => ⟨hIW a z, R4.xh a (.inr z)⟩)
    have R5 := R4.back R5
    rcases q5 with ⟨e, loc6, H6, hw, q6⟩ | ⟨v, c, e, r, q⟩
    · rw [e]
      obtain ⟨R6, le⟩ := R5.weak hw
      refine ⟨vs.length - (i + 1), by omega, i + 1, loc6, H6, rfl, hlt, R6, ?_, q6⟩
      induction k using Mine.ItK.casesOn with
      | lst b => exact ⟨it5.1, it5.2.mono le⟩
      | rng b => exact it5
      | enm j b =>
        (refine ex2 it5 fun us old zr1g => ?_; refine and5 zr1g fun a1 a2 a3 a4 a5 => ?_; clear zr1g; try clear it5)
        exact (exI2 us old ⟨a1, a2, a3, a4, a5.mono le⟩)
    · rw [e]
      obtain ⟨R6, le⟩ := R5.unhide E.E hW hC
      exact ⟨.ret v, rfl, loc5, H5, R6, .inr (exI2 v c ⟨rfl, RepV.mono _ _ le _ _ r, q⟩)⟩
  · have hi' : i = vs.length := by omega
    subst hi'
    rw [List.drop_length] at q
    obtain ⟨hgd, q⟩ := q
    refine wpAny_mono (next_end B.B.hh E.E R2 (fun a q => ⟨(h1 a q).1, (h1 a q).2.1⟩) hW hC hit hgd (Nat.le_refl _)) (fun r s' zz37 => zz37.elim fun e zz38 => zz38.elim fun R' zz39 => zz39.elim fun _ _ => ?_) no_any
    rw [e]
    exact wpAny_execs_nil ⟨.next, rfl, loc2, H2, R', .inl ⟨rfl, q⟩⟩
end
end
end Mine

/-! part S23 -/
namespace Mine
noncomputable section
open PySem PySem.W PyProof.Rows
open Classical

noncomputable def puts : List Str → List CV → Loc → Loc
  | n :: ns, c :: cs, loc => puts ns cs (put n c loc)
  | _, _, loc => loc
theorem look_puts_not {x : Str} : ∀ {ns : List Str} {cs : List CV} {loc : Loc}, x ∉ ns → look x (puts ns cs loc) = look x loc
  | [], _, _, _ => rfl
  | _ :: _, [], _, _ => rfl
  | n :: ns, c :: cs, loc, h => by
    rw [List.mem_cons, not_or] at h
    show look x (puts ns cs (put n c loc)) = _
    rw [look_puts_not h.2, look_put, if_neg (fun e => h.1 e.symm)]
theorem look_puts_mem {x : Str} : ∀ {ns : List Str} {cs : List CV} {loc : Loc} {c : CV}, ns.Nodup → (x, c) ∈ ns.zip cs → look x (puts ns cs loc) = some c
  | [], _, _, _, _, h => by simp at h
  | _ :: _, [], _, _, _, h => by simp at h
  | n :: ns, d :: cs, loc, c, hn, h => by
    rw [List.nodup_cons] at hn
    rw [List.zip_cons_cons] at h
    show look x (puts ns cs (put n d loc)) = _
    rcases List.mem_cons.mp h with e | h
    · obtain ⟨rfl, rfl⟩ := Prod.mk.inj e
      rw [look_puts_not hn.1, look_put, if_pos rfl]
    · exact look_puts_mem hn.2 h
theorem zip_rev {α β : Type} : ∀ {l : List α} {r : List β}, l.length = r.length → l.reverse.zip r.reverse = (l.zip r).reverse
  | [], [], _ => rfl
  | [], _ :: _, h => by simp at h
  | _ :: _, [], h => by simp at h
  | a :: l, b :: r, h => by
    have h' : l.length = r.length := by simpa using h
    rw [List.reverse_cons, List.reverse_cons, List.zip_append (by simpa using h'), zip_rev h', List.zip_cons_cons, List.zip_cons_cons, List.reverse_cons]; rfl
theorem puts_rev {ns : List Str} {cs : List CV} {loc : Loc} (hn : ns.Nodup) (hl : ns.length = cs.length) (x : Str) (c : CV) (e : look x (puts ns cs loc) = some c) : look x (puts ns.reverse cs.reverse loc) = some c := by
  by_cases hx : x ∈ ns
  · obtain ⟨i, hi, rfl⟩ := List.getElem_of_mem hx
    have hm : (ns[i], cs[i]'(hl ▸ hi)) ∈ ns.zip cs := List.mem_iff_getElem.mpr ⟨i, by rw [List.length_zip]; lia, by rw [List.getElem_zip]⟩
    rw [look_puts_mem hn hm] at e
    obtain rfl := Option.some.inj e
    refine look_puts_mem ((List.reverse_perm ns).nodup_iff.mpr hn) ?_
    rw [zip_rev hl, List.mem_reverse]; exact hm
  · rw [look_puts_not hx] at e
    rw [look_puts_not (by rw [List.mem_reverse]; exact hx), e]

section
variable {κ : Kit} {T : Str → Str → Option FD} {fa : Str → Str → Addr} {X W : Addr → Prop} {g : PF} {env : Env} {loc loc' : Loc} {H H' : CH} {s s' : Shared} {A : Around} {cl : Cl} {n : Nat} {N : Names} {asg : Str → Prop}

theorem names_as {K : Loc → CH → Prop} : ∀ {ts : List Expr} {cs : List CV} {loc : Loc}, (∀ t ∈ ts, ∃ x p, t = .Name x p ∧ N.lookup x = some .local) → wpAs cl ts cs loc H K → K (puts (tNames ts) cs loc) H
  | [], [], _, _, q => q
  | [], _ :: _, _, _, q => q.elim
  | t :: ts, [], _, h, q => by
    (refine ex2 (h t (.head _)) fun x p zr18g => ?_; refine And.elim (fun zq17g _ => ?_) zr18g; clear zr18g; obtain rfl := zq17g)
    exact q.elim
  | t :: ts, c :: cs, loc, h, q => by
    (refine ex2 (h t (.head _)) fun x p zr16g => ?_; refine And.elim (fun zq15g _ => ?_) zr16g; clear zr16g; obtain rfl := zq15g)
    exact names_as (ts := ts) (fun t ht => h t (.tail _ ht)) (show wpAs cl ts cs (put x c loc) H K from q)
theorem stores_seq : ∀ (ns : List Str) (cs : List CV) (vs : List Value) (loc : Loc) (s : Shared), (∀ x ∈ ns, asgIn N x = true) → EOk N env W → Rel κ X W g env loc H s → RepL κ.cA κ.pr (cst X H s.heap) cs vs →
    wpAny (model κ.prog κ.w) A (assignInOrder (ns.map fun n => bindName env n) vs) (fun _ s' => Rel κ X W g env (puts ns cs loc) H s') No s
  | [], _, _, _, _, _, _, R, _ => wpAny_pure R
  | n :: ns, [], vs, loc, s, _, _, R, rl => by
    rw [show vs = [] from rl]
    exact wpAny_pure R
  | n :: ns, c :: cs, vs, loc, s, h, E, R, zz1 => by
    (refine ex2 zz1 fun w r zr14g => ?_; refine and3 zr14g fun e rv rl => ?_; clear zr14g; try clear zz1)
    subst e
    show wpAny _ _ (assignInOrder ((bindName env n) :: ns.map fun n => bindName env n) (w :: r)) _ _ _
    exact wpAny_bind (wpAny_holding (wpAny_bindName (wpAny_mono (store_sound E.E R (h n (.head _)) rv) (fun _ s1 zz1 => zz1.elim fun R1 le => stores_seq ns cs r _ s1 (fun x hx => h x (.tail _ hx)) E R1 (RepL.mono _ _ le _ _ rl)) no_any)))
theorem repL_rev {h : PF} : ∀ {cs : List CV} {vs : List Value}, RepL κ.cA κ.pr h cs vs → RepL κ.cA κ.pr h cs.reverse vs.reverse
  | [], _, r => by rw [show _ = [] from r]; rfl
  | c :: cs, _, zz2 => by
    (refine ex2 zz2 fun w r zr13g => ?_; refine and3 zr13g fun e rv rl => ?_; clear zr13g; try clear zz2)
    rw [e, List.reverse_cons, List.reverse_cons]
    exact RepL.append _ _ (repL_rev rl) (exI2 w [] ⟨rfl, rv, rfl⟩)

theorem ssSwap {ts vs : List Expr} {k k2 : Nat} {p p2 pos : Pos} (B : Amb κ T fa n cl A) (hv : SE κ cl A N (.Tuple vs k2 p2)) (h : swapSome N (.Tuple ts k p) (.Tuple vs k2 p2) = true) : SS κ cl A N (.Assign [.Tuple ts k p] (.Tuple vs k2 p2) pos) := by
  intro W env X g loc H s Q E hX R q
  have q : wpE cl (.Tuple vs k2 p2) loc H fun c H => wpA cl (.Tuple ts k p) c loc H fun loc H => Q .next loc H := q
  (refine and4 (swap_some (p := p) (p2 := p2) (k := k) (k2 := k2) E.bk E.n h) fun h1 h2 h3 h4 => ?_)
  have hasg : ∀ x ∈ tNames ts, asgIn N x = true := by
    have : ∀ {ts : List Expr}, (∀ t ∈ ts, ∃ x p, t = .Name x p ∧ N.lookup x = some .local) → ∀ x ∈ tNames ts, asgIn N x = true := by
      intro ts
      induction ts with
      | nil => intro _ x hx; cases hx
      | cons t ts ih =>
        intro h x hx
        (refine ex2 (h t (.head _)) fun y q zr12g => ?_; refine And.elim (fun zq11g e => ?_) zr12g; clear zr12g; obtain rfl := zq11g)
        rcases List.mem_cons.mp hx with rfl | hx
        · unfold asgIn; rw [e]; rfl
        · exact ih (fun t ht => h t (.tail _ ht)) x hx
    exact this h4
  refine Assign_Tuple_swapped (names := tNames ts) (wpAny_mono (hv W env X g loc H s _ E hX R q) (fun v s1 zz2 => zz2.elim fun c zz3 => zz3.elim fun H1 zz4 => zz4.elim fun R1 zz5 => zz5.elim fun rv q => ?_) no_any) rfl h1
  obtain ⟨cs, rfl, hlen, q⟩ := q
  (refine ex3 rv fun a n ws zr8g => ?_; refine and4 zr8g fun zq7g ho hz hl => ?_; clear zr8g; try clear rv; obtain rfl := zq7g)
  have hl' := RepL.length _ _ hl
  rw [Array.length_toList] at hl'
  rw [show (tNames ts).length = ws.size by lia]
  refine wpAny_unpackItems_tuple B.B.hh (t := a) (items := ws) ⟨_, cst_get ho, rfl, n, rfl⟩ fun h' hs' => ?_
  have R' := R1.same (tk := s1.toks) (h' := h') E.E fun b o e => hs' b o (Nat.ne_of_lt (Heap.lt_size e)) e
  have hle : (cst X H1 s1.heap).le (cst X H1 h') := fun b o e => by
    (refine and3 (cst_some.mp e) fun p1 p2 p3 => ?_)
    exact cst_some.mpr ⟨p1, p2, hs' b o (Nat.ne_of_lt (Heap.lt_size p3)) p3⟩
  refine wpAny_mono (stores_seq (tNames ts).reverse cs.reverse ws.toList.reverse loc _ (fun x hx => hasg x (List.mem_reverse.mp hx)) E R' (repL_rev (RepL.mono _ _ hle _ _ hl))) (fun _ s2 R2 => ?_) no_any
  exact (exI2 (puts (tNames ts) cs loc) H1 ⟨R2.forget (puts_rev h3 (by lia)), .inl ⟨rfl, names_as h4 q⟩⟩)

theorem okA_plain {t : Expr} {kf : Str → Bool} (h : okA kf t N = true) : (assignEach [t] env).map (·.2) = [assign t env] := by
  induction t using PySem.Expr.casesOn <;> first | rfl | exact noB h
theorem ssAssign0 {t v : Expr} {pos : Pos} (B : Amb κ T fa n cl A) (hv : SE κ cl A N v) (ht : okA (kfOf T) t N = true) (hc : compPlain N t v = true) (hs : swapNone t v = true) : SS κ cl A N (.Assign [t] v pos) := by
  intro W env X g loc H s Q E hX R q
  have q : wpE cl v loc H fun c H => wpA cl t c loc H fun loc H => Q .next loc H := q
  refine wpAny_Assign_stores (hv.ite E hX R q fun c s1 c1 H1 R1 r1 _ q1 => ?_) (sole_false E.n hc) (swap_none hs)
  rw [okA_plain ht]
  exact wpAny_mono (sA B ht W env X g loc H1 s1 c1 c _ E hX R1 r1 q1) (fun _ s2 zz6 => zz6.elim fun loc2 zz7 => zz7.elim fun H2 zz8 => zz8.elim fun R2 q2 => (exI2 loc2 H2 ⟨R2, .inl ⟨rfl, q2⟩⟩)) no_any
theorem comp_tup {t v : Expr} (h : compUsed N t v = true) : ∃ y py elt gens sc p, t = .Name y py ∧ v = .ListComp elt gens sc p := by
  induction t using PySem.Expr.casesOn with
  | Name y py =>
    induction v using PySem.Expr.casesOn with
    | ListComp elt gens sc p => exact (exI6 _ _ _ _ _ _ ⟨rfl, rfl⟩)
    | _ => exact noB h
  | _ => exact noB h
theorem ssAssignC {t v : Expr} {pos : Pos} (B : Amb κ T fa n cl A) (hv : okE (kfOf T) v N = true) (hc : compUsed N t v = true) : SS κ cl A N (.Assign [t] v pos) := by
  intro W env X g loc H s Q E hX R q
  have q : wpE cl v loc H fun c H => wpA cl t c loc H fun loc H => Q .next loc H := q
  (refine ex6 (comp_tup hc) fun y py elt gens sc p zr6g => ?_; refine And.elim (fun zq4g zq5g => ?_) zr6g; clear zr6g; obtain rfl := zq4g; obtain rfl := zq5g)
  obtain ⟨hsw, hy⟩ := used_true (l := pos.line) (elt := elt) (gs := gens) E.bk E.n hc
  induction gens using List.casesOn with
  | nil => exact noB (band3 hv).1.2
  | cons g0 gs =>
    obtain ⟨t, it, ifs, k⟩ := g0
    obtain ⟨⟨h1, h26⟩, h7⟩ := band3 hv
    obtain ⟨⟨⟨⟨h2, h3⟩, h4⟩, h5⟩, h6⟩ := band5 h26
    rcases k with (_ | k) | k
    · refine wpAny_mono (compAssign (Q := fun loc H => Q .next loc H) B E hX R h1 (notSet_of h3) h2 h4 (sSrc B h3) (tests_all (sTsM B h5)) (fun env W E => sGens B h6 elt _ sc p 1 rfl (sE B h7) env W E) (by unfold asgIn; rw [hy]; rfl) hsw q) (fun f s1 zz9 => zz9.elim fun e zz10 => zz10.elim fun loc1 zz11 => zz11.elim fun H1 zz12 => zz12.elim fun R1 q1 => (exI2 loc1 H1 ⟨R1, .inl ⟨e, q1⟩⟩)) no_any
    · exact q.elim
    · exact q.elim
theorem swap_tup {t v : Expr} (h : swapSome N t v = true) : ∃ ts c p vs c' p', t = .Tuple ts c p ∧ v = .Tuple vs c' p' := by
  induction t using PySem.Expr.casesOn with
  | Tuple ts c p =>
    induction v using PySem.Expr.casesOn with
    | Tuple vs c' p' => exact (exI6 _ _ _ _ _ _ ⟨rfl, rfl⟩)
    | _ => exact noB h
  | _ => exact noB h
theorem sS (B : Amb κ T fa n cl A) (m : Nat) : (∀ (st : Stmt), sizeOf st < m → okS (kfOf T) st N = true → SS κ cl A N st) ∧ (∀ (b : List Stmt), sizeOf b < m → okSs (kfOf T) b N = true → SSs κ cl A N b) := by
  induction m with
  | zero => exact ⟨fun _ h => absurd h (Nat.not_lt_zero _), fun _ h => absurd h (Nat.not_lt_zero _)⟩
  | succ m ih =>
    obtain ⟨iS, iL⟩ := ih
    refine ⟨fun st hs h => ?_, fun b hs h => ?_⟩
    · induction st using PySem.Stmt.casesOn with
      | Expr _ _ => exact ssExpr (sE B (band2 h).1) (band2 h).2
      | Return e _ =>
        induction e using Option.casesOn with
        | none => exact ssRet0
        | some e => exact ssRet (sE B h)
      | Assign ts v _ =>
        induction ts using List.casesOn with
        | nil => exact noB h
        | cons t r =>
          induction r using List.casesOn with
          | cons _ _ => exact noB h
          | nil =>
            obtain ⟨⟨⟨h1, h2⟩, h3⟩, h4⟩ := band4 h
            rcases Bool.or_eq_true_iff.mp h4 with h4 | h4
            · (refine ex6 (swap_tup h4) fun _ _ _ _ _ _ zr3g => ?_; refine And.elim (fun zq1g zq2g => ?_) zr3g; clear zr3g; obtain rfl := zq1g; obtain rfl := zq2g)
              exact ssSwap B (sE B h1) h4
            · rcases Bool.or_eq_true_iff.mp h3 with h3 | h3
              · exact ssAssignC B h1 h3
              · exact ssAssign0 B (sE B h1) h2 h3 h4
      | If _ _ _ _ =>
        have h := band3 h; simp at hs
        exact ssIf (sT B h.1.1) (iL _ (by lia) h.1.2) (iL _ (by lia) h.2)
      | While _ _ o _ =>
        induction o using List.casesOn with
        | cons _ _ => exact noB h
        | nil =>
          have h := band2 h; simp at hs
          exact ssWhile (sT B h.1) (iL _ (by lia) h.2)
      | For t _ _ o _ =>
        induction o using List.casesOn with
        | cons _ _ => exact noB h
        | nil =>
          obtain ⟨⟨⟨h1, h2⟩, h3⟩, h4⟩ := band4 h
          simp at hs
          refine ssFor B (notSet_of h1) h3 h2 (sSrc B h1) (iL _ (by lia) h4) ?_
          have tn : ∀ t : Expr, nmIn N t = true → SA κ cl A N t ∧ noStar t = true := fun t ht => by
            induction t using PySem.Expr.casesOn with
            | Name _ _ => exact ⟨aName ht, rfl⟩
            | _ => exact noB ht
          clear h h1 h3 h4 hs
          induction t using PySem.Expr.casesOn with
          | Name _ _ => exact aName h2
          | Tuple _ _ _ =>
            have h2 := List.all_eq_true.mp h2
            exact aTup B.B.hh (fun t ht => (tn t (h2 t ht)).1) (fun t ht => (tn t (h2 t ht)).2)
          | _ => exact noB h2
      | _ => exact noB h
    · induction b using List.casesOn with
      | nil => exact ssNil
      | cons st r =>
        have h := band2 h; simp at hs
        exact ssCons (iS st (by lia) h.1) (iL r (by lia) h.2)
theorem sBody (B : Amb κ T fa n cl A) {b : List Stmt} (h : okSs (kfOf T) b N = true) : SSs κ cl A N b := (sS B (sizeOf b + 1)).2 b (Nat.lt_succ_self _) h
end
end
end Mine

/-! part S24 -/
namespace Mine
noncomputable section
open PySem PySem.W PyProof.Rows
open Classical

/-! functions are called -/
theorem bindL_not {k : Str → Option NameKind} {x : Str} : ∀ {l : List (Str × Value)} {m : Str → Option Value}, x ∉ l.map (·.1) → bindL k l m x = m x
  | [], _, _ => rfl
  | (n, v) :: r, m, h => by
    rw [List.map_cons, List.mem_cons, not_or] at h
    unfold bindL
    rw [bindL_not h.2]
    split
    · exact if_neg h.1
    · rfl
theorem bindC_not {k : Str → Option NameKind} {x : Str} : ∀ {l : List (Str × Value)} {m : Str → Option Value}, x ∉ l.map (·.1) → bindC k l m x = m x
  | [], _, _ => rfl
  | (n, v) :: r, m, h => by
    rw [List.map_cons, List.mem_cons, not_or] at h
    unfold bindC
    rw [bindC_not h.2]
    split
    · rfl
    · exact if_neg h.1
theorem bindL_mem {k : Str → Option NameKind} {x : Str} {v : Value} : ∀ {l : List (Str × Value)} {m : Str → Option Value}, (l.map (·.1)).Nodup → (x, v) ∈ l → k x = some .local → bindL k l m x = some v
  | (n, u) :: r, m, hn, h, hk => by
    rw [List.map_cons, List.nodup_cons] at hn
    unfold bindL
    rcases List.mem_cons.mp h with e | h
    · cases e
      rw [bindL_not hn.1, if_pos hk, if_pos rfl]
    · exact bindL_mem hn.2 h hk
theorem bindC_mem {k : Str → Option NameKind} {x : Str} {v : Value} : ∀ {l : List (Str × Value)} {m : Str → Option Value}, (l.map (·.1)).Nodup → (x, v) ∈ l → k x ≠ some .local → bindC k l m x = some v
  | (n, u) :: r, m, hn, h, hk => by
    rw [List.map_cons, List.nodup_cons] at hn
    unfold bindC
    rcases List.mem_cons.mp h with e | h
    · cases e
      rw [bindC_not hn.1, if_neg hk, if_pos rfl]
    · exact bindC_mem hn.2 h hk
theorem zip_rep {cA : Str → Addr} {pr : Params} {h : PF} {x : Str} {c : CV} : ∀ {ns : List Str} {cs : List CV} {ws : List Value}, RepL cA pr h cs ws → look x (ns.zip cs) = some c → ∃ v, (x, v) ∈ ns.zip ws ∧ RepV cA pr h c v
  | [], _, _, _, e => nn e
  | _ :: _, [], _, _, e => nn e
  | n :: ns, d :: cs, _, zz1, e => by
    (refine ex2 zz1 fun w r zr12g => ?_; refine and3 zr12g fun e0 rv rl => ?_; clear zr12g; try clear zz1)
    subst e0
    rw [List.zip_cons_cons] at e ⊢
    rw [look_cons] at e
    by_cases hx : n = x
    · rw [if_pos hx] at e
      obtain rfl := Option.some.inj e
      exact ⟨w, by rw [hx]; exact .head _, rv⟩
    · rw [if_neg hx] at e
      (refine Exists.elim (zip_rep rl e) fun v zr11g => ?_; refine And.elim (fun a b => ?_) zr11g; clear zr11g)
      exact ⟨v, .tail _ a, b⟩
theorem zip_names {α : Type} : ∀ {ns : List Str} {ws : List α}, ((ns.zip ws).map (·.1)).Sublist ns
  | [], _ => by simp
  | _ :: _, [] => by simp
  | n :: ns, w :: ws => by
    rw [List.zip_cons_cons, List.map_cons]
    exact (zip_names (ns := ns) (ws := ws)).cons_cons n

noncomputable def scopeOk (N : Names) (ps : List Str) : Bool := decide (N.map (·.1)).Nodup && decide ps.Nodup && N.all (fun p => p.2 != .free) && ps.all (fun x => N.lookup x == some .local || N.lookup x == some .cell)

structure FnGood (κ : Kit) (T : Str → Str → Option FD) (fa : Str → Str → Addr) (C f : Str) (fd : FD) : Prop where
  ex : ∃ oc od osl name qual params scope dV kV doc pm an cdv ct, κ.K.lookup (fa C f) = some ⟨oc, od, .func (fnOf name qual params fd.body scope dV kV doc pm an cdv ct), osl⟩ ∧ codeIn κ.K cdv qual = true ∧
    scope.isCoroutine = false ∧ scope.isGenerator = false ∧ scope.kind = .function ∧ okSs (kfOf T) fd.body scope.names = true ∧ scopeOk scope.names fd.params = true ∧
    ∀ (s : Shared) (vs : List Value), κ.K.In s.heap → vs.length ≤ fd.params.length → fd.params.length ≤ vs.length + fd.dfl.length → ∃ ds, RepL κ.cA κ.pr (fun a => κ.K.lookup a) (fd.dfl.drop (fd.dfl.length + vs.length - fd.params.length)) ds ∧
      BindsTo s (fnOf name qual params fd.body scope dV kV doc pm an cdv ct) ⟨vs, []⟩ (fd.params.zip (vs ++ ds))

mutual
theorem frz_refl (H : CH) (P : Addr → Prop) : ∀ c : CV, Frz H P c c
  | .none | .bool _ | .int _ | .str _ | .ref _ | .obj _ _ | .dct _ => rfl
  | .tup vs => ⟨vs, rfl, frz_reflL H P vs⟩
  | .lst vs => .inl ⟨vs, rfl, frz_reflL H P vs⟩
  | .ins _ _ vs => .inl ⟨vs, rfl, frz_reflL H P vs⟩
theorem frz_reflL (H : CH) (P : Addr → Prop) : ∀ cs : List CV, FrzL H P cs cs
  | [] => rfl
  | c :: cs => (exI2 c cs ⟨rfl, frz_refl H P c, frz_reflL H P cs⟩)
end

section
variable {κ : Kit} {T : Str → Str → Option FD} {fa : Str → Str → Addr} {X W : Addr → Prop} {g : PF} {env : Env} {loc loc' : Loc} {H H' : CH} {s s' : Shared} {A : Around} {cl : Cl} {n : Nat} {N : Names} {asg : Str → Prop}

/-- the frame of a function -/
theorem fn_frame {scope : Scope} {env : Env} {L : Addr} {ps : List Str} {qual : Str} {f : Addr} {cdv : Value} (hk : scope.kind = .function) (hs : scopeOk scope.names ps = true)
    (he : env = newEnv scope L mainGlobals (cellsFrom (L + 1) scope.names []) qual (some f) cdv none builtinsNs) :
    EOk scope.names env (fun a => a = L ∨ ∃ x, env.cells.lookup x = some a) := by
  simp only [scopeOk, Bool.and_eq_true, decide_eq_true_eq, List.all_eq_true, bne_iff_ne, ne_eq] at hs
  obtain ⟨⟨⟨h1, h2⟩, h3⟩, h4⟩ := hs
  have hc : env.cells = cellsFrom (L + 1) scope.names [] := by rw [he]; rfl
  have cell : ∀ x, scope.names.lookup x = some .cell → ∃ a, env.cells.lookup x = some a := fun x e => by
    obtain ⟨c, hm⟩ := cellsFrom_has (n := L + 1) (lookup_mem e)
    (refine Exists.elim (lookup_has (r := []) hm) fun d zr10g => ?_; refine And.elim (fun e _ => ?_) zr10g; clear zr10g)
    rw [List.append_nil] at e
    exact ⟨d, by rw [hc]; exact e⟩
  have kof : ∀ x, env.kindOf x = scope.names.lookup x := fun x => by rw [he]; rfl
  refine ⟨⟨by rw [he]; exact hk, by rw [he]; rfl, by rw [he]; rfl, .inl (by rw [he]; rfl), fun x ha => ?_, fun x y a e1 e2 => ?_, fun x a e => ?_⟩, ⟨fun x e => (kof x).trans e, fun x e => (kof x).trans e, fun x e => (kof x).trans e, fun x e => ?_⟩⟩
  · unfold asgIn at ha
    rcases Bool.or_eq_true_iff.mp ha with ha | ha
    · exact .inl ((kof x).trans (beq_iff_eq.mp ha))
    · have ha := beq_iff_eq.mp ha
      obtain ⟨a, e⟩ := cell x ha
      exact .inr ⟨(kof x).trans ha, a, e, .inr ⟨x, e⟩⟩
  · rw [hc] at e1 e2
    exact cellsFrom_inj (lookup_mem e1) (lookup_mem e2)
  · rw [hc] at e
    have hl : env.locals = L := by rw [he]; rfl
    rw [hl]
    have := cellsFrom_addr (lookup_mem e)
    exact Nat.ne_of_gt (by lia)
  · rcases e with e | e
    · exact ⟨.inl ((kof x).trans e), cell x e⟩
    · exact absurd rfl (h3 _ (lookup_mem e))

theorem shared_eq' {s s5 : Shared} {h4 : Heap} {tk : Nat} (h1 : s5.gens = s.gens) (h2 : s5.os = s.os) (h3 : s5.drawn = s.drawn) : s5 = { ({ s with heap := h4, toks := tk } : Shared) with heap := s5.heap, toks := s5.toks } := shared_eq (h4 := h4) h1 h2 h3
theorem call_sound (hT : ∀ C f fd, T C f = some fd → FnGood κ T fa C f fd) (O : KOk κ T fa) (S : ClSound κ fa n cl) : ClSound κ fa (n + 1) (fun C f args H Q => ∃ fd loc, T C f = some fd ∧ bindP fd args = some loc ∧ wpSs cl fd.body loc H fun fl _ H' => ∃ v' H'', WeakR fl.val H' v' H'' ∧ Q v' H'') := by
  intro C f args H Q q A X W g env loc s asg vs hA E R hX rl
  (refine ex2 q fun fd loc0 zr9g => ?_; refine and3 zr9g fun hfd hb q => ?_; clear zr9g)
  (refine ex7 ((hT C f fd hfd).ex) fun oc od osl name qual params scope zr7g => ?_; refine ex7 zr7g fun dV kV doc pm an cdv ct zr8g => ?_; refine and8 zr8g fun ho hcd hco hgen hk hok hsc hbind => ?_; clear zr7g zr8g)
  have hlen := RepL.length _ _ rl
  unfold bindP at hb
  split at hb
  case isFalse => exact nn hb
  rename_i hbd
  obtain rfl := Option.some.inj hb
  obtain ⟨ds, hds, hbind⟩ := hbind s vs R.K (by lia) (by lia)
  have hlim : s.heap.NoLimit := κ.T.nolimit.keeps R.amb
  have hsc' := hsc
  simp only [scopeOk, Bool.and_eq_true, decide_eq_true_eq, List.all_eq_true, bne_iff_ne, ne_eq, Bool.or_eq_true, beq_iff_eq] at hsc'
  obtain ⟨⟨⟨s1, s2⟩, s3⟩, s4⟩ := hsc'
  have inPs : ∀ x ∈ fd.params.zip (vs ++ ds), x.1 ∈ fd.params := fun x hx => (List.of_mem_zip (a := x.1) (b := x.2) hx).1
  refine codeAny_call_function (fd := fnOf name qual params fd.body scope dV kV doc pm an cdv ct) (body := fd.body) (by have := hA.hd; lia) (R.K _ _ ho) rfl hco hgen rfl (codeRec_of R.K hcd) (hbind _ _ _ _ ?_)
  refine wpAny_newFunctionEnv_cells hk (fun x hx => ?_) fun env' he s' ic => ?_
  · rcases s4 _ (inPs x hx) with e | e
    · exact .inl e
    · refine .inr ⟨e, ?_⟩
      obtain ⟨c, hm⟩ := cellsFrom_has (n := s.heap.objs.size + 1) (lookup_mem e)
      obtain ⟨d, e, _⟩ := lookup_has (r := []) hm
      rw [List.append_nil] at e
      rw [e]; rfl
  have EC := fn_frame (ps := fd.params) hk hsc he
  have hL : env'.locals = s.heap.objs.size := by rw [he]; rfl
  have hC : env'.cells = cellsFrom (s.heap.objs.size + 1) scope.names [] := by rw [he]; rfl
  have kof : ∀ x, env'.kindOf x = scope.names.lookup x := fun x => by rw [he]; rfl
  (refine ex2 ic.done fun h' tk zr4g => ?_; refine And.elim (fun zq3g old => ?_) zr4g; clear zr4g; obtain rfl := zq3g)
  refine ⟨hlim.keeps old, codeAny_func ?_⟩
  have ns := ic.toInCall.ns
  dsimp only at ns
  rw [hL] at ns
  let Y : Addr → Prop := fun a => s.heap.get? a = none ∧ ∃ o, h'.get? a = some o
  obtain ⟨R4, le4⟩ := R.hideNew Y (h' := h') (tk := tk) old (fun a h => h)
  have fresh : ∀ a, @LE.le Nat _ s.heap.objs.size a → s.heap.get? a = none := fun a ha => get_none ha
  have YL : Y s.heap.objs.size := ⟨fresh _ (Nat.le_refl _), ns.elim fun o zz1 => zz1.elim fun _ zz2 => zz2.elim fun _ zz3 => zz3.elim fun e _ =>  ⟨o, e⟩⟩
  have Ycell : ∀ x a, env'.cells.lookup x = some a → Y a := fun x a e => by
    (refine Exists.elim (ic.cell x a e) fun o zr2g => ?_; refine And.elim (fun e1 _ => ?_) zr2g; clear zr2g)
    rw [hC] at e
    exact ⟨fresh _ (by have := cellsFrom_addr (lookup_mem e); lia), o, e1⟩
  have WY : ∀ a, (a = s.heap.objs.size ∨ ∃ x, env'.cells.lookup x = some a) → Y a := fun a h => h.elim (fun h => h ▸ YL) fun ⟨x, e⟩ => Ycell x a e
  have hNX : HX κ (orP X Y) := fun a o e h => h.elim (hX a o e) fun h => by have := R.keep a o (R.base a o e); rw [h.1] at this; exact nn this
  let gc : PF := cst (fun _ => False) H s.heap
  have gcY : ∀ a, Y a → gc a = none := fun a h => by
    cases e : gc a with
    | none => rfl
    | some o => have := (cst_some.mp e).2.2; rw [h.1] at this; exact nn this
  have rl' : RepL κ.cA κ.pr (cst (orP X Y) H h') (args ++ fd.dfl.drop (fd.dfl.length + args.length - fd.params.length)) (vs ++ ds) := by
    refine RepL.append _ _ (RepL.mono _ _ le4 _ _ rl) (RepL.mono _ _ (fun a o e => le4 a o (R.base_cst hX a o (κ.KX _ _ e))) _ _ ?_)
    rw [← hlen]; exact hds
  have bnd : ((fd.params.zip (vs ++ ds)).map (·.1)).Nodup := zip_names.nodup s2
  have Ri : Rel κ (orP X Y) (fun a => a = s.heap.objs.size ∨ ∃ x, env'.cells.lookup x = some a) gc env' (fd.params.zip (args ++ fd.dfl.drop (fd.dfl.length + args.length - fd.params.length))) H { s with heap := h', toks := tk } := by
    refine ⟨fun a o e => old a o (cst_some.mp e).2.2, fun a h => ?_, fun a h => gcY a (WY a h), fun a h => .inr (WY a h), R4.xh, R4.xs, R4.rep, fun a o e => ?_, R4.gens, R4.os, R4.drawn, ?_, fun x a e => ?_⟩
    · cases e : gc a with
      | none => rfl
      | some o => exact absurd (cst_some.mp e).2.1 h
    · have e' := R.base a o e
      exact cst_some.mpr ⟨fun h => h, Classical.byContradiction fun q => by rw [R.disj a q] at e'; (exact nn e'), R.keep a o e'⟩
    · rw [hL]
      refine ⟨_, ns, fun x c e => ?_⟩
      (refine Exists.elim (zip_rep rl' e) fun v zr1g => ?_; refine And.elim (fun hm rv => ?_) zr1g; clear zr1g)
      rcases s4 x (inPs _ hm) with k | k
      · exact .inl ⟨(kof x).trans k, v, bindL_mem bnd hm ((kof x).trans k), rv⟩
      · obtain ⟨a, ea⟩ := (EC.n.ce x (.inl k)).2
        refine .inr ⟨.inl ((kof x).trans k), a, v, ea, ?_, rv⟩
        have := ic.cell x a ea
        rw [bindC_mem bnd hm (by rw [kof, k]; simp)] at this
        exact this
    · exact ⟨.inr (Ycell x a e), _, ic.cell x a e⟩
  have BA : BOk (A.deeper env') n := ⟨hA.hh, by rw [depth_deeper]; have := hA.hd; lia, by rw [units_deeper]; have := hA.hu; lia⟩
  refine wpAny_mono (sBody (κ := κ) (T := T) (fa := fa) (N := scope.names) ⟨O, S, BA⟩ hok _ env' (orP X Y) gc _ H _ _ EC hNX Ri q) (fun fl s5 ⟨loc5, H5, R5, p⟩ => ?_) no_any
  -- the caller again
  have le5 : (cst (orP X Y) H5 s5.heap).le (cst X H5 s5.heap) := fun a o e => by
    (refine and3 (cst_some.mp e) fun e1 e2 e3 => ?_)
    exact cst_some.mpr ⟨fun q => e1 (.inl q), e2, e3⟩
  have R6 : Rel κ X W g env loc H5 s5 := by
    have hs5 : s5 = { ({ s with heap := h', toks := tk } : Shared) with heap := s5.heap, toks := s5.toks } := shared_eq' (R5.gens.trans R.gens.symm) (R5.os.trans R.os.symm) (R5.drawn.trans R.drawn.symm)
    rw [hs5]
    refine R4.stepX E X Y (fun a h => .inl h) R.wx (fun x a e => (R.cells x a e).1) (fun a h => ?_) (fun a o e hz p => ?_) (fun a h => R5.xh a (.inl h)) (fun a o hle e => RepO.mono _ le5 (R5.rep a o e))
    · have hXn : ¬ X a := fun z => by obtain ⟨o, e⟩ := R.xs a z; rw [h.1] at e; exact nn e
      refine ⟨.inr h, ?_, fun z => hXn (z ▸ R.wx _ E.wl), fun x z => hXn (R.cells x a z).1, fun z => absurd z hXn⟩
      cases e : g a with
      | none => rfl
      | some o => have := R.keep _ o e; rw [h.1] at this; exact nn this
    · have hs : s.heap.get? a = some o := by
        cases e' : s.heap.get? a with
        | none => exact absurd ⟨e', o, p⟩ hz
        | some o' => have := old a o' e'; rw [p] at this; exact this.symm ▸ rfl
      have hgc : gc a = some o := cst_some.mpr ⟨fun h => h, e, hs⟩
      refine ⟨R5.keep a o hgc, Classical.byContradiction fun q => ?_⟩
      rw [R5.disj a q] at hgc; exact nn hgc
  have fin : ∀ v c, RepV κ.cA κ.pr (cst X H5 s5.heap) c v → (∃ v' H'', WeakR c H5 v' H'' ∧ Q v' H'') → Post κ X W g env loc Q v s5 := fun v c r ⟨c', H'', ⟨P, f1, f2⟩, q⟩ => by
    obtain ⟨R7, _⟩ := R6.weak (loc' := loc) (H' := H'') ⟨P, fun x c e => ⟨c, e, frz_refl H5 P c⟩, f2⟩
    (refine and3 (frz_facts f2) fun g1 g2 g3 => ?_)
    exact (exI2 c' H'' ⟨R7, frz_rep R6 g1 (g3 X _) _ _ _ f1 r, q⟩)
  rcases p with ⟨e, p⟩ | ⟨v, c, e, r, p⟩
  · rw [e]; exact ⟨.none, rfl, fin _ .none rfl p⟩
  · rw [e]; exact ⟨v, rfl, fin _ c (RepV.mono _ _ le5 _ _ r) p⟩
theorem callN_sound (hT : ∀ C f fd, T C f = some fd → FnGood κ T fa C f fd) (O : KOk κ T fa) : ∀ n, ClSound κ fa n (callN T n)
  | 0 => fun _ _ _ _ _ q => q.elim
  | n + 1 => call_sound hT O (callN_sound hT O n)
end
end
end Mine

/-! part S25 -/
namespace Mine
noncomputable section
open PySem PySem.W PyProof.Rows
open Classical

/-! arguments are bound -/
noncomputable def addAll : List (Str × Value) → List (Str × Value) → List (Str × Value)
  | [], s => s
  | p :: l, s => addAll l (if (s.lookup p.1).isNone then s ++ [p] else s)
theorem addAll_loop (f : Str × Value → List (Str × Value) → Sem (ForInStep (List (Str × Value)))) (hf : ∀ n d s, f (n, d) s = if (s.lookup n).isNone then pure (.yield (s ++ [(n, d)])) else pure (.yield s)) :
    ∀ (l s : List (Str × Value)), forIn l s f = pure (addAll l s)
  | [], s => by rw [List.forIn_nil]; rfl
  | (n, d) :: l, s => by
    rw [List.forIn_cons, hf]
    unfold addAll
    by_cases h : (s.lookup n).isNone = true
    · simp only [h, if_true, pure_bind]; exact addAll_loop f hf l _
    · simp only [h, Bool.false_eq_true, if_false, pure_bind]; exact addAll_loop f hf l _
theorem addAll_lookup {x : Str} : ∀ {l s : List (Str × Value)}, (addAll l s).lookup x = (s.lookup x).or (l.lookup x)
  | [], s => by unfold addAll; simp
  | (n, d) :: l, s => by
    unfold addAll
    rw [addAll_lookup, List.lookup_cons]
    by_cases h : (s.lookup n).isNone = true
    · simp only [h, if_true]
      rw [List.lookup_append, List.lookup_cons, List.lookup_nil]
      by_cases hx : (x == n) = true
      · rw [hx]
        rw [Option.isNone_iff_eq_none] at h
        rw [beq_iff_eq.mp hx, h]; simp
      · have hx' : (x == n) = false := by simpa using hx
        rw [hx']; simp
    · simp only [h, Bool.false_eq_true, if_false]
      by_cases hx : (x == n) = true
      · rw [hx]
        cases e : s.lookup n with
        | none => rw [e] at h; simp at h
        | some v => rw [beq_iff_eq.mp hx, e]; simp
      · have hx' : (x == n) = false := by simpa using hx
        rw [hx']
theorem filterMap_zip {F : Str → Option Value} : ∀ {ns : List Str} {ws : List Value}, ws.length = ns.length → (∀ (i : Nat) (x : Str) (v : Value), ns[i]? = some x → ws[i]? = some v → F x = some v) → ns.filterMap (fun n => (F n).map (n, ·)) = ns.zip ws
  | [], _, _, _ => by simp
  | n :: ns, [], h, _ => by simp at h
  | n :: ns, w :: ws, h, hF => by
    rw [List.filterMap_cons, hF 0 n w rfl rfl]
    simp only [Option.map_some, List.zip_cons_cons]
    rw [filterMap_zip (by simpa using h) fun i x v a b => hF (i + 1) x v (by simpa using a) (by simpa using b)]

theorem zip_lookup {ns : List Str} {vs : List Value} {i : Nat} {x : Str} {v : Value} (hn : ns.Nodup) (a : ns[i]? = some x) (b : vs[i]? = some v) : (ns.zip vs).lookup x = some v := by
  refine nodup_lookup (zip_names.nodup hn) ?_
  obtain ⟨h1, rfl⟩ := List.getElem?_eq_some_iff.mp a
  obtain ⟨h2, rfl⟩ := List.getElem?_eq_some_iff.mp b
  exact List.mem_iff_getElem.mpr ⟨i, by rw [List.length_zip]; omega, by rw [List.getElem_zip]⟩
theorem zip_lookup_none {ns : List Str} {vs : List Value} {i : Nat} {x : Str} (hn : ns.Nodup) (a : ns[i]? = some x) (b : vs.length ≤ i) : (ns.zip vs).lookup x = none := by
  cases e : (ns.zip vs).lookup x with
  | none => rfl
  | some v =>
    obtain ⟨j, hj, e2⟩ := List.mem_iff_getElem.mp (lookup_mem e)
    rw [List.getElem_zip] at e2
    rw [List.length_zip] at hj
    obtain ⟨h1, e3⟩ := List.getElem?_eq_some_iff.mp a
    have e4 := (Prod.mk.inj e2).1
    have hp := List.pairwise_iff_getElem.mp hn
    rcases Nat.lt_or_ge j i with h | h
    · exact absurd (e4.trans e3.symm) (hp j i (by omega) h1 h)
    · omega

theorem subs1 {a b c : Nat} (h1 : a ≤ c) (h2 : c ≤ a + b) : a + (b - (b + a - c)) = c := by
  obtain ⟨k, rfl⟩ := Nat.exists_eq_add_of_le h1
  rw [Nat.add_comm b a, Nat.add_sub_add_left, Nat.sub_sub_self (Nat.le_of_add_le_add_left h2)]
theorem subs2 {d v n i : Nat} (h1 : n ≤ v + d) (h2 : v ≤ i) (h3 : d ≤ n) : d + v - n + (i - v) = i - (n - d) := by
  obtain ⟨m, rfl⟩ := Nat.exists_eq_add_of_le h3
  obtain ⟨j, rfl⟩ := Nat.exists_eq_add_of_le h2
  rw [Nat.add_sub_add_left, Nat.add_sub_cancel_left, Nat.add_sub_cancel_left, Nat.sub_add_comm (Nat.le_of_add_le_add_right (by rw [Nat.add_comm m d]; exact h1))]
theorem subs3 {n d i v : Nat} (h1 : n ≤ v + d) (h2 : v ≤ i) : n - d + (i - (n - d)) = i := Nat.add_sub_of_le (Nat.le_trans (Nat.sub_le_iff_le_add.mpr h1) h2)
theorem wpAny_fb {α β γ : Type} {M : Model} {A : Around} {f : γ → α → Sem (ForInStep α)} {b : α} {g : α → Sem β} {Q : β → Shared → Prop} {E : Value → Shared → Prop} {s : Shared} (h : wpAny M A (g b) Q E s) : wpAny M A (forIn [] b f >>= g) Q E s := h
theorem wpAny_if0 {α : Type} {M : Model} {A : Around} {c : Bool} {t e : Sem α} {Q : α → Shared → Prop} {E : Value → Shared → Prop} {s : Shared} (hc : c = false) (h : wpAny M A e Q E s) : wpAny M A (if c = true then t else e) Q E s := by
  subst hc; exact h
theorem wpAny_addAll {β : Type} {M : Model} {A : Around} {l s0 : List (Str × Value)} {f : Str × Value → List (Str × Value) → Sem (ForInStep (List (Str × Value)))} (hf : ∀ n d s, f (n, d) s = if (s.lookup n).isNone then pure (.yield (s ++ [(n, d)])) else pure (.yield s)) {g : List (Str × Value) → Sem β} {Q : β → Shared → Prop} {E : Value → Shared → Prop} {s : Shared}
    (h : wpAny M A (g (addAll l s0)) Q E s) : wpAny M A (forIn l s0 f >>= g) Q E s := by
  rw [addAll_loop f hf]; exact h
theorem bind_gen {fd : FuncData} {s : Shared} {ns : List Str} {vs ds : List Value} (h1 : fd.params.posonlyargs = []) (h2 : fd.params.args.map (·.arg) = ns) (h3 : fd.params.kwonlyargs = []) (h4 : fd.params.vararg = none) (h5 : fd.params.kwarg = none)
    (hd : ∀ (M : Model) (A : Around) (E : Value → Shared → Prop) (Q : Option (Array Value) → Shared → Prop), (∀ o, (o.getD #[]).toList = ds → Q o s) → wpAny M A (seqItems? fd.defaults) Q E s)
    (hn : ns.Nodup) (l1 : vs.length ≤ ns.length) (l2 : ns.length ≤ vs.length + ds.length) (l3 : ds.length ≤ ns.length) : BindsTo s fd ⟨vs, []⟩ (ns.zip (vs ++ ds.drop (ds.length + vs.length - ns.length))) := by
  intro M A E Q q
  have e1 : (decide (vs.length > ns.length) && (none : Option Arg).isNone) = false := by rw [Option.isNone_none, Bool.and_true]; exact decide_eq_false (Nat.not_lt.mpr l1)
  have e2 : List.drop (ds.length - ns.length) ds = ds := by rw [Nat.sub_eq_zero_of_le l3, List.drop_zero]
  have e3 : List.filter (fun n => (List.lookup n (ns.zip vs)).isNone) (List.take (ns.length - ds.length) ns) = [] := by
    rw [List.filter_eq_nil_iff]
    intro x hx
    obtain ⟨i, hi, rfl⟩ := List.mem_iff_getElem.mp hx
    rw [List.length_take] at hi
    rw [List.getElem_take, zip_lookup hn (List.getElem?_eq_getElem (by omega)) (List.getElem?_eq_getElem (by omega : i < vs.length))]
    simp
  have e4 : (!(List.filter (fun n => (List.lookup n (ns.zip vs)).isNone) (List.take (ns.length - (List.drop (ds.length - ns.length) ds).length) ns)).isEmpty) = false := by rw [e2, e3]; rfl
  have e5 : (ns ++ []).filterMap (fun n => ((addAll ((List.drop (ns.length - (List.drop (ds.length - ns.length) ds).length) ns).zip (List.drop (ds.length - ns.length) ds)) (ns.zip vs)).lookup n).map (n, ·)) = ns.zip (vs ++ ds.drop (ds.length + vs.length - ns.length)) := by
    rw [List.append_nil, e2]
    refine filterMap_zip (by rw [List.length_append, List.length_drop]; exact subs1 l1 l2) fun i x v a b => ?_
    rw [addAll_lookup]
    by_cases hi : i < vs.length
    · rw [List.getElem?_append_left hi] at b
      rw [zip_lookup hn a b]; rfl
    · rw [List.getElem?_append_right (by omega), List.getElem?_drop] at b
      rw [zip_lookup_none hn a (by omega), Option.none_or]
      refine zip_lookup (i := i - (ns.length - ds.length)) (hn.sublist (List.drop_sublist _ _)) ?_ ?_
      · rw [List.getElem?_drop, ← a]; exact congrArg (ns[·]?) (subs3 l2 (Nat.le_of_not_lt hi))
      · rw [← b]; exact congrArg (ds[·]?) (subs2 l2 (Nat.le_of_not_lt hi) l3).symm
  cases fd with | mk name qualname params body scope defaults kwdefaults globals closure =>
  cases params with | mk po ar va ko kw =>
  dsimp only at h1 h2 h3 h4 h5 hd
  subst h1 h3 h4 h5
  refine wpAny_fb ?_
  refine wpAny_bind (hd _ _ _ _ fun o ho => ?_)
  subst h2 ho
  refine wpAny_if0 e1 ?_
  refine wpAny_if0 e4 ?_
  refine wpAny_addAll (fun n d s => rfl) ?_
  refine wpAny_fb ?_
  refine wpAny_if0 rfl ?_
  refine wpAny_pure ?_
  refine Eq.mp (congrArg (Q · s) ?_) q
  exact e5.symm
end
end Mine

/-! part S26 -/
namespace Mine
noncomputable section
open PySem PySem.W PyProof.Rows

/-! what the program's own objects are -/
noncomputable def cAf (C : Str) : Addr := if C = "Line" then 204 else if C = "LogicalLine" then 247 else if C = "Cutting" then 359 else 0
noncomputable def addrList : List ((Str × Str) × Addr) := [((("" : Str), ("erased_pen" : Str)), 29), ((("" : Str), ("blank_cell" : Str)), 36), ((("" : Str), ("is_blank" : Str)), 43), ((("" : Str), ("is_plain_blank" : Str)), 50), ((("" : Str), ("line_blanks" : Str)), 58), ((("" : Str), ("line_slice" : Str)), 79), ((("Line" : Str), ("__init__" : Str)), 93), ((("" : Str), ("line_of" : Str)), 216), ((("LogicalLine" : Str), ("__init__" : Str)), 230), ((("LogicalLine" : Str), ("put" : Str)), 237), ((("LogicalLine" : Str), ("kept_to" : Str)), 244), ((("" : Str), ("reflow_used" : Str)), 258), ((("" : Str), ("reflow_begins_wide" : Str)), 265), ((("" : Str), ("reflow_part" : Str)), 272), ((("" : Str), ("reflow_goes_on" : Str)), 279), ((("" : Str), ("logical_of" : Str)), 286), ((("" : Str), ("cut_with_places" : Str)), 293), ((("" : Str), ("cut_cells" : Str)), 300), ((("" : Str), ("reflow_place" : Str)), 307), ((("" : Str), ("reflow_line" : Str)), 314), ((("Cutting" : Str), ("__init__" : Str)), 328), ((("Cutting" : Str), ("put" : Str)), 335), ((("Cutting" : Str), ("go_behind" : Str)), 342), ((("Cutting" : Str), ("give_up" : Str)), 349), ((("Cutting" : Str), ("top" : Str)), 356), ((("" : Str), ("is_cut_whole" : Str)), 370), ((("" : Str), ("joined_pieces" : Str)), 377), ((("" : Str), ("_law_deck" : Str)), 383), ((("" : Str), ("_law_draw" : Str)), 390), ((("" : Str), ("_law_text" : Str)), 397), ((("" : Str), ("_law_cut" : Str)), 404), ((("" : Str), ("_law_lines" : Str)), 409), ((("" : Str), ("_law_starts" : Str)), 414), ((("" : Str), ("_law_old" : Str)), 421), ((("" : Str), ("_law_world" : Str)), 426), ((("" : Str), ("_law_cursor" : Str)), 433), ((("" : Str), ("_law_new" : Str)), 440), ((("" : Str), ("_law_left" : Str)), 447), ((("" : Str), ("_law_told" : Str)), 454), ((("" : Str), ("_law_are_cut" : Str)), 459), ((("" : Str), ("law" : Str)), 464)]
noncomputable def lookA (C f : Str) : List ((Str × Str) × Addr) → Addr
  | [] => 0
  | p :: r => if p.1.1 = C ∧ p.1.2 = f then p.2 else lookA C f r
noncomputable def faf (C f : Str) : Addr := lookA C f addrList
noncomputable def objAt (K : Frag) (a : Addr) : Obj := (K.lookup a).getD { cls := .none, data := .fields #[] }
noncomputable def funcAt (K : Frag) (a : Addr) : FuncData := match (objAt K a).data with | .func d => d | _ => default
noncomputable def sameFn (K : Frag) (a : Addr) (body : List Stmt) : Prop :=
  K.lookup a = some ⟨(objAt K a).cls, (objAt K a).dict, .func (fnOf (funcAt K a).name (funcAt K a).qualname (funcAt K a).params body (funcAt K a).scope (funcAt K a).defaults (funcAt K a).kwdefaults (funcAt K a).doc (funcAt K a).pyModule (funcAt K a).annotations (funcAt K a).code (funcAt K a).closureTuple), (objAt K a).slots⟩
noncomputable def seqAt (K : Frag) (a : Addr) : Array Value := match (objAt K a).data with | .seq ws _ => ws | _ => #[]
noncomputable def roomAt (K : Frag) (a : Addr) : Nat := match (objAt K a).data with | .seq _ n => n | _ => 0
noncomputable def dflAddr (d : FuncData) : Addr := match d.defaults with | .ref a => a | _ => 0
noncomputable def noDfl (d : FuncData) : Bool := match d.defaults with | .none => true | _ => false
noncomputable def atomB : CV → Value → Bool
  | .int i, .int j _ => decide (i = j)
  | .str x, .str y _ => decide (x = y)
  | .bool b, .bool c => decide (b = c)
  | .none, .none => true
  | _, _ => false
noncomputable def atomsB : List CV → List Value → Bool
  | [], [] => true
  | c :: cs, v :: vs => atomB c v && atomsB cs vs
  | _, _ => false
noncomputable def tupAt (K : Frag) (a : Addr) (cs : List CV) : Prop := K.lookup a = some (tupOf (seqAt K a) (roomAt K a)) ∧ (decide ((seqAt K a).size ≤ cap) && atomsB cs (seqAt K a).toList) = true
noncomputable def fnChk (kf : Str → Bool) (K : Frag) (a : Addr) (fd : FD) : Bool :=
  codeIn K (funcAt K a).code (funcAt K a).qualname && !(funcAt K a).scope.isCoroutine && !(funcAt K a).scope.isGenerator && (funcAt K a).scope.kind == .function && okSs kf fd.body (funcAt K a).scope.names && scopeOk (funcAt K a).scope.names fd.params &&
    (funcAt K a).params.posonlyargs.isEmpty && decide ((funcAt K a).params.args.map (·.arg) = fd.params) && (funcAt K a).params.kwonlyargs.isEmpty && (funcAt K a).params.vararg.isNone && (funcAt K a).params.kwarg.isNone
theorem atomB_rep {cA : Str → Addr} {pr : Params} {h : PF} {c : CV} {v : Value} (e : atomB c v = true) : RepV cA pr h c v := by
  induction c using Mine.CV.casesOn with
  | int i => induction v using PySem.Value.casesOn with
    | int j t => exact ⟨t, congrArg (Value.int · t) (of_decide_eq_true e).symm⟩
    | _ => exact noB e
  | str x => induction v using PySem.Value.casesOn with
    | str y t => exact ⟨t, congrArg (Value.str · t) (of_decide_eq_true e).symm⟩
    | _ => exact noB e
  | bool b => induction v using PySem.Value.casesOn with
    | bool c => exact congrArg Value.bool (of_decide_eq_true e).symm
    | _ => exact noB e
  | none => induction v using PySem.Value.casesOn with
    | none => exact rfl
    | _ => exact noB e
  | _ => exact noB e
theorem atomsB_rep {cA : Str → Addr} {pr : Params} {h : PF} : ∀ {cs : List CV} {vs : List Value}, atomsB cs vs = true → RepL cA pr h cs vs
  | [], [], _ => rfl
  | [], _ :: _, e => by exact noB e
  | _ :: _, [], e => by exact noB e
  | c :: cs, v :: vs, e => by
    have e := band2 e
    exact (exI2 v vs ⟨rfl, atomB_rep e.1, atomsB_rep e.2⟩)
theorem tupAt_rep {cA : Str → Addr} {pr : Params} {K : Frag} {a : Addr} {cs : List CV} (x : tupAt K a cs) : RepV cA pr (fun a => K.lookup a) (.tup cs) (.ref a) := by
  obtain ⟨h1, h2⟩ := x
  simp only [Bool.and_eq_true, decide_eq_true_eq] at h2
  exact (exI3 a _ _ ⟨rfl, h1, h2.1, atomsB_rep h2.2⟩)
theorem seq_none {v : Value} {s : Shared} (h : v = .none) {M : Model} {A : Around} {E : Value → Shared → Prop} {Q : Option (Array Value) → Shared → Prop} (q : Q none s) : wpAny M A (seqItems? v) Q E s := by
  subst h; exact wpAny_pure q
theorem seq_tup {K : Frag} {s : Shared} (X : K.In s.heap) {a : Addr} {ws : Array Value} {n : Nat} (h : K.lookup a = some (tupOf ws n)) {M : Model} {A : Around} {E : Value → Shared → Prop} {Q : Option (Array Value) → Shared → Prop} (q : Q (some ws) s) : wpAny M A (seqItems? (.ref a)) Q E s :=
  wpAny_bind (wpAny_load (X _ _ h) (wpAny_pure q))
theorem fnGood_of {κ : Kit} {T : Str → Str → Option FD} {fa : Str → Str → Addr} {C f : Str} {fd : FD} {K : Frag} (hK : κ.K = K) (h1 : sameFn K (fa C f) fd.body) (h2 : fnChk (kfOf T) K (fa C f) fd = true)
    (h3 : (noDfl (funcAt K (fa C f)) = true ∧ fd.dfl = []) ∨ ((funcAt K (fa C f)).defaults = .ref (dflAddr (funcAt K (fa C f))) ∧ tupAt K (dflAddr (funcAt K (fa C f))) fd.dfl ∧ decide (fd.dfl.length ≤ fd.params.length) = true)) : FnGood κ T fa C f fd := by
  subst hK
  have c := band5 h2
  have b := band7 c.1.1.1.1
  have a6 := b.1.2
  have a7 := List.isEmpty_iff.mp b.2
  have a8 := of_decide_eq_true c.1.1.1.2
  have a9 := List.isEmpty_iff.mp c.1.1.2
  have a10 := Option.isNone_iff_eq_none.mp c.1.2
  have a11 := Option.isNone_iff_eq_none.mp c.2
  refine ⟨_, _, _, _, _, _, _, _, _, _, _, _, _, _, h1, b.1.1.1.1.1.1, bnot b.1.1.1.1.1.2, bnot b.1.1.1.1.2, beq_iff_eq.mp b.1.1.1.2, b.1.1.2, a6, fun s vs X l1 l2 => ?_⟩
  have hn : fd.params.Nodup := of_decide_eq_true (band4 a6).1.1.2
  rcases h3 with ⟨h3, h4⟩ | ⟨h3, h4, h5⟩
  · have hd : (funcAt κ.K (fa C f)).defaults = .none := by
      revert h3
      unfold noDfl
      refine gen (funcAt κ.K (fa C f)).defaults fun v h3 => ?_
      induction v using PySem.Value.casesOn with
      | none => rfl
      | _ => exact noB h3
    rw [h4] at l2 ⊢
    refine ⟨[], by rw [List.drop_nil]; exact rfl, ?_⟩
    have := bind_gen (fd := fnOf (funcAt κ.K (fa C f)).name (funcAt κ.K (fa C f)).qualname (funcAt κ.K (fa C f)).params fd.body (funcAt κ.K (fa C f)).scope (funcAt κ.K (fa C f)).defaults (funcAt κ.K (fa C f)).kwdefaults (funcAt κ.K (fa C f)).doc (funcAt κ.K (fa C f)).pyModule (funcAt κ.K (fa C f)).annotations (funcAt κ.K (fa C f)).code (funcAt κ.K (fa C f)).closureTuple)
      (s := s) (ns := fd.params) (vs := vs) (ds := []) a7 a8 a9 a10 a11 (fun M A E Q q => seq_none hd (q none rfl)) hn l1 l2 (Nat.zero_le _)
    rw [List.drop_nil] at this
    exact this
  · obtain ⟨t1, t2⟩ := h4
    have t2 := band2 t2
    have hl := RepL.length κ.cA κ.pr (h := fun a => κ.K.lookup a) (atomsB_rep t2.2)
    refine ⟨(seqAt κ.K (dflAddr (funcAt κ.K (fa C f)))).toList.drop (fd.dfl.length + vs.length - fd.params.length), RepL.drop _ _ _ (atomsB_rep t2.2), ?_⟩
    have := bind_gen (fd := fnOf (funcAt κ.K (fa C f)).name (funcAt κ.K (fa C f)).qualname (funcAt κ.K (fa C f)).params fd.body (funcAt κ.K (fa C f)).scope (funcAt κ.K (fa C f)).defaults (funcAt κ.K (fa C f)).kwdefaults (funcAt κ.K (fa C f)).doc (funcAt κ.K (fa C f)).pyModule (funcAt κ.K (fa C f)).annotations (funcAt κ.K (fa C f)).code (funcAt κ.K (fa C f)).closureTuple)
      (s := s) (ns := fd.params) (vs := vs) (ds := (seqAt κ.K (dflAddr (funcAt κ.K (fa C f)))).toList) a7 a8 a9 a10 a11 (fun M A E Q q => by
        show wpAny M A (seqItems? (funcAt κ.K (fa C f)).defaults) Q E s
        rw [h3]; exact seq_tup X t1 (q _ rfl)) hn l1 (by lia) (by have := of_decide_eq_true h5; lia)
    rw [hl] at this
    exact this
theorem fg0 {κ : Kit} (hK : κ.K = KK κ.w.params) : FnGood κ T faf "" "erased_pen" (fdAt 5) := fnGood_of hK (by unfold sameFn; kernel_rfl) (by kernel_rfl) (.inl ⟨by kernel_rfl, rfl⟩)
theorem fg1 {κ : Kit} (hK : κ.K = KK κ.w.params) : FnGood κ T faf "" "blank_cell" (fdAt 6) := fnGood_of hK (by unfold sameFn; kernel_rfl) (by kernel_rfl) (.inl ⟨by kernel_rfl, rfl⟩)
theorem fg2 {κ : Kit} (hK : κ.K = KK κ.w.params) : FnGood κ T faf "" "is_blank" (fdAt 7) := fnGood_of hK (by unfold sameFn; kernel_rfl) (by kernel_rfl) (.inl ⟨by kernel_rfl, rfl⟩)
theorem fg3 {κ : Kit} (hK : κ.K = KK κ.w.params) : FnGood κ T faf "" "is_plain_blank" (fdAt 8) := fnGood_of hK (by unfold sameFn; kernel_rfl) (by kernel_rfl) (.inl ⟨by kernel_rfl, rfl⟩)
theorem fg4 {κ : Kit} (hK : κ.K = KK κ.w.params) : FnGood κ T faf "" "line_blanks" (fdAt 11) := fnGood_of hK (by unfold sameFn; kernel_rfl) (by kernel_rfl) (.inl ⟨by kernel_rfl, rfl⟩)
theorem fg5 {κ : Kit} (hK : κ.K = KK κ.w.params) : FnGood κ T faf "" "line_slice" (fdAt 14) := fnGood_of hK (by unfold sameFn; kernel_rfl) (by kernel_rfl) (.inl ⟨by kernel_rfl, rfl⟩)
theorem fg6 {κ : Kit} (hK : κ.K = KK κ.w.params) : FnGood κ T faf "Line" "__init__" (mdAt 15 0) := fnGood_of hK (by unfold sameFn; kernel_rfl) (by kernel_rfl) (.inl ⟨by kernel_rfl, rfl⟩)
theorem fg7 {κ : Kit} (hK : κ.K = KK κ.w.params) : FnGood κ T faf "" "line_of" (lineOfFd) := fnGood_of hK (by unfold sameFn; kernel_rfl) (by kernel_rfl) (.inr ⟨by kernel_rfl, ⟨by kernel_rfl, by kernel_rfl⟩, by kernel_rfl⟩)
theorem fg8 {κ : Kit} (hK : κ.K = KK κ.w.params) : FnGood κ T faf "LogicalLine" "__init__" (mdAt 19 0) := fnGood_of hK (by unfold sameFn; kernel_rfl) (by kernel_rfl) (.inl ⟨by kernel_rfl, rfl⟩)
theorem fg9 {κ : Kit} (hK : κ.K = KK κ.w.params) : FnGood κ T faf "LogicalLine" "put" (mdAt 19 1) := fnGood_of hK (by unfold sameFn; kernel_rfl) (by kernel_rfl) (.inl ⟨by kernel_rfl, rfl⟩)
theorem fg10 {κ : Kit} (hK : κ.K = KK κ.w.params) : FnGood κ T faf "LogicalLine" "kept_to" (mdAt 19 2) := fnGood_of hK (by unfold sameFn; kernel_rfl) (by kernel_rfl) (.inl ⟨by kernel_rfl, rfl⟩)
theorem fg11 {κ : Kit} (hK : κ.K = KK κ.w.params) : FnGood κ T faf "" "reflow_used" (fdAt 20) := fnGood_of hK (by unfold sameFn; kernel_rfl) (by kernel_rfl) (.inl ⟨by kernel_rfl, rfl⟩)
theorem fg12 {κ : Kit} (hK : κ.K = KK κ.w.params) : FnGood κ T faf "" "reflow_begins_wide" (fdAt 21) := fnGood_of hK (by unfold sameFn; kernel_rfl) (by kernel_rfl) (.inl ⟨by kernel_rfl, rfl⟩)
theorem fg13 {κ : Kit} (hK : κ.K = KK κ.w.params) : FnGood κ T faf "" "reflow_part" (fdAt 22) := fnGood_of hK (by unfold sameFn; kernel_rfl) (by kernel_rfl) (.inl ⟨by kernel_rfl, rfl⟩)
theorem fg14 {κ : Kit} (hK : κ.K = KK κ.w.params) : FnGood κ T faf "" "reflow_goes_on" (fdAt 23) := fnGood_of hK (by unfold sameFn; kernel_rfl) (by kernel_rfl) (.inl ⟨by kernel_rfl, rfl⟩)
theorem fg15 {κ : Kit} (hK : κ.K = KK κ.w.params) : FnGood κ T faf "" "logical_of" (fdAt 24) := fnGood_of hK (by unfold sameFn; kernel_rfl) (by kernel_rfl) (.inl ⟨by kernel_rfl, rfl⟩)
theorem fg16 {κ : Kit} (hK : κ.K = KK κ.w.params) : FnGood κ T faf "" "cut_with_places" (fdAt 25) := fnGood_of hK (by unfold sameFn; kernel_rfl) (by kernel_rfl) (.inl ⟨by kernel_rfl, rfl⟩)
theorem fg17 {κ : Kit} (hK : κ.K = KK κ.w.params) : FnGood κ T faf "" "cut_cells" (fdAt 26) := fnGood_of hK (by unfold sameFn; kernel_rfl) (by kernel_rfl) (.inl ⟨by kernel_rfl, rfl⟩)
theorem fg18 {κ : Kit} (hK : κ.K = KK κ.w.params) : FnGood κ T faf "" "reflow_place" (fdAt 27) := fnGood_of hK (by unfold sameFn; kernel_rfl) (by kernel_rfl) (.inl ⟨by kernel_rfl, rfl⟩)
theorem fg19 {κ : Kit} (hK : κ.K = KK κ.w.params) : FnGood κ T faf "" "reflow_line" (fdAt 28) := fnGood_of hK (by unfold sameFn; kernel_rfl) (by kernel_rfl) (.inl ⟨by kernel_rfl, rfl⟩)
theorem fg20 {κ : Kit} (hK : κ.K = KK κ.w.params) : FnGood κ T faf "Cutting" "__init__" (mdAt 29 0) := fnGood_of hK (by unfold sameFn; kernel_rfl) (by kernel_rfl) (.inl ⟨by kernel_rfl, rfl⟩)
theorem fg21 {κ : Kit} (hK : κ.K = KK κ.w.params) : FnGood κ T faf "Cutting" "put" (mdAt 29 1) := fnGood_of hK (by unfold sameFn; kernel_rfl) (by kernel_rfl) (.inl ⟨by kernel_rfl, rfl⟩)
theorem fg22 {κ : Kit} (hK : κ.K = KK κ.w.params) : FnGood κ T faf "Cutting" "go_behind" (mdAt 29 2) := fnGood_of hK (by unfold sameFn; kernel_rfl) (by kernel_rfl) (.inl ⟨by kernel_rfl, rfl⟩)
theorem fg23 {κ : Kit} (hK : κ.K = KK κ.w.params) : FnGood κ T faf "Cutting" "give_up" (mdAt 29 3) := fnGood_of hK (by unfold sameFn; kernel_rfl) (by kernel_rfl) (.inl ⟨by kernel_rfl, rfl⟩)
theorem fg24 {κ : Kit} (hK : κ.K = KK κ.w.params) : FnGood κ T faf "Cutting" "top" (mdAt 29 4) := fnGood_of hK (by unfold sameFn; kernel_rfl) (by kernel_rfl) (.inl ⟨by kernel_rfl, rfl⟩)
theorem fg25 {κ : Kit} (hK : κ.K = KK κ.w.params) : FnGood κ T faf "" "is_cut_whole" (fdAt 30) := fnGood_of hK (by unfold sameFn; kernel_rfl) (by kernel_rfl) (.inl ⟨by kernel_rfl, rfl⟩)
theorem fg26 {κ : Kit} (hK : κ.K = KK κ.w.params) : FnGood κ T faf "" "joined_pieces" (fdAt 31) := fnGood_of hK (by unfold sameFn; kernel_rfl) (by kernel_rfl) (.inl ⟨by kernel_rfl, rfl⟩)
theorem fg27 {κ : Kit} (hK : κ.K = KK κ.w.params) : FnGood κ T faf "" "_law_deck" (fdAt 34) := fnGood_of hK (by unfold sameFn; kernel_rfl) (by kernel_rfl) (.inl ⟨by kernel_rfl, rfl⟩)
theorem fg28 {κ : Kit} (hK : κ.K = KK κ.w.params) : FnGood κ T faf "" "_law_draw" (fdAt 35) := fnGood_of hK (by unfold sameFn; kernel_rfl) (by kernel_rfl) (.inl ⟨by kernel_rfl, rfl⟩)
theorem fg29 {κ : Kit} (hK : κ.K = KK κ.w.params) : FnGood κ T faf "" "_law_text" (fdAt 36) := fnGood_of hK (by unfold sameFn; kernel_rfl) (by kernel_rfl) (.inl ⟨by kernel_rfl, rfl⟩)
theorem fg30 {κ : Kit} (hK : κ.K = KK κ.w.params) : FnGood κ T faf "" "_law_cut" (fdAt 37) := fnGood_of hK (by unfold sameFn; kernel_rfl) (by kernel_rfl) (.inl ⟨by kernel_rfl, rfl⟩)
theorem fg31 {κ : Kit} (hK : κ.K = KK κ.w.params) : FnGood κ T faf "" "_law_lines" (fdAt 38) := fnGood_of hK (by unfold sameFn; kernel_rfl) (by kernel_rfl) (.inl ⟨by kernel_rfl, rfl⟩)
theorem fg32 {κ : Kit} (hK : κ.K = KK κ.w.params) : FnGood κ T faf "" "_law_starts" (fdAt 39) := fnGood_of hK (by unfold sameFn; kernel_rfl) (by kernel_rfl) (.inl ⟨by kernel_rfl, rfl⟩)
theorem fg33 {κ : Kit} (hK : κ.K = KK κ.w.params) : FnGood κ T faf "" "_law_old" (fdAt 40) := fnGood_of hK (by unfold sameFn; kernel_rfl) (by kernel_rfl) (.inl ⟨by kernel_rfl, rfl⟩)
theorem fg34 {κ : Kit} (hK : κ.K = KK κ.w.params) : FnGood κ T faf "" "_law_world" (fdAt 41) := fnGood_of hK (by unfold sameFn; kernel_rfl) (by kernel_rfl) (.inl ⟨by kernel_rfl, rfl⟩)
theorem fg35 {κ : Kit} (hK : κ.K = KK κ.w.params) : FnGood κ T faf "" "_law_cursor" (fdAt 42) := fnGood_of hK (by unfold sameFn; kernel_rfl) (by kernel_rfl) (.inl ⟨by kernel_rfl, rfl⟩)
theorem fg36 {κ : Kit} (hK : κ.K = KK κ.w.params) : FnGood κ T faf "" "_law_new" (fdAt 43) := fnGood_of hK (by unfold sameFn; kernel_rfl) (by kernel_rfl) (.inl ⟨by kernel_rfl, rfl⟩)
theorem fg37 {κ : Kit} (hK : κ.K = KK κ.w.params) : FnGood κ T faf "" "_law_left" (fdAt 44) := fnGood_of hK (by unfold sameFn; kernel_rfl) (by kernel_rfl) (.inl ⟨by kernel_rfl, rfl⟩)
theorem fg38 {κ : Kit} (hK : κ.K = KK κ.w.params) : FnGood κ T faf "" "_law_told" (fdAt 45) := fnGood_of hK (by unfold sameFn; kernel_rfl) (by kernel_rfl) (.inl ⟨by kernel_rfl, rfl⟩)
theorem fg39 {κ : Kit} (hK : κ.K = KK κ.w.params) : FnGood κ T faf "" "_law_are_cut" (fdAt 46) := fnGood_of hK (by unfold sameFn; kernel_rfl) (by kernel_rfl) (.inl ⟨by kernel_rfl, rfl⟩)
theorem fg40 {κ : Kit} (hK : κ.K = KK κ.w.params) : FnGood κ T faf "" "law" (fdAt 47) := fnGood_of hK (by unfold sameFn; kernel_rfl) (by kernel_rfl) (.inl ⟨by kernel_rfl, rfl⟩)
theorem lookP_mem {C f : Str} {d : FD} : ∀ {l : List ((Str × Str) × FD)}, lookP C f l = some d → ((C, f), d) ∈ l
  | [], e => by exact nn e
  | p :: r, e => by
    obtain ⟨⟨a, b⟩, c⟩ := p
    by_cases h : a = C ∧ b = f
    · obtain ⟨rfl, rfl⟩ := h
      obtain rfl := Option.some.inj ((if_pos ⟨rfl, rfl⟩).symm.trans e); exact .head _
    · exact .tail _ (lookP_mem ((if_neg h).symm.trans e))
theorem fnGoodAll {κ : Kit} (hK : κ.K = KK κ.w.params) : ∀ C f fd, T C f = some fd → FnGood κ T faf C f fd := fun C f fd h => by
  have all : ∀ p ∈ fnList, FnGood κ T faf p.1.1 p.1.2 p.2 := List.forall_mem_cons.mpr ⟨fg0 hK, List.forall_mem_cons.mpr ⟨fg1 hK, List.forall_mem_cons.mpr ⟨fg2 hK, List.forall_mem_cons.mpr ⟨fg3 hK, List.forall_mem_cons.mpr ⟨fg4 hK, List.forall_mem_cons.mpr ⟨fg5 hK, List.forall_mem_cons.mpr ⟨fg6 hK, List.forall_mem_cons.mpr ⟨fg7 hK, List.forall_mem_cons.mpr ⟨fg8 hK, List.forall_mem_cons.mpr ⟨fg9 hK, List.forall_mem_cons.mpr ⟨fg10 hK, List.forall_mem_cons.mpr ⟨fg11 hK, List.forall_mem_cons.mpr ⟨fg12 hK, List.forall_mem_cons.mpr ⟨fg13 hK, List.forall_mem_cons.mpr ⟨fg14 hK, List.forall_mem_cons.mpr ⟨fg15 hK, List.forall_mem_cons.mpr ⟨fg16 hK, List.forall_mem_cons.mpr ⟨fg17 hK, List.forall_mem_cons.mpr ⟨fg18 hK, List.forall_mem_cons.mpr ⟨fg19 hK, List.forall_mem_cons.mpr ⟨fg20 hK, List.forall_mem_cons.mpr ⟨fg21 hK, List.forall_mem_cons.mpr ⟨fg22 hK, List.forall_mem_cons.mpr ⟨fg23 hK, List.forall_mem_cons.mpr ⟨fg24 hK, List.forall_mem_cons.mpr ⟨fg25 hK, List.forall_mem_cons.mpr ⟨fg26 hK, List.forall_mem_cons.mpr ⟨fg27 hK, List.forall_mem_cons.mpr ⟨fg28 hK, List.forall_mem_cons.mpr ⟨fg29 hK, List.forall_mem_cons.mpr ⟨fg30 hK, List.forall_mem_cons.mpr ⟨fg31 hK, List.forall_mem_cons.mpr ⟨fg32 hK, List.forall_mem_cons.mpr ⟨fg33 hK, List.forall_mem_cons.mpr ⟨fg34 hK, List.forall_mem_cons.mpr ⟨fg35 hK, List.forall_mem_cons.mpr ⟨fg36 hK, List.forall_mem_cons.mpr ⟨fg37 hK, List.forall_mem_cons.mpr ⟨fg38 hK, List.forall_mem_cons.mpr ⟨fg39 hK, List.forall_mem_cons.mpr ⟨fg40 hK, fun _ h => nomatch h⟩⟩⟩⟩⟩⟩⟩⟩⟩⟩⟩⟩⟩⟩⟩⟩⟩⟩⟩⟩⟩⟩⟩⟩⟩⟩⟩⟩⟩⟩⟩⟩⟩⟩⟩⟩⟩⟩⟩⟩⟩
  exact all _ (lookP_mem h)
end
end Mine

/-! part S27 -/
namespace Mine
noncomputable section
open PySem PySem.W PyProof.Rows

noncomputable def biB (v : Option (Option Value)) (n : String) : Bool := match v with | some (some (.builtin id)) => id == n | _ => false
noncomputable def tyB (v : Option Value) (n : String) : Bool := match v with | some (.type t) => t == n | _ => false
noncomputable def nnB {α : Type} (v : Option (Option α)) : Bool := match v with | some none => true | _ => false
noncomputable def getB (K : Frag) (C n : Str) : Bool := plainGet K (cAf C) n && hasDictIn K (cAf C) && (findIn K (.ref (cAf C)) n).any (noGet K)
noncomputable def setB (K : Frag) (C n : Str) : Bool := biB (findIn K (.ref (cAf C)) "__setattr__") "object.__setattr__" && plainOver K (cAf C) && nnB (takerIn K (cAf C) n)
noncomputable def refB (v : Option (Option Value)) (a : Addr) : Bool := match v with | some (some (.ref b)) => decide (b = a) | _ => false
noncomputable def methB (K : Frag) (C m : Str) : Bool := plainGet K (cAf C) m && refB (findIn K (.ref (cAf C)) m) (faf C m) && isFn K (.ref (faf C m)) && keepIn K (.ref (faf C m))
noncomputable def fnB (K : Frag) (f : Str) : Bool := refB (nsIn K mainGlobals f) (faf "" f) && keepIn K (.ref (faf "" f))
noncomputable def clsB (K : Frag) (C : Str) : Bool := refB (nsIn K mainGlobals C) (cAf C) && keepIn K (.ref (cAf C)) && makesIn K (cAf C) && refB (findIn K (.ref (cAf C)) "__init__") (faf C "__init__") && tyB (typeIn K (.ref (faf C "__init__"))) "function"
noncomputable def noneB (K : Frag) (f : Str) : Bool := nnB (nsIn K mainGlobals f)
noncomputable def gatomB (K : Frag) (x : Str) (c : CV) : Bool := (nsIn K mainGlobals x).any fun o => o.any (atomB c)
noncomputable def gAddr (K : Frag) (x : Str) : Addr := match nsIn K mainGlobals x with | some (some (.ref a)) => a | _ => 0
theorem refB_eq {v : Option (Option Value)} {a : Addr} (h : refB v a = true) : v = some (some (.ref a)) := by
  cases v with
  | none => exact noB h
  | some v => cases v with
    | none => exact noB h
    | some v => induction v using PySem.Value.casesOn with
      | ref b => exact congrArg (fun b => some (some (Value.ref b))) (of_decide_eq_true h)
      | _ => exact noB h
theorem biB_eq {v : Option (Option Value)} {n : String} (h : biB v n = true) : v = some (some (.builtin n)) := by
  cases v with
  | none => exact noB h
  | some v => cases v with
    | none => exact noB h
    | some v => induction v using PySem.Value.casesOn with
      | builtin b => exact congrArg (fun b => some (some (Value.builtin b))) (beq_iff_eq.mp h)
      | _ => exact noB h
theorem tyB_eq {v : Option Value} {n : String} (h : tyB v n = true) : v = some (.type n) := by
  cases v with
  | none => exact noB h
  | some v => induction v using PySem.Value.casesOn with
    | type b => exact congrArg (fun b => some (Value.type b)) (beq_iff_eq.mp h)
    | _ => exact noB h
theorem nnB_eq {α : Type} {v : Option (Option α)} (h : nnB v = true) : v = some none := by
  cases v with
  | none => exact noB h
  | some v => cases v with
    | none => rfl
    | some v => exact noB h
theorem any_some {α : Type} {o : Option α} {p : α → Bool} (h : o.any p = true) : ∃ x, o = some x ∧ p x = true := by
  cases o with
  | none => exact noB h
  | some x => exact ⟨x, rfl, h⟩
theorem getB_get {K : Frag} {C n : Str} (h : getB K C n = true) : plainGet K (cAf C) n = true ∧ hasDictIn K (cAf C) = true ∧ ∃ attr, findIn K (.ref (cAf C)) n = some attr ∧ noGet K attr = true :=
  ⟨(band3 h).1.1, (band3 h).1.2, any_some (band3 h).2⟩
theorem setB_set {K : Frag} {C n : Str} (h : setB K C n = true) : findIn K (.ref (cAf C)) "__setattr__" = some (some (.builtin "object.__setattr__")) ∧ plainOver K (cAf C) = true ∧ takerIn K (cAf C) n = some none :=
  ⟨biB_eq (band3 h).1.1, (band3 h).1.2, nnB_eq (band3 h).2⟩
theorem noneB_eq {K : Frag} {f : Str} (h : noneB K f = true) : nsIn K mainGlobals f = some none := nnB_eq h
theorem gatomB_rep {cA : Str → Addr} {pr : Params} {K : Frag} {x : Str} {c : CV} {h : PF} (e : gatomB K x c = true) : ∃ v, nsIn K mainGlobals x = some (some v) ∧ RepV cA pr h c v := by
  obtain ⟨o, e1, e2⟩ := any_some e
  obtain ⟨v, e3, e4⟩ := any_some e2
  exact ⟨v, by rw [e1, e3], atomB_rep e4⟩
noncomputable def attrList : List (Str × Str) := [("Line", "cells"), ("Line", "is_wrapped"), ("Line", "size"), ("LogicalLine", "first"), ("LogicalLine", "size"), ("LogicalLine", "begins"), ("LogicalLine", "cells"), ("LogicalLine", "is_whole"),
  ("Cutting", "columns"), ("Cutting", "lines"), ("Cutting", "first"), ("Cutting", "row"), ("Cutting", "column"), ("Cutting", "is_waiting")]
theorem attr_mem {C n : Str} (h : attrOk C n) : (C, n) ∈ attrList := by
  rcases h with ⟨rfl, rfl | rfl | rfl⟩ | ⟨rfl, rfl | rfl | rfl | rfl | rfl⟩ | ⟨rfl, rfl | rfl | rfl | rfl | rfl | rfl⟩ <;> decide +kernel
noncomputable def methList : List (Str × Str) := [("LogicalLine", "put"), ("LogicalLine", "kept_to"), ("Cutting", "put"), ("Cutting", "go_behind"), ("Cutting", "give_up"), ("Cutting", "top")]
theorem meth_mem {C n : Str} (h : hasMeth C n) : (C, n) ∈ methList := by
  rcases h with ⟨rfl, rfl | rfl⟩ | ⟨rfl, rfl | rfl | rfl | rfl⟩ <;> decide +kernel
noncomputable def fnNames : List Str := (fnList.filter fun p => decide (p.1.1 = ("" : Str))).map (·.1.2)
theorem fn_mem {f : Str} {fd : FD} (h : T "" f = some fd) : f ∈ fnNames := by
  have := lookP_mem h
  exact List.mem_map.mpr ⟨_, List.mem_filter.mpr ⟨this, by simp⟩, rfl⟩
noncomputable def allB (K : Frag) : Bool := attrList.all (fun p => getB K p.1 p.2 && setB K p.1 p.2) && methList.all (fun p => methB K p.1 p.2) && fnNames.all (fnB K) && (["Line", "LogicalLine", "Cutting"] : List Str).all (clsB K) &&
  (["len", "min", "max", "list", "int", "range", "enumerate"] : List Str).all (noneB K) && gatomB K "NO_COLOUR" (.int (-1)) && gatomB K "BACK" (.int 2) && gatomB K "SINGLE" (.str "single") &&
  refB (nsIn K mainGlobals "PLAIN") (gAddr K "PLAIN") && refB (nsIn K mainGlobals "LINE_SIZES") (gAddr K "LINE_SIZES") && refB (nsIn K mainGlobals "_law_pen") (gAddr K "_law_pen")
theorem allB_ok (P : Params) : allB (KK P) = true := by kernel_rfl
theorem plain_ok (P : Params) : tupAt (KK P) (gAddr (KK P) "PLAIN") [.int 0, .int (-1), .int (-1), .int (-1), .int 0] := ⟨by kernel_rfl, by kernel_rfl⟩
theorem sizes_ok (P : Params) : tupAt (KK P) (gAddr (KK P) "LINE_SIZES") [.str "single", .str "wide", .str "top", .str "bottom"] := ⟨by kernel_rfl, by kernel_rfl⟩
theorem pen_ok (P : Params) : tupAt (KK P) (gAddr (KK P) "_law_pen") [.int 1, .int 3, .int 4, .int (-1), .int 0] := ⟨by kernel_rfl, by kernel_rfl⟩
theorem kOk {κ : Kit} (hK : κ.K = KK κ.w.params) (hA : κ.cA = cAf) : KOk κ T faf := by
  have h := allB_ok κ.w.params
  have h1 := plain_ok κ.w.params
  have h2 := sizes_ok κ.w.params
  have h3 := pen_ok κ.w.params
  rw [← hK] at h h1 h2 h3
  have b := band7 (band5 h).1.1.1.1
  have a1 := List.all_eq_true.mp b.1.1.1.1.1.1
  have a2 := List.all_eq_true.mp b.1.1.1.1.1.2
  have a3 := List.all_eq_true.mp b.1.1.1.1.2
  have a4 := List.all_eq_true.mp b.1.1.1.2
  have a5 := List.all_eq_true.mp b.1.1.2
  have a6 := b.1.2
  have a7 := b.2
  have a8 := (band5 h).1.1.1.2
  have a9 := (band5 h).1.1.2
  have a10 := (band5 h).1.2
  have a11 := (band5 h).2
  refine ⟨fun C n hc => ?_, fun C n hc => ?_, fun x c e => ?_, fun f hf => ?_, fun C m hm => ?_, fun f fd hf => ?_, fun C hc => ?_⟩
  · rw [hA]; exact getB_get (band2 (a1 _ (attr_mem hc))).1
  · rw [hA]; exact setB_set (band2 (a1 _ (attr_mem hc))).2
  · have all : ∀ p ∈ gcL, ∃ v, nsIn κ.K mainGlobals p.1 = some (some v) ∧ RepV κ.cA κ.pr (fun a => κ.K.lookup a) p.2 v := List.forall_mem_cons.mpr ⟨⟨_, refB_eq a9, tupAt_rep h1⟩, List.forall_mem_cons.mpr ⟨gatomB_rep a6, List.forall_mem_cons.mpr ⟨gatomB_rep a7, List.forall_mem_cons.mpr ⟨gatomB_rep a8, List.forall_mem_cons.mpr ⟨⟨_, refB_eq a10, tupAt_rep h2⟩, List.forall_mem_cons.mpr ⟨⟨_, refB_eq a11, tupAt_rep h3⟩, fun _ h => nomatch h⟩⟩⟩⟩⟩⟩
    exact all (x, c) (look_mem e)
  · refine noneB_eq (a5 f ?_)
    rcases hf with (rfl | rfl | rfl) | (rfl | rfl | rfl | rfl) <;> simp
  · have := a2 _ (meth_mem hm)
    have this := band4 this
    rw [hA]
    exact ⟨this.1.1.1, refB_eq this.1.1.2, this.1.2, this.2⟩
  · have := a3 _ (fn_mem hf)
    have this := band2 this
    exact ⟨refB_eq this.1, this.2⟩
  · have := a4 C (by rcases hc with rfl | rfl | rfl <;> simp)
    have this := band5 this
    rw [hA]
    exact ⟨refB_eq this.1.1.1.1, this.1.1.1.2, this.1.1.2, refB_eq this.1.2, tyB_eq this.2⟩
end
end Mine

/-! part S28 -/
namespace Mine
noncomputable section
open PySem PySem.W PyProof.Rows

theorem well_ints {P : Params} {h : Heap} : ∀ {is : List Int} {vs : List Value}, WellAll P h vs (is.map fun i => ofPy (.int i)) → ∀ {cA : Str → Addr} {c : PF}, RepL cA P c (is.map CV.int) vs
  | [], vs, x => by cases x; exact rfl
  | i :: is, _, x => by
    cases x with
    | cons a b =>
      cases a
      exact (exI2 _ _ ⟨rfl, ⟨_, rfl⟩, well_ints b⟩)
noncomputable def LawOk : Prop := ∀ zs : List Int, zs.length ≤ 63 → wpSs (callN T 12) (fdAt 47).body [("script", .lst (zs.map CV.int))] (fun _ => none) fun fl _ _ => fl = .ret (.bool true)

theorem join (law : LawOk) {prog p : Program} {loose : List Str} {mean : ExcName → Option Value} {mg mb : Str → Option Value} {w : World} {s₁ : Shared} (KX : (KK w.params).In s₁.heap) (T0 : Top p loose mean mg mb s₁.heap) (hg : s₁.gens = #[]) {zs : List Int} {a : Addr}
    (wl : Well w.params s₁.heap (.ref a) (ofPy (.list (zs.map PyData.int)))) (hz : ¬ ((63 : Int) < zs.length)) {h₁ : Heap} {fa : Addr} {cdv : Value} {m : Str → Option Value} (F : Fr s₁.heap s₁.heap.objs.size h₁ m) (hm : m "script" = some (.ref a)) {tk : Nat} {A : Around} (hA : BOk A 12)
    {name : Str} {body : List Stmt} {scope : Scope} (hb : body = (fdAt 47).body) (hk : scope.kind = .function) (hok : okSs (kfOf T) body scope.names = true) (hsc : scopeOk scope.names ["script"] = true) (hcell : cellsFrom (s₁.heap.objs.size + 1) scope.names [] = []) (hl : scope.names.lookup ("script" : Str) = some .local)
    {Q : Flow → Shared → Prop} {E : Value → Shared → Prop} (k : ∀ s', (∀ b o, s₁.heap.get? b = some o → s'.heap.get? b = some o) → s'.os = s₁.os → s'.gens = #[] → Q (.ret (.bool true)) s') :
    wpAny (model prog w) A (execs body (envOf name scope s₁.heap.objs.size fa cdv)) Q E { s₁ with heap := h₁, toks := tk } := by
  let κ : Kit := { cA := cAf, K := KK w.params, p := p, prog := prog, loose := loose, mg := mg, mb := mb, s0 := s₁, w := w, KX := KX, T := topRead_of T0 }
  have O : KOk κ T faf := kOk rfl rfl
  have S := callN_sound (κ := κ) (fnGoodAll rfl) O 12
  have EC := fn_frame (env := envOf name scope s₁.heap.objs.size fa cdv) (qual := name ++ ".<locals>.") (f := fa) (cdv := cdv) hk hsc (by rw [hcell]; rfl)
  have hn := get_none (h := s₁.heap) (Nat.le_refl s₁.heap.objs.size)
  obtain ⟨vs, hvs, hwa⟩ : ∃ vs : List Value, s₁.heap.get? a = some (listOf vs.toArray 0) ∧ WellAll w.params s₁.heap vs (zs.map fun i => ofPy (.int i)) := by
    have e : ofPy (.list (zs.map PyData.int)) = .list (zs.map fun i => ofPy (.int i)) := by
      rw [ofPy, ofPys_eq, List.map_map]; rfl
    rw [e] at wl
    cases wl with
    | list h1 h2 => exact ⟨_, h1, h2⟩
  have nsL := F.ns
  have noc : ∀ x b, (envOf name scope s₁.heap.objs.size fa cdv).cells.lookup x ≠ some b := fun x b e => by cases e
  have Ri : Rel κ (fun b => b = s₁.heap.objs.size) (fun b => b = s₁.heap.objs.size ∨ ∃ x, (envOf name scope s₁.heap.objs.size fa cdv).cells.lookup x = some b) (fun b => s₁.heap.get? b) (envOf name scope s₁.heap.objs.size fa cdv) [("script", .lst (zs.map CV.int))] (fun _ => none) { s₁ with heap := h₁, toks := tk } := by
    refine ⟨F.keep, fun b q => absurd rfl q, fun b q => ?_, fun b q => ?_, fun b _ => rfl, fun b q => ?_, fun b o e => (by cases e), fun b o e => e, rfl, rfl, rfl, ⟨m, nsL, fun x c e => ?_⟩, fun x b e => absurd e (noc x b)⟩
    · rcases q with q | ⟨x, q⟩
      · rw [q]; exact hn
      · exact absurd q (noc x b)
    · rcases q with q | ⟨x, q⟩
      · exact q
      · exact absurd q (noc x b)
    · (refine ex3 nsL fun o _ _ zr1g => ?_; refine And.elim (fun e _ => ?_) zr1g; clear zr1g; try clear nsL)
      exact ⟨o, by rw [q]; exact e⟩
    · rw [look_cons] at e
      split at e
      · rename_i hx
        subst hx
        cases e
        have hlt : a ≠ s₁.heap.objs.size := Nat.ne_of_lt (Heap.lt_size hvs)
        have hlen := RepL.length cAf w.params (h := fun _ => none) (well_ints hwa)
        rw [List.length_map] at hlen
        refine .inl ⟨hl, .ref a, hm, a, 0, vs.toArray, rfl, cst_some.mpr ⟨hlt, rfl, F.keep _ _ hvs⟩, ?_, well_ints hwa⟩
        rw [List.size_toArray, hlen, cap_num]; omega
      · cases e
  have hX : HX κ (fun b => b = s₁.heap.objs.size) := fun b o e q => by rw [q] at e; rw [show κ.s0.heap.get? s₁.heap.objs.size = none from hn] at e; cases e
  subst hb
  refine wpAny_mono (sBody (κ := κ) (T := T) (fa := faf) (N := scope.names) ⟨O, S, hA⟩ hok _ _ _ _ _ _ _ _ EC hX Ri (law zs (by omega))) (fun fl s' zz1 => zz1.elim fun loc' zz2 => zz2.elim fun H' zz3 => zz3.elim fun R p => ?_) no_any
  rcases p with ⟨e, p⟩ | ⟨v, c, e, r, p⟩
  · cases p
  · cases p
    rw [e, show v = .bool true from r]
    exact k s' R.keep R.os (R.gens.trans hg)
theorem callerB (env : Env) : BOk (callerA.deeper env) 12 := ⟨rfl, by rw [depth_deeper]; decide, by rw [units_deeper]; decide⟩
end
end Mine

/-! part C2 -/
namespace Mine
open PySem

noncomputable section
/-! stepping in the clean world -/
/-! what follows, under a name of its own (small terms) -/
noncomputable def Impl (J K : Loc → CH → Prop) : Prop := ∀ loc H, J loc H → K loc H
noncomputable def ImplV (J K : CV → CH → Prop) : Prop := ∀ c H, J c H → K c H
noncomputable def ImplS (J K : SPost) : Prop := ∀ fl loc H, J fl loc H → K fl loc H
theorem kgo {J K : Loc → CH → Prop} {loc : Loc} {H : CH} (hK : Impl J K) (h : J loc H) : K loc H := hK _ _ h
theorem kgoV {J K : CV → CH → Prop} {c : CV} {H : CH} (hK : ImplV J K) (h : J c H) : K c H := hK _ _ h
theorem kgoS {J K : SPost} {fl : CFlow} {loc : Loc} {H : CH} (hK : ImplS J K) (h : J fl loc H) : K fl loc H := hK _ _ _ h
noncomputable def AllK (P : (Loc → CH → Prop) → Prop) : Prop := ∀ K, P K
noncomputable def AllKV (P : (CV → CH → Prop) → Prop) : Prop := ∀ K, P K
noncomputable def AllKS (P : SPost → Prop) : Prop := ∀ K, P K
theorem allK {P : (Loc → CH → Prop) → Prop} (h : ∀ K, P K) : AllK P := h
theorem allKV {P : (CV → CH → Prop) → Prop} (h : ∀ K, P K) : AllKV P := h
theorem allKS {P : SPost → Prop} (h : ∀ K, P K) : AllKS P := h
/-! what is left to do, as data (no binders: small terms) -/
@[reducible] def kRest (cl : Cl) (r : List Stmt) (Q : SPost) : Loc → CH → Prop := fun loc H => wpSs cl r loc H Q
@[reducible] def kExpr (cl : Cl) (r : List Stmt) (loc : Loc) (Q : SPost) : CV → CH → Prop := fun _ H => wpSs cl r loc H Q
@[reducible] def kRet (loc : Loc) (Q : SPost) : CV → CH → Prop := fun v H => Q (.ret v) loc H
@[reducible] def kAsg (cl : Cl) (t : Expr) (loc : Loc) (r : List Stmt) (Q : SPost) : CV → CH → Prop := fun c H => wpA cl t c loc H (kRest cl r Q)
@[reducible] def kIf (cl : Cl) (b o : List Stmt) (loc : Loc) (P : SPost) : Bool → CH → Prop := fun c H => (c = true → wpSs cl b loc H P) ∧ (c = false → wpSs cl o loc H P)
@[reducible] def kWh (cl : Cl) (b r : List Stmt) (loc : Loc) (P Q : SPost) : Bool → CH → Prop := fun c H => (c = true → wpSs cl b loc H P) ∧ (c = false → wpSs cl r loc H Q)
@[reducible] def kNeg (Q : CV → CH → Prop) : CV → CH → Prop := fun v H => ∃ i, v = .int i ∧ Q (.int (-i)) H
@[reducible] def kNotT (H : CH) (Q : CV → CH → Prop) : Bool → Prop := fun b => Q (.bool !b) H
@[reducible] def kNot (Q : CV → CH → Prop) : CV → CH → Prop := fun v H => wpTruth v (kNotT H Q)
@[reducible] def kBin2 (op : Operator) (a : CV) (Q : CV → CH → Prop) : CV → CH → Prop := fun b H => wpBin op a b H Q
@[reducible] def kBin (cl : Cl) (rr : Expr) (loc : Loc) (op : Operator) (Q : CV → CH → Prop) : CV → CH → Prop := fun a H => wpE cl rr loc H (kBin2 op a Q)
@[reducible] def kB (H : CH) (Q : CV → CH → Prop) : Bool → Prop := fun t => Q (.bool t) H
@[reducible] def kCmp2 (op : CmpOp) (a : CV) (Q : CV → CH → Prop) : CV → CH → Prop := fun b H => wpCmp op a b H (kB H Q)
@[reducible] def kCmp (cl : Cl) (rr : Expr) (loc : Loc) (op : CmpOp) (Q : CV → CH → Prop) : CV → CH → Prop := fun a H => wpE cl rr loc H (kCmp2 op a Q)
@[reducible] def kCall (cl : Cl) (f : Str) (Q : CV → CH → Prop) : List CV → CH → Prop := fun vs H => wpFun cl f vs H Q
@[reducible] def kEs2 (v : CV) (Q : List CV → CH → Prop) : List CV → CH → Prop := fun vs H => Q (v :: vs) H
@[reducible] def kEs (cl : Cl) (r : List Expr) (loc : Loc) (Q : List CV → CH → Prop) : CV → CH → Prop := fun v H => wpEs cl r loc H (kEs2 v Q)
@[reducible] def kV (H : CH) (Q : CV → CH → Prop) : CV → Prop := fun v => Q v H
@[reducible] def kAttr (n : Str) (Q : CV → CH → Prop) : CV → CH → Prop := fun ov H => wpAttr ov n H (kV H Q)
@[reducible] def kSub2 (ov : CV) (Q : CV → CH → Prop) : CV → CH → Prop := fun iv H => wpIdx ov iv H (kV H Q)
@[reducible] def kSub (cl : Cl) (i : Expr) (loc : Loc) (Q : CV → CH → Prop) : CV → CH → Prop := fun ov H => wpE cl i loc H (kSub2 ov Q)
@[reducible] def kSl3 (ov : CV) (l : Option Int) (Q : CV → CH → Prop) : Option Int → CH → Prop := fun u H => wpSlice ov l u H Q
@[reducible] def kSl2 (cl : Cl) (hi : Option Expr) (loc : Loc) (ov : CV) (Q : CV → CH → Prop) : Option Int → CH → Prop := fun l H => wpOpt cl hi loc H (kSl3 ov l Q)
@[reducible] def kSl (cl : Cl) (lo hi : Option Expr) (loc : Loc) (Q : CV → CH → Prop) : CV → CH → Prop := fun ov H => wpOpt cl lo loc H (kSl2 cl hi loc ov Q)
@[reducible] def kOpt (Q : Option Int → CH → Prop) : CV → CH → Prop := fun v H => ∃ i, v = .int i ∧ Q (some i) H
@[reducible] def kLst (Q : CV → CH → Prop) : List CV → CH → Prop := fun vs H => allocL vs H Q
@[reducible] def kTup (Q : CV → CH → Prop) : List CV → CH → Prop := fun vs H => Q (.tup vs) H
@[reducible] def kMeth2 (cl : Cl) (m : Str) (ov : CV) (Q : CV → CH → Prop) : List CV → CH → Prop := fun vs H => wpMeth cl ov m vs H Q
@[reducible] def kMeth (cl : Cl) (m : Str) (args : List Expr) (loc : Loc) (Q : CV → CH → Prop) : CV → CH → Prop := fun ov H => methOk ov m H ∧ wpEs cl args loc H (kMeth2 cl m ov Q)
@[reducible] def kTN (Q : Bool → CH → Prop) : Bool → CH → Prop := fun b H => Q (!b) H
@[reducible] def kTA (cl : Cl) (r : List Expr) (p : Pos) (loc : Loc) (Q : Bool → CH → Prop) : Bool → CH → Prop := fun b H => ((b == false) = true → Q b H) ∧ ((b == false) = false → wpT cl (.BoolOp .And r p) loc H Q)
@[reducible] def kTO (cl : Cl) (r : List Expr) (p : Pos) (loc : Loc) (Q : Bool → CH → Prop) : Bool → CH → Prop := fun b H => ((b == true) = true → Q b H) ∧ ((b == true) = false → wpT cl (.BoolOp .Or r p) loc H Q)
@[reducible] def kTB (H : CH) (Q : Bool → CH → Prop) : Bool → Prop := fun t => Q t H
@[reducible] def kTC2 (op : CmpOp) (a : CV) (Q : Bool → CH → Prop) : CV → CH → Prop := fun b H => wpCmp op a b H (kTB H Q)
@[reducible] def kTC (cl : Cl) (rr : Expr) (loc : Loc) (op : CmpOp) (Q : Bool → CH → Prop) : CV → CH → Prop := fun a H => wpE cl rr loc H (kTC2 op a Q)
@[reducible] def kTV (H : CH) (Q : Bool → CH → Prop) : CV → Prop := fun v => wpTruth v (kTB H Q)
@[reducible] def kTAt (n : Str) (Q : Bool → CH → Prop) : CV → CH → Prop := fun ov H => wpAttr ov n H (kTV H Q)
@[reducible] def kTF (Q : Bool → CH → Prop) : CV → CH → Prop := fun v H => wpTruth v (kTB H Q)
@[reducible] def kTCall (cl : Cl) (f : Str) (Q : Bool → CH → Prop) : List CV → CH → Prop := fun vs H => wpFun cl f vs H (kTF Q)
@[reducible] def kTSub2 (ov : CV) (Q : Bool → CH → Prop) : CV → CH → Prop := fun iv H => wpIdx ov iv H (kTV H Q)
@[reducible] def kTSub (cl : Cl) (i : Expr) (loc : Loc) (Q : Bool → CH → Prop) : CV → CH → Prop := fun ov H => wpE cl i loc H (kTSub2 ov Q)
@[reducible] def kHp (loc : Loc) (K : Loc → CH → Prop) : CH → Prop := fun H => K loc H
@[reducible] def kAA (n : Str) (c : CV) (loc : Loc) (K : Loc → CH → Prop) : CV → CH → Prop := fun ov H => wpSetAttr ov n c H (kHp loc K)
@[reducible] def kAS2 (ov c : CV) (loc : Loc) (K : Loc → CH → Prop) : CV → CH → Prop := fun iv H => wpSetIdx ov iv c H (kHp loc K)
@[reducible] def kAS (cl : Cl) (i : Expr) (c : CV) (loc : Loc) (K : Loc → CH → Prop) : CV → CH → Prop := fun ov H => wpE cl i loc H (kAS2 ov c loc K)
@[reducible] def kAs (cl : Cl) (ts : List Expr) (vs : List CV) (K : Loc → CH → Prop) : Loc → CH → Prop := fun loc H => wpAs cl ts vs loc H K
section
variable {cl : Cl} {loc : Loc} {H : CH} {r : List Stmt} {Q : SPost}
noncomputable def thn (cl : Cl) (r : List Stmt) (Q : SPost) : SPost := fun fl loc H => match fl with
  | .next => wpSs cl r loc H Q
  | .ret v => Q (.ret v) loc H
noncomputable def lpe (K : Loc → CH → Prop) (Q : SPost) : SPost := fun fl loc H => match fl with
  | .next => K loc H
  | .ret v => Q (.ret v) loc H
theorem thn_next (h : wpSs cl r loc H Q) : thn cl r Q .next loc H := h
theorem thn_ret {v : CV} (h : Q (.ret v) loc H) : thn cl r Q (.ret v) loc H := h
theorem lpe_next {K : Loc → CH → Prop} (h : K loc H) : lpe K Q .next loc H := h
theorem lpe_ret {K : Loc → CH → Prop} {v : CV} (h : Q (.ret v) loc H) : lpe K Q (.ret v) loc H := h
theorem ss_nil (h : Q .next loc H) : wpSs cl [] loc H Q := h
theorem ss_expr {e : Expr} {p : Pos} (h : wpE cl e loc H (kExpr cl r loc Q)) : wpSs cl (.Expr e p :: r) loc H Q := h
theorem ss_ret {e : Expr} {p : Pos} (h : wpE cl e loc H (kRet loc Q)) : wpSs cl (.Return (some e) p :: r) loc H Q := h
theorem ss_ret0 {p : Pos} (h : Q (.ret .none) loc H) : wpSs cl (.Return none p :: r) loc H Q := h
theorem ss_assign {t v : Expr} {p : Pos} (h : wpE cl v loc H (kAsg cl t loc r Q)) : wpSs cl (.Assign [t] v p :: r) loc H Q := h
theorem ss_if {t : Expr} {b o : List Stmt} {p : Pos} (h : wpT cl t loc H (kIf cl b o loc (thn cl r Q))) : wpSs cl (.If t b o p :: r) loc H Q := h
theorem ss_for {t it : Expr} {b : List Stmt} {p : Pos} (h : wpSrc cl it loc H fun vs g H => forItems g (fun v loc H K => wpA cl t v loc H (kRest cl b (lpe K Q))) vs loc H (kRest cl r Q)) : wpSs cl (.For t it b [] p :: r) loc H Q := h
theorem ss_while {t : Expr} {b : List Stmt} {p : Pos} (I : Nat → Loc → CH → Prop) (h0 : ∃ n loc' H', Weak loc H loc' H' ∧ I n loc' H')
    (h : ∀ n loc H K, Impl (fun loc H => ∃ m, m < n ∧ ∃ loc' H', Weak loc H loc' H' ∧ I m loc' H') K → I n loc H → wpT cl t loc H (kWh cl b r loc (lpe K Q) Q)) : wpSs cl (.While t b [] p :: r) loc H Q := ⟨I, h0, fun n loc H hi => h n loc H _ (fun _ _ x => x) hi⟩
end
section
variable {cl : Cl} {loc : Loc} {H : CH} {Q : CV → CH → Prop} {p : Pos}
theorem e_int {i : Int} {k : Nat} (h : Q (.int i) H) : wpE cl (.Constant (.int i) k p) loc H Q := ⟨_, rfl, h⟩
theorem e_bool {b : Bool} {k : Nat} (h : Q (.bool b) H) : wpE cl (.Constant (.bool b) k p) loc H Q := ⟨_, rfl, h⟩
theorem e_none {k : Nat} (h : Q .none H) : wpE cl (.Constant .none k p) loc H Q := ⟨_, rfl, h⟩
theorem e_str {x : Str} {k : Nat} (h : Q (.str x) H) : wpE cl (.Constant (.str x) k p) loc H Q := ⟨_, rfl, h⟩
theorem n_loc {x : Str} {c : CV} {Q : CV → Prop} (e : look x loc = some c) (h : Q c) : wpName loc x Q := by unfold wpName; rw [e]; exact h
theorem n_glob {x : Str} {c : CV} {Q : CV → Prop} (e : look x loc = none) (e2 : gconst x = some c) (h : Q c) : wpName loc x Q := by unfold wpName; rw [e]; exact ⟨c, e2, h⟩
theorem e_name {x : Str} {c : CV} (e : look x loc = some c) (h : Q c H) : wpE cl (.Name x p) loc H Q := n_loc e h
theorem e_glob {x : Str} {c : CV} (e : look x loc = none) (e2 : gconst x = some c) (h : Q c H) : wpE cl (.Name x p) loc H Q := n_glob e e2 h
theorem e_bin {l rr : Expr} {op : Operator} (h : wpE cl l loc H (kBin cl rr loc op Q)) : wpE cl (.BinOp l op rr p) loc H Q := h
theorem e_neg {x : Expr} (h : wpE cl x loc H (kNeg Q)) : wpE cl (.UnaryOp .USub x p) loc H Q := h
theorem e_not {x : Expr} (h : wpE cl x loc H (kNot Q)) : wpE cl (.UnaryOp .Not x p) loc H Q := h
theorem e_and {e e2 : Expr} {r : List Expr} (h : wpE cl e loc H fun v H => wpTruth v fun b => ((b == false) = true → Q v H) ∧ ((b == false) = false → wpE cl (.BoolOp .And (e2 :: r) p) loc H Q)) : wpE cl (.BoolOp .And (e :: e2 :: r) p) loc H Q := h
theorem e_or {e e2 : Expr} {r : List Expr} (h : wpE cl e loc H fun v H => wpTruth v fun b => ((b == true) = true → Q v H) ∧ ((b == true) = false → wpE cl (.BoolOp .Or (e2 :: r) p) loc H Q)) : wpE cl (.BoolOp .Or (e :: e2 :: r) p) loc H Q := h
theorem e_bool1 {op : BoolOp} {e : Expr} (h : wpE cl e loc H Q) : wpE cl (.BoolOp op [e] p) loc H Q := h
theorem e_ifexp {t b o : Expr} (h : wpT cl t loc H fun c H => (c = true → wpE cl b loc H Q) ∧ (c = false → wpE cl o loc H Q)) : wpE cl (.IfExp t b o p) loc H Q := h
theorem e_list {es : List Expr} (h : wpEs cl es loc H (kLst Q)) : wpE cl (.List es p) loc H Q := h
theorem e_tuple {es : List Expr} {k : Nat} (h : wpEs cl es loc H (kTup Q)) : wpE cl (.Tuple es k p) loc H Q := h
theorem e_comp {elt : Expr} {gens : List Comprehension} {sc : Scope} (h : wpComp cl (fun inl acc H K => wpE cl elt inl H fun v H => acc.length < cap ∧ K (acc ++ [v]) H) (freeLoc sc loc) gens loc H (kLst Q)) : wpE cl (.ListComp elt gens sc p) loc H Q := h
theorem e_cmp {l rr : Expr} {op : CmpOp} (h : wpE cl l loc H (kCmp cl rr loc op Q)) : wpE cl (.Compare l [op] [rr] p) loc H Q := h
theorem e_cmp2 {l m rr : Expr} {op1 op2 : CmpOp} (h : wpE cl l loc H fun a H => wpE cl m loc H fun b H => wpCmp op1 a b H fun t =>
      (t = false → Q (.bool false) H) ∧ (t = true → wpE cl rr loc H fun c H => wpCmp op2 b c H fun t => Q (.bool t) H)) : wpE cl (.Compare l [op1, op2] [m, rr] p) loc H Q := h
theorem e_call {f : Str} {fp : Pos} {args : List Expr} (h : wpEs cl args loc H (kCall cl f Q)) : wpE cl (.Call (.Name f fp) args [] p) loc H Q := h
theorem e_meth {o : Expr} {m : Str} {ap : Pos} {args : List Expr} (h : wpE cl o loc H (kMeth cl m args loc Q)) : wpE cl (.Call (.Attribute o m ap) args [] p) loc H Q := h
theorem e_attr {o : Expr} {n : Str} (h : wpE cl o loc H (kAttr n Q)) : wpE cl (.Attribute o n p) loc H Q := h
theorem e_slice {v : Expr} {lo hi : Option Expr} {sp : Pos} (h : wpE cl v loc H (kSl cl lo hi loc Q)) : wpE cl (.Subscript v (.Slice lo hi none sp) p) loc H Q := h
theorem e_subI {v : Expr} {c : Const} {k : Nat} {q : Pos} (h : wpE cl v loc H (kSub cl (.Constant c k q) loc Q)) : wpE cl (.Subscript v (.Constant c k q) p) loc H Q := h
theorem e_subN {v : Expr} {x : Str} {q : Pos} (h : wpE cl v loc H (kSub cl (.Name x q) loc Q)) : wpE cl (.Subscript v (.Name x q) p) loc H Q := h
theorem e_subB {v l rr : Expr} {op : Operator} {q : Pos} (h : wpE cl v loc H (kSub cl (.BinOp l op rr q) loc Q)) : wpE cl (.Subscript v (.BinOp l op rr q) p) loc H Q := h
theorem e_subU {v x : Expr} {op : UnaryOp} {q : Pos} (h : wpE cl v loc H (kSub cl (.UnaryOp op x q) loc Q)) : wpE cl (.Subscript v (.UnaryOp op x q) p) loc H Q := h
theorem e_subS {v o i : Expr} {q : Pos} (h : wpE cl v loc H (kSub cl (.Subscript o i q) loc Q)) : wpE cl (.Subscript v (.Subscript o i q) p) loc H Q := h
theorem e_dict {ks : List (Option Expr)} {vs : List Expr} (h : wpEs cl vs loc H fun ws H => ∃ xs, dictKeys ks = some xs ∧ ∀ d, H d = Option.none → Q (.dct d) (H.set d (.map (xs.zip ws)))) : wpE cl (.Dict ks vs p) loc H Q := h
theorem o_none {Q : Option Int → CH → Prop} (h : Q none H) : wpOpt cl none loc H Q := h
theorem o_some {e : Expr} {Q : Option Int → CH → Prop} (h : wpE cl e loc H (kOpt Q)) : wpOpt cl (some e) loc H Q := h
theorem es_nil {Q : List CV → CH → Prop} (h : Q [] H) : wpEs cl [] loc H Q := h
theorem es_cons {e : Expr} {r : List Expr} {Q : List CV → CH → Prop} (h : wpE cl e loc H (kEs cl r loc Q)) : wpEs cl (e :: r) loc H Q := h
theorem ex_int {i : Int} {P : Int → Prop} (h : P i) : ∃ j, CV.int i = .int j ∧ P j := ⟨i, rfl, h⟩
theorem tr_bool {b : Bool} {Q : Bool → Prop} (h : Q b) : wpTruth (.bool b) Q := h
end
section
variable {cl : Cl} {loc : Loc} {H : CH} {p : Pos} {Q : Bool → CH → Prop}
theorem t_not {x : Expr} (h : wpT cl x loc H (kTN Q)) : wpT cl (.UnaryOp .Not x p) loc H Q := h
theorem t_and0 (h : Q true H) : wpT cl (.BoolOp .And [] p) loc H Q := h
theorem t_or0 (h : Q false H) : wpT cl (.BoolOp .Or [] p) loc H Q := h
theorem t_and {e : Expr} {r : List Expr} (h : wpT cl e loc H (kTA cl r p loc Q)) : wpT cl (.BoolOp .And (e :: r) p) loc H Q := h
theorem t_or {e : Expr} {r : List Expr} (h : wpT cl e loc H (kTO cl r p loc Q)) : wpT cl (.BoolOp .Or (e :: r) p) loc H Q := h
theorem t_cmp {l rr : Expr} {op : CmpOp} (h : wpE cl l loc H (kTC cl rr loc op Q)) : wpT cl (.Compare l [op] [rr] p) loc H Q := h
theorem t_cmp2 {l m rr : Expr} {op1 op2 : CmpOp} (h : wpE cl l loc H fun a H => wpE cl m loc H fun b H => wpCmp op1 a b H fun t =>
      (t = false → Q false H) ∧ (t = true → wpE cl rr loc H fun c H => wpCmp op2 b c H fun t => Q t H)) : wpT cl (.Compare l [op1, op2] [m, rr] p) loc H Q := h
theorem t_name {x : Str} {b : Bool} (e : look x loc = some (.bool b)) (h : Q b H) : wpT cl (.Name x p) loc H Q := n_loc e h
theorem t_attr {o : Expr} {n : Str} (h : wpE cl o loc H (kTAt n Q)) : wpT cl (.Attribute o n p) loc H Q := h
theorem t_call {f : Str} {fp : Pos} {args : List Expr} (h : wpEs cl args loc H (kTCall cl f Q)) : wpT cl (.Call (.Name f fp) args [] p) loc H Q := h
theorem t_subI {v : Expr} {c : Const} {k : Nat} {q : Pos} (h : wpE cl v loc H (kTSub cl (.Constant c k q) loc Q)) : wpT cl (.Subscript v (.Constant c k q) p) loc H Q := h
end
section
variable {cl : Cl} {loc : Loc} {H : CH} {p : Pos} {K : Loc → CH → Prop} {c : CV}
theorem a_name {x : Str} {loc' : Loc} (e : put x c loc = loc') (h : K loc' H) : wpA cl (.Name x p) c loc H K := by subst e; exact h
theorem a_attr {o : Expr} {n : Str} (h : wpE cl o loc H (kAA n c loc K)) : wpA cl (.Attribute o n p) c loc H K := h
theorem a_sub {o i : Expr} (h : wpE cl o loc H (kAS cl i c loc K)) : wpA cl (.Subscript o i p) c loc H K := h
theorem a_tup {ts : List Expr} {k : Nat} {vs : List CV} (e : (vs.length == ts.length) = true) (h : wpAs cl ts vs loc H K) : wpA cl (.Tuple ts k p) (.tup vs) loc H K := ⟨vs, rfl, beq_iff_eq.mp e, h⟩
theorem as_nil (h : K loc H) : wpAs cl [] [] loc H K := h
theorem as_cons {t : Expr} {ts : List Expr} {v : CV} {vs : List CV} (h : wpA cl t v loc H (kAs cl ts vs K)) : wpAs cl (t :: ts) (v :: vs) loc H K := h
end
section
variable {H : CH} {Q : CV → CH → Prop}
theorem b_addi {i j : Int} (h : Q (.int (i + j)) H) : wpBin .Add (.int i) (.int j) H Q := .inl ⟨i, j, rfl, rfl, h⟩
theorem b_subi {i j : Int} (h : Q (.int (i - j)) H) : wpBin .Sub (.int i) (.int j) H Q := ⟨i, j, rfl, rfl, h⟩
theorem c_lt {i j : Int} {Q : Bool → Prop} (h : Q (decide (i < j))) : wpCmp .Lt (.int i) (.int j) H Q := ⟨i, j, rfl, rfl, h⟩
theorem c_le {i j : Int} {Q : Bool → Prop} (h : Q (decide (i ≤ j))) : wpCmp .LtE (.int i) (.int j) H Q := ⟨i, j, rfl, rfl, h⟩
theorem c_gt {i j : Int} {Q : Bool → Prop} (h : Q (decide (i > j))) : wpCmp .Gt (.int i) (.int j) H Q := ⟨i, j, rfl, rfl, h⟩
theorem c_ge {i j : Int} {Q : Bool → Prop} (h : Q (decide (i ≥ j))) : wpCmp .GtE (.int i) (.int j) H Q := ⟨i, j, rfl, rfl, h⟩
theorem c_eqi {i j : Int} {Q : Bool → Prop} (h : Q (decide (i = j))) : wpCmp .Eq (.int i) (.int j) H Q := ⟨trivial, trivial, h⟩
theorem c_nei {i j : Int} {Q : Bool → Prop} (h : Q (!decide (i = j))) : wpCmp .NotEq (.int i) (.int j) H Q := ⟨trivial, trivial, h⟩
end
end

/-! part C2m -/
noncomputable section
/-! the clean semantics is monotone -/
noncomputable def MonoC (cl : Cl) : Prop := ∀ (C f : Str) (args : List CV) (H : CH) (Q Q' : CV → CH → Prop), (∀ c H, Q c H → Q' c H) → cl C f args H Q → cl C f args H Q'
section
variable {cl : Cl}
noncomputable abbrev QL (Q Q' : CV → CH → Prop) : Prop := ∀ c H, Q c H → Q' c H
theorem allocL_mono {vs : List CV} {H : CH} {Q Q' : CV → CH → Prop} (hq : QL Q Q') (h : allocL vs H Q) : allocL vs H Q' := ⟨h.1, h.2.elim (fun h => .inl (hq _ _ h)) fun h => .inr fun a ha => hq _ _ (h a ha)⟩
theorem bin_mono {op : Operator} {a b : CV} {H : CH} {Q Q' : CV → CH → Prop} (hq : QL Q Q') (h : wpBin op a b H Q) : wpBin op a b H Q' := by
  induction op using PySem.Operator.casesOn with
  | Add => exact h.imp (fun h => ex2 h fun i j h => (exI2 i j ⟨h.1, h.2.1, hq _ _ h.2.2⟩)) fun h => h.imp (fun h => ex2 h fun i j h => (exI2 i j ⟨h.1, h.2.1, h.2.2.1, h.2.2.2.1, h.2.2.2.2.1, hq _ _ h.2.2.2.2.2⟩)) fun h => ex2 h fun i j h => (exI2 i j ⟨h.1, h.2.1, allocL_mono hq h.2.2⟩)
  | Sub => exact ex2 h fun i j h => (exI2 i j ⟨h.1, h.2.1, hq _ _ h.2.2⟩)
  | Mult => exact h.imp (fun h => ex2 h fun i j h => (exI2 i j ⟨h.1, h.2.1, h.2.2.1, hq _ _ h.2.2.2⟩)) fun h => ex2 h fun i j h => (exI2 i j ⟨h.1, h.2.1, h.2.2.1, h.2.2.2.1, allocL_mono hq h.2.2.2.2⟩)
  | FloorDiv => exact ex2 h fun i j h => (exI2 i j ⟨h.1, h.2.1, h.2.2.1, hq _ _ h.2.2.2⟩)
  | Mod => exact ex2 h fun i j h => (exI2 i j ⟨h.1, h.2.1, h.2.2.1, hq _ _ h.2.2.2⟩)
  | _ => exact h.elim
theorem idx_mono {ov iv : CV} {H : CH} {Q Q' : CV → Prop} (hq : ∀ c, Q c → Q' c) (h : wpIdx ov iv H Q) : wpIdx ov iv H Q' :=
  h.imp (fun h => ex3 h fun i j k h => (exI3 i j k ⟨h.1, h.2.1, h.2.2.1, hq _ h.2.2.2⟩)) fun h => h.imp (fun h => ex4 h fun i j k l h => (exI4 i j k l ⟨h.1, h.2.1, h.2.2.1, h.2.2.2.1, hq _ h.2.2.2.2⟩)) fun h => ex3 h fun i j k h => (exI3 i j k ⟨h.1, h.2.1, h.2.2.1, hq _ h.2.2.2⟩)
theorem attr_mono {ov : CV} {n : Str} {H : CH} {Q Q' : CV → Prop} (hq : ∀ c, Q c → Q' c) (h : wpAttr ov n H Q) : wpAttr ov n H Q' := by
  induction ov using Mine.CV.casesOn with
  | obj C d => exact ⟨h.1, ex2 h.2 fun es c h => (exI2 es c ⟨h.1, h.2.1, hq _ h.2.2⟩)⟩
  | ins C ks vs => exact ⟨h.1, h.2.elim fun c h => ⟨c, h.1, hq _ h.2⟩⟩
  | _ => exact h.elim
theorem truth_mono {v : CV} {Q Q' : Bool → Prop} (hq : ∀ b, Q b → Q' b) (h : wpTruth v Q) : wpTruth v Q' := by
  induction v using Mine.CV.casesOn with
  | bool b => exact hq _ h
  | _ => exact h.elim
theorem eq_mono {a b : CV} {H : CH} {Q Q' : Bool → Prop} (hq : ∀ b, Q b → Q' b) (h : wpEq a b H Q) : wpEq a b H Q' := ⟨h.1, h.2.1, hq _ h.2.2⟩
theorem cmp_mono {op : CmpOp} {a b : CV} {H : CH} {Q Q' : Bool → Prop} (hq : ∀ b, Q b → Q' b) (h : wpCmp op a b H Q) : wpCmp op a b H Q' := by
  induction op using PySem.CmpOp.casesOn with
  | Eq => exact eq_mono hq h
  | NotEq => exact eq_mono (fun b => hq _) h
  | Lt | LtE | Gt | GtE => (refine ex2 h fun i j zr6g => ?_; refine and3 zr6g fun e e2 h => ?_; clear zr6g); exact (exI2 i j ⟨e, e2, hq _ h⟩)
  | _ => exact h.elim
theorem name_mono {loc : Loc} {x : Str} {Q Q' : CV → Prop} (hq : ∀ c, Q c → Q' c) (h : wpName loc x Q) : wpName loc x Q' := by
  revert h
  unfold wpName
  cases look x loc with
  | some c => exact hq _
  | none => exact fun h => h.elim fun c h => ⟨c, h.1, hq _ h.2⟩
theorem mm_mono {mn : Bool} {vs : List CV} {H : CH} {Q Q' : CV → CH → Prop} (hq : QL Q Q') (h : wpMinMax mn vs H Q) : wpMinMax mn vs H Q' :=
  h.imp (fun h => ex2 h fun i j h => (exI2 i j ⟨h.1, hq _ _ h.2⟩)) fun h => ⟨h.1, ex4 h.2 fun i j k l h => (exI4 i j k l ⟨h.1, h.2.1, h.2.2.1, hq _ _ h.2.2.2⟩)⟩
theorem fun_mono (hc : MonoC cl) {f : Str} {vs : List CV} {H : CH} {Q Q' : CV → CH → Prop} (hq : QL Q Q') (h : wpFun cl f vs H Q) : wpFun cl f vs H Q' :=
  h.imp (fun h => ⟨h.1, ex2 h.2 fun i j h => (exI2 i j ⟨h.1, h.2.1, hq _ _ h.2.2⟩)⟩) fun h => h.imp (fun h => ⟨h.1, mm_mono hq h.2⟩) fun h => h.imp (fun h => ⟨h.1, mm_mono hq h.2⟩) fun h => h.imp (fun h => ⟨h.1, ex2 h.2 fun i j h => (exI2 i j ⟨h.1, h.2.1, allocL_mono hq h.2.2⟩)⟩) fun h =>
    h.imp (fun h => ⟨h.1, h.2.imp (fun h => h.elim fun i h => ⟨i, h.1, hq _ _ h.2⟩) fun h => h.elim fun i h => ⟨i, h.1, hq _ _ h.2⟩⟩) fun h => h.imp (fun h => ⟨h.1, fun d hd => hc _ _ _ _ _ _ (fun _ _ h => ⟨h.1, hq _ _ h.2⟩) (h.2 d hd)⟩) fun h => ⟨h.1, hc _ _ _ _ _ _ hq h.2⟩
theorem meth_mono (hc : MonoC cl) {ov : CV} {m : Str} {args : List CV} {H : CH} {Q Q' : CV → CH → Prop} (hq : QL Q Q') (h : wpMeth cl ov m args H Q) : wpMeth cl ov m args H Q' := by
  induction ov using Mine.CV.casesOn with
  | ref a => exact h.imp (fun h => ⟨h.1, ex2 h.2 fun i j h => (exI2 i j ⟨h.1, h.2.1, h.2.2.1, hq _ _ h.2.2.2⟩)⟩) fun h => h.imp (fun h => ⟨h.1, ex3 h.2 fun i j k h => (exI3 i j k ⟨h.1, h.2.1, h.2.2.1, h.2.2.2.1, h.2.2.2.2.1, hq _ _ h.2.2.2.2.2⟩)⟩) fun h => ⟨h.1, h.2.1, ex2 h.2.2 fun i j h => (exI2 i j ⟨h.1, hq _ _ h.2⟩)⟩
  | obj C d => exact hc _ _ _ _ _ _ hq h
  | _ => exact h.elim
theorem iter_mono {v : CV} {H : CH} {K K' : List CV → Option (Addr × List CV) → Prop} (hq : ∀ vs g, K vs g → K' vs g) (h : wpIter v H K) : wpIter v H K' := by
  induction v using Mine.CV.casesOn with
  | lst vs => exact hq _ _ h
  | ref a => exact h.elim fun vs h => ⟨vs, h.1, hq _ _ h.2⟩
  | _ => exact h.elim
theorem slice_mono {ov : CV} {lo hi : Option Int} {H : CH} {Q Q' : CV → CH → Prop} (hq : QL Q Q') (h : wpSlice ov lo hi H Q) : wpSlice ov lo hi H Q' :=
  h.elim fun vs zz1 => zz1.elim fun e h =>  ⟨vs, e, allocL_mono hq h⟩
theorem compItems_mono {g : Option (Addr × List CV)} {step step' : CV → List CV → CH → (List CV → CH → Prop) → Prop} (hs : ∀ v acc H K K', (∀ acc H, K acc H → K' acc H) → step v acc H K → step' v acc H K') :
    ∀ (vs acc : List CV) (H : CH) (Q Q' : List CV → CH → Prop), (∀ acc H, Q acc H → Q' acc H) → compItems g step vs acc H Q → compItems g step' vs acc H Q'
  | [], _, _, _, _, hq, h => ⟨h.1, hq _ _ h.2⟩
  | v :: vs, _, _, _, _, hq, h => ⟨h.1, hs _ _ _ _ _ (fun _ _ h => compItems_mono hs vs _ _ _ _ hq h) h.2⟩
theorem bindNames_mono {K K' : Loc → Prop} (hk : ∀ l, K l → K' l) : ∀ (ts : List Expr) (vs : List CV) (loc : Loc), bindNames ts vs loc K → bindNames ts vs loc K'
  | [], [], _, h => hk _ h
  | [], _ :: _, _, h => h.elim
  | t :: ts, [], _, h => by induction t using PySem.Expr.casesOn <;> exact h.elim
  | t :: ts, v :: vs, loc, h => by
    induction t using PySem.Expr.casesOn with
    | Name x p => exact ⟨h.1, bindNames_mono hk ts vs _ h.2⟩
    | _ => exact h.elim
theorem bind_mono {t : Expr} {v : CV} {loc : Loc} {K K' : Loc → Prop} (hk : ∀ l, K l → K' l) (h : wpBind t v loc K) : wpBind t v loc K' := by
  induction t using PySem.Expr.casesOn with
  | Name x p => exact ⟨h.1, hk _ h.2⟩
  | Tuple ts k p => induction v using Mine.CV.casesOn with
    | tup vs => exact bindNames_mono hk _ _ _ h
    | _ => exact h.elim
  | _ => exact h.elim
noncomputable def ME (cl : Cl) (e : Expr) : Prop := ∀ (loc : Loc) (H : CH) (Q Q' : CV → CH → Prop), QL Q Q' → wpE cl e loc H Q → wpE cl e loc H Q'
noncomputable def MT (cl : Cl) (e : Expr) : Prop := ∀ (loc : Loc) (H : CH) (Q Q' : Bool → CH → Prop), (∀ b H, Q b H → Q' b H) → wpT cl e loc H Q → wpT cl e loc H Q'
noncomputable def MS (cl : Cl) (e : Expr) : Prop := ∀ (loc : Loc) (H : CH) (K K' : List CV → Option (Addr × List CV) → CH → Prop), (∀ vs g H, K vs g H → K' vs g H) → wpSrc cl e loc H K → wpSrc cl e loc H K'
noncomputable def EmM (emit emit' : Emit) : Prop := ∀ (loc : Loc) (acc : List CV) (H : CH) (K K' : List CV → CH → Prop), (∀ acc H, K acc H → K' acc H) → emit loc acc H K → emit' loc acc H K'
noncomputable def MG (cl : Cl) (gs : List Comprehension) : Prop := ∀ (emit emit' : Emit), EmM emit emit' → ∀ (loc : Loc) (acc : List CV) (H : CH) (K K' : List CV → CH → Prop), (∀ acc H, K acc H → K' acc H) → wpGens cl emit gs loc acc H K → wpGens cl emit' gs loc acc H K'
theorem mEs : ∀ {es : List Expr}, (∀ e ∈ es, ME cl e) → ∀ (loc : Loc) (H : CH) (Q Q' : List CV → CH → Prop), (∀ vs H, Q vs H → Q' vs H) → wpEs cl es loc H Q → wpEs cl es loc H Q'
  | [], _, _, _, _, _, hq, h => hq _ _ h
  | e :: es, he, loc, H, Q, Q', hq, h => he e (.head _) loc H _ _ (fun v H h => mEs (fun e m => he e (.tail _ m)) loc H _ _ (fun vs H h => hq _ _ h) h) h
theorem mTs {op : BoolOp} : ∀ {es : List Expr}, (∀ e ∈ es, MT cl e) → ∀ (loc : Loc) (H : CH) (Q Q' : Bool → CH → Prop), (∀ b H, Q b H → Q' b H) → wpTs cl op es loc H Q → wpTs cl op es loc H Q'
  | [], _, _, _, _, _, hq, h => hq _ _ h
  | e :: es, he, loc, H, Q, Q', hq, h => he e (.head _) loc H _ _ (fun v H h => ⟨fun z => hq _ _ (h.1 z), fun z => mTs (fun e m => he e (.tail _ m)) loc H _ _ hq (h.2 z)⟩) h
theorem mBs {op : BoolOp} : ∀ {es : List Expr}, (∀ e ∈ es, ME cl e) → ∀ (loc : Loc) (H : CH) (Q Q' : CV → CH → Prop), QL Q Q' → wpBools cl op es loc H Q → wpBools cl op es loc H Q'
  | [], _, _, _, _, _, _, h => h.elim
  | [e], he, loc, H, Q, Q', hq, h => he e (.head _) loc H _ _ hq h
  | e :: e2 :: es, he, loc, H, Q, Q', hq, h => he e (.head _) loc H _ _ (fun v H h => truth_mono (fun b h => ⟨fun z => hq _ _ (h.1 z), fun z => mBs (fun e m => he e (.tail _ m)) loc H _ _ hq (h.2 z)⟩) h) h
theorem mO {o : Option Expr} (he : ∀ e, o = some e → ME cl e) (loc : Loc) (H : CH) (Q Q' : Option Int → CH → Prop) (hq : ∀ o H, Q o H → Q' o H) (h : wpOpt cl o loc H Q) : wpOpt cl o loc H Q' := by
  induction o using Option.casesOn with
  | none => exact hq _ _ h
  | some e => exact he e rfl loc H _ _ (fun v H zz1 => zz1.elim fun i zz2 => zz2.elim fun e h => ⟨i, e, hq _ _ h⟩) h
theorem mGens {t it : Expr} {ifs : List Expr} {k : Int} {gs : List Comprehension} (hs : MS cl it) (ht : ∀ e ∈ ifs, MT cl e) (hg : MG cl gs) : MG cl (⟨t, it, ifs, k⟩ :: gs) := by
  intro emit emit' he loc acc H K K' hk h
  rcases k with (_ | k) | k
  · exact hs loc H _ _ (fun vs g H h => compItems_mono (fun v acc H K K' hk h => bind_mono (fun l h => mTs ht l H _ _ (fun b H h => ⟨fun z => hk _ _ (h.1 z), fun z => hg emit emit' he l acc H _ _ hk (h.2 z)⟩) h) h) vs acc H _ _ hk h) h
  · exact h.elim
  · exact h.elim
theorem mComp {t it : Expr} {ifs : List Expr} {k : Int} {gs : List Comprehension} {emit : Emit} {inl loc : Loc} {H : CH} {Q Q' : List CV → CH → Prop} (hem : EmM emit emit) (hs : MS cl it) (ht : ∀ e ∈ ifs, MT cl e) (hg : MG cl gs) (hq : ∀ vs H, Q vs H → Q' vs H) (h : wpComp cl emit inl (⟨t, it, ifs, k⟩ :: gs) loc H Q) : wpComp cl emit inl (⟨t, it, ifs, k⟩ :: gs) loc H Q' := by
  rcases k with (_ | k) | k
  · exact hs loc H _ _ (fun vs g H h => compItems_mono (fun v acc H K K' hk h => bind_mono (fun l h => mTs ht l H _ _ (fun b H h => ⟨fun z => hk _ _ (h.1 z), fun z => hg emit emit hem l acc H _ _ hk (h.2 z)⟩) h) h) vs [] H _ _ hq h) h
  · exact h.elim
  · exact h.elim
structure AllM (cl : Cl) (m : Nat) : Prop where
  E : ∀ e : Expr, sizeOf e < m → ME cl e
  B : ∀ e : Expr, sizeOf e < m → MT cl e
  S : ∀ e : Expr, sizeOf e < m → MS cl e
  G : ∀ gs : List Comprehension, sizeOf gs < m → MG cl gs
theorem AllM.Es {m : Nat} (I : AllM cl m) {es : List Expr} (hs : sizeOf es < m) : ∀ e ∈ es, ME cl e := fun e he => I.E e (Nat.lt_trans (List.sizeOf_lt_of_mem he) hs)
theorem AllM.Ts {m : Nat} (I : AllM cl m) {es : List Expr} (hs : sizeOf es < m) : ∀ e ∈ es, MT cl e := fun e he => I.B e (Nat.lt_trans (List.sizeOf_lt_of_mem he) hs)
theorem AllM.O {m : Nat} (I : AllM cl m) {o : Option Expr} (hs : sizeOf o < m) : ∀ e, o = some e → ME cl e := fun e he => I.E e (by subst he; simp at hs; lia)
theorem all_M (hc : MonoC cl) : ∀ m, AllM cl m
  | 0 => ⟨fun _ h => absurd h (Nat.not_lt_zero _), fun _ h => absurd h (Nat.not_lt_zero _), fun _ h => absurd h (Nat.not_lt_zero _), fun _ h => absurd h (Nat.not_lt_zero _)⟩
  | m + 1 => by
    have I := all_M hc m
    refine ⟨fun e hs => ?_, fun e hs => ?_, fun e hs => ?_, fun gs hs => ?_⟩
    · intro loc H Q Q' hq h
      cases e with
      | Constant c k p => (refine Exists.elim h fun v zr5g => ?_; refine And.elim (fun e h => ?_) zr5g; clear zr5g); exact ⟨v, e, hq _ _ h⟩
      | Name x p => exact name_mono (fun c h => hq _ _ h) h
      | BinOp l op r p => simp at hs; exact I.E l (by lia) loc H _ _ (fun a H h => I.E r (by lia) loc H _ _ (fun b H h => bin_mono hq h) h) h
      | UnaryOp op x p =>
        simp at hs
        refine I.E x (by lia) loc H _ _ (fun v H h => ?_) h
        induction op using PySem.UnaryOp.casesOn with
        | USub => obtain ⟨i, e, h⟩ := h; exact ⟨i, e, hq _ _ h⟩
        | Not => exact truth_mono (fun b h => hq _ _ h) h
        | _ => exact h.elim
      | BoolOp op es p => simp at hs; exact mBs (I.Es (by lia)) loc H _ _ hq h
      | IfExp t b o p => simp at hs; exact I.B t (by lia) loc H _ _ (fun c H h => ⟨fun z => I.E b (by lia) loc H _ _ hq (h.1 z), fun z => I.E o (by lia) loc H _ _ hq (h.2 z)⟩) h
      | Dict ks vs p => simp at hs; exact mEs (I.Es (by lia)) loc H _ _ (fun ws H zz3 => zz3.elim fun xs zz4 => zz4.elim fun e h => ⟨xs, e, fun d hd => hq _ _ (h d hd)⟩) h
      | List es p => simp at hs; exact mEs (I.Es (by lia)) loc H _ _ (fun ws H h => allocL_mono hq h) h
      | Tuple es k p => simp at hs; exact mEs (I.Es (by lia)) loc H _ _ (fun ws H h => hq _ _ h) h
      | ListComp elt gens sc p =>
        induction gens using List.casesOn with
        | nil => exact h.elim
        | cons g0 gs =>
          obtain ⟨t, it, ifs, k⟩ := g0
          simp at hs
          exact mComp (fun inl acc H K K' hk h => I.E elt (by lia) inl H _ _ (fun v H h => ⟨h.1, hk _ _ h.2⟩) h) (I.S it (by lia)) (I.Ts (by lia)) (I.G gs (by lia)) (fun vs H h => allocL_mono hq h) h
      | Compare l ops rs p =>
        simp at hs
        have hl := I.E l (by lia)
        have hr := I.Es (es := rs) (by lia)
        match ops, rs, hr, h with
        | [op], [r], hr, h => exact hl loc H _ _ (fun a H h => hr r (.head _) loc H _ _ (fun b H h => cmp_mono (fun t h => hq _ _ h) h) h) h
        | [op1, op2], [m, r], hr, h => exact hl loc H _ _ (fun a H h => hr m (.head _) loc H _ _ (fun b H h => cmp_mono (fun t h => ⟨fun z => hq _ _ (h.1 z), fun z => hr r (.tail _ (.head _)) loc H _ _ (fun c H h => cmp_mono (fun t h => hq _ _ h) h) (h.2 z)⟩) h) h) h
        | [], _, _, h => exact h.elim
        | [_], [], _, h => exact h.elim
        | [_], _ :: _ :: _, _, h => exact h.elim
        | [_, _], [], _, h => exact h.elim
        | [_, _], [_], _, h => exact h.elim
        | [_, _], _ :: _ :: _ :: _, _, h => exact h.elim
        | _ :: _ :: _ :: _, _, _, h => exact h.elim
      | Call f args kws p =>
        cases kws with
        | cons _ _ => induction f using PySem.Expr.casesOn <;> exact h.elim
        | nil =>
          induction f using PySem.Expr.casesOn with
          | Name f fp => simp at hs; exact mEs (I.Es (by lia)) loc H _ _ (fun ws H h => fun_mono hc hq h) h
          | Attribute o m ap => simp at hs; exact I.E o (by lia) loc H _ _ (fun v H h => ⟨h.1, mEs (I.Es (by lia)) loc H _ _ (fun ws H h => meth_mono hc hq h) h.2⟩) h
          | _ => exact h.elim
      | Attribute o n p => simp at hs; exact I.E o (by lia) loc H _ _ (fun v H h => attr_mono (fun c h => hq _ _ h) h) h
      | Subscript v i p =>
        simp at hs
        have hv := I.E v (by lia)
        have other : wpE cl v loc H (fun ov H => wpE cl i loc H fun iv H => wpIdx ov iv H fun c => Q c H) → wpE cl v loc H (fun ov H => wpE cl i loc H fun iv H => wpIdx ov iv H fun c => Q' c H) :=
          fun h => hv loc H _ _ (fun a H h => I.E i (by lia) loc H _ _ (fun b H h => idx_mono (fun c h => hq _ _ h) h) h) h
        induction i using PySem.Expr.casesOn with
        | Slice lo hi st sp =>
          induction st using Option.casesOn with
          | none => simp at hs; exact hv loc H _ _ (fun a H h => mO (I.O (by lia)) loc H _ _ (fun l H h => mO (I.O (by lia)) loc H _ _ (fun u H h => slice_mono hq h) h) h) h
          | some st => exact other h
        | _ => exact other h
      | _ => exact h.elim
    · intro loc H Q Q' hq h
      cases e with
      | UnaryOp op x p =>
        simp at hs
        induction op using PySem.UnaryOp.casesOn with
        | Not => exact I.B x (by lia) loc H _ _ (fun b H h => hq _ _ h) h
        | _ => exact h.elim
      | BoolOp op es p => simp at hs; exact mTs (I.Ts (by lia)) loc H _ _ hq h
      | Compare l ops rs p =>
        simp at hs
        have hl := I.E l (by lia)
        have hr := I.Es (es := rs) (by lia)
        match ops, rs, hr, h with
        | [op], [r], hr, h => exact hl loc H _ _ (fun a H h => hr r (.head _) loc H _ _ (fun b H h => cmp_mono (fun t h => hq _ _ h) h) h) h
        | [op1, op2], [m, r], hr, h => exact hl loc H _ _ (fun a H h => hr m (.head _) loc H _ _ (fun b H h => cmp_mono (fun t h => ⟨fun z => hq _ _ (h.1 z), fun z => hr r (.tail _ (.head _)) loc H _ _ (fun c H h => cmp_mono (fun t h => hq _ _ h) h) (h.2 z)⟩) h) h) h
        | [], _, _, h => exact h.elim
        | [_], [], _, h => exact h.elim
        | [_], _ :: _ :: _, _, h => exact h.elim
        | [_, _], [], _, h => exact h.elim
        | [_, _], [_], _, h => exact h.elim
        | [_, _], _ :: _ :: _ :: _, _, h => exact h.elim
        | _ :: _ :: _ :: _, _, _, h => exact h.elim
      | Name x p => exact name_mono (fun c h => truth_mono (fun b h => hq _ _ h) h) h
      | Attribute o n p => simp at hs; exact I.E o (by lia) loc H _ _ (fun v H h => attr_mono (fun c h => truth_mono (fun b h => hq _ _ h) h) h) h
      | Call f args kws p =>
        cases kws with
        | cons _ _ => induction f using PySem.Expr.casesOn <;> exact h.elim
        | nil =>
          induction f using PySem.Expr.casesOn with
          | Name f fp => simp at hs; exact mEs (I.Es (by lia)) loc H _ _ (fun ws H h => fun_mono hc (fun v H h => truth_mono (fun b h => hq _ _ h) h) h) h
          | _ => exact h.elim
      | Subscript v i p => simp at hs; exact I.E v (by lia) loc H _ _ (fun a H h => I.E i (by lia) loc H _ _ (fun b H h => idx_mono (fun c h => truth_mono (fun b h => hq _ _ h) h) h) h) h
      | _ => exact h.elim
    · intro loc H K K' hq h
      cases e with
      | Name x p => exact name_mono (fun c h => iter_mono (fun vs g h => hq _ _ _ h) h) h
      | Attribute o n p => simp at hs; exact I.E o (by lia) loc H _ _ (fun v H h => attr_mono (fun c h => iter_mono (fun vs g h => hq _ _ _ h) h) h) h
      | Call f args kws p =>
        cases kws with
        | cons _ _ =>
          induction f using PySem.Expr.casesOn with
          | Name f fp => induction args using List.casesOn with
            | nil => exact h.elim
            | cons a r => induction r using List.casesOn <;> exact h.elim
          | _ => exact h.elim
        | nil =>
          induction f using PySem.Expr.casesOn with
          | Name f fp =>
            simp at hs
            have many : ∀ {args : List Expr}, sizeOf args < m → wpEs cl args loc H (fun vs H => wpFun cl f vs H fun r H => wpIter r H fun vs g => K vs g H) → wpEs cl args loc H (fun vs H => wpFun cl f vs H fun r H => wpIter r H fun vs g => K' vs g H) := fun ha h =>
              mEs (I.Es ha) loc H _ _ (fun ws H h => fun_mono hc (fun r H h => iter_mono (fun vs g h => hq _ _ _ h) h) h) h
            match args, hs, h with
            | [e], hs, h =>
              simp at hs
              refine I.E e (by lia) loc H (fun v H =>
                if f = "range" then ∃ n, v = .int n ∧ (-1000000 < n ∧ n < 1000000) ∧ K (rangeItems n) Option.none H
                else if f = "enumerate" then wpIter v H fun vs g => K (enumItems vs) g H
                else wpFun cl f [v] H fun r H => wpIter r H fun vs g => K vs g H) (fun v H =>
                if f = "range" then ∃ n, v = .int n ∧ (-1000000 < n ∧ n < 1000000) ∧ K' (rangeItems n) Option.none H
                else if f = "enumerate" then wpIter v H fun vs g => K' (enumItems vs) g H
                else wpFun cl f [v] H fun r H => wpIter r H fun vs g => K' vs g H) (fun v H h => ?_) h
              dsimp only at h ⊢
              split
              · rename_i e1; rw [if_pos e1] at h; (refine Exists.elim h fun n zr3g => ?_; refine and3 zr3g fun e e2 h => ?_; clear zr3g); exact ⟨n, e, e2, hq _ _ _ h⟩
              rename_i e1; rw [if_neg e1] at h
              split
              · rename_i e1; rw [if_pos e1] at h; exact iter_mono (fun vs g h => hq _ _ _ h) h
              · rename_i e1; rw [if_neg e1] at h; exact fun_mono hc (fun r H h => iter_mono (fun vs g h => hq _ _ _ h) h) h
            | [], hs, h => exact many (by lia) h
            | a :: b :: r, hs, h => exact many (by simp at hs ⊢; lia) h
          | _ => exact h.elim
      | Subscript v i p =>
        simp at hs
        induction i using PySem.Expr.casesOn with
        | Slice lo hi st sp =>
          induction st using Option.casesOn with
          | none => simp at hs; exact I.E v (by lia) loc H _ _ (fun a H h => mO (I.O (by lia)) loc H _ _ (fun l H h => mO (I.O (by lia)) loc H _ _ (fun u H h => slice_mono (fun r H h => iter_mono (fun vs g h => hq _ _ _ h) h) h) h) h) h
          | some st => exact h.elim
        | _ => exact h.elim
      | _ => exact h.elim
    · induction gs using List.casesOn with
      | nil => exact fun emit emit' he loc acc H K K' hk h => he loc acc H K K' hk h
      | cons g0 gs =>
        obtain ⟨t, it, ifs, k⟩ := g0
        simp at hs
        exact mGens (I.S it (by lia)) (I.Ts (by lia)) (I.G gs (by lia))
theorem mE (hc : MonoC cl) (e : Expr) : ME cl e := (all_M hc (sizeOf e + 1)).E e (Nat.lt_succ_self _)
theorem mT (hc : MonoC cl) (e : Expr) : MT cl e := (all_M hc (sizeOf e + 1)).B e (Nat.lt_succ_self _)
theorem mSrc (hc : MonoC cl) (e : Expr) : MS cl e := (all_M hc (sizeOf e + 1)).S e (Nat.lt_succ_self _)
/-! statements -/
theorem setAttr_mono {ov : CV} {n : Str} {v : CV} {H : CH} {Q Q' : CH → Prop} (hq : ∀ H, Q H → Q' H) (h : wpSetAttr ov n v H Q) : wpSetAttr ov n v H Q' := by
  induction ov using Mine.CV.casesOn with
  | obj C d => exact ⟨h.1, h.2.elim fun es h => ⟨es, h.1, h.2.1, hq _ h.2.2⟩⟩
  | _ => exact h.elim
theorem setIdx_mono {ov iv v : CV} {H : CH} {Q Q' : CH → Prop} (hq : ∀ H, Q H → Q' H) (h : wpSetIdx ov iv v H Q) : wpSetIdx ov iv v H Q' :=
  h.imp (fun h => ex3 h fun a k vs h => (exI3 a k vs ⟨h.1, h.2.1, h.2.2.1, h.2.2.2.imp (fun h => ⟨h.1, h.2.1, hq _ h.2.2⟩) fun h => ⟨h.1, h.2.1, hq _ h.2.2⟩⟩)) fun h => ex4 h fun i j k l h => (exI4 i j k l ⟨h.1, h.2.1, h.2.2.1, h.2.2.2.1, hq _ h.2.2.2.2⟩)
noncomputable def MA (cl : Cl) (t : Expr) : Prop := ∀ (c : CV) (loc : Loc) (H : CH) (K K' : Loc → CH → Prop), (∀ l H, K l H → K' l H) → wpA cl t c loc H K → wpA cl t c loc H K'
theorem mAs : ∀ {ts : List Expr}, (∀ t ∈ ts, MA cl t) → ∀ (vs : List CV) (loc : Loc) (H : CH) (K K' : Loc → CH → Prop), (∀ l H, K l H → K' l H) → wpAs cl ts vs loc H K → wpAs cl ts vs loc H K'
  | [], _, [], _, _, _, _, hk, h => hk _ _ h
  | [], _, _ :: _, _, _, _, _, _, h => h.elim
  | t :: ts, _, [], _, _, _, _, _, h => h.elim
  | t :: ts, ht, v :: vs, loc, H, K, K', hk, h => ht t (.head _) v loc H _ _ (fun l H h => mAs (fun t m => ht t (.tail _ m)) vs l H _ _ hk h) h
theorem mA (hc : MonoC cl) : ∀ (m : Nat) (t : Expr), sizeOf t < m → MA cl t
  | 0, _, h => absurd h (Nat.not_lt_zero _)
  | m + 1, t, hs => by
    intro c loc H K K' hk h
    induction t using PySem.Expr.casesOn with
    | Name x p => exact hk _ _ h
    | Attribute o n p => exact mE hc o loc H _ _ (fun v H h => setAttr_mono (fun H h => hk _ _ h) h) h
    | Subscript o i p => exact mE hc o loc H _ _ (fun v H h => mE hc i loc H _ _ (fun w H h => setIdx_mono (fun H h => hk _ _ h) h) h) h
    | Tuple ts k p =>
      simp at hs
      (refine Exists.elim h fun vs zr2g => ?_; refine and3 zr2g fun e e2 h => ?_; clear zr2g)
      exact ⟨vs, e, e2, mAs (fun t ht => mA hc m t (Nat.lt_trans (List.sizeOf_lt_of_mem ht) (by lia))) vs loc H _ _ hk h⟩
    | _ => exact h.elim
theorem mA' (hc : MonoC cl) (t : Expr) : MA cl t := mA hc (sizeOf t + 1) t (Nat.lt_succ_self _)
noncomputable def SQ (Q Q' : SPost) : Prop := ∀ fl l H, Q fl l H → Q' fl l H
theorem forItems_mono {g : Option (Addr × List CV)} {step step' : CV → Loc → CH → (Loc → CH → Prop) → Prop} (hs : ∀ v loc H K K', (∀ l H, K l H → K' l H) → step v loc H K → step' v loc H K') :
    ∀ (vs : List CV) (loc : Loc) (H : CH) (Q Q' : Loc → CH → Prop), (∀ l H, Q l H → Q' l H) → forItems g step vs loc H Q → forItems g step' vs loc H Q'
  | [], _, _, _, _, hq, h => ⟨h.1, hq _ _ h.2⟩
  | v :: vs, _, _, _, _, hq, h => ⟨h.1, hs _ _ _ _ _ (fun _ _ zz5 => zz5.elim fun l' zz6 => zz6.elim fun H' zz7 => zz7.elim fun w h => (exI2 l' H' ⟨w, forItems_mono hs vs _ _ _ _ hq h⟩)) h.2⟩
noncomputable def MSt (cl : Cl) (st : Stmt) : Prop := ∀ (loc : Loc) (H : CH) (Q Q' : SPost), SQ Q Q' → wpS cl st loc H Q → wpS cl st loc H Q'
noncomputable def MSs (cl : Cl) (b : List Stmt) : Prop := ∀ (loc : Loc) (H : CH) (Q Q' : SPost), SQ Q Q' → wpSs cl b loc H Q → wpSs cl b loc H Q'
theorem mS (hc : MonoC cl) : ∀ m, (∀ st : Stmt, sizeOf st < m → MSt cl st) ∧ (∀ b : List Stmt, sizeOf b < m → MSs cl b)
  | 0 => ⟨fun _ h => absurd h (Nat.not_lt_zero _), fun _ h => absurd h (Nat.not_lt_zero _)⟩
  | m + 1 => by
    obtain ⟨iS, iL⟩ := mS hc m
    refine ⟨fun st hs => ?_, fun b hs => ?_⟩
    · intro loc H Q Q' hq h
      induction st using PySem.Stmt.casesOn with
      | Expr e p => exact mE hc e loc H _ _ (fun v H h => hq _ _ _ h) h
      | Return e p =>
        induction e using Option.casesOn with
        | none => exact hq _ _ _ h
        | some e => exact mE hc e loc H _ _ (fun v H h => hq _ _ _ h) h
      | Assign ts v p =>
        match ts, h with
        | [t], h => exact mE hc v loc H _ _ (fun c H h => mA' hc t c loc H _ _ (fun l H h => hq _ _ _ h) h) h
        | [], h => exact h.elim
        | _ :: _ :: _, h => exact h.elim
      | If t b o p => simp at hs; exact mT hc t loc H _ _ (fun c H h => ⟨fun z => iL b (by lia) loc H _ _ hq (h.1 z), fun z => iL o (by lia) loc H _ _ hq (h.2 z)⟩) h
      | While t b o p =>
        simp at hs
        induction o using List.casesOn with
        | cons _ _ => exact h.elim
        | nil =>
          (refine Exists.elim h fun I zr1g => ?_; refine And.elim (fun h0 h => ?_) zr1g; clear zr1g)
          refine ⟨I, h0, fun n loc H hi => mT hc t loc H _ _ (fun c H h => ⟨fun z => iL b (by lia) loc H _ _ (fun fl l H h => ?_) (h.1 z), fun z => hq _ _ _ (h.2 z)⟩) (h n loc H hi)⟩
          induction fl using Mine.CFlow.casesOn with
          | next => exact h
          | ret v => exact hq _ _ _ h
      | For t it b o p =>
        simp at hs
        induction o using List.casesOn with
        | cons _ _ => exact h.elim
        | nil =>
          refine mSrc hc it loc H _ _ (fun vs g H h => forItems_mono (fun v loc H K K' hk h => mA' hc t v loc H _ _ (fun l H h => iL b (by lia) l H _ _ (fun fl l H h => ?_) h) h) vs loc H _ _ (fun l H h => hq _ _ _ h) h) h
          induction fl using Mine.CFlow.casesOn with
          | next => exact hk _ _ h
          | ret v => exact hq _ _ _ h
      | _ => exact h.elim
    · intro loc H Q Q' hq h
      induction b using List.casesOn with
      | nil => exact hq _ _ _ h
      | cons st r =>
        simp at hs
        refine iS st (by lia) loc H _ _ (fun fl l H h => ?_) h
        induction fl using Mine.CFlow.casesOn with
        | next => exact iL r (by lia) l H _ _ hq h
        | ret v => exact hq _ _ _ h
theorem mSs (hc : MonoC cl) (b : List Stmt) : MSs cl b := (mS hc (sizeOf b + 1)).2 b (Nat.lt_succ_self _)
end
theorem callN_mono (T : Str → Str → Option FD) : ∀ n, MonoC (callN T n)
  | 0 => fun _ _ _ _ _ _ _ h => h.elim
  | n + 1 => fun C f args H Q Q' hq zz8 => zz8.elim fun fd zz9 => zz9.elim fun loc zz10 => zz10.elim fun e zz11 => zz11.elim fun e2 h => (exI2 fd loc ⟨e, e2, mSs (callN_mono T n) fd.body loc H _ _ (fun fl l H zz12 => zz12.elim fun v' zz13 => zz13.elim fun H'' zz14 => zz14.elim fun w h => (exI2 v' H'' ⟨w, hq _ _ h⟩)) h⟩)
theorem call_mono (n : Nat) : MonoC (call n) := callN_mono T n
end

/-! part C3 -/
noncomputable section
/-! more steps -/
section
variable {n : Nat} {loc : Loc} {H : CH} {r : List Stmt} {Q : SPost}
theorem ss_if_j {t : Expr} {b o : List Stmt} {p : Pos} (J : Loc → CH → Prop) (hJ : ∀ loc H, J loc H → wpSs (call n) r loc H Q)
    (h : AllK fun K => Impl J K → wpT (call n) t loc H (kIf (call n) b o loc (lpe K Q))) : wpSs (call n) (.If t b o p :: r) loc H Q := by
  have up : SQ (lpe J Q) (thn (call n) r Q) := fun fl l H h => by
    induction fl using Mine.CFlow.casesOn with
    | next => exact hJ _ _ h
    | ret v => exact h
  exact ss_if (mT (call_mono n) t loc H _ _ (fun c H h => ⟨fun z => mSs (call_mono n) b _ _ _ _ up (h.1 z), fun z => mSs (call_mono n) o _ _ _ _ up (h.2 z)⟩) (h J fun _ _ x => x))
theorem for_inv {g : Option (Addr × List CV)} {t : Expr} {b : List Stmt} {K : Loc → CH → Prop} (J : List CV → Loc → CH → Prop) (hg : ∀ vs loc H, J vs loc H → guardOk g H) (he : ∀ loc H, J [] loc H → K loc H)
    (hs : ∀ v vs loc H K, Impl (fun loc H => ∃ loc' H', Weak loc H loc' H' ∧ J vs loc' H') K → J (v :: vs) loc H → wpA (call n) t v loc H (kRest (call n) b (lpe K Q))) :
    ∀ (vs : List CV) (loc : Loc) (H : CH), J vs loc H → forItems g (fun v loc H K => wpA (call n) t v loc H (kRest (call n) b (lpe K Q))) vs loc H K
  | [], _, _, j => ⟨hg _ _ _ j, he _ _ j⟩
  | v :: vs, loc, H, j => ⟨hg _ _ _ j, mA' (call_mono n) t v loc H _ _ (fun l H h => mSs (call_mono n) b l H _ _ (fun fl l H h => by
      induction fl using Mine.CFlow.casesOn with
      | next => (refine ex2 h fun l' H' zr2g => ?_; refine And.elim (fun w j => ?_) zr2g; clear zr2g; try clear h); exact (exI2 l' H' ⟨w, for_inv J hg he hs vs l' H' j⟩)
      | ret v => exact h) h) (hs v vs loc H _ (fun _ _ x => x) j)⟩
end
theorem comp_inv {g : Option (Addr × List CV)} {step : CV → List CV → CH → (List CV → CH → Prop) → Prop} {Q : List CV → CH → Prop} (hm : ∀ v acc H K K', (∀ acc H, K acc H → K' acc H) → step v acc H K → step v acc H K')
    (J : List CV → List CV → CH → Prop) (hg : ∀ vs acc H, J vs acc H → guardOk g H) (he : ∀ acc H, J [] acc H → Q acc H) (hs : ∀ v vs acc H, J (v :: vs) acc H → step v acc H (J vs)) : ∀ (vs acc : List CV) (H : CH), J vs acc H → compItems g step vs acc H Q
  | [], _, _, j => ⟨hg _ _ _ j, he _ _ j⟩
  | v :: vs, acc, H, j => ⟨hg _ _ _ j, hm _ _ _ _ _ (fun _ _ j => comp_inv hm J hg he hs vs _ _ j) (hs v vs acc H j)⟩

/-! heaps -/
theorem set_eq {H : CH} {a : Addr} {o : CObj} : (H.set a o) a = some o := by unfold CH.set; rw [if_pos rfl]
theorem set_ne {H : CH} {a b : Addr} {o : CObj} (h : b ≠ a) : (H.set a o) b = H b := by unfold CH.set; rw [if_neg h]
theorem set_old {H : CH} {a b : Addr} {o x : CObj} (h : H a = none) (e : H b = some x) : (H.set a o) b = some x := by
  rw [set_ne (fun q => by rw [q, h] at e; exact nn e)]; exact e
theorem ne_of_none {H : CH} {a b : Addr} {x : CObj} (h : H a = none) (e : H b = some x) : b ≠ a := fun q => by rw [q, h] at e; exact nn e
theorem items_old {H : CH} {a : Addr} {o : CObj} {v : CV} {ws : List CV} (h : H a = none) (e : itemsOf H v = some ws) : itemsOf (H.set a o) v = some ws := by
  induction v using Mine.CV.casesOn with
  | ref b =>
    have hb : b ≠ a := fun q => nn (h.symm.trans ((congrArg H q).symm.trans (itemsOf_ref e)))
    exact itr ((set_ne hb).trans (itemsOf_ref e))
  | _ => exact e
mutual
theorem fz_refl (H : CH) (P : Addr → Prop) : ∀ c : CV, Frz H P c c
  | .none | .bool _ | .int _ | .str _ | .ref _ | .obj _ _ | .dct _ => rfl
  | .tup vs => ⟨vs, rfl, fz_reflL H P vs⟩
  | .lst vs => .inl ⟨vs, rfl, fz_reflL H P vs⟩
  | .ins _ _ vs => .inl ⟨vs, rfl, fz_reflL H P vs⟩
theorem fz_reflL (H : CH) (P : Addr → Prop) : ∀ cs : List CV, FrzL H P cs cs
  | [] => rfl
  | c :: cs => (exI2 c cs ⟨rfl, fz_refl H P c, fz_reflL H P cs⟩)
end
theorem fz_reflO (H : CH) (P : Addr → Prop) : ∀ o : CObj, FrzO H P o o
  | .list vs => ⟨vs, rfl, fz_reflL H P vs⟩
  | .dict es => ⟨es, rfl, rfl, fz_reflL H P _⟩
  | .map es => rfl
theorem fz_app {H : CH} {P : Addr → Prop} : ∀ {a b c d : List CV}, FrzL H P a b → FrzL H P c d → FrzL H P (a ++ c) (b ++ d)
  | [], _, _, _, x, y => by rw [show _ = [] from x]; exact y
  | _ :: _, _, _, _, zz1, y => by (refine ex2 zz1 fun c r zr1g => ?_; refine and3 zr1g fun e h t => ?_; clear zr1g; try clear zz1); rw [e]; exact (exI2 c _ ⟨rfl, h, fz_app t y⟩)
theorem fz_ref {H : CH} {P : Addr → Prop} {a : Addr} {vs vs' : List CV} (hp : P a) (e : H a = some (.list vs)) (h : FrzL H P vs' vs) : Frz H P (.lst vs') (.ref a) := .inr (exI2 a vs ⟨rfl, hp, e, h⟩)
theorem fz_obj {H : CH} {P : Addr → Prop} {C : Str} {d : Addr} {es : List (Str × CV)} {ks : List Str} {vs : List CV} (hp : P d) (e : H d = some (.dict es)) (hk : ks = es.map (·.1)) (h : FrzL H P vs (es.map (·.2))) : Frz H P (.ins C ks vs) (.obj C d) := .inr (exI2 d es ⟨rfl, hp, e, hk, h⟩)
theorem fh_base {H H' : CH} {P : Addr → Prop} (h : ∀ a o, H' a = some o → ¬ P a ∧ H a = some o) : FrzH H P H' := fun a o e => (h a o e).elim fun h1 h2 =>  ⟨h1, o, h2, fz_reflO H P o⟩
theorem fh_set {H H' : CH} {P : Addr → Prop} {a : Addr} {o o' : CObj} (hp : ¬ P a) (e : H a = some o) (hf : FrzO H P o' o) (h : FrzH H P H') : FrzH H P (H'.set a o') := fun b x e' => by
  by_cases hb : b = a
  · subst hb; rw [set_eq] at e'; obtain rfl := Option.some.inj e'; exact ⟨hp, o, e, hf⟩
  · rw [set_ne hb] at e'; exact h b x e'
theorem fh_refl (H : CH) : FrzH H (fun _ => False) H := fh_base fun _ _ e => ⟨id, e⟩
/-- a value that needs no freezing, the old heap kept -/
theorem ret_is {c : CV} {H H0 : CH} {Q : CV → CH → Prop} (hh : ∀ a o, H0 a = some o → H a = some o) (h : Q c H0) : ∃ v' H'', WeakR c H v' H'' ∧ Q v' H'' := (exI2 c H0 ⟨⟨fun _ => False, fz_refl _ _ _, fh_base fun a o e => ⟨id, hh a o e⟩⟩, h⟩)
theorem ret_same {c : CV} {H : CH} {Q : CV → CH → Prop} (h : Q c H) : ∃ v' H'', WeakR c H v' H'' ∧ Q v' H'' := ret_is (fun _ _ e => e) h
/-- what is new is frozen, the old heap kept -/
theorem ret_frz {c c' : CV} {H H0 : CH} {Q : CV → CH → Prop} (hh : ∀ a o, H0 a = some o → H a = some o) (hf : Frz H (fun a => H0 a = none) c' c) (h : Q c' H0) : ∃ v' H'', WeakR c H v' H'' ∧ Q v' H'' :=
  (exI2 c' H0 ⟨⟨_, hf, fh_base fun a o e => ⟨fun q => by (rw [q] at e; exact nn e), hh a o e⟩⟩, h⟩)
/-- a frame's variables and heap, some forgotten -/
theorem weak_of {loc loc' : Loc} {H H' : CH} (P : Addr → Prop) (hl : ∀ p ∈ loc', ∃ c, look p.1 loc = some c ∧ Frz H P p.2 c) (hh : FrzH H P H') : Weak loc H loc' H' := ⟨P, fun x c' e => by
  have mem : ∀ {l : Loc}, look x l = some c' → (x, c') ∈ l := by
    intro l
    induction l with
    | nil => intro e; exact nn e
    | cons p r ih =>
      intro e
      obtain ⟨k, v⟩ := p
      rw [look_cons] at e
      split at e
      · rename_i hk; obtain rfl := Option.some.inj e; rw [hk]; exact .head _
      · exact .tail _ (ih e)
  exact hl _ (mem e), hh⟩
theorem weak_drop {loc loc' : Loc} {H : CH} (hl : ∀ p ∈ loc', look p.1 loc = some p.2) : Weak loc H loc' H := weak_of (fun _ => False) (fun p hp => ⟨_, hl p hp, fz_refl _ _ _⟩) (fh_refl H)
theorem weak_refl {loc : Loc} {H : CH} : Weak loc H loc H := ⟨fun _ => False, fun x c e => ⟨c, e, fz_refl _ _ _⟩, fh_refl H⟩

/-! functions and operations -/
section
variable {cl : Cl} {H : CH} {Q : CV → CH → Prop}
theorem f_call {f : Str} {vs : List CV} (hf : isUser f = true) (h : cl "" f vs H Q) : wpFun cl f vs H Q := .inr (.inr (.inr (.inr (.inr (.inr ⟨hf, h⟩)))))
theorem f_len {a : CV} {ws : List CV} (e : itemsOf H a = some ws) (h : Q (.int ws.length) H) : wpFun cl "len" [a] H Q := .inl ⟨rfl, a, ws, rfl, e, h⟩
theorem f_min {i j : Int} (h : Q (.int (min i j)) H) : wpFun cl "min" [.int i, .int j] H Q := .inr (.inl ⟨rfl, .inl (exI2 i j ⟨rfl, h⟩)⟩)
theorem f_max {i j : Int} (h : Q (.int (max i j)) H) : wpFun cl "max" [.int i, .int j] H Q := .inr (.inr (.inl ⟨rfl, .inl (exI2 i j ⟨rfl, h⟩)⟩))
theorem f_minL {a : CV} {ws : List CV} {i : Int} {is : List Int} (e : itemsOf H a = some ws) (e2 : ws = (i :: is).map CV.int) (h : Q (.int (is.foldl min i)) H) : wpFun cl "min" [a] H Q := .inr (.inl ⟨rfl, .inr ⟨rfl, a, ws, i, is, rfl, e, e2, h⟩⟩)
theorem f_list {a : CV} {ws : List CV} (e : itemsOf H a = some ws) (h : allocL ws H Q) : wpFun cl "list" [a] H Q := .inr (.inr (.inr (.inl ⟨rfl, a, ws, rfl, e, h⟩)))
theorem f_inti {i : Int} (h : Q (.int i) H) : wpFun cl "int" [.int i] H Q := .inr (.inr (.inr (.inr (.inl ⟨rfl, .inl ⟨i, rfl, h⟩⟩))))
theorem f_intb {b : Bool} (h : Q (.int (if b then 1 else 0)) H) : wpFun cl "int" [.bool b] H Q := .inr (.inr (.inr (.inr (.inl ⟨rfl, .inr ⟨b, rfl, h⟩⟩))))
theorem f_cls {f : Str} {vs : List CV} (hf : decide (isClass f) = true) (h : ∀ d, H d = none → cl f "__init__" (.obj f d :: vs) (H.set d (.dict [])) fun c H' => c = .none ∧ Q (.obj f d) H') : wpFun cl f vs H Q := .inr (.inr (.inr (.inr (.inr (.inl ⟨of_decide_eq_true hf, h⟩)))))
theorem al_lst {vs : List CV} (hz : vs.length ≤ cap) (h : Q (.lst vs) H) : allocL vs H Q := ⟨hz, .inl h⟩
theorem al_ref {vs : List CV} (hz : vs.length ≤ cap) (h : ∀ a, H a = none → Q (.ref a) (H.set a (.list vs))) : allocL vs H Q := ⟨hz, .inr h⟩
theorem call_of {n : Nat} {C f : Str} {args : List CV} {d : FD} {loc : Loc} (hT : lookP C f fnList = some d) (hb : bindP d args = some loc) (h : AllKS fun K => ImplS (fun fl _ H' => ∃ v' H'', WeakR fl.val H' v' H'' ∧ Q v' H'') K → wpSs (call n) d.body loc H K) : call (n + 1) C f args H Q := (exI2 d loc ⟨hT, hb, h _ fun _ _ _ x => x⟩)
theorem at_obj {C n : Str} {d : Addr} {es : List (Str × CV)} {c : CV} {Q : CV → Prop} (ha : decide (attrOk C n) = true) (e : H d = some (.dict es)) (e2 : look n es = some c) (h : Q c) : wpAttr (.obj C d) n H Q := ⟨of_decide_eq_true ha, es, c, e, e2, h⟩
theorem at_ins {C n : Str} {ks : List Str} {vs : List CV} {c : CV} {Q : CV → Prop} (ha : decide (attrOk C n) = true) (e2 : look n (ks.zip vs) = some c) (h : Q c) : wpAttr (.ins C ks vs) n H Q := ⟨of_decide_eq_true ha, c, e2, h⟩
theorem sa_obj {C n : Str} {d : Addr} {es es' : List (Str × CV)} {c : CV} {Q : CH → Prop} (ha : decide (attrOk C n) = true) (e : H d = some (.dict es)) (e2 : put n c es = es') (hz : decide (es'.length ≤ 100) = true) (h : Q (H.set d (.dict es'))) : wpSetAttr (.obj C d) n c H Q := by
  subst e2; exact ⟨of_decide_eq_true ha, es, e, of_decide_eq_true hz, h⟩
theorem mo_ref {a : Addr} {m : Str} {vs : List CV} (hm : decide (m = "append" ∨ m = "extend" ∨ m = "pop") = true) (e : H a = some (.list vs)) : methOk (.ref a) m H := ⟨of_decide_eq_true hm, vs, e⟩
theorem mo_obj {C m : Str} {d : Addr} {es : List (Str × CV)} (hm : decide (hasMeth C m) = true) (e : H d = some (.dict es)) (e2 : look m es = none) : methOk (.obj C d) m H := ⟨of_decide_eq_true hm, es, e, e2⟩
theorem m_app {a : Addr} {vs : List CV} {v : CV} (e : H a = some (.list vs)) (hz : vs.length < cap) (h : Q .none (H.set a (.list (vs ++ [v])))) : wpMeth cl (.ref a) "append" [v] H Q := .inl ⟨rfl, v, vs, rfl, e, hz, h⟩
theorem m_ext {a : Addr} {vs ws : List CV} {v : CV} (hn : v ≠ .ref a) (e : H a = some (.list vs)) (e2 : itemsOf H v = some ws) (hz : vs.length + ws.length ≤ cap) (h : Q .none (H.set a (.list (vs ++ ws)))) : wpMeth cl (.ref a) "extend" [v] H Q := .inr (.inl ⟨rfl, v, vs, ws, rfl, hn, e, e2, hz, h⟩)
theorem m_pop {a : Addr} {vs : List CV} {v : CV} (e : H a = some (.list (vs ++ [v]))) (h : Q v (H.set a (.list vs))) : wpMeth cl (.ref a) "pop" [] H Q := .inr (.inr ⟨rfl, rfl, vs, v, e, h⟩)
theorem m_obj {C m : Str} {d : Addr} {args : List CV} (h : cl C m (.obj C d :: args) H Q) : wpMeth cl (.obj C d) m args H Q := h
theorem ix_it {v c : CV} {k : Int} {vs : List CV} {Q : CV → Prop} (e : itemsOf H v = some vs) (e2 : pyIdx vs k = some c) (h : Q c) : wpIdx v (.int k) H Q := .inr (.inr (exI3 vs k c ⟨rfl, e, e2, h⟩))
theorem ix_tup {vs : List CV} {c : CV} {k : Int} {Q : CV → Prop} (e2 : pyIdx vs k = some c) (h : Q c) : wpIdx (.tup vs) (.int k) H Q := .inl (exI3 vs k c ⟨rfl, rfl, e2, h⟩)
theorem ix_dct {d : Addr} {x : Str} {es : List (Str × CV)} {c : CV} {Q : CV → Prop} (e : H d = some (.map es)) (e2 : look x es = some c) (h : Q c) : wpIdx (.dct d) (.str x) H Q := .inr (.inl (exI4 d x es c ⟨rfl, rfl, e, e2, h⟩))
theorem sl_it {v : CV} {lo hi : Option Int} {vs ws : List CV} (e : itemsOf H v = some vs) (e2 : cslice vs lo hi = ws) (h : allocL ws H Q) : wpSlice v lo hi H Q := by subst e2; exact ⟨vs, e, h⟩
theorem ad_it {a b : CV} {vs ws : List CV} (e : itemsOf H a = some vs) (e2 : itemsOf H b = some ws) (h : allocL (vs ++ ws) H Q) : wpBin .Add a b H Q := .inr (.inr (exI2 vs ws ⟨e, e2, h⟩))
theorem mu_it {a : CV} {vs : List CV} {j : Int} (e : itemsOf H a = some vs) (h1 : -1000000 < j ∧ j < 1000000) (h2 : vs.length ≤ 10) (h : allocL (List.replicate j.toNat vs).flatten H Q) : wpBin .Mult a (.int j) H Q := .inr (exI2 vs j ⟨rfl, e, h1, h2, h⟩)
theorem b_mul {i j : Int} (h1 : -1000000 < j ∧ j < 1000000) (h : Q (.int (i * j)) H) : wpBin .Mult (.int i) (.int j) H Q := .inl (exI2 i j ⟨rfl, rfl, h1, h⟩)
theorem b_div {i j : Int} (h1 : 0 < j ∧ j < 1000000) (h : Q (.int (i / j)) H) : wpBin .FloorDiv (.int i) (.int j) H Q := (exI2 i j ⟨rfl, rfl, h1, h⟩)
theorem b_mod {i j : Int} (h1 : 0 < j) (h : Q (.int (i % j)) H) : wpBin .Mod (.int i) (.int j) H Q := (exI2 i j ⟨rfl, rfl, h1, h⟩)
theorem b_addt {vs ws : List CV} (h1 : vs ≠ []) (h2 : ws ≠ []) (h3 : vs.length + ws.length ≤ cap) (h : Q (.tup (vs ++ ws)) H) : wpBin .Add (.tup vs) (.tup ws) H Q := .inr (.inl (exI2 vs ws ⟨rfl, rfl, h1, h2, h3, h⟩))
theorem si_ref {a : Addr} {k : Nat} {vs : List CV} {v : CV} {Q : CH → Prop} (e : H a = some (.list vs)) (hk : k < vs.length) (h : Q (H.set a (.list (vs.set k v)))) : wpSetIdx (.ref a) (.int k) v H Q := .inl (exI3 a k vs ⟨rfl, rfl, e, .inl ⟨by lia, by lia, by simpa using h⟩⟩)
theorem si_last {a : Addr} {vs : List CV} {u v : CV} {Q : CH → Prop} (e : H a = some (.list (vs ++ [u]))) (h : Q (H.set a (.list (vs ++ [v])))) : wpSetIdx (.ref a) (.int (-1)) v H Q := by
  refine .inl (exI3 a (-1) (vs ++ [u]) ⟨rfl, rfl, e, .inr ⟨by lia, by simp; lia, ?_⟩⟩)
  have : ((-1 : Int) + ((vs ++ [u]).length : Nat)).toNat = vs.length := by simp; lia
  rw [this, List.set_append_right _ _ (Nat.le_refl _), Nat.sub_self]; exact h
theorem px_nat {vs : List CV} {k : Nat} {c : CV} (e : vs[k]? = some c) : pyIdx vs (k : Int) = some c := by unfold pyIdx; rw [if_pos (by lia)]; simpa using e
theorem px_last {vs : List CV} {c : CV} : pyIdx (vs ++ [c]) (-1) = some c := by
  unfold pyIdx
  rw [if_neg (by decide), if_pos (by simp; lia)]
  have : ((-1 : Int) + ((vs ++ [c]).length : Nat)).toNat = vs.length := by simp; lia
  rw [this]; simp
end
end

/-! part C4 -/
noncomputable section
/-! cells -/
inductive Pen where
  | er (b : Int) | lw
deriving DecidableEq
noncomputable def Pen.bk : Pen → Int
  | .er b => b
  | .lw => 4
noncomputable def Pen.cv : Pen → CV
  | .er b => .tup [.int 0, .int (-1), .int b, .int (-1), .int 0]
  | .lw => .tup [.int 1, .int 3, .int 4, .int (-1), .int 0]
structure Cell where
  s : Option Int
  w : Int
  p : Pen
deriving DecidableEq
noncomputable def sgn : Option Int → CV
  | none => .tup []
  | some c => .tup [.int c]
noncomputable def Cell.cv (c : Cell) : CV := .tup [sgn c.s, .int c.w, c.p.cv, .bool false]
noncomputable def blank (p : Pen) : Cell := ⟨none, 1, .er p.bk⟩
noncomputable def PLAIN : Pen := .er (-1)
noncomputable def PB : Cell := ⟨none, 1, PLAIN⟩
theorem blank_plain : blank PLAIN = PB := rfl
noncomputable abbrev cvs (cs : List Cell) : List CV := cs.map Cell.cv
noncomputable abbrev clv (cs : List Cell) : CV := .lst (cvs cs)
noncomputable def Cell.isB (c : Cell) : Bool := decide (c.s = none) && decide (c.w = 1)

theorem pen_idx (p : Pen) : ∃ vs, p.cv = .tup vs ∧ pyIdx vs 2 = some (.int p.bk) := by
  induction p using Mine.Pen.casesOn with
  | er b => exact ⟨_, rfl, rfl⟩
  | lw => exact ⟨_, rfl, rfl⟩
theorem idx_pen {p : Pen} {H : CH} {Q : CV → Prop} (h : Q (.int p.bk)) : wpIdx p.cv (.int 2) H Q := by
  (refine Exists.elim (pen_idx p) fun vs zr1g => ?_; refine And.elim (fun e i => ?_) zr1g; clear zr1g)
  rw [e]; exact ix_tup i h
theorem idx_c0 {c : Cell} {H : CH} {Q : CV → Prop} (h : Q (sgn c.s)) : wpIdx c.cv (.int 0) H Q := ix_tup rfl h
theorem idx_c1 {c : Cell} {H : CH} {Q : CV → Prop} (h : Q (.int c.w)) : wpIdx c.cv (.int 1) H Q := ix_tup rfl h
theorem idx_c2 {c : Cell} {H : CH} {Q : CV → Prop} (h : Q c.p.cv) : wpIdx c.cv (.int 2) H Q := ix_tup rfl h

/-! equality -/
theorem ok_pen (p : Pen) (n : Nat) : okd p.cv (n + 1) := by induction p using Mine.Pen.casesOn <;> exact ⟨Nat.succ_pos _, trivial, trivial, trivial, trivial, trivial, trivial⟩
theorem ok_sgn (s : Option Int) (n : Nat) : okd (sgn s) (n + 1) := by
  induction s using Option.casesOn with
  | none => exact ⟨Nat.succ_pos _, trivial⟩
  | some c => exact ⟨Nat.succ_pos _, trivial, trivial⟩
theorem ok_cell (c : Cell) (n : Nat) : okd c.cv (n + 2) := by
  refine ⟨by lia, ?_⟩
  exact ⟨ok_sgn _ _, trivial, ok_pen _ _, trivial, trivial⟩
theorem ok_cells (cs : List Cell) (n : Nat) : okds (cvs cs) (n + 2) := by
  induction cs with
  | nil => trivial
  | cons c cs ih => exact ⟨ok_cell c n, ih⟩
theorem eqv_pen (p q : Pen) : PyData.eqv (cdat p.cv) (cdat q.cv) = decide (p = q) := by
  have e : ∀ i j k l m n : Int, PyData.eqv (cdat (.tup [.int i, .int j, .int k, .int (-1), .int 0])) (cdat (.tup [.int l, .int m, .int n, .int (-1), .int 0])) = ((i == l) && ((j == m) && ((k == n) && true))) := fun _ _ _ _ _ _ => rfl
  induction p using Mine.Pen.casesOn with
  | er b => induction q using Mine.Pen.casesOn with
    | er c =>
      refine (e 0 (-1) b 0 (-1) c).trans ?_
      by_cases h : b = c
      · rw [h]; simp
      · rw [decide_eq_false (fun z => h (Pen.er.inj z)), beq_eq_false_iff_ne.mpr h]; rfl
    | lw => exact ((e 0 (-1) b 1 3 4).trans rfl).trans (decide_eq_false (fun z => nomatch z)).symm
  | lw => induction q using Mine.Pen.casesOn with
    | er c => exact ((e 1 3 4 0 (-1) c).trans rfl).trans (decide_eq_false (fun z => nomatch z)).symm
    | lw => rfl
theorem eqv_sgn (s t : Option Int) : PyData.eqv (cdat (sgn s)) (cdat (sgn t)) = decide (s = t) := by
  induction s using Option.casesOn with
  | none => induction t using Option.casesOn with
    | none => rfl
    | some d => exact (decide_eq_false (fun z => nn z)).symm
  | some c => induction t using Option.casesOn with
    | none => exact (decide_eq_false (fun z => sn z)).symm
    | some d =>
      refine (show PyData.eqv (cdat (sgn (some c))) (cdat (sgn (some d))) = ((c == d) && true) from rfl).trans ?_
      by_cases h : c = d
      · rw [h]; simp
      · rw [decide_eq_false (fun z => h (Option.some.inj z)), beq_eq_false_iff_ne.mpr h]; rfl
theorem eqv_cell (c d : Cell) : PyData.eqv (cdat c.cv) (cdat d.cv) = decide (c = d) := by
  obtain ⟨s, w, p⟩ := c
  obtain ⟨s', w', p'⟩ := d
  have : PyData.eqv (cdat (Cell.cv ⟨s, w, p⟩)) (cdat (Cell.cv ⟨s', w', p'⟩)) = (PyData.eqv (cdat (sgn s)) (cdat (sgn s')) && ((w == w') && (PyData.eqv (cdat p.cv) (cdat p'.cv) && (true && true)))) := rfl
  rw [this, eqv_sgn, eqv_pen]
  by_cases h1 : s = s' <;> by_cases h2 : w = w' <;> by_cases h3 : p = p' <;> simp [h1, h2, h3]
theorem eqv_cells : ∀ cs ds : List Cell, PyData.eqvAll (cdats (cvs cs)) (cdats (cvs ds)) = decide (cs = ds)
  | [], [] => rfl
  | [], _ :: _ => rfl
  | _ :: _, [] => rfl
  | c :: cs, d :: ds => by
    have : PyData.eqvAll (cdats (cvs (c :: cs))) (cdats (cvs (d :: ds))) = (PyData.eqv (cdat c.cv) (cdat d.cv) && PyData.eqvAll (cdats (cvs cs)) (cdats (cvs ds))) := rfl
    rw [this, eqv_cell, eqv_cells cs ds]
    by_cases h1 : c = d <;> by_cases h2 : cs = ds <;> simp [h1, h2]
/-! equal values are equal -/
mutual
theorem eqv_same : ∀ (c : CV) (n : Nat), okd c n → PyData.eqv (cdat c) (cdat c) = true
  | .none, _, _ => rfl
  | .bool b, _, _ => (by induction b using Bool.casesOn <;> rfl)
  | .int i, _, _ => show (i == i) = true from beq_self_eq_true i
  | .str x, _, _ => show (x == x) = true from beq_self_eq_true x
  | .tup vs, n, k => eqvs_same vs (n - 1) k.2
  | .lst vs, n, k => eqvs_same vs (n - 1) k.2
  | .ins .., _, k | .ref _, _, k | .obj .., _, k | .dct _, _, k => k.elim
theorem eqvs_same : ∀ (cs : List CV) (n : Nat), okds cs n → PyData.eqvAll (cdats cs) (cdats cs) = true
  | [], _, _ => rfl
  | c :: cs, n, k => show (PyData.eqv (cdat c) (cdat c) && PyData.eqvAll (cdats cs) (cdats cs)) = true by rw [eqv_same c n k.1, eqvs_same cs n k.2]; rfl
end
theorem okh_of {H : CH} {c : CV} (h : okd c 61) : okh H c ∧ hdat H c = cdat c := by
  induction c using Mine.CV.casesOn <;> first | exact ⟨h, rfl⟩ | exact h.elim
theorem okh_ref {H : CH} {a : Addr} {vs : List CV} (e : H a = some (.list vs)) (h : okds vs 60) : okh H (.ref a) ∧ hdat H (.ref a) = cdat (.lst vs) := ⟨⟨vs, e, h⟩, hdat_ref e⟩
theorem c_eq {a b : CV} {H : CH} {Q : Bool → Prop} {x : Bool} (ha : okd a 61) (hb : okd b 61) (e : PyData.eqv (cdat a) (cdat b) = x) (h : Q x) : wpCmp .Eq a b H Q := by
  subst e
  exact ⟨(okh_of ha).1, (okh_of hb).1, by rw [(okh_of ha).2, (okh_of hb).2]; exact h⟩
theorem c_ne {a b : CV} {H : CH} {Q : Bool → Prop} {x : Bool} (ha : okd a 61) (hb : okd b 61) (e : PyData.eqv (cdat a) (cdat b) = x) (h : Q (!x)) : wpCmp .NotEq a b H Q := by
  subst e
  exact ⟨(okh_of ha).1, (okh_of hb).1, by rw [(okh_of ha).2, (okh_of hb).2]; exact h⟩
theorem c_same {a : CV} {H : CH} {Q : Bool → Prop} (ha : okd a 61) (h : Q true) : wpCmp .Eq a a H Q := c_eq ha ha (eqv_same a 61 ha) h
theorem c_differ {a : CV} {H : CH} {Q : Bool → Prop} (ha : okd a 61) (h : Q false) : wpCmp .NotEq a a H Q := c_ne ha ha (eqv_same a 61 ha) h
end
local macro_rules | `(tactic| walk_at "cs") => `(tactic| with_reducible first
  | refine es_cons ?_ | refine es_nil ?_ | refine allK fun _ _ => ?_ | refine allKV fun _ _ => ?_ | refine allKS fun _ _ => ?_ | refine kgo (by assumption) ?_ | refine kgoV (by assumption) ?_ | refine kgoS (by assumption) ?_
  | refine e_name (by with_unfolding_all rfl) ?_ | refine e_int ?_
  | refine e_call ?_ | refine e_subI ?_ | refine e_subN ?_ | refine e_subB ?_ | refine e_subU ?_ | refine e_subS ?_
  | refine e_attr ?_ | refine e_bin ?_ | refine e_cmp ?_
  | refine e_tuple ?_ | refine e_list ?_ | refine e_bool ?_ | refine e_str ?_ | refine e_none ?_
  | refine e_not ?_ | refine e_neg ?_ | refine e_bool1 ?_
  | refine e_slice ?_ | refine e_meth ?_ | refine e_comp ?_ | refine e_dict ?_
  | refine ss_assign ?_ | refine ss_expr ?_ | refine ss_ret ?_ | refine ss_ret0 ?_ | refine ss_nil ?_
  | refine t_not ?_ | refine t_and ?_ | refine t_and0 ?_ | refine t_or ?_ | refine t_or0 ?_ | refine t_cmp ?_ | refine t_cmp2 ?_
  | refine t_attr ?_ | refine t_call ?_ | refine t_subI ?_ | refine t_name (by with_unfolding_all rfl) ?_
  | refine a_name rfl ?_ | refine a_attr ?_ | refine a_sub ?_ | refine a_tup (by with_unfolding_all rfl) ?_ | refine as_cons ?_ | refine as_nil ?_
  | refine o_none ?_ | refine o_some ?_ | refine ex_int ?_ | refine tr_bool ?_
  | refine b_addi ?_ | refine b_subi ?_ | refine c_lt ?_ | refine c_le ?_ | refine c_gt ?_ | refine c_ge ?_ | refine c_eqi ?_ | refine c_nei ?_
  | refine idx_pen ?_ | refine idx_c0 ?_ | refine idx_c1 ?_ | refine idx_c2 ?_
  | refine f_inti ?_ | refine f_intb ?_ | refine f_min ?_ | refine f_max ?_
  | refine thn_next ?_ | refine lpe_next ?_ | refine thn_ret ?_ | refine lpe_ret ?_
  | refine e_glob (by with_unfolding_all rfl) (by with_unfolding_all rfl) ?_)
section
local macro_rules | `(tactic| walk_at "cs") => `(tactic| with_reducible first | refine e_and ?_ | refine e_or ?_ | refine e_cmp2 ?_ | refine e_ifexp ?_)
theorem erased_pen {n : Nat} {p : Pen} {H : CH} {Q : CV → CH → Prop} (h : Q (Pen.er p.bk).cv H) : call (n + 1) "" "erased_pen" [p.cv] H Q := by
  refine call_of (loc := [("pen", p.cv)]) (by rfl) (by rfl) ?_
  refine allKS fun _ _ => ?_
  conv => arg 2; whnf
  repeat walk_at "cs"
  exact ret_same h
theorem f_erased {n : Nat} {p : Pen} {H : CH} {Q : CV → CH → Prop} (h : Q (Pen.er p.bk).cv H) : wpFun (call (n + 1)) "erased_pen" [p.cv] H Q := f_call (by rfl) (erased_pen h)
local macro_rules | `(tactic| walk_at "cs") => `(tactic| with_reducible refine f_erased ?_)
theorem blank_cell {n : Nat} {p : Pen} {H : CH} {Q : CV → CH → Prop} (h : Q (blank p).cv H) : call (n + 2) "" "blank_cell" [p.cv] H Q := by
  refine call_of (loc := [("pen", p.cv)]) (by rfl) (by rfl) ?_
  refine allKS fun _ _ => ?_
  conv => arg 2; whnf
  repeat walk_at "cs"
  exact ret_same h
theorem f_blank {n : Nat} {p : Pen} {H : CH} {Q : CV → CH → Prop} (h : Q (blank p).cv H) : wpFun (call (n + 2)) "blank_cell" [p.cv] H Q := f_call (by rfl) (blank_cell h)
theorem is_blank {n : Nat} {c : Cell} {H : CH} {Q : CV → CH → Prop} (h : Q (.bool c.isB) H) : call (n + 1) "" "is_blank" [c.cv] H Q := by
  refine call_of (loc := [("cell", c.cv)]) (by rfl) (by rfl) ?_
  refine allKS fun _ _ => ?_
  conv => arg 2; whnf
  repeat walk_at "cs"
  refine c_eq (x := decide (c.s = none)) (ok_sgn _ _) (ok_sgn none 60) (eqv_sgn c.s none) ?_
  repeat walk_at "cs"
  refine ⟨fun z => ?_, fun z => ?_⟩
  · have : decide (c.s = none) = false := by simpa using z
    rw [this]
    repeat walk_at "cs"
    refine ret_same ?_
    rw [Cell.isB, this] at h; exact h
  · have : decide (c.s = none) = true := by simpa using z
    repeat walk_at "cs"
    refine ret_same ?_
    rw [Cell.isB, this] at h; exact h
theorem f_isblank {n : Nat} {c : Cell} {H : CH} {Q : CV → CH → Prop} (h : Q (.bool c.isB) H) : wpFun (call (n + 1)) "is_blank" [c.cv] H Q := f_call (by rfl) (is_blank h)
theorem is_plain_blank {n : Nat} {c : Cell} {H : CH} {Q : CV → CH → Prop} (h : Q (.bool (decide (c = PB))) H) : call (n + 1) "" "is_plain_blank" [c.cv] H Q := by
  refine call_of (loc := [("cell", c.cv)]) (by rfl) (by rfl) ?_
  refine allKS fun _ _ => ?_
  conv => arg 2; whnf
  repeat walk_at "cs"
  refine c_eq (a := c.cv) (b := PB.cv) (x := decide (c = PB)) (ok_cell c 59) (ok_cell PB 59) (eqv_cell c PB) ?_
  repeat walk_at "cs"
  exact ret_same h
theorem f_isplain {n : Nat} {c : Cell} {H : CH} {Q : CV → CH → Prop} (h : Q (.bool (decide (c = PB))) H) : wpFun (call (n + 1)) "is_plain_blank" [c.cv] H Q := f_call (by rfl) (is_plain_blank h)
end

local macro_rules | `(tactic| walk_at "cs") => `(tactic| with_reducible first | refine f_erased ?_ | refine f_blank ?_ | refine f_isblank ?_ | refine f_isplain ?_)

/-! part C5 -/
section
local macro_rules | `(tactic| walk_at "cs") => `(tactic| with_reducible first | refine e_and ?_ | refine e_or ?_ | refine e_cmp2 ?_ | refine e_ifexp ?_)
noncomputable section
theorem set_set {H : CH} {a : Addr} {x y : CObj} : (H.set a x).set a y = H.set a y := by
  funext b; unfold CH.set; split <;> rfl
theorem set_comm {H : CH} {a b : Addr} {x y : CObj} (h : a ≠ b) : (H.set a x).set b y = (H.set b y).set a x := by
  funext c; unfold CH.set
  by_cases h1 : c = a
  · subst h1; rw [if_neg h, if_pos rfl, if_pos rfl]
  · rw [if_neg h1, if_neg h1]
theorem rep_flat {α : Type} (x : α) (k : Nat) : (List.replicate k [x]).flatten = List.replicate k x := by simp
theorem line_blanks {n : Nat} {k : Int} {p : Pen} {H : CH} {Q : CV → CH → Prop} (hk : k ≤ 1000) (h : ∀ a, H a = none → Q (.ref a) (H.set a (.list (cvs (List.replicate k.toNat (blank p)))))) : call (n + 3) "" "line_blanks" [.int k, p.cv] H Q := by
  refine call_of (loc := [("many", .int k), ("pen", p.cv)]) (by rfl) (by rfl) ?_
  refine allKS fun _ _ => ?_
  conv => arg 2; whnf
  repeat walk_at "cs"
  refine al_lst (Nat.le_of_ble_eq_true rfl) ?_
  repeat walk_at "cs"
  refine mu_it rfl (by lia) (Nat.le_of_ble_eq_true rfl) ?_
  rw [rep_flat, show (max 0 k).toNat = k.toNat by lia]
  refine al_ref (by rw [List.length_replicate]; unfold cap; lia) fun a ha => kgoS (by assumption) (ret_same ?_)
  have := h a ha
  rw [cvs, List.map_replicate] at this; exact this
theorem f_lblanks {n : Nat} {k : Int} {p : Pen} {H : CH} {Q : CV → CH → Prop} (hk : k ≤ 1000) (h : ∀ a, H a = none → Q (.ref a) (H.set a (.list (cvs (List.replicate k.toNat (blank p)))))) : wpFun (call (n + 3)) "line_blanks" [.int k, p.cv] H Q := f_call (by rfl) (line_blanks hk h)

/-! lines -/
noncomputable abbrev lineKs : List Str := ["cells", "is_wrapped", "size"]
noncomputable def lineCV (row : List Cell) (w : Bool) : CV := .ins "Line" lineKs [clv row, .bool w, .str "single"]
noncomputable def lineD (c : CV) (w : Bool) : CObj := .dict [("cells", c), ("is_wrapped", .bool w), ("size", .str "single")]
theorem line_init {n : Nat} {k : Int} {p : Pen} {d : Addr} {H : CH} {Q : CV → CH → Prop} (hk : k ≤ 1000) (hd : H d = some (.dict [])) (h : ∀ a, H a = none → Q .none ((H.set a (.list (cvs (List.replicate k.toNat (blank p))))).set d (lineD (.ref a) false))) : call (n + 4) "Line" "__init__" [.obj "Line" d, .int k, p.cv] H Q := by
  refine call_of (loc := [("self", .obj "Line" d), ("columns", .int k), ("pen", p.cv)]) (by rfl) (by rfl) ?_
  refine allKS fun _ _ => ?_
  conv => arg 2; whnf
  repeat walk_at "cs"
  refine f_lblanks hk fun a ha => ?_
  have hda : d ≠ a := ne_of_none ha hd
  repeat walk_at "cs"
  refine sa_obj (es := []) (by rfl) (set_old ha hd) (by rfl) (by rfl) ?_
  repeat walk_at "cs"
  refine sa_obj (by rfl) set_eq (by with_unfolding_all rfl) (by rfl) ?_
  repeat walk_at "cs"
  refine ix_tup (by rfl) ?_
  repeat walk_at "cs"
  refine sa_obj (by rfl) set_eq (by with_unfolding_all rfl) (by rfl) ?_
  repeat walk_at "cs"
  refine ret_same ?_
  rw [set_set, set_set]
  exact h a ha
theorem f_line {n : Nat} {k : Int} {p : Pen} {H : CH} {Q : CV → CH → Prop} (hk : k ≤ 1000) (h : ∀ d a, H d = none → H a = none → a ≠ d → Q (.obj "Line" d) ((H.set a (.list (cvs (List.replicate k.toNat (blank p))))).set d (lineD (.ref a) false))) : wpFun (call (n + 4)) "Line" [.int k, p.cv] H Q := by
  refine f_cls (by rfl) fun d hd => line_init hk set_eq fun a ha => ⟨rfl, ?_⟩
  have hne : a ≠ d := fun q => by rw [q, set_eq] at ha; exact sn ha
  rw [set_ne hne] at ha
  rw [set_comm (Ne.symm hne), set_set]
  exact h d a hd ha hne
theorem cs_full {vs : List CV} {k : Int} (h : k = vs.length) : cslice vs (some 0) (some k) = vs := by
  subst h
  have e1 : cclip vs.length 0 = 0 := clip_nat (j := 0) (Nat.zero_le _)
  have e2 : cclip vs.length (vs.length : Int) = vs.length := clip_nat (Nat.le_refl _)
  show (vs.drop (cclip vs.length 0)).take (cclip vs.length (vs.length : Int) - cclip vs.length 0) = vs
  rw [e1, e2]; simp
theorem line_slice {n : Nat} {cells : List Cell} {k : Int} {H : CH} {Q : CV → CH → Prop} (hk : k = (cells.length : Int) - 1) (hz : cells.length ≤ 1000) (h0 : ∀ c r, cells = c :: r → c.w ≠ 0) (h1 : ∀ c r, cells = r ++ [c] → c.w ≠ 2) (h : Q (clv cells) H) : call (n + 3) "" "line_slice" [clv cells, .int 0, .int k] H Q := by
  subst hk
  refine call_of (loc := [("cells", clv cells), ("left", .int 0), ("right", .int ((cells.length : Int) - 1))]) (by rfl) (by rfl) ?_
  refine allKS fun _ _ => ?_
  conv => arg 2; whnf
  repeat walk_at "cs"
  have hc : cap = 16777216 := rfl
  refine sl_it rfl (cs_full (by rw [List.length_map]; lia)) (al_lst (by rw [List.length_map]; lia) ?_)
  repeat walk_at "cs"
  refine f_list rfl (al_lst (by rw [List.length_map]; lia) ?_)
  repeat walk_at "cs"
  have e0 : PyData.eqv (cdat (clv cells)) (cdat (.lst [])) = decide (cells = []) := eqv_cells cells []
  have ok : okd (clv cells) 61 := ⟨by lia, ok_cells cells 58⟩
  repeat walk_at "cs"
  refine ss_if_j (fun loc H' => loc = ([("cells", clv cells), ("left", .int 0), ("right", .int ((cells.length : Int) - 1)), ("found", clv cells)] : Loc) ∧ H = H') (fun loc H' hj => ?_) ?_
  · obtain ⟨rfl, rfl⟩ := hj
    repeat walk_at "cs"
    refine ss_if_j (fun loc H' => loc = ([("cells", clv cells), ("left", .int 0), ("right", .int ((cells.length : Int) - 1)), ("found", clv cells)] : Loc) ∧ H = H') (fun loc H' hj => ?_) ?_
    · obtain ⟨rfl, rfl⟩ := hj
      repeat walk_at "cs"
      exact ret_same h
    · repeat walk_at "cs"
      refine al_lst (Nat.le_of_ble_eq_true rfl) ?_
      repeat walk_at "cs"
      refine c_ne ok ⟨by lia, trivial⟩ e0 ?_
      refine ⟨fun _ => ⟨fun z => by simp_all, fun _ => (by (repeat walk_at "cs"); exact ⟨rfl, rfl⟩)⟩, fun z => ?_⟩
      have hne : cells ≠ [] := by simpa using z
      obtain ⟨r, c, e⟩ : ∃ r c, cells = r ++ [c] := (exI2 cells.dropLast (cells.getLast hne) ((List.dropLast_concat_getLast hne).symm))
      repeat walk_at "cs"
      refine ix_it (c := c.cv) rfl (by rw [e, cvs, List.map_append]; exact px_last) ?_
      repeat walk_at "cs"
      have := h1 c r e
      refine ⟨fun _ => ⟨fun z => by simp_all, fun _ => (by (repeat walk_at "cs"); exact ⟨rfl, rfl⟩)⟩, fun z => by simp_all⟩
  · repeat walk_at "cs"
    refine al_lst (Nat.le_of_ble_eq_true rfl) ?_
    repeat walk_at "cs"
    refine c_ne ok ⟨by lia, trivial⟩ e0 ?_
    refine ⟨fun _ => ⟨fun z => by simp_all, fun _ => (by (repeat walk_at "cs"); exact ⟨rfl, rfl⟩)⟩, fun z => ?_⟩
    have hne : cells ≠ [] := by simpa using z
    obtain ⟨c, r, e⟩ : ∃ c r, cells = c :: r := List.exists_cons_of_ne_nil hne
    repeat walk_at "cs"
    refine ix_it (c := c.cv) rfl (by rw [e]; rfl) ?_
    repeat walk_at "cs"
    have := h0 c r e
    refine ⟨fun _ => ⟨fun z => by simp_all, fun _ => (by (repeat walk_at "cs"); exact ⟨rfl, rfl⟩)⟩, fun z => by simp_all⟩
end
end

/-! part C6 -/
section
local macro_rules | `(tactic| walk_at "cs") => `(tactic| with_reducible first | refine e_and ?_ | refine e_or ?_ | refine e_cmp2 ?_ | refine e_ifexp ?_)
noncomputable section
theorem line_of {n : Nat} {row : List Cell} {w : Bool} {H : CH} {Q : CV → CH → Prop} (hz : row.length ≤ 1000) (h0 : ∀ c r, row = c :: r → c.w ≠ 0) (h1 : ∀ c r, row = r ++ [c] → c.w ≠ 2) (h : Q (lineCV row w) H) : call (n + 5) "" "line_of" [clv row, .bool w] H Q := by
  refine call_of (loc := [("cells", clv row), ("is_wrapped", .bool w), ("size", .str "single")]) (by rfl) (by rfl) ?_
  refine allKS fun _ _ => ?_
  conv => arg 2; whnf
  repeat walk_at "cs"
  refine f_line (p := PLAIN) (by decide) fun d a hd ha hne => ?_
  repeat walk_at "cs"
  refine f_len (ws := cvs row) rfl ?_
  repeat walk_at "cs"
  refine f_call (by rfl) (line_slice (by rw [List.length_map]) hz h0 h1 ?_)
  repeat walk_at "cs"
  refine sa_obj (by rfl) set_eq (by with_unfolding_all rfl) (by rfl) ?_
  repeat walk_at "cs"
  refine sa_obj (by rfl) set_eq (by with_unfolding_all rfl) (by rfl) ?_
  repeat walk_at "cs"
  refine sa_obj (by rfl) set_eq (by with_unfolding_all rfl) (by rfl) ?_
  repeat walk_at "cs"
  rw [set_set, set_set, set_set]
  repeat walk_at "cs"
  refine ret_frz (c' := lineCV row w) (H0 := H) (fun x o e => ?_) (fz_obj hd set_eq rfl (fz_reflL _ _ _)) h
  exact set_old (by rw [set_ne (Ne.symm hne)]; exact hd) (set_old ha e)
theorem f_lineof {n : Nat} {row : List Cell} {w : Bool} {H : CH} {Q : CV → CH → Prop} (hz : row.length ≤ 1000) (h0 : ∀ c r, row = c :: r → c.w ≠ 0) (h1 : ∀ c r, row = r ++ [c] → c.w ≠ 2) (h : Q (lineCV row w) H) : wpFun (call (n + 5)) "line_of" [clv row, .bool w] H Q := f_call (by rfl) (line_of hz h0 h1 h)

/-! the used cells -/
noncomputable def used (cs : List Cell) : List Cell := (cs.reverse.dropWhile fun c => decide (c = PB)).reverse
theorem used_pb (cs : List Cell) : used (cs ++ [PB]) = used cs := by unfold used; simp
theorem used_ne {cs : List Cell} {c : Cell} (h : c ≠ PB) : used (cs ++ [c]) = cs ++ [c] := by unfold used; simp [h]
theorem used_nil : used [] = [] := rfl
theorem used_pbs (cs : List Cell) : ∀ k, used (cs ++ List.replicate k PB) = used cs
  | 0 => by simp
  | k + 1 => by rw [List.replicate_succ', ← List.append_assoc, used_pb, used_pbs cs k]
theorem cs_nat {vs : List CV} {i j : Nat} (h1 : i ≤ j) (h2 : j ≤ vs.length) : cslice vs (some (i : Int)) (some (j : Int)) = (vs.drop i).take (j - i) := by
  have e1 : cclip vs.length (i : Int) = i := clip_nat (Nat.le_trans h1 h2)
  have e2 : cclip vs.length (j : Int) = j := clip_nat h2
  show (vs.drop (cclip vs.length (i : Int))).take (cclip vs.length (j : Int) - cclip vs.length (i : Int)) = _
  rw [e1, e2]
theorem cs_to {vs : List CV} {j : Nat} (h2 : j ≤ vs.length) : cslice vs none (some (j : Int)) = vs.take j := by
  have e2 : cclip vs.length (j : Int) = j := clip_nat h2
  show (vs.drop 0).take (cclip vs.length (j : Int) - 0) = _
  rw [e2]; simp
theorem cs_init {vs : List CV} {c : CV} : cslice (vs ++ [c]) none (some (-1)) = vs := by
  have e2 : cclip (vs ++ [c]).length (-1) = vs.length := by unfold cclip; rw [if_pos (by lia)]; simp; lia
  show ((vs ++ [c]).drop 0).take (cclip (vs ++ [c]).length (-1) - 0) = _
  rw [e2]; simp
theorem reflow_used {n : Nat} {v : CV} {cells : List Cell} {H : CH} {Q : CV → CH → Prop} (hv : itemsOf H v = some (cvs cells)) (hz : cells.length ≤ 100000) (h : Q (clv (used cells)) H) : call (n + 2) "" "reflow_used" [v] H Q := by
  refine call_of (loc := [("cells", v)]) (by rfl) (by rfl) ?_
  refine allKS fun _ _ => ?_
  conv => arg 2; whnf
  repeat walk_at "cs"
  refine f_len hv ?_
  repeat walk_at "cs"
  refine ss_while (fun m loc H' => loc = ([("cells", v), ("many", .int (m : Nat))] : Loc) ∧ H = H' ∧ m ≤ cells.length ∧ used (cells.take m) = used cells) (exI3 cells.length _ _ ⟨weak_refl, by rw [List.length_map]; rfl, rfl, Nat.le_refl _, by rw [List.take_length]⟩) fun m loc H' _ _ hi => ?_
  (refine and4 hi fun zq1g zq2g hm hu => ?_; try clear hi; obtain rfl := zq1g; obtain rfl := zq2g)
  have fin : ∀ {Q' : CV → CH → Prop}, cells.take m = used cells → (Q' (clv (used cells)) H) → allocL (cslice (cvs cells) none (some (m : Int))) H Q' := fun e hq => by
    rw [cs_to (by rw [List.length_map]; exact hm), cvs, ← List.map_take, e]
    refine al_lst ?_ hq
    rw [List.length_map, ← e, List.length_take]; unfold cap; lia
  repeat walk_at "cs"
  refine ⟨fun z => ⟨fun z' => absurd z' (by simp at z; simp [z]), fun _ => ?_⟩, fun z => ?_⟩
  · have hm0 : m = 0 := by simp at z; lia
    repeat walk_at "cs"
    refine sl_it hv rfl (fin ?_ ?_)
    · rw [← hu, hm0]; rfl
    · repeat walk_at "cs"
      exact ret_same h
  · have hm0 : 0 < m := by simp at z; lia
    obtain ⟨k, rfl⟩ : ∃ k, m = k + 1 := ⟨m - 1, by lia⟩
    have hk : k < cells.length := by lia
    have ek : (((k + 1 : Nat) : Int) - 1) = (k : Nat) := by lia
    have et : cells.take (k + 1) = cells.take k ++ [cells[k]] := by rw [List.take_add_one, List.getElem?_eq_getElem hk]; rfl
    repeat walk_at "cs"
    rw [ek]
    refine ix_it (c := cells[k].cv) hv (px_nat (by rw [List.getElem?_map, List.getElem?_eq_getElem hk]; rfl)) ?_
    repeat walk_at "cs"
    by_cases hp : cells[k] = PB
    · rw [decide_eq_true hp]
      refine ⟨fun z => noB z, fun _ => ?_⟩
      repeat walk_at "cs"
      refine ⟨fun _ => ?_, fun z => (by exact tf z)⟩
      repeat walk_at "cs"
      rw [ek]
      exact ⟨k, Nat.lt_succ_self k, _, _, weak_refl, rfl, rfl, by lia, by rw [← hu, et, hp, used_pb]⟩
    · rw [decide_eq_false hp]
      refine ⟨fun _ => ⟨fun z => (by exact noB z), fun _ => ?_⟩, fun z => tf z⟩
      repeat walk_at "cs"
      refine sl_it hv rfl (fin ?_ ?_)
      · rw [← hu, et, used_ne hp]
      · repeat walk_at "cs"
        exact ret_same h
theorem f_used {n : Nat} {v : CV} {cells : List Cell} {H : CH} {Q : CV → CH → Prop} (hv : itemsOf H v = some (cvs cells)) (hz : cells.length ≤ 100000) (h : Q (clv (used cells)) H) : wpFun (call (n + 2)) "reflow_used" [v] H Q := f_call (by rfl) (reflow_used hv hz h)
end
end

/-! part C7 -/
section
local macro_rules | `(tactic| walk_at "cs") => `(tactic| with_reducible first | refine e_and ?_ | refine e_or ?_ | refine e_cmp2 ?_ | refine e_ifexp ?_)
noncomputable abbrev LN := List Cell × Bool
noncomputable def lnv (l : LN) : CV := lineCV l.1 l.2
noncomputable abbrev lnsV (ls : List LN) : CV := .lst (ls.map lnv)
theorem ix_ln {ls : List LN} {k : Nat} {l : LN} {H : CH} {Q : CV → Prop} (e : ls[k]? = some l) (h : Q (lineCV l.1 l.2)) : wpIdx (lnsV ls) (.int k) H Q :=
  ix_it (c := lnv l) rfl (px_nat (by rw [List.getElem?_map, e]; rfl)) h
theorem at_cells {row : List Cell} {w : Bool} {H : CH} {Q : CV → Prop} (h : Q (clv row)) : wpAttr (lineCV row w) "cells" H Q := at_ins (by rfl) (by rfl) h
theorem at_wrapped {row : List Cell} {w : Bool} {H : CH} {Q : CV → Prop} (h : Q (.bool w)) : wpAttr (lineCV row w) "is_wrapped" H Q := at_ins (by rfl) (by rfl) h
theorem at_size {row : List Cell} {w : Bool} {H : CH} {Q : CV → Prop} (h : Q (.str "single")) : wpAttr (lineCV row w) "size" H Q := at_ins (by rfl) (by rfl) h
local macro_rules | `(tactic| walk_at "cs") => `(tactic| first | with_reducible refine at_cells ?_ | with_reducible refine at_wrapped ?_ | with_reducible refine at_size ?_)
theorem ok_single (n : Nat) : okd (.str "single") n := by show PyData.strOk _ = true; decide +kernel

theorem begins_wide {n : Nat} {c : Cell} {r : List Cell} {w : Bool} {H : CH} {Q : CV → CH → Prop} (h : Q (.bool (decide (c.w = 2))) H) : call (n + 1) "" "reflow_begins_wide" [lineCV (c :: r) w] H Q := by
  refine call_of (loc := [("line", lineCV (c :: r) w)]) (by rfl) (by rfl) ?_
  refine allKS fun _ _ => ?_
  conv => arg 2; whnf
  repeat walk_at "cs"
  refine f_len rfl ?_
  repeat walk_at "cs"
  refine ⟨fun z => by simp at z, fun _ => ?_⟩
  repeat walk_at "cs"
  refine ix_it (c := c.cv) rfl (by rfl) ?_
  repeat walk_at "cs"
  exact ret_same h
theorem f_bw {n : Nat} {c : Cell} {r : List Cell} {w : Bool} {H : CH} {Q : CV → CH → Prop} (h : Q (.bool (decide (c.w = 2))) H) : wpFun (call (n + 1)) "reflow_begins_wide" [lineCV (c :: r) w] H Q := f_call (by rfl) (begins_wide h)
theorem goes_on {n : Nat} {ls : List LN} {k : Nat} {row : List Cell} {w : Bool} {H : CH} {Q : CV → CH → Prop} (e : ls[k]? = some (row, w)) (hr : row ≠ []) (h : Q (.bool (decide (k + 1 < ls.length) && w)) H) : call (n + 1) "" "reflow_goes_on" [lnsV ls, .int k] H Q := by
  refine call_of (loc := [("lines", lnsV ls), ("at", .int k)]) (by rfl) (by rfl) ?_
  refine allKS fun _ _ => ?_
  conv => arg 2; whnf
  repeat walk_at "cs"
  refine ss_if ?_
  repeat walk_at "cs"
  refine f_len rfl ?_
  repeat walk_at "cs"
  rw [List.length_map]
  refine ⟨fun z => ⟨fun _ => ?_, fun z' => ?_⟩, fun z => ?_⟩
  · have : decide (k + 1 < ls.length) = false := by simp at z ⊢; lia
    rw [this] at h
    repeat walk_at "cs"
    exact ret_same h
  · rw [z'] at z; exact noB z
  have h1 : k + 1 < ls.length := by simp at z; lia
  rw [decide_eq_true h1] at h
  repeat walk_at "cs"
  refine ix_ln e ?_
  repeat walk_at "cs"
  induction w using Bool.casesOn with
  | false =>
    refine ⟨fun _ => ⟨fun _ => ?_, fun z => (by exact tf z)⟩, fun z => tf z⟩
    repeat walk_at "cs"
    exact ret_same h
  | true =>
    refine ⟨fun z => noB z, fun _ => ?_⟩
    repeat walk_at "cs"
    refine ix_ln e ?_
    repeat walk_at "cs"
    refine f_len rfl ?_
    repeat walk_at "cs"
    have h0 : decide (((cvs row).length : Int) = 0) = false := by rw [List.length_map]; simp [hr]
    rw [h0]
    refine ⟨fun z => noB z, fun _ => ?_⟩
    repeat walk_at "cs"
    refine ⟨fun z => (by exact noB z), fun _ => ?_⟩
    repeat walk_at "cs"
    refine ix_ln e ?_
    repeat walk_at "cs"
    refine c_same (ok_single 61) ?_
    repeat walk_at "cs"
    refine ⟨fun z => by simp at z, fun _ => ?_⟩
    repeat walk_at "cs"
    refine ix_it (c := lnv ls[k + 1]) (k := ((k + 1 : Nat) : Int)) rfl (px_nat (by rw [List.getElem?_map, List.getElem?_eq_getElem h1]; rfl)) ?_
    repeat walk_at "cs"
    unfold lnv
    repeat walk_at "cs"
    refine c_same (ok_single 61) ?_
    repeat walk_at "cs"
    exact ret_same h
theorem f_goes {n : Nat} {ls : List LN} {k : Nat} {row : List Cell} {w : Bool} {H : CH} {Q : CV → CH → Prop} (e : ls[k]? = some (row, w)) (hr : row ≠ []) (h : Q (.bool (decide (k + 1 < ls.length) && w)) H) : wpFun (call (n + 1)) "reflow_goes_on" [lnsV ls, .int k] H Q := f_call (by rfl) (goes_on e hr h)
noncomputable def partF (row next : List Cell) : List Cell := match row.getLast?, next with
  | some c, d :: _ => if c.isB && decide (d.w = 2) then row.dropLast else row
  | _, _ => row
theorem partF_last {init : List Cell} {c d : Cell} {r : List Cell} : partF (init ++ [c]) (d :: r) = if c.isB && decide (d.w = 2) then init else init ++ [c] := by
  unfold partF
  rw [List.getLast?_concat, List.dropLast_concat]
theorem partF_nil {p : List Cell} : partF p [] = p := by
  unfold partF
  cases p.getLast? <;> rfl
theorem part_on {n : Nat} {ls : List LN} {k : Nat} {row next : List Cell} {w : Bool} {H : CH} {Q : CV → CH → Prop} (e : ls[k]? = some (row, true)) (e2 : ls[k + 1]? = some (next, w)) (hr : row ≠ []) (hn : next ≠ []) (hz : row.length ≤ 100000) (h : Q (clv (partF row next)) H) : call (n + 2) "" "reflow_part" [lnsV ls, .int k] H Q := by
  refine call_of (loc := [("lines", lnsV ls), ("at", .int k)]) (by rfl) (by rfl) ?_
  refine allKS fun _ _ => ?_
  conv => arg 2; whnf
  have h1 : k + 1 < ls.length := (List.getElem?_eq_some_iff.mp e2).1
  obtain ⟨init, c, rfl⟩ : ∃ r c, row = r ++ [c] := (exI2 row.dropLast (row.getLast hr) ((List.dropLast_concat_getLast hr).symm))
  obtain ⟨d, r, rfl⟩ : ∃ d r, next = d :: r := List.exists_cons_of_ne_nil hn
  have hp : partF (init ++ [c]) (d :: r) = if c.isB && decide (d.w = 2) then init else init ++ [c] := partF_last
  rw [hp] at h
  repeat walk_at "cs"
  refine ix_ln e ?_
  repeat walk_at "cs"
  refine ss_if ?_
  repeat walk_at "cs"
  refine f_goes e hr ?_
  rw [decide_eq_true h1]
  repeat walk_at "cs"
  refine ⟨fun z => noB z, fun _ => ?_⟩
  repeat walk_at "cs"
  refine ss_if ?_
  repeat walk_at "cs"
  refine ix_it (c := c.cv) rfl (by rw [cvs, List.map_append]; exact px_last) ?_
  repeat walk_at "cs"
  refine ⟨fun z => ⟨fun z' => ?_, fun _ => ?_⟩, fun z => ?_⟩
  · rw [z'] at z; exact noB z
  · have : c.isB = false := by simpa using z
    rw [this] at h
    repeat walk_at "cs"
    exact ret_same h
  have hb : c.isB = true := by simpa using z
  rw [hb] at h
  repeat walk_at "cs"
  refine ix_it (c := lnv (d :: r, w)) (k := ((k + 1 : Nat) : Int)) rfl (px_nat (by rw [List.getElem?_map, e2]; rfl)) ?_
  unfold lnv
  repeat walk_at "cs"
  refine f_bw ?_
  repeat walk_at "cs"
  by_cases hw : d.w = 2
  · rw [decide_eq_true hw] at h ⊢
    refine ⟨fun z => by simp at z, fun _ => ?_⟩
    repeat walk_at "cs"
    refine ⟨fun _ => ?_, fun z => (by exact tf z)⟩
    repeat walk_at "cs"
    refine sl_it rfl (ws := cvs init) (by rw [cvs, List.map_append]; exact cs_init) (al_lst ?_ ?_)
    · rw [List.length_map]; rw [List.length_append] at hz; unfold cap; lia
    repeat walk_at "cs"
    exact ret_same h
  · rw [decide_eq_false hw] at h ⊢
    refine ⟨fun _ => ⟨fun z => (by exact noB z), fun _ => ?_⟩, fun z => tf z⟩
    repeat walk_at "cs"
    exact ret_same h
theorem part_last {n : Nat} {ls : List LN} {k : Nat} {row : List Cell} {H : CH} {Q : CV → CH → Prop} (e : ls[k]? = some (row, false)) (hr : row ≠ []) (hz : row.length ≤ 100000) (h : Q (clv (used row)) H) : call (n + 3) "" "reflow_part" [lnsV ls, .int k] H Q := by
  refine call_of (loc := [("lines", lnsV ls), ("at", .int k)]) (by rfl) (by rfl) ?_
  refine allKS fun _ _ => ?_
  conv => arg 2; whnf
  repeat walk_at "cs"
  refine ix_ln e ?_
  repeat walk_at "cs"
  refine ss_if ?_
  repeat walk_at "cs"
  refine f_goes e hr ?_
  rw [Bool.and_false]
  repeat walk_at "cs"
  refine ⟨fun _ => ?_, fun z => tf z⟩
  repeat walk_at "cs"
  refine f_used rfl hz ?_
  repeat walk_at "cs"
  exact ret_same h
end

local macro_rules | `(tactic| walk_at "cs") => `(tactic| first | with_reducible refine at_cells ?_ | with_reducible refine at_wrapped ?_ | with_reducible refine at_size ?_)

/-! part C8 -/
section
local macro_rules | `(tactic| walk_at "cs") => `(tactic| with_reducible first | refine e_and ?_ | refine e_or ?_ | refine e_cmp2 ?_ | refine e_ifexp ?_)
noncomputable section
/-! logical lines -/
noncomputable def logD (first : Nat) (b c : CV) (w : Bool) : List (Str × CV) := [("first", .int first), ("size", .str "single"), ("begins", b), ("cells", c), ("is_whole", .bool w)]
theorem f_logical {n : Nat} {k : Nat} {H : CH} {Q : CV → CH → Prop} (h : ∀ d b c, H d = none → H b = none → H c = none → b ≠ d → c ≠ d → c ≠ b → Q (.obj "LogicalLine" d) (((H.set b (.list [])).set c (.list [])).set d (.dict (logD k (.ref b) (.ref c) true)))) : wpFun (call (n + 1)) "LogicalLine" [.int k, .str "single"] H Q := by
  refine f_cls (by rfl) fun d hd => ?_
  refine call_of (loc := [("self", .obj "LogicalLine" d), ("first", .int k), ("size", .str "single")]) (by rfl) (by rfl) ?_
  refine allKS fun _ _ => ?_
  conv => arg 2; whnf
  repeat walk_at "cs"
  refine sa_obj (by rfl) set_eq (by rfl) (by rfl) ?_
  repeat walk_at "cs"
  refine sa_obj (by rfl) set_eq (by with_unfolding_all rfl) (by rfl) ?_
  rw [set_set, set_set]
  repeat walk_at "cs"
  refine al_ref (Nat.zero_le _) fun b hb => ?_
  have hbd : b ≠ d := fun q => by rw [q, set_eq] at hb; exact sn hb
  rw [set_ne hbd] at hb
  rw [set_comm (Ne.symm hbd)]
  repeat walk_at "cs"
  refine sa_obj (by rfl) set_eq (by with_unfolding_all rfl) (by rfl) ?_
  rw [set_set]
  repeat walk_at "cs"
  refine al_ref (Nat.zero_le _) fun c hc => ?_
  have hcd : c ≠ d := fun q => by rw [q, set_eq] at hc; exact sn hc
  rw [set_ne hcd] at hc
  have hcb : c ≠ b := fun q => by rw [q, set_eq] at hc; exact sn hc
  rw [set_ne hcb] at hc
  rw [set_comm (Ne.symm hcd)]
  repeat walk_at "cs"
  refine sa_obj (by rfl) set_eq (by with_unfolding_all rfl) (by rfl) ?_
  rw [set_set]
  repeat walk_at "cs"
  refine sa_obj (by rfl) set_eq (by with_unfolding_all rfl) (by rfl) ?_
  rw [set_set]
  repeat walk_at "cs"
  exact ret_same ⟨rfl, h d b c hd hb hc hbd hcd hcb⟩
theorem log_put {n : Nat} {d b c : Addr} {es : List (Str × CV)} {bs cs ws : List CV} {v : CV} {H : CH} {Q : CV → CH → Prop} (hd : H d = some (.dict es)) (hb : H b = some (.list bs)) (hc : H c = some (.list cs)) (hbc : b ≠ c) (hbd : d ≠ b) (e1 : look "begins" es = some (.ref b)) (e2 : look "cells" es = some (.ref c))
    (hv : ∀ H', H' c = some (.list cs) → (∀ x, x ≠ b → H' x = H x) → itemsOf H' v = some ws) (hvc : v ≠ .ref c) (hz1 : bs.length < 1000000) (hz2 : cs.length + ws.length ≤ 1000000) (h : Q .none ((H.set b (.list (bs ++ [.int cs.length]))).set c (.list (cs ++ ws)))) : call (n + 1) "LogicalLine" "put" [.obj "LogicalLine" d, v] H Q := by
  refine call_of (loc := [("self", .obj "LogicalLine" d), ("cells", v)]) (by rfl) (by rfl) ?_
  refine allKS fun _ _ => ?_
  conv => arg 2; whnf
  have hcap : cap = 16777216 := rfl
  repeat walk_at "cs"
  refine at_obj (by rfl) hd e1 ?_
  refine ⟨mo_ref (by rfl) hb, ?_⟩
  repeat walk_at "cs"
  refine at_obj (by rfl) hd e2 ?_
  repeat walk_at "cs"
  refine f_len (ws := cs) (itr hc) ?_
  repeat walk_at "cs"
  refine m_app hb (by lia) ?_
  repeat walk_at "cs"
  refine at_obj (by rfl) (by rw [set_ne hbd]; exact hd) e2 ?_
  have hc' : (H.set b (.list (bs ++ [.int cs.length]))) c = some (.list cs) := by rw [set_ne (Ne.symm hbc)]; exact hc
  refine ⟨mo_ref (by rfl) hc', ?_⟩
  repeat walk_at "cs"
  refine m_ext hvc hc' (hv _ hc' fun x hx => set_ne hx) (by lia) ?_
  repeat walk_at "cs"
  exact ret_same h
theorem kept_to {n : Nat} {d c : Addr} {es : List (Str × CV)} {cs : List Cell} {k : Nat} {H : CH} {Q : CV → CH → Prop} (hd : H d = some (.dict es)) (hdc : d ≠ c) (hc : H c = some (.list (cvs cs))) (e2 : look "cells" es = some (.ref c)) (hz : k ≤ 100000)
    (h : Q .none (H.set c (.list (cvs (cs ++ List.replicate (k - cs.length) PB))))) : call (n + 3) "LogicalLine" "kept_to" [.obj "LogicalLine" d, .int k] H Q := by
  refine call_of (loc := [("self", .obj "LogicalLine" d), ("many", .int k)]) (by rfl) (by rfl) ?_
  refine allKS fun _ _ => ?_
  conv => arg 2; whnf
  have hcap : cap = 16777216 := rfl
  have h0 : H = H.set c (.list (cvs cs)) := by
    funext x; unfold CH.set; split
    · rename_i q; rw [q]; exact hc
    · rfl
  repeat walk_at "cs"
  refine ss_while (fun m loc H' => loc = ([("self", .obj "LogicalLine" d), ("many", .int k)] : Loc) ∧ ∃ ds, H' = H.set c (.list (cvs ds)) ∧ m = k - ds.length ∧ ds ++ List.replicate (k - ds.length) PB = cs ++ List.replicate (k - cs.length) PB) (exI3 _ _ _ ⟨weak_refl, rfl, cs, h0, rfl, rfl⟩) fun m loc H' _ _ hi => ?_
  (refine And.elim (fun zq1g zr4g => ?_) hi; refine Exists.elim zr4g fun ds zr5g => ?_; refine and3 zr5g fun zq2g zq3g he => ?_; clear zr4g zr5g; try clear hi; obtain rfl := zq1g; obtain rfl := zq2g; obtain rfl := zq3g)
  repeat walk_at "cs"
  refine at_obj (by rfl) (by rw [set_ne hdc]; exact hd) e2 ?_
  repeat walk_at "cs"
  refine f_len (ws := cvs ds) (itr set_eq) ?_
  repeat walk_at "cs"
  rw [List.length_map]
  refine ⟨fun z => ?_, fun z => ?_⟩
  · have hlt : ds.length < k := by simp at z; lia
    repeat walk_at "cs"
    refine at_obj (by rfl) (by rw [set_ne hdc]; exact hd) e2 ?_
    refine ⟨mo_ref (by rfl) set_eq, ?_⟩
    repeat walk_at "cs"
    refine f_blank (p := PLAIN) ?_
    repeat walk_at "cs"
    refine m_app set_eq (by rw [List.length_map]; lia) ?_
    repeat walk_at "cs"
    rw [set_set]
    have hl : (ds ++ [PB]).length = ds.length + 1 := by simp
    refine ⟨k - (ds.length + 1), by lia, _, _, weak_refl, rfl, ds ++ [PB], by rw [cvs, cvs, List.map_append]; rfl, by rw [hl], ?_⟩
    rw [hl, ← he, List.append_assoc, show k - ds.length = (k - (ds.length + 1)) + 1 by lia, List.replicate_succ]; rfl
  · have hge : k ≤ ds.length := by simp at z; lia
    repeat walk_at "cs"
    refine ret_same ?_
    have : k - ds.length = 0 := by lia
    rw [this] at he
    simp at he
    rw [he]; exact h
end
end

/-! part C9 -/
section
local macro_rules | `(tactic| walk_at "cs") => `(tactic| with_reducible first | refine e_and ?_ | refine e_or ?_ | refine e_cmp2 ?_ | refine e_ifexp ?_)
noncomputable section
structure Blk where
  rows : List LN
  parts : List (List Cell)
structure BlkOk (b : Blk) : Prop where
  len : b.parts.length = b.rows.length
  ne : b.rows ≠ []
  row : ∀ (i : Nat) (row : List Cell) (w : Bool), b.rows[i]? = some (row, w) → row ≠ [] ∧ row.length ≤ 1000
  last : ∀ (i : Nat) (row : List Cell) (w : Bool), b.rows[i]? = some (row, w) → i + 1 = b.rows.length → w = false ∧ b.parts[i]? = some (used row)
  on : ∀ (i : Nat) (row : List Cell) (w : Bool), b.rows[i]? = some (row, w) → i + 1 < b.rows.length → w = true ∧ ∃ next w', b.rows[i + 1]? = some (next, w') ∧ b.parts[i]? = some (partF row next)
  small : b.parts.flatten.length ≤ 100000 ∧ b.rows.length ≤ 100000
noncomputable def begsF : Nat → List (List Cell) → List Nat
  | _, [] => []
  | k, p :: ps => k :: begsF (k + p.length) ps
noncomputable def natV (l : List Nat) : List CV := l.map fun k => .int (k : Nat)
noncomputable def begsV (ps : List (List Cell)) : List CV := natV (begsF 0 ps)
theorem begsF_app : ∀ (k : Nat) (ps : List (List Cell)) (p : List Cell), begsF k (ps ++ [p]) = begsF k ps ++ [k + ps.flatten.length]
  | k, [], p => by simp [begsF]
  | k, q :: ps, p => by
    rw [List.cons_append, begsF, begsF, begsF_app, List.cons_append, List.flatten_cons, List.length_append, Nat.add_assoc]
theorem begsV_app (ps : List (List Cell)) (p : List Cell) : begsV (ps ++ [p]) = begsV ps ++ [.int (ps.flatten.length : Nat)] := by
  unfold begsV natV; rw [begsF_app, List.map_append, Nat.zero_add]; rfl
theorem begsF_len : ∀ (k : Nat) (ps : List (List Cell)), (begsF k ps).length = ps.length
  | _, [] => rfl
  | k, p :: ps => by rw [begsF, List.length_cons, begsF_len, List.length_cons]
noncomputable abbrev WA := Addr × Addr × Addr
noncomputable def ads (ws : List WA) : List Addr := ws.flatMap fun w => [w.1, w.2.1, w.2.2]
noncomputable def objs (ws : List WA) : List CV := ws.map fun w => .obj "LogicalLine" w.1
noncomputable def WF (H : CH) : Nat → List Blk → List WA → Prop
  | _, [], [] => True
  | k, bl :: r, w :: ws => H w.1 = some (.dict (logD k (.ref w.2.1) (.ref w.2.2) true)) ∧ H w.2.1 = some (.list (begsV bl.parts)) ∧ H w.2.2 = some (.list (cvs bl.parts.flatten)) ∧ WF H (k + bl.rows.length) r ws
  | _, _, _ => False
noncomputable def total (bs : List Blk) : Nat := (bs.flatMap (·.rows)).length
theorem total_cons (b : Blk) (bs : List Blk) : total (b :: bs) = b.rows.length + total bs := by unfold total; rw [List.flatMap_cons, List.length_append]
theorem WF_mono {H H' : CH} : ∀ {k : Nat} {bs : List Blk} {ws : List WA}, (∀ a ∈ ads ws, ∀ o, H a = some o → H' a = some o) → WF H k bs ws → WF H' k bs ws
  | _, [], [], _, _ => trivial
  | _, [], _ :: _, _, x => x.elim
  | _, _ :: _, [], _, x => x.elim
  | k, b :: bs, w :: ws, h, zz1 => by
    obtain ⟨x1, x2, x3, x4⟩ := zz1
    have e : ads (w :: ws) = [w.1, w.2.1, w.2.2] ++ ads ws := by unfold ads; rw [List.flatMap_cons]
    rw [e] at h
    exact ⟨h _ (by simp) _ x1, h _ (by simp) _ x2, h _ (by simp) _ x3, WF_mono (fun a ha => h a (List.mem_append_right _ ha)) x4⟩
theorem WF_app {H : CH} {w : WA} {b : Blk} : ∀ {k : Nat} {bs : List Blk} {ws : List WA}, WF H k bs ws → H w.1 = some (.dict (logD (k + total bs) (.ref w.2.1) (.ref w.2.2) true)) → H w.2.1 = some (.list (begsV b.parts)) → H w.2.2 = some (.list (cvs b.parts.flatten)) → WF H k (bs ++ [b]) (ws ++ [w])
  | k, [], [], _, h1, h2, h3 => ⟨by simpa [total] using h1, h2, h3, trivial⟩
  | _, [], _ :: _, x, _, _, _ => x.elim
  | _, _ :: _, [], x, _, _, _ => x.elim
  | k, c :: bs, v :: ws, zz2, h1, h2, h3 => by (refine and4 zz2 fun x1 x2 x3 x4 => ?_; try clear zz2); exact ⟨x1, x2, x3, WF_app x4 (by rw [total_cons] at h1; rw [Nat.add_assoc]; exact h1) h2 h3⟩
theorem ads_app (ws : List WA) (w : WA) : ads (ws ++ [w]) = ads ws ++ [w.1, w.2.1, w.2.2] := by unfold ads; rw [List.flatMap_append]; simp
theorem WF_some {H : CH} : ∀ {k : Nat} {bs : List Blk} {ws : List WA}, WF H k bs ws → ∀ a ∈ ads ws, ∃ o, H a = some o
  | _, [], [], _, a, ha => by cases ha
  | _, [], _ :: _, x, _, _ => x.elim
  | _, _ :: _, [], x, _, _ => x.elim
  | k, b :: bs, w :: ws, zz3, a, ha => by
    (refine and4 zz3 fun x1 x2 x3 x4 => ?_; try clear zz3)
    have e : ads (w :: ws) = [w.1, w.2.1, w.2.2] ++ ads ws := by unfold ads; rw [List.flatMap_cons]
    rw [e] at ha
    rcases List.mem_append.mp ha with ha | ha
    · simp at ha
      rcases ha with rfl | rfl | rfl
      · exact ⟨_, x1⟩
      · exact ⟨_, x2⟩
      · exact ⟨_, x3⟩
    · exact WF_some x4 a ha

theorem WF_len {H : CH} : ∀ {k : Nat} {bs : List Blk} {ws : List WA}, WF H k bs ws → bs.length = ws.length
  | _, [], [], _ => rfl
  | _, [], _ :: _, x => x.elim
  | _, _ :: _, [], x => x.elim
  | _, b :: bs, w :: ws, zz4 => by (refine and4 zz4 fun _ _ _ x => ?_; try clear zz4); rw [List.length_cons, List.length_cons, WF_len x]
structure St (H H2 : CH) (f : Addr) (os : List CV) (bs : List Blk) (ws : List WA) : Prop where
  ext : ∀ x o, H x = some o → H2 x = some o
  fnd : H2 f = some (.list os)
  wf : WF H2 0 bs ws
theorem St.set {H H2 : CH} {f a : Addr} {os : List CV} {bs : List Blk} {ws : List WA} {o : CObj} (x : St H H2 f os bs ws) (ha : H a = none) (hf : f ≠ a) (hw : a ∉ ads ws) : St H (H2.set a o) f os bs ws :=
  ⟨fun b o e => by rw [set_ne (ne_of_none ha e)]; exact x.ext b o e, by rw [set_ne hf]; exact x.fnd, WF_mono (fun b hb o e => by rw [set_ne (fun q => hw (by rw [← q]; exact hb))]; exact e) x.wf⟩
theorem logical_of {n : Nat} {blks : List Blk} {H : CH} {Q : CV → CH → Prop} (hb : ∀ b ∈ blks, BlkOk b) (hz : total blks ≤ 1000 ∧ blks.length ≤ 1000)
    (h : ∀ f ws H', (f :: ads ws).Nodup → (∀ a ∈ f :: ads ws, H a = none) → (∀ x o, H x = some o → H' x = some o) → H' f = some (.list (objs ws)) → WF H' 0 blks ws → Q (.ref f) H') : call (n + 4) "" "logical_of" [lnsV (blks.flatMap (·.rows))] H Q := by
  refine call_of (loc := [("lines", lnsV (blks.flatMap (·.rows)))]) (by rfl) (by rfl) ?_
  refine allKS fun _ _ => ?_
  conv => arg 2; whnf
  have hcap : cap = 16777216 := rfl
  repeat walk_at "cs"
  refine al_ref (Nat.zero_le _) fun f hf => ?_
  repeat walk_at "cs"
  refine ss_while (fun m loc H' => ∃ done rest ws, blks = done ++ rest ∧ m = rest.length ∧ loc = ([("lines", lnsV (blks.flatMap (·.rows))), ("found", .ref f), ("at", .int (total done : Nat))] : Loc) ∧ St H H' f (objs ws) done ws ∧ (f :: ads ws).Nodup ∧ ∀ a ∈ f :: ads ws, H a = none)
    (exI3 _ _ _ ⟨weak_refl, [], blks, [], rfl, rfl, rfl, ⟨fun x o e => set_old hf e, set_eq, trivial⟩, by simp [ads], by simpa [ads] using hf⟩) fun m loc H1 _ _ hi => ?_
  refine ex3 hi fun done rest ws hEE => ?_
  refine and6 hEE fun hbs q0 q1 hst hnd hfr => ?_
  clear hi hEE
  subst q0 q1
  have hlen : (blks.flatMap (·.rows)).length = total done + total rest := by rw [hbs]; unfold total; rw [List.flatMap_append, List.length_append]
  repeat walk_at "cs"
  refine f_len rfl ?_
  repeat walk_at "cs"
  rw [List.length_map, hlen]
  induction rest using List.casesOn with
  | nil =>
    refine ⟨fun z => ?_, fun _ => ?_⟩
    · simp [total] at z
    · repeat walk_at "cs"
      rw [List.append_nil] at hbs
      subst hbs
      repeat walk_at "cs"
      exact ret_same (h f ws H1 hnd hfr hst.ext hst.fnd hst.wf)
  | cons bl rest =>
    have hbl : BlkOk bl := hb bl (by rw [hbs]; simp)
    have hrl : 0 < bl.rows.length := List.length_pos_iff.mpr hbl.ne
    rw [total_cons]
    refine ⟨fun _ => ?_, fun z => by simp at z; lia⟩
    have at_row : ∀ i, i < bl.rows.length → (blks.flatMap (·.rows))[total done + i]? = bl.rows[i]? := fun i hi => by
      rw [hbs, List.flatMap_append, List.flatMap_cons]
      show ((List.flatMap (·.rows) done) ++ (bl.rows ++ List.flatMap (·.rows) rest))[(List.flatMap (·.rows) done).length + i]? = _
      rw [List.getElem?_append_right (by lia), Nat.add_sub_cancel_left, List.getElem?_append_left hi]
    have row : ∀ i, i < bl.rows.length → ∃ r w, bl.rows[i]? = some (r, w) := fun i hi => (exI2 (bl.rows[i].1) (bl.rows[i].2) (List.getElem?_eq_getElem hi))
    (refine ex2 (row 0 hrl) fun r0 w0 e0 => ?_)
    have e0' := at_row 0 hrl
    rw [e0, Nat.add_zero] at e0'
    repeat walk_at "cs"
    refine ix_ln e0' ?_
    repeat walk_at "cs"
    refine f_logical fun d b c hd hb' hc hbd hcd hcb => ?_
    have new : ∀ x, H1 x = none → x ∉ f :: ads ws ∧ H x = none := fun x hx => by
      refine ⟨fun q => ?_, ?_⟩
      · rcases List.mem_cons.mp q with q | q
        · rw [q, hst.fnd] at hx; exact sn hx
        · obtain ⟨o, e⟩ := WF_some hst.wf x q
          rw [e] at hx; exact sn hx
      · cases e : H x with
        | none => rfl
        | some o => rw [hst.ext x o e] at hx; exact sn hx
    obtain ⟨nd, Hd⟩ := new d hd
    obtain ⟨nb, Hb⟩ := new b hb'
    obtain ⟨nc, Hc⟩ := new c hc
    rw [List.mem_cons, not_or] at nd nb nc
    repeat walk_at "cs"
    refine ss_while (fun m loc H2 => ∃ i, i < bl.rows.length ∧ m = bl.rows.length - i ∧ loc = ([("lines", lnsV (blks.flatMap (·.rows))), ("found", .ref f), ("at", .int ((total done + i : Nat))), ("whole", .obj "LogicalLine" d)] : Loc) ∧ St H H2 f (objs ws) done ws ∧
      H2 d = some (.dict (logD (total done) (.ref b) (.ref c) true)) ∧ H2 b = some (.list (begsV (bl.parts.take i))) ∧ H2 c = some (.list (cvs (bl.parts.take i).flatten)))
      (exI3 _ _ _ ⟨weak_refl, 0, hrl, rfl, rfl, ((hst.set Hb (Ne.symm nb.1) nb.2).set Hc (Ne.symm nc.1) nc.2).set Hd (Ne.symm nd.1) nd.2, set_eq, by rw [set_ne hbd, set_ne (Ne.symm hcb), set_eq]; rfl, by rw [set_ne hcd, set_eq]; rfl⟩) fun m loc H2 _ _ hi => ?_
    obtain ⟨i, hEE⟩ := hi
    refine and7 hEE fun hil q0 q1 st2 hd2 hb2 hc2 => ?_
    clear hEE
    subst q0 q1
    (refine ex2 (row i hil) fun r w er => ?_)
    obtain ⟨hrne, hrz⟩ := hbl.row i r w er
    have er' := at_row i hil
    rw [er] at er'
    have taken : ∀ p, bl.parts[i]? = some p → bl.parts.take (i + 1) = bl.parts.take i ++ [p] := fun p e => by rw [List.take_add_one, e]; rfl
    have tl : (bl.parts.take i).length = i := by rw [List.length_take, hbl.len]; lia
    have small : ∀ p, bl.parts[i]? = some p → (bl.parts.take i).flatten.length + p.length ≤ 100000 := fun p e => by
      have e1 := taken p e
      have e2 : (bl.parts.take (i + 1)).flatten.length = (bl.parts.take i).flatten.length + p.length := by rw [e1]; simp
      have e3 : bl.parts.flatten.length = (bl.parts.take (i + 1)).flatten.length + (bl.parts.drop (i + 1)).flatten.length := by rw [← List.length_append, ← List.flatten_append, List.take_append_drop]
      have := hbl.small.1
      lia
    -- the part is put
    have putIt : ∀ {Q' : CV → CH → Prop} (p : List Cell), bl.parts[i]? = some p → (∀ H3, St H H3 f (objs ws) done ws → H3 d = some (.dict (logD (total done) (.ref b) (.ref c) true)) → H3 b = some (.list (begsV (bl.parts.take (i + 1)))) → H3 c = some (.list (cvs (bl.parts.take (i + 1)).flatten)) → Q' .none H3) →
        wpMeth (call (n + 3)) (.obj "LogicalLine" d) "put" [clv p] H2 Q' := fun p ep k => by
      have hs := small p ep
      refine m_obj (log_put hd2 hb2 hc2 (Ne.symm hcb) (Ne.symm hbd) (by rfl) (by rfl) (fun _ _ _ => rfl) (by simp) ?_ ?_ ?_)
      · have := hbl.small.2
        show (natV _).length < _
        unfold natV
        rw [List.length_map, begsF_len]; lia
      · rw [List.length_map, List.length_map]; lia
      · refine k _ ((st2.set Hb (Ne.symm nb.1) nb.2).set Hc (Ne.symm nc.1) nc.2) ?_ ?_ ?_
        · rw [set_ne (Ne.symm hcd), set_ne (Ne.symm hbd)]; exact hd2
        · rw [set_ne (Ne.symm hcb), set_eq, taken p ep, begsV_app, List.length_map]
        · rw [set_eq, taken p ep, List.flatten_append]; simp [cvs]
    repeat walk_at "cs"
    refine f_goes er' hrne ?_
    repeat walk_at "cs"
    by_cases hi1 : i + 1 < bl.rows.length
    · (refine And.elim (fun zq1g zr2g => ?_) (hbl.on i r w er hi1); refine ex2 zr2g fun next w' zr3g => ?_; refine And.elim (fun en ep => ?_) zr3g; clear zr2g zr3g; obtain rfl := zq1g)
      have en' := at_row (i + 1) hi1
      rw [en] at en'
      have hnn := (hbl.row (i + 1) next w' en).1
      rw [decide_eq_true (show total done + i + 1 < (blks.flatMap (·.rows)).length by rw [hlen, total_cons]; lia)]
      refine ⟨fun _ => ?_, fun z => tf z⟩
      repeat walk_at "cs"
      refine ⟨mo_obj (by rfl) hd2 (by rfl), ?_⟩
      repeat walk_at "cs"
      refine f_call (by rfl) (part_on er' en' hrne hnn (by lia) ?_)
      repeat walk_at "cs"
      refine putIt _ ep fun H3 st3 hd3 hb3 hc3 => ?_
      repeat walk_at "cs"
      exact ⟨bl.rows.length - (i + 1), by lia, _, _, weak_refl, i + 1, hi1, rfl, rfl, st3, hd3, hb3, hc3⟩
    · obtain ⟨rfl, ep⟩ := hbl.last i r w er (by lia)
      rw [Bool.and_false]
      refine ⟨fun z => noB z, fun _ => ?_⟩
      repeat walk_at "cs"
      refine ⟨mo_obj (by rfl) hd2 (by rfl), ?_⟩
      repeat walk_at "cs"
      refine f_call (by rfl) (part_last er' hrne (by lia) ?_)
      repeat walk_at "cs"
      refine putIt _ ep fun H3 st3 hd3 hb3 hc3 => ?_
      repeat walk_at "cs"
      refine ix_ln er' ?_
      repeat walk_at "cs"
      refine sa_obj (by rfl) hd3 (by with_unfolding_all rfl) (by rfl) ?_
      have st4 := st3.set (o := .dict (logD (total done) (.ref b) (.ref c) true)) Hd (Ne.symm nd.1) nd.2
      repeat walk_at "cs"
      refine ⟨mo_ref (by rfl) st4.fnd, ?_⟩
      repeat walk_at "cs"
      refine m_app st4.fnd ?_ ?_
      · rw [objs, List.length_map, ← WF_len st4.wf]; rw [hbs] at hz; simp at hz; lia
      repeat walk_at "cs"
      have et : total (done ++ [bl]) = total done + bl.rows.length := by unfold total; rw [List.flatMap_append, List.length_append]; simp
      have ei : i + 1 = bl.rows.length := by lia
      refine ⟨rest.length, by simp, [("lines", lnsV (blks.flatMap (·.rows))), ("found", .ref f), ("at", .int (total (done ++ [bl]) : Nat))], _, weak_drop (fun p hp => ?_), done ++ [bl], rest, ws ++ [(d, b, c)], by rw [hbs]; simp, rfl, rfl, ?_, ?_, ?_⟩
      · simp only [List.mem_cons, List.not_mem_nil, or_false] at hp
        rcases hp with rfl | rfl | rfl
        · rfl
        · rfl
        · show some (CV.int _) = some (CV.int _)
          rw [et, ← ei]; congr 2
      · refine ⟨fun x o e => ?_, ?_, ?_⟩
        · rw [set_ne (ne_of_none hf e)]; exact st4.ext x o e
        · rw [set_eq]; simp [objs]
        · have hfa : f ∉ ads ws := (List.nodup_cons.mp hnd).1
          refine WF_app (WF_mono (fun a ha o e => by rw [set_ne (fun q => hfa (by rw [← q]; exact ha))]; exact e) st4.wf) ?_ ?_ ?_
          · rw [set_ne nd.1, set_eq, Nat.zero_add]; rfl
          · rw [set_ne nb.1, set_ne hbd, hb3, ei, List.take_of_length_le (by rw [hbl.len]; lia)]
          · rw [set_ne nc.1, set_ne hcd, hc3, ei, List.take_of_length_le (by rw [hbl.len]; lia)]
      · rw [ads_app, ← List.cons_append, List.nodup_append]
        refine ⟨hnd, by simp [hbd, hcd, hcb, Ne.symm hbd, Ne.symm hcd, Ne.symm hcb], ?_⟩
        intro a ha x hx
        simp at hx
        rintro rfl
        rcases hx with q | q | q <;> subst q
        · exact (not_or.mpr nd) (List.mem_cons.mp ha)
        · exact (not_or.mpr nb) (List.mem_cons.mp ha)
        · exact (not_or.mpr nc) (List.mem_cons.mp ha)
      · intro a ha
        rw [ads_app, ← List.cons_append] at ha
        rcases List.mem_append.mp ha with ha | ha
        · exact hfr a ha
        · simp at ha
          rcases ha with rfl | rfl | rfl <;> assumption
end
end

/-! part C10 -/
section
local macro_rules | `(tactic| walk_at "cs") => `(tactic| with_reducible first | refine e_and ?_ | refine e_or ?_ | refine e_cmp2 ?_)
noncomputable section
/-! signs, as they are cut -/
inductive U where
  | one (s : Option Int) | two (c : Int)
noncomputable def U.cells : U → List Cell
  | .one s => [⟨s, 1, PLAIN⟩]
  | .two c => [⟨some c, 2, .lw⟩, ⟨none, 0, .lw⟩]
noncomputable def flat (us : List U) : List Cell := us.flatMap U.cells
noncomputable def prt (cols : Nat) : U → List Cell
  | .one s => [⟨s, 1, PLAIN⟩]
  | .two c => if cols < 2 then [blank .lw] else [⟨some c, 2, .lw⟩, ⟨none, 0, .lw⟩]
noncomputable def slots (k l many plen : Nat) : List (Nat × Nat) := (List.range many).map fun st => (k, l + min st (plen - 1))
noncomputable def pad1 (cols : Nat) (pc : List Cell) : List Cell := if pc.length < cols then pc ++ [PB] else pc
noncomputable def over (cols : Nat) (pc part : List Cell) : Bool := decide (pc.length + part.length > cols)
noncomputable def cutG (cols : Nat) : List U → List (List Cell) → List Cell → List (Nat × Nat) → List (List Cell) × List (Nat × Nat)
  | [], P, pc, pl => (P ++ [pc], pl)
  | u :: us, P, pc, pl => if over cols pc (prt cols u) = true then cutG cols us (P ++ [pad1 cols pc]) (prt cols u) (pl ++ slots (P.length + 1) 0 u.cells.length (prt cols u).length)
      else cutG cols us P (pc ++ prt cols u) (pl ++ slots P.length pc.length u.cells.length (prt cols u).length)
theorem cutG_nil {cols : Nat} {P : List (List Cell)} {pc : List Cell} {pl : List (Nat × Nat)} : cutG cols [] P pc pl = (P ++ [pc], pl) := rfl
theorem cutG_cons {cols : Nat} {u : U} {us : List U} {P : List (List Cell)} {pc : List Cell} {pl : List (Nat × Nat)} : cutG cols (u :: us) P pc pl = if over cols pc (prt cols u) = true then cutG cols us (P ++ [pad1 cols pc]) (prt cols u) (pl ++ slots (P.length + 1) 0 u.cells.length (prt cols u).length)
      else cutG cols us P (pc ++ prt cols u) (pl ++ slots P.length pc.length u.cells.length (prt cols u).length) := rfl
noncomputable def cut (cols : Nat) (us : List U) : List (List Cell) × List (Nat × Nat) := cutG cols us [] [] []
noncomputable def plv (p : Nat × Nat) : CV := .tup [.int p.1, .int p.2]
theorem flat_app (a b : List U) : flat (a ++ b) = flat a ++ flat b := by unfold flat; rw [List.flatMap_append]
theorem flat_cons (u : U) (b : List U) : flat (u :: b) = u.cells ++ flat b := by unfold flat; rw [List.flatMap_cons]
theorem cells_len (u : U) : 1 ≤ u.cells.length ∧ u.cells.length ≤ 2 := by induction u using Mine.U.casesOn <;> simp [U.cells]
theorem prt_len (cols : Nat) (u : U) : 1 ≤ (prt cols u).length ∧ (prt cols u).length ≤ 2 := by
  induction u using Mine.U.casesOn with
  | one s => simp [prt]
  | two c => simp only [prt]; split <;> simp

theorem flat_len : ∀ us : List U, (flat us).length ≤ 2 * us.length
  | [] => by simp [flat]
  | u :: us => by have := flat_len us; have := cells_len u; rw [flat_cons, List.length_append, List.length_cons]; lia
theorem items_ext {H H2 : CH} {v : CV} {ws : List CV} (h : ∀ x o, H x = some o → H2 x = some o) (e : itemsOf H v = some ws) : itemsOf H2 v = some ws := by
  induction v using Mine.CV.casesOn with
  | ref b =>
    exact itr (h b _ (itemsOf_ref e))
  | _ => exact e
noncomputable def del (H : CH) (a : Addr) : CH := fun x => if x = a then none else H x
theorem del_ne {H : CH} {a x : Addr} (h : x ≠ a) : (del H a) x = H x := by unfold del; rw [if_neg h]
theorem weak_fz {loc loc' : Loc} {H : CH} {a b : Addr} {vs ws : List CV} (hl : ∀ p ∈ loc', look p.1 loc = some p.2) (hab : b ≠ a) (ha : H a = some (.list (vs ++ [.ref b]))) (hb : H b = some (.list ws)) : Weak loc H loc' ((del H b).set a (.list (vs ++ [.lst ws]))) := by
  refine weak_of (fun x => x = b) (fun p hp => ⟨_, hl p hp, fz_refl _ _ _⟩) (fh_set (Ne.symm hab) ha ⟨_, rfl, fz_app (fz_reflL _ _ _) (exI2 _ _ ⟨rfl, fz_ref rfl hb (fz_reflL _ _ _), rfl⟩)⟩ (fh_base fun x o e => ?_))
  unfold del at e
  split at e
  · exact nn e
  · rename_i h; exact ⟨h, e⟩
theorem range_items (k : Nat) : rangeItems (k : Int) = (List.range k).map fun i => CV.int (i : Nat) := by unfold rangeItems; rw [Int.toNat_natCast]

theorem src_range {cl : Cl} {loc : Loc} {H : CH} {K : List CV → Option (Addr × List CV) → CH → Prop} {e : Expr} {fp p : Pos} (h : wpE cl e loc H fun v H => ∃ n, v = .int n ∧ (-1000000 < n ∧ n < 1000000) ∧ K (rangeItems n) none H) : wpSrc cl (.Call (.Name "range" fp) [e] [] p) loc H K := by
  have e1 : wpSrc cl (.Call (.Name "range" fp) [e] [] p) loc H K = wpE cl e loc H (fun v H =>
      if ("range" : Str) = "range" then ∃ n, v = .int n ∧ (-1000000 < n ∧ n < 1000000) ∧ K (rangeItems n) Option.none H
      else if ("range" : Str) = "enumerate" then wpIter v H fun vs g => K (enumItems vs) g H
      else wpFun cl "range" [v] H fun r H => wpIter r H fun vs g => K vs g H) := rfl
  rw [e1]
  simp only [if_true]
  exact h
theorem e_via {n : Nat} {e : Expr} {loc : Loc} {H : CH} {Q : CV → CH → Prop} (J : CV → CH → Prop) (k : ∀ c H, J c H → Q c H) (h : AllKV fun K => ImplV J K → wpE (call n) e loc H K) : wpE (call n) e loc H Q := mE (call_mono n) e loc H _ _ k (h J fun _ _ x => x)
/-- the value of a sign's cells in a list -/
theorem cells_at {us done rest : List U} {u : U} (e : us = done ++ u :: rest) (i : Nat) (hi : i < u.cells.length) : (cvs (flat us))[(flat done).length + i]? = some (u.cells[i]).cv := by
  rw [e, flat_app, flat_cons, List.getElem?_map, List.getElem?_append_right (by lia), Nat.add_sub_cancel_left, List.getElem?_append_left hi, List.getElem?_eq_getElem hi]; rfl

theorem cut_with_places {n : Nat} {us : List U} {cols : Nat} {v : CV} {H : CH} {Q : CV → CH → Prop} (hv : itemsOf H v = some (cvs (flat us))) (hz : us.length ≤ 10000) (hc : 1 ≤ cols ∧ cols ≤ 1000)
    (h : Q (.tup [.lst ((cut cols us).1.map clv), .lst ((cut cols us).2.map plv)]) H) : call (n + 3) "" "cut_with_places" [v, .int cols] H Q := by
  refine call_of (loc := [("cells", v), ("columns", .int cols)]) (by rfl) (by rfl) ?_
  refine allKS fun _ _ => ?_
  conv => arg 2; whnf
  have hcap : cap = 16777216 := rfl
  repeat walk_at "cs"
  refine al_ref (Nat.zero_le _) fun a1 h1 => ?_
  repeat walk_at "cs"
  refine al_ref (Nat.zero_le _) fun a2 h2 => ?_
  repeat walk_at "cs"
  refine al_ref (Nat.zero_le _) fun a3 h3 => ?_
  have n21 : a2 ≠ a1 := fun q => by rw [q, set_eq] at h2; exact sn h2
  have n32 : a3 ≠ a2 := fun q => by rw [q, set_eq] at h3; exact sn h3
  rw [set_ne n32] at h3
  have n31 : a3 ≠ a1 := fun q => by rw [q, set_eq] at h3; exact sn h3
  rw [set_ne n31] at h3
  rw [set_ne n21] at h2
  repeat walk_at "cs"
  refine ss_while (fun m loc H2 => ∃ done rest P pc pl b, us = done ++ rest ∧ m = rest.length ∧ loc = ([("cells", v), ("columns", .int cols), ("pieces", .ref a1), ("piece", .ref b), ("places", .ref a3), ("at", .int ((flat done).length : Nat))] : Loc) ∧
      P.length ≤ done.length ∧ pc.length ≤ 2 * done.length ∧ pl.length = (flat done).length ∧ cutG cols rest P pc pl = cut cols us ∧
      (∀ x o, H x = some o → H2 x = some o) ∧ H2 a1 = some (.list (P.map clv)) ∧ H2 b = some (.list (cvs pc)) ∧ H2 a3 = some (.list (pl.map plv)) ∧ b ≠ a1 ∧ b ≠ a3 ∧ H b = none)
    ⟨_, _, _, weak_refl, [], us, [], [], [], a2, rfl, rfl, rfl, Nat.le_refl _, Nat.le_refl _, rfl, rfl, fun x o e => ?_, ?_, ?_, set_eq, n21, Ne.symm n32, h2⟩ fun m loc H2 _ _ hi => ?_
  · rw [set_ne (ne_of_none h3 e), set_ne (ne_of_none h2 e), set_ne (ne_of_none h1 e)]; exact e
  · rw [set_ne (Ne.symm n31), set_ne (Ne.symm n21), set_eq]; rfl
  · rw [set_ne (Ne.symm n32), set_eq]; rfl
  refine ex6 hi fun done rest P pc pl b hEE => ?_
  refine and14 hEE fun hus q0 q1 zP zpc zpl hcut hext e1 e2 e3 nb1 nb3 hb => ?_
  clear hi hEE
  subst q0 q1
  have hv2 := items_ext hext hv
  have hfl : (flat us).length = (flat done).length + (flat rest).length := by rw [hus, flat_app, List.length_append]
  repeat walk_at "cs"
  refine f_len hv2 ?_
  repeat walk_at "cs"
  rw [List.length_map, hfl]
  induction rest using List.casesOn with
  | nil =>
    refine ⟨fun z => ?_, fun _ => ?_⟩
    · simp [flat] at z
    repeat walk_at "cs"
    refine ⟨mo_ref (by rfl) e1, ?_⟩
    repeat walk_at "cs"
    refine m_app e1 (by rw [List.length_map]; rw [hus] at hz; simp at hz; lia) ?_
    repeat walk_at "cs"
    have hc2 : cut cols us = (P ++ [pc], pl) := hcut.symm
    rw [hc2] at h
    repeat walk_at "cs"
    refine ret_frz (c' := .tup [.lst ((P ++ [pc]).map clv), .lst (pl.map plv)]) (H0 := H) (fun x o e => ?_) ⟨_, rfl, _, _, rfl, fz_ref h1 set_eq ?_, _, _, rfl, fz_ref h3 (by rw [set_ne n31]; exact e3) (fz_reflL _ _ _), rfl⟩ h
    · rw [set_ne (ne_of_none h1 e)]; exact hext x o e
    · rw [List.map_append]
      exact fz_app (fz_reflL _ _ _) (exI2 _ _ ⟨rfl, fz_ref hb (by rw [set_ne nb1]; exact e2) (fz_reflL _ _ _), rfl⟩)
  | cons u rest =>
    obtain ⟨hu1, hu2⟩ := cells_len u
    obtain ⟨hp1, hp2⟩ := prt_len cols u
    rw [flat_cons, List.length_append] at hfl ⊢
    have hdl : done.length < 10000 := by rw [hus] at hz; simp at hz; lia
    refine ⟨fun _ => ?_, fun z => by simp at z; lia⟩
    repeat walk_at "cs"
    refine ix_it (c := (u.cells[0]).cv) hv2 (px_nat (cells_at hus 0 hu1)) ?_
    repeat walk_at "cs"
    -- how many
    refine e_via (fun c H' => c = .int (u.cells.length : Nat) ∧ H2 = H') (fun c H' hj => ?_) ?_
    rotate_left
    · refine allKV fun _ _ => ?_
      refine e_ifexp ?_
      repeat walk_at "cs"
      induction u using Mine.U.casesOn with
      | one s =>
        refine ⟨fun _ => ⟨fun z => noB z, fun _ => ?_⟩, fun z => tf z⟩
        repeat walk_at "cs"
        exact ⟨rfl, rfl⟩
      | two c =>
        refine ⟨fun z => noB z, fun _ => ?_⟩
        repeat walk_at "cs"
        refine f_len hv2 ?_
        repeat walk_at "cs"
        rw [List.length_map, hfl]
        refine ⟨fun z => by simp [U.cells] at z; lia, fun _ => ?_⟩
        repeat walk_at "cs"
        refine ix_it (c := (Cell.mk none 0 .lw).cv) (k := (((flat done).length + 1 : Nat) : Int)) hv2 (px_nat (cells_at hus 1 (by simp [U.cells]))) ?_
        repeat walk_at "cs"
        refine ⟨fun z => noB z, fun _ => ?_⟩
        repeat walk_at "cs"
        refine ⟨fun _ => ?_, fun z => tf z⟩
        repeat walk_at "cs"
        exact ⟨rfl, rfl⟩
    obtain ⟨rfl, rfl⟩ := hj
    have es : cslice (cvs (flat us)) (some (((flat done).length : Nat) : Int)) (some ((((flat done).length : Nat) : Int) + ((u.cells.length : Nat) : Int))) = cvs u.cells := by
      rw [show (((flat done).length : Nat) : Int) + ((u.cells.length : Nat) : Int) = (((flat done).length + u.cells.length : Nat) : Int) by lia, cs_nat (by lia) (by rw [List.length_map, hfl]; lia), Nat.add_sub_cancel_left, hus, flat_app, flat_cons, ← List.map_drop, List.drop_left, ← List.map_take, List.take_left]
    repeat walk_at "cs"
    refine sl_it hv2 es (al_lst (by rw [List.length_map]; lia) ?_)
    repeat walk_at "cs"
    refine ss_if_j (fun loc H' => loc = ([("cells", v), ("columns", .int cols), ("pieces", .ref a1), ("piece", .ref b), ("places", .ref a3), ("at", .int ((flat done).length : Nat)), ("cell", (u.cells[0]).cv), ("many", .int (u.cells.length : Nat)), ("part", clv (prt cols u))] : Loc) ∧ H2 = H') (fun loc H' hj => ?_) ?_
    rotate_left
    · repeat walk_at "cs"
      induction u using Mine.U.casesOn with
      | one s =>
        refine ⟨fun z => by simp [U.cells] at z; lia, fun _ => ?_⟩
        repeat walk_at "cs"
        refine ⟨fun z => noB z, fun _ => ?_⟩
        repeat walk_at "cs"
        refine ⟨fun _ => ⟨fun z => noB z, fun _ => ?_⟩, fun z => tf z⟩
        repeat walk_at "cs"
        refine ⟨fun z => (by exact noB z), fun _ => ?_⟩
        repeat walk_at "cs"
        exact ⟨rfl, rfl⟩
      | two c =>
        by_cases hc2 : cols < 2
        · refine ⟨fun _ => ⟨fun _ => ?_, fun z => by simp [U.cells] at z; lia⟩, fun z => by simp [U.cells] at z; lia⟩
          repeat walk_at "cs"
          refine al_lst (by simp [cap]) ?_
          repeat walk_at "cs"
          exact ⟨by rw [show prt cols (.two c) = [blank .lw] by simp [prt, hc2]]; with_unfolding_all rfl, rfl⟩
        · refine ⟨fun z => by simp [U.cells] at z; lia, fun _ => ?_⟩
          repeat walk_at "cs"
          refine ⟨fun _ => ⟨fun z => noB z, fun _ => ?_⟩, fun z => tf z⟩
          repeat walk_at "cs"
          refine ⟨fun z => (by exact noB z), fun _ => ?_⟩
          repeat walk_at "cs"
          exact ⟨by rw [show prt cols (.two c) = U.cells (.two c) by simp [prt, hc2, U.cells]]; with_unfolding_all rfl, rfl⟩
    obtain ⟨rfl, rfl⟩ := hj
    repeat walk_at "cs"
    refine ss_if_j (fun loc H3 => ∃ b' V pc', loc = ([("cells", v), ("columns", .int cols), ("pieces", .ref a1), ("piece", .ref b'), ("places", .ref a3), ("at", .int ((flat done).length : Nat)), ("cell", (u.cells[0]).cv), ("many", .int (u.cells.length : Nat)), ("part", clv (prt cols u))] : Loc) ∧
      (∀ x o, H x = some o → H3 x = some o) ∧ H3 a1 = some (.list V) ∧ H3 b' = some (.list (cvs pc')) ∧ H3 a3 = some (.list (pl.map plv)) ∧ b' ≠ a1 ∧ b' ≠ a3 ∧ H b' = none ∧ V.length ≤ P.length + 1 ∧ pc'.length ≤ pc.length ∧
      ((over cols pc (prt cols u) = false ∧ V = P.map clv ∧ pc' = pc ∧ b' = b) ∨ (over cols pc (prt cols u) = true ∧ V = P.map clv ++ [.ref b] ∧ pc' = [] ∧ H3 b = some (.list (cvs (pad1 cols pc))) ∧ b' ≠ b))) (fun loc H3 hj => ?_) ?_
    rotate_left
    · repeat walk_at "cs"
      refine f_len (ws := cvs pc) (itr e2) ?_
      repeat walk_at "cs"
      refine f_len rfl ?_
      repeat walk_at "cs"
      rw [List.length_map, List.length_map]
      refine ⟨fun z => ?_, fun z => ?_⟩
      · have ho : over cols pc (prt cols u) = true := by unfold over; simp at z ⊢; lia
        have pushIt : ∀ H3 : CH, (∀ x o, H x = some o → H3 x = some o) → H3 a1 = some (.list (P.map clv)) → H3 b = some (.list (cvs (pad1 cols pc))) → H3 a3 = some (.list (pl.map plv)) →
            ∀ {Q' : CV → CH → Prop}, (∀ b', b' ≠ a1 → b' ≠ a3 → b' ≠ b → H b' = none → (Q' (.ref b') (((H3.set a1 (.list (P.map clv ++ [.ref b])))).set b' (.list [])))) → allocL [] (H3.set a1 (.list (P.map clv ++ [.ref b]))) Q' := fun H3 g0 g1 g2 g3 Q' k => by
          refine al_ref (Nat.zero_le _) fun b' hb' => ?_
          have m1 : b' ≠ a1 := fun q => by rw [q, set_eq] at hb'; exact sn hb'
          rw [set_ne m1] at hb'
          refine k b' m1 (fun q => by rw [q, g3] at hb'; cases hb') (fun q => by rw [q, g2] at hb'; exact sn hb') ?_
          cases e : H b' with
          | none => rfl
          | some o => rw [g0 b' o e] at hb'; exact sn hb'
        repeat walk_at "cs"
        refine ss_if_j (fun loc H3 => loc = ([("cells", v), ("columns", .int cols), ("pieces", .ref a1), ("piece", .ref b), ("places", .ref a3), ("at", .int ((flat done).length : Nat)), ("cell", (u.cells[0]).cv), ("many", .int (u.cells.length : Nat)), ("part", clv (prt cols u))] : Loc) ∧
          (∀ x o, H x = some o → H3 x = some o) ∧ H3 a1 = some (.list (P.map clv)) ∧ H3 b = some (.list (cvs (pad1 cols pc))) ∧ H3 a3 = some (.list (pl.map plv))) (fun loc H3 hj => ?_) ?_
        rotate_left
        · repeat walk_at "cs"
          refine f_len (ws := cvs pc) (itr e2) ?_
          repeat walk_at "cs"
          rw [List.length_map]
          refine ⟨fun z2 => ?_, fun z2 => ?_⟩
          · have hp : pad1 cols pc = pc ++ [PB] := by unfold pad1; rw [if_pos (by simp at z2; lia)]
            repeat walk_at "cs"
            refine ⟨mo_ref (by rfl) e2, ?_⟩
            repeat walk_at "cs"
            refine f_blank (p := PLAIN) ?_
            repeat walk_at "cs"
            refine m_app e2 (by rw [List.length_map]; lia) ?_
            repeat walk_at "cs"
            refine ⟨rfl, fun x o e => ?_, ?_, ?_, ?_⟩
            · rw [set_ne (ne_of_none hb e)]; exact hext x o e
            · rw [set_ne (Ne.symm nb1)]; exact e1
            · rw [set_eq, hp, cvs, cvs, List.map_append]; rfl
            · rw [set_ne (Ne.symm nb3)]; exact e3
          · have hp : pad1 cols pc = pc := by unfold pad1; rw [if_neg (by simp at z2; lia)]
            repeat walk_at "cs"
            exact ⟨rfl, hext, e1, by rw [hp]; exact e2, e3⟩
        refine and5 hj fun q0 g0 g1 g2 g3 => ?_
        clear hj
        subst q0
        repeat walk_at "cs"
        refine ⟨mo_ref (by rfl) g1, ?_⟩
        repeat walk_at "cs"
        refine m_app g1 (by rw [List.length_map]; lia) ?_
        repeat walk_at "cs"
        refine pushIt H3 g0 g1 g2 g3 fun b' m1 m3 mb hb' => ?_
        repeat walk_at "cs"
        refine (exI3 b' (P.map clv ++ [.ref b]) [] ⟨rfl, fun x o e => ?_, ?_, set_eq, ?_, m1, m3, hb', by simp, Nat.zero_le _, .inr ⟨ho, rfl, rfl, ?_, mb⟩⟩)
        · rw [set_ne (ne_of_none hb' e), set_ne (ne_of_none h1 e)]; exact g0 x o e
        · rw [set_ne (Ne.symm m1), set_eq]
        · rw [set_ne (Ne.symm m3), set_ne n31]; exact g3
        · rw [set_ne (Ne.symm mb), set_ne nb1]; exact g2
      · have ho : over cols pc (prt cols u) = false := by unfold over; simp at z ⊢; lia
        repeat walk_at "cs"
        exact (exI3 b (P.map clv) pc ⟨rfl, hext, e1, e2, e3, nb1, nb3, hb, by simp, Nat.le_refl _, .inl ⟨ho, rfl, rfl, rfl⟩⟩)
    refine ex3 hj fun b' V pc' hEE => ?_
    refine and11 hEE fun q0 g0 g1 g2 g3 m1 m3 hb' zV zpc' hfin => ?_
    clear hj hEE
    subst q0
    repeat walk_at "cs"
    refine ss_for (src_range ?_)
    repeat walk_at "cs"
    refine ⟨by lia, ?_⟩
    rw [range_items]
    refine for_inv (g := none) (fun vs loc H4 => ∃ i, i ≤ u.cells.length ∧ vs = ((List.range u.cells.length).drop i).map (fun (k : Nat) => CV.int k) ∧ loc = ([("cells", v), ("columns", .int cols), ("pieces", .ref a1), ("piece", .ref b'), ("places", .ref a3), ("at", .int ((flat done).length : Nat)), ("cell", (u.cells[0]).cv), ("many", .int (u.cells.length : Nat)), ("part", clv (prt cols u))] : Loc) ∧
      (∀ x, x ≠ a3 → H4 x = H3 x) ∧ H4 a3 = some (.list ((pl ++ (slots V.length pc'.length u.cells.length (prt cols u).length).take i).map plv))) (fun _ _ _ _ => trivial) (fun loc H4 hj => ?_) (fun w ws loc H4 _ _ hj => ?_) _ _ _ ?_
    rotate_left 2
    · exact ⟨0, Nat.zero_le _, rfl, rfl, fun _ _ => rfl, by simpa using g3⟩
    · obtain ⟨i, hEE⟩ := hj
      refine and5 hEE fun hi hvs q0 k0 k3 => ?_
      clear hEE
      subst q0
      have hi' : i = u.cells.length := by
        have := congrArg List.length hvs
        simp at this; lia
      subst hi'
      rw [List.take_of_length_le (by simp [slots])] at k3
      have k1 : H4 a1 = some (.list V) := by rw [k0 _ (Ne.symm n31)]; exact g1
      have k2 : H4 b' = some (.list (cvs pc')) := by rw [k0 _ m3]; exact g2
      repeat walk_at "cs"
      refine ⟨mo_ref (by rfl) k2, ?_⟩
      repeat walk_at "cs"
      refine m_ext (by simp) k2 rfl (by rw [List.length_map, List.length_map]; lia) ?_
      repeat walk_at "cs"
      have hfl2 : (flat (done ++ [u])).length = (flat done).length + u.cells.length := by rw [flat_app, List.length_append]; simp [flat]
      have hsl : (slots V.length pc'.length u.cells.length (prt cols u).length).length = u.cells.length := by simp [slots]
      have hat : ((((flat done).length : Nat) : Int) + ((u.cells.length : Nat) : Int)) = (((flat (done ++ [u])).length : Nat) : Int) := by rw [hfl2]; lia
      rw [hat]
      have ext4 : ∀ x o, H x = some o → H4 x = some o := fun x o e => by rw [k0 x (ne_of_none h3 e)]; exact g0 x o e
      have hloc : ∀ p ∈ ([("cells", v), ("columns", .int cols), ("pieces", .ref a1), ("piece", .ref b'), ("places", .ref a3), ("at", .int ((flat (done ++ [u])).length : Nat))] : Loc), look p.1 ([("cells", v), ("columns", .int cols), ("pieces", .ref a1), ("piece", .ref b'), ("places", .ref a3), ("at", .int ((flat (done ++ [u])).length : Nat)), ("cell", (u.cells[0]).cv), ("many", .int (u.cells.length : Nat)), ("part", clv (prt cols u))] : Loc) = some p.2 := fun p hp => by
        simp only [List.mem_cons, List.not_mem_nil, or_false] at hp
        rcases hp with rfl | rfl | rfl | rfl | rfl | rfl <;> rfl
      rcases hfin with ⟨ho, rfl, rfl, rfl⟩ | ⟨ho, rfl, rfl, hb2, hbb⟩
      · refine ⟨rest.length, by simp, _, _, weak_drop hloc, done ++ [u], rest, P, pc' ++ prt cols u, pl ++ slots (P.map clv).length pc'.length u.cells.length (prt cols u).length, b', by rw [hus]; simp, rfl, rfl, by simp; lia, by simp; lia, ?_, ?_, fun x o e => ?_, ?_, ?_, ?_, m1, m3, hb'⟩
        · rw [List.length_append, hsl, hfl2, zpl]
        · rw [← hcut, cutG, if_neg (by rw [ho]; simp), List.length_map]
        · rw [set_ne (ne_of_none hb' e)]; exact ext4 x o e
        · rw [set_ne (Ne.symm m1)]; exact k1
        · rw [set_eq, cvs, cvs, cvs, List.map_append]
        · rw [set_ne (Ne.symm m3)]; exact k3
      · refine ⟨rest.length, by simp, _, _, weak_fz (a := a1) (b := b) (vs := P.map clv) (ws := cvs (pad1 cols pc)) hloc nb1 (by rw [set_ne (Ne.symm m1)]; exact k1) (by rw [set_ne (Ne.symm hbb), k0 _ nb3]; exact hb2), done ++ [u], rest, P ++ [pad1 cols pc], prt cols u, pl ++ slots (P.length + 1) 0 u.cells.length (prt cols u).length, b', by rw [hus]; simp, rfl, rfl, by simp; lia, by simp; lia, ?_, ?_, fun x o e => ?_, ?_, ?_, ?_, m1, m3, hb'⟩
        · rw [List.length_append, hfl2, zpl]; simp [slots]
        · rw [← hcut, cutG, if_pos ho]
        · rw [set_ne (ne_of_none h1 e), del_ne (ne_of_none hb e), set_ne (ne_of_none hb' e)]; exact ext4 x o e
        · rw [set_eq, List.map_append]; rfl
        · rw [set_ne m1, del_ne hbb, set_eq]; rfl
        · rw [set_ne n31, del_ne (Ne.symm nb3), set_ne (Ne.symm m3)]
          rw [List.length_append, List.length_map] at k3
          exact k3
    · obtain ⟨i, hEE⟩ := hj
      refine and5 hEE fun hi hvs q0 k0 k3 => ?_
      clear hEE
      subst q0
      have hi2 : i < u.cells.length := by
        have := congrArg List.length hvs
        simp at this; lia
      have hdr : (List.range u.cells.length).drop i = i :: (List.range u.cells.length).drop (i + 1) := by
        rw [List.drop_eq_getElem_cons (by simpa using hi2), List.getElem_range]
      rw [hdr, List.map_cons] at hvs
      obtain ⟨rfl, rfl⟩ := List.cons.inj hvs
      have k1 : H4 a1 = some (.list V) := by rw [k0 _ (Ne.symm n31)]; exact g1
      have k2 : H4 b' = some (.list (cvs pc')) := by rw [k0 _ m3]; exact g2
      repeat walk_at "cs"
      refine ⟨mo_ref (by rfl) k3, ?_⟩
      repeat walk_at "cs"
      refine f_len (ws := V) (itr k1) ?_
      repeat walk_at "cs"
      refine f_len (ws := cvs pc') (itr k2) ?_
      repeat walk_at "cs"
      refine f_len rfl ?_
      repeat walk_at "cs"
      have hsl : (slots V.length pc'.length u.cells.length (prt cols u).length).length = u.cells.length := by simp [slots]
      refine m_app k3 (by rw [List.length_map, List.length_append, List.length_take, hsl]; have : (flat done).length ≤ 2 * done.length := flat_len done; lia) ?_
      repeat walk_at "cs"
      refine (exI2 _ _ ⟨weak_drop (fun p hp => ?_), i + 1, hi2, rfl, rfl, fun x hx => ?_, ?_⟩)
      · simp only [List.mem_cons, List.not_mem_nil, or_false] at hp
        rcases hp with rfl | rfl | rfl | rfl | rfl | rfl | rfl | rfl | rfl <;> rfl
      · rw [set_ne hx]; exact k0 x hx
      · have e : (slots V.length pc'.length u.cells.length (prt cols u).length)[i]? = some (V.length, pc'.length + min i ((prt cols u).length - 1)) := by
          unfold slots; rw [List.getElem?_map, List.getElem?_range hi2]; rfl
        have e4 : (((pc'.length : Nat) : Int) + min ((i : Nat) : Int) (((prt cols u).length : Nat) - 1)) = ((pc'.length + min i ((prt cols u).length - 1) : Nat) : Int) := by rw [min_sub1 hp1, ← Int.natCast_add]
        have e5 : ∀ (l : List (Nat × Nat)) (x : Nat × Nat), List.map plv (l ++ [x]) = List.map plv l ++ [.tup [.int x.1, .int x.2]] := fun l x => by rw [List.map_append]; rfl
        rw [set_eq, List.take_add_one, e, Option.toList_some, ← List.append_assoc, e5, List.length_map, List.length_map]
        dsimp only
        rw [← e4]
end
end

/-! part C11 -/
section
local macro_rules | `(tactic| walk_at "cs") => `(tactic| with_reducible first | refine e_and ?_ | refine e_or ?_ | refine e_cmp2 ?_)
noncomputable section
theorem f_cwp {n : Nat} {us : List U} {cols : Nat} {v : CV} {H : CH} {Q : CV → CH → Prop} (hv : itemsOf H v = some (cvs (flat us))) (hz : us.length ≤ 10000) (hc : 1 ≤ cols ∧ cols ≤ 1000)
    (h : Q (.tup [.lst ((cut cols us).1.map clv), .lst ((cut cols us).2.map plv)]) H) : wpFun (call (n + 3)) "cut_with_places" [v, .int cols] H Q := f_call (by rfl) (cut_with_places hv hz hc h)
theorem f_cut {n : Nat} {us : List U} {cols : Nat} {v : CV} {H : CH} {Q : CV → CH → Prop} (hv : itemsOf H v = some (cvs (flat us))) (hz : us.length ≤ 10000) (hc : 1 ≤ cols ∧ cols ≤ 1000)
    (h : Q (.lst ((cut cols us).1.map clv)) H) : wpFun (call (n + 4)) "cut_cells" [v, .int cols] H Q := by
  refine f_call (by rfl) (call_of (loc := [("cells", v), ("columns", .int cols)]) (by rfl) (by rfl) ?_)
  refine allKS fun _ _ => ?_
  conv => arg 2; whnf
  repeat walk_at "cs"
  refine f_cwp hv hz hc ?_
  repeat walk_at "cs"
  refine ix_tup (by rfl) ?_
  repeat walk_at "cs"
  exact ret_same h
noncomputable def placeF (P : List (List Cell)) (pl : List (Nat × Nat)) (o : Nat) : Nat × Nat := match pl[o]? with
  | some p => p
  | none => (P.length - 1, (P.getLast?.getD []).length)
theorem f_place {n : Nat} {P : List (List Cell)} {pl : List (Nat × Nat)} {o : Nat} {H : CH} {Q : CV → CH → Prop} (hP : P ≠ []) (h : Q (plv (placeF P pl o)) H) : wpFun (call (n + 1)) "reflow_place" [.lst (P.map clv), .lst (pl.map plv), .int o] H Q := by
  refine f_call (by rfl) (call_of (loc := [("pieces", .lst (P.map clv)), ("places", .lst (pl.map plv)), ("offset", .int o)]) (by rfl) (by rfl) ?_)
  refine allKS fun _ _ => ?_
  conv => arg 2; whnf
  repeat walk_at "cs"
  refine ss_if ?_
  repeat walk_at "cs"
  refine f_len rfl ?_
  repeat walk_at "cs"
  rw [List.length_map]
  refine ⟨fun z => ?_, fun z => ?_⟩
  · have hi : o < pl.length := by simp at z; lia
    have e : placeF P pl o = pl[o] := by unfold placeF; rw [List.getElem?_eq_getElem hi]
    rw [e] at h
    repeat walk_at "cs"
    refine ix_it (c := plv pl[o]) rfl (px_nat (by rw [List.getElem?_map, List.getElem?_eq_getElem hi]; rfl)) ?_
    repeat walk_at "cs"
    exact ret_same h
  · have hi : pl.length ≤ o := by simp at z; lia
    have e : placeF P pl o = (P.length - 1, (P.getLast?.getD []).length) := by unfold placeF; rw [List.getElem?_eq_none hi]
    rw [e] at h
    obtain ⟨r, p, rfl⟩ : ∃ r p, P = r ++ [p] := (exI2 P.dropLast (P.getLast hP) ((List.dropLast_concat_getLast hP).symm))
    repeat walk_at "cs"
    refine f_len rfl ?_
    repeat walk_at "cs"
    refine ix_it (c := clv p) rfl (by rw [List.map_append]; exact px_last) ?_
    repeat walk_at "cs"
    refine f_len rfl ?_
    repeat walk_at "cs"
    refine ret_same ?_
    rw [List.length_map, List.length_map]
    have e1 : (((r ++ [p]).length : Nat) : Int) - 1 = (((r ++ [p]).length - 1 : Nat) : Int) := by simp
    rw [e1]
    refine (show Q (.tup [.int (((r ++ [p]).length - 1 : Nat)), .int (p.length : Nat)]) H from ?_)
    simpa [plv] using h
theorem src_enum {cl : Cl} {loc : Loc} {H : CH} {K : List CV → Option (Addr × List CV) → CH → Prop} {e : Expr} {fp p : Pos} (h : wpE cl e loc H fun v H => wpIter v H fun vs g => K (enumItems vs) g H) : wpSrc cl (.Call (.Name "enumerate" fp) [e] [] p) loc H K := by
  have e1 : wpSrc cl (.Call (.Name "enumerate" fp) [e] [] p) loc H K = wpE cl e loc H (fun v H =>
      if ("enumerate" : Str) = "range" then ∃ n, v = .int n ∧ (-1000000 < n ∧ n < 1000000) ∧ K (rangeItems n) Option.none H
      else if ("enumerate" : Str) = "enumerate" then wpIter v H fun vs g => K (enumItems vs) g H
      else wpFun cl "enumerate" [v] H fun r H => wpIter r H fun vs g => K vs g H) := rfl
  rw [e1]
  have h0 : ¬ (("enumerate" : Str) = "range") := by decide +kernel
  simp only [if_neg h0, if_true]
  exact h
theorem src_call1 {cl : Cl} {loc : Loc} {H : CH} {K : List CV → Option (Addr × List CV) → CH → Prop} {f : Str} {e : Expr} {fp p : Pos} (hf : (f != ("range" : Str) && f != ("enumerate" : Str)) = true) (h : wpE cl e loc H fun v H => wpFun cl f [v] H fun r H => wpIter r H fun vs g => K vs g H) : wpSrc cl (.Call (.Name f fp) [e] [] p) loc H K := by
  simp only [Bool.and_eq_true, bne_iff_ne, ne_eq] at hf
  have e1 : wpSrc cl (.Call (.Name f fp) [e] [] p) loc H K = wpE cl e loc H (fun v H =>
      if f = "range" then ∃ n, v = .int n ∧ (-1000000 < n ∧ n < 1000000) ∧ K (rangeItems n) Option.none H
      else if f = "enumerate" then wpIter v H fun vs g => K (enumItems vs) g H
      else wpFun cl f [v] H fun r H => wpIter r H fun vs g => K vs g H) := rfl
  rw [e1]
  simp only [if_neg hf.1, if_neg hf.2]
  exact h
theorem src_calls {cl : Cl} {loc : Loc} {H : CH} {K : List CV → Option (Addr × List CV) → CH → Prop} {f : Str} {a b : Expr} {r : List Expr} {fp p : Pos} (h : wpEs cl (a :: b :: r) loc H fun vs H => wpFun cl f vs H fun r H => wpIter r H fun vs g => K vs g H) : wpSrc cl (.Call (.Name f fp) (a :: b :: r) [] p) loc H K := h
theorem src_name {cl : Cl} {loc : Loc} {H : CH} {K : List CV → Option (Addr × List CV) → CH → Prop} {x : Str} {c : CV} {p : Pos} (e : look x loc = some c) (h : wpIter c H fun vs g => K vs g H) : wpSrc cl (.Name x p) loc H K := n_loc e h
theorem src_attr {cl : Cl} {loc : Loc} {H : CH} {K : List CV → Option (Addr × List CV) → CH → Prop} {o : Expr} {m : Str} {p : Pos} (h : wpE cl o loc H fun ov H => wpAttr ov m H fun v => wpIter v H fun vs g => K vs g H) : wpSrc cl (.Attribute o m p) loc H K := h
theorem src_slice {cl : Cl} {loc : Loc} {H : CH} {K : List CV → Option (Addr × List CV) → CH → Prop} {v : Expr} {lo hi : Option Expr} {sp p : Pos} (h : wpE cl v loc H fun ov H => wpOpt cl lo loc H fun l H => wpOpt cl hi loc H fun h H => wpSlice ov l h H fun r H => wpIter r H fun vs g => K vs g H) : wpSrc cl (.Subscript v (.Slice lo hi none sp) p) loc H K := h
theorem it_lst {vs : List CV} {H : CH} {K : List CV → Option (Addr × List CV) → Prop} (h : K vs none) : wpIter (.lst vs) H K := h
theorem it_ref {a : Addr} {vs : List CV} {H : CH} {K : List CV → Option (Addr × List CV) → Prop} (e : H a = some (.list vs)) (h : K vs (some (a, vs))) : wpIter (.ref a) H K := ⟨vs, e, h⟩
theorem enum_drop {vs : List CV} {i : Nat} (h : i < vs.length) : (enumItems vs).drop i = .tup [.int i, vs[i]] :: (enumItems vs).drop (i + 1) := by
  have hl : i < (enumItems vs).length := by unfold enumItems; simpa using h
  have e : (enumItems vs)[i]'hl = .tup [.int i, vs[i]] := by simp only [enumItems, List.getElem_map, List.getElem_zipIdx]; simp
  rw [List.drop_eq_getElem_cons hl, e]
theorem enum_length {vs : List CV} : (enumItems vs).length = vs.length := by unfold enumItems; simp
theorem set_rep {pc : List Cell} {cols i : Nat} (hi : i < pc.length) (hc : pc.length ≤ cols) : (cvs (pc.take i ++ List.replicate (cols - i) PB)).set i (pc[i]).cv = cvs (pc.take (i + 1) ++ List.replicate (cols - (i + 1)) PB) := by
  rw [cvs, cvs, ← List.map_set]
  congr 1
  have hl : (pc.take i).length = i := by rw [List.length_take]; lia
  rw [List.set_append_right _ _ (by lia), hl, Nat.sub_self, show cols - i = (cols - (i + 1)) + 1 by lia, List.replicate_succ, List.set_cons_zero, List.take_add_one, List.getElem?_eq_getElem hi, Option.toList_some, List.append_assoc]
  rfl
theorem f_rline {n : Nat} {pc : List Cell} {cols : Nat} {w : Bool} {H : CH} {Q : CV → CH → Prop} (hc : pc.length ≤ cols) (hz : cols ≤ 1000) (h : Q (lineCV (pc ++ List.replicate (cols - pc.length) PB) w) H) : wpFun (call (n + 5)) "reflow_line" [clv pc, .int cols, .bool w] H Q := by
  refine f_call (by rfl) (call_of (loc := [("piece", clv pc), ("columns", .int cols), ("is_wrapped", .bool w)]) (by rfl) (by rfl) ?_)
  refine allKS fun _ _ => ?_
  conv => arg 2; whnf
  repeat walk_at "cs"
  refine f_line (p := PLAIN) (by lia) fun d a hd ha hne => ?_
  repeat walk_at "cs"
  refine ss_for (src_enum ?_)
  repeat walk_at "cs"
  refine it_lst ?_
  refine for_inv (g := none) (fun vs loc H3 => ∃ i, i ≤ pc.length ∧ vs = (enumItems (cvs pc)).drop i ∧ loc = ([("piece", clv pc), ("columns", .int cols), ("is_wrapped", .bool w), ("line", .obj "Line" d)] : Loc) ∧
    (∀ x o, H x = some o → H3 x = some o) ∧ H3 d = some (lineD (.ref a) false) ∧ H3 a = some (.list (cvs (pc.take i ++ List.replicate (cols - i) PB)))) (fun _ _ _ _ => trivial) (fun loc H3 hj => ?_) (fun v vs loc H3 _ _ hj => ?_) _ _ _ ?_
  rotate_left 2
  · refine ⟨0, Nat.zero_le _, rfl, rfl, fun x o e => ?_, set_eq, ?_⟩
    · rw [set_ne (ne_of_none hd e), set_ne (ne_of_none ha e)]; exact e
    · rw [set_ne hne, set_eq, blank_plain]; simp
  · obtain ⟨i, hEE⟩ := hj
    refine and6 hEE fun hi hvs q0 g0 g1 g2 => ?_
    clear hEE
    subst q0
    have hi' : i = pc.length := by
      have := congrArg List.length hvs
      rw [List.length_drop, enum_length, List.length_map] at this
      simp at this; lia
    subst hi'
    rw [List.take_length] at g2
    repeat walk_at "cs"
    refine sa_obj (by rfl) g1 (by with_unfolding_all rfl) (by rfl) ?_
    repeat walk_at "cs"
    refine ret_frz (c' := lineCV (pc ++ List.replicate (cols - pc.length) PB) w) (H0 := H) (fun x o e => ?_) (fz_obj hd set_eq rfl ?_) h
    · rw [set_ne (ne_of_none hd e)]; exact g0 x o e
    · exact (exI2 _ _ ⟨rfl, fz_ref ha (by rw [set_ne hne]; exact g2) (fz_reflL _ _ _), fz_reflL _ _ _⟩)
  · obtain ⟨i, hEE⟩ := hj
    refine and6 hEE fun hi hvs q0 g0 g1 g2 => ?_
    clear hEE
    subst q0
    have hi2 : i < pc.length := by
      have := congrArg List.length hvs
      rw [List.length_drop, enum_length, List.length_map] at this
      simp at this; lia
    rw [enum_drop (by rw [List.length_map]; exact hi2)] at hvs
    obtain ⟨rfl, rfl⟩ := List.cons.inj hvs
    rw [List.getElem_map]
    repeat walk_at "cs"
    refine at_obj (by rfl) g1 (by rfl) ?_
    repeat walk_at "cs"
    refine si_ref g2 (by rw [List.length_map]; simp; lia) ?_
    rw [set_rep hi2 hc]
    repeat walk_at "cs"
    refine (exI2 _ _ ⟨weak_drop (fun p hp => ?_), i + 1, hi2, rfl, rfl, fun x o e => ?_, ?_, set_eq⟩)
    · simp only [List.mem_cons, List.not_mem_nil, or_false] at hp
      rcases hp with rfl | rfl | rfl | rfl <;> rfl
    · rw [set_ne (ne_of_none ha e)]; exact g0 x o e
    · rw [set_ne (Ne.symm hne)]; exact g1
end
end

/-! part C12 -/
section
local macro_rules | `(tactic| walk_at "cs") => `(tactic| with_reducible first | refine e_and ?_ | refine e_or ?_ | refine e_cmp2 ?_)
noncomputable section
theorem c_eqH {a b : CV} {H : CH} {Q : Bool → Prop} {x : Bool} (ha : okh H a) (hb : okh H b) (e : PyData.eqv (hdat H a) (hdat H b) = x) (h : Q x) : wpCmp .Eq a b H Q := by
  subst e; exact ⟨ha, hb, h⟩
theorem c_neH {a b : CV} {H : CH} {Q : Bool → Prop} {x : Bool} (ha : okh H a) (hb : okh H b) (e : PyData.eqv (hdat H a) (hdat H b) = x) (h : Q (!x)) : wpCmp .NotEq a b H Q := by
  subst e; exact ⟨ha, hb, h⟩
theorem f_whole {n : Nat} {us : List U} {cols : Nat} {H : CH} {Q : CV → CH → Prop} (hz : us.length ≤ 10000) (hc : 1 ≤ cols ∧ cols ≤ 1000) (hp : (cut cols us).1.flatten.length ≤ 1000000)
    (h : Q (.bool (decide ((cut cols us).1.flatten = flat us))) H) : wpFun (call (n + 5)) "is_cut_whole" [clv (flat us), .int cols] H Q := by
  refine f_call (by rfl) (call_of (loc := [("cells", clv (flat us)), ("columns", .int cols)]) (by rfl) (by rfl) ?_)
  refine allKS fun _ _ => ?_
  conv => arg 2; whnf
  have hcap : cap = 16777216 := rfl
  repeat walk_at "cs"
  refine al_ref (Nat.zero_le _) fun f hf => ?_
  repeat walk_at "cs"
  refine ss_for (src_calls ?_)
  repeat walk_at "cs"
  refine f_cut (us := us) rfl hz hc (it_lst ?_)
  generalize hP : (cut cols us).1 = P at h hp ⊢
  refine for_inv (g := none) (fun vs loc H3 => ∃ done rest, P = done ++ rest ∧ vs = rest.map clv ∧ loc = ([("cells", clv (flat us)), ("columns", .int cols), ("found", .ref f)] : Loc) ∧
    (∀ x o, H x = some o → H3 x = some o) ∧ H3 f = some (.list (cvs done.flatten))) (fun _ _ _ _ => trivial) (fun loc H3 hj => ?_) (fun v vs loc H3 _ _ hj => ?_) _ _ _ ?_
  rotate_left 2
  · exact (exI2 [] P ⟨rfl, rfl, rfl, fun x o e => set_old hf e, set_eq⟩)
  · refine ex2 hj fun done rest hEE => ?_
    refine and5 hEE fun q0 hvs q1 g0 g1 => ?_
    clear hj hEE
    subst q0 q1
    have hr : rest = [] := by induction rest using List.casesOn with | nil => rfl | cons _ _ => simp at hvs
    subst hr
    rw [List.append_nil] at h
    repeat walk_at "cs"
    obtain ⟨k1, k2⟩ := okh_ref g1 (ok_cells _ 58)
    obtain ⟨k3, k4⟩ := okh_of (H := H3) (c := clv (flat us)) ⟨by lia, ok_cells _ 58⟩
    have ee : PyData.eqv (hdat H3 (.ref f)) (hdat H3 (clv (flat us))) = decide (done.flatten = flat us) := by rw [k2, k4]; exact eqv_cells _ _
    refine c_eqH k1 k3 ee ?_
    repeat walk_at "cs"
    exact ret_is g0 h
  · refine ex2 hj fun done rest hEE => ?_
    refine and5 hEE fun q0 hvs q1 g0 g1 => ?_
    clear hj hEE
    subst q0 q1
    obtain ⟨p, rest, rfl⟩ : ∃ p r, rest = p :: r := by induction rest using List.casesOn with | nil => simp at hvs | cons p r => exact (exI2 p r rfl)
    rw [List.map_cons] at hvs
    obtain ⟨rfl, rfl⟩ := List.cons.inj hvs
    have hl : (done ++ p :: rest).flatten.length = done.flatten.length + p.length + rest.flatten.length := by rw [List.flatten_append, List.flatten_cons, List.length_append, List.length_append]; lia
    repeat walk_at "cs"
    refine ⟨mo_ref (by rfl) g1, ?_⟩
    repeat walk_at "cs"
    refine m_ext (by simp) g1 rfl (by rw [List.length_map, List.length_map]; lia) ?_
    repeat walk_at "cs"
    refine (exI2 _ _ ⟨weak_drop (fun q hq => ?_), done ++ [p], rest, by simp, rfl, rfl, fun x o e => ?_, ?_⟩)
    · simp only [List.mem_cons, List.not_mem_nil, or_false] at hq
      rcases hq with rfl | rfl | rfl <;> rfl
    · rw [set_ne (ne_of_none hf e)]; exact g0 x o e
    · rw [set_eq, List.flatten_append]; simp [cvs]
noncomputable def joinF : List (List Cell) → List Cell
  | [] => []
  | [p] => p
  | p :: q :: r => partF p q ++ joinF (q :: r)
theorem partF_len (p q : List Cell) : (partF p q).length ≤ p.length := by
  unfold partF
  cases p.getLast? with
  | none => exact Nat.le_refl _
  | some c => cases q with
    | nil => exact Nat.le_refl _
    | cons d r =>
      show (if (c.isB && decide (d.w = 2)) = true then p.dropLast else p).length ≤ _
      by_cases h : (c.isB && decide (d.w = 2)) = true
      · rw [if_pos h, List.length_dropLast]; exact Nat.sub_le ..
      · rw [if_neg h]; exact Nat.le_refl _
theorem f_joined {n : Nat} {P : List (List Cell)} {H : CH} {Q : CV → CH → Prop} (hne : ∀ k, k + 1 < P.length → ∀ p, P[k]? = some p → p ≠ []) (hp : P.flatten.length ≤ 1000000) (hpl : P.length ≤ 1000000)
    (h : Q (clv (joinF P)) H) : wpFun (call (n + 2)) "joined_pieces" [.lst (P.map clv)] H Q := by
  refine f_call (by rfl) (call_of (loc := [("pieces", .lst (P.map clv))]) (by rfl) (by rfl) ?_)
  refine allKS fun _ _ => ?_
  conv => arg 2; whnf
  have hcap : cap = 16777216 := rfl
  repeat walk_at "cs"
  refine al_ref (Nat.zero_le _) fun f hf => ?_
  repeat walk_at "cs"
  refine ss_for (src_enum ?_)
  repeat walk_at "cs"
  refine it_lst ?_
  refine for_inv (g := none) (fun vs loc H3 => ∃ done rest acc, P = done ++ rest ∧ vs = (enumItems (P.map clv)).drop done.length ∧ loc = ([("pieces", .lst (P.map clv)), ("found", .ref f)] : Loc) ∧
    (∀ x o, H x = some o → H3 x = some o) ∧ H3 f = some (.list (cvs acc)) ∧ acc ++ joinF rest = joinF P ∧ acc.length ≤ done.flatten.length) (fun _ _ _ _ => trivial) (fun loc H3 hj => ?_) (fun v vs loc H3 _ _ hj => ?_) _ _ _ ?_
  rotate_left 2
  · exact (exI3 [] P [] ⟨rfl, rfl, rfl, fun x o e => set_old hf e, set_eq, rfl, Nat.le_refl _⟩)
  · refine ex3 hj fun done rest acc hEE => ?_
    refine and7 hEE fun hP hvs q0 g0 g1 g2 g3 => ?_
    clear hj hEE
    subst q0
    have hr : rest = [] := by
      have := congrArg List.length hvs
      rw [List.length_drop, enum_length, List.length_map, hP] at this
      simp at this
      exact List.length_eq_zero_iff.mp (by lia)
    subst hr
    rw [joinF, List.append_nil] at g2
    repeat walk_at "cs"
    exact ret_frz (c' := clv (joinF P)) g0 (fz_ref hf (by rw [← g2]; exact g1) (fz_reflL _ _ _)) h
  · refine ex3 hj fun done rest acc hEE => ?_
    refine and7 hEE fun hP hvs q0 g0 g1 g2 g3 => ?_
    clear hj hEE
    subst q0
    have hlt : done.length < P.length := by
      have := congrArg List.length hvs
      rw [List.length_drop, enum_length, List.length_map] at this
      simp at this; lia
    obtain ⟨p, rest, rfl⟩ : ∃ p r, rest = p :: r := by
      induction rest using List.casesOn with
      | nil => rw [hP] at hlt; simp at hlt
      | cons p r => exact (exI2 p r rfl)
    have hp0 : P[done.length]? = some p := by rw [hP]; simp
    have hl : P.flatten.length = done.flatten.length + p.length + rest.flatten.length := by rw [hP, List.flatten_append, List.flatten_cons, List.length_append, List.length_append]; lia
    have hPl : P.length = done.length + 1 + rest.length := by rw [hP]; simp; lia
    rw [enum_drop (by rw [List.length_map]; exact hlt)] at hvs
    obtain ⟨rfl, rfl⟩ := List.cons.inj hvs
    rw [List.getElem_map, show P[done.length] = p from by rw [List.getElem?_eq_getElem hlt] at hp0; exact Option.some.inj hp0]
    have addIt : ∀ (q : List Cell), q.length ≤ p.length → acc ++ (q ++ joinF rest) = joinF P → ∀ {Q' : CV → CH → Prop}, (∀ H4, (∀ x o, H x = some o → H4 x = some o) → H4 f = some (.list (cvs (acc ++ q))) → Q' .none H4) → wpMeth (call (n + 1)) (.ref f) "extend" [clv q] H3 Q' := fun q hq _ Q' k => by
      refine m_ext (by simp) g1 rfl (by rw [List.length_map, List.length_map]; lia) ?_
      refine k _ (fun x o e => ?_) ?_
      · rw [set_ne (ne_of_none hf e)]; exact g0 x o e
      · rw [set_eq]; simp [cvs]
    repeat walk_at "cs"
    refine f_len rfl ?_
    repeat walk_at "cs"
    rw [List.length_map, hPl]
    repeat walk_at "cs"
    refine ss_if ?_
    repeat walk_at "cs"
    have done1 : ∀ (q : List Cell), q.length ≤ p.length → acc ++ (q ++ joinF rest) = joinF P → ∀ H4 : CH, (∀ x o, H x = some o → H4 x = some o) → H4 f = some (.list (cvs (acc ++ q))) → ∀ (b : Bool),
        ∃ loc' H', Weak ([("pieces", .lst (P.map clv)), ("found", .ref f), ("number", .int (done.length : Nat)), ("piece", clv p), ("is_last", .bool b)] : Loc) H4 loc' H' ∧ ∃ d r a, P = d ++ r ∧ (enumItems (P.map clv)).drop (done.length + 1) = (enumItems (P.map clv)).drop d.length ∧ loc' = ([("pieces", .lst (P.map clv)), ("found", .ref f)] : Loc) ∧
          (∀ x o, H x = some o → H' x = some o) ∧ H' f = some (.list (cvs a)) ∧ a ++ joinF r = joinF P ∧ a.length ≤ d.flatten.length := fun q hq hj H4 x0 x1 b =>
      (exI2 _ H4 ⟨weak_drop (fun w hw => by
        simp only [List.mem_cons, List.not_mem_nil, or_false] at hw
        rcases hw with rfl | rfl <;> rfl), done ++ [p], rest, acc ++ q, by rw [hP]; simp, by simp, rfl, x0, x1, by rw [List.append_assoc]; exact hj, by rw [List.length_append, List.flatten_append, List.length_append, List.flatten_cons, List.flatten_nil, List.append_nil]; lia⟩)
    induction rest using List.casesOn with
    | nil =>
      have hl : (decide ((((done.length : Nat) : Int) + 1) = ((done.length + 1 + ([] : List (List Cell)).length : Nat) : Int))) = true := by simp
      rw [hl]
      refine ⟨fun _ => ⟨fun z => (by exact noB z), fun _ => ?_⟩, fun z => tf z⟩
      have hj : acc ++ (p ++ joinF []) = joinF P := by rw [← g2]; simp [joinF]
      repeat walk_at "cs"
      refine ⟨mo_ref (by rfl) g1, ?_⟩
      repeat walk_at "cs"
      refine addIt p (Nat.le_refl _) hj fun H4 x0 x1 => ?_
      repeat walk_at "cs"
      exact done1 p (Nat.le_refl _) hj H4 x0 x1 true
    | cons q rest =>
      have hl : (decide ((((done.length : Nat) : Int) + 1) = ((done.length + 1 + (q :: rest).length : Nat) : Int))) = false := by simp; lia
      rw [hl]
      refine ⟨fun z => noB z, fun _ => ?_⟩
      have hpn : p ≠ [] := hne done.length (by rw [hPl]; simp) p hp0
      obtain ⟨init, c, rfl⟩ : ∃ r c, p = r ++ [c] := (exI2 p.dropLast (p.getLast hpn) ((List.dropLast_concat_getLast hpn).symm))
      have hq : P[done.length + 1]? = some q := by rw [hP]; simp
      have hqi : (P.map clv)[done.length + 1]? = some (clv q) := by rw [List.getElem?_map, hq]; rfl
      have plainCase : (partF (init ++ [c]) q = init ++ [c]) → acc ++ ((init ++ [c]) ++ joinF (q :: rest)) = joinF P := fun e => by rw [← g2, joinF, e]
      have elseIt : (partF (init ++ [c]) q = init ++ [c]) → ∀ (b : Bool) {Q' : CV → CH → Prop}, (∀ H4, (∃ loc' H', Weak ([("pieces", .lst (P.map clv)), ("found", .ref f), ("number", .int (done.length : Nat)), ("piece", clv (init ++ [c])), ("is_last", .bool b)] : Loc) H4 loc' H' ∧ ∃ d r a, P = d ++ r ∧ (enumItems (P.map clv)).drop (done.length + 1) = (enumItems (P.map clv)).drop d.length ∧ loc' = ([("pieces", .lst (P.map clv)), ("found", .ref f)] : Loc) ∧
          (∀ x o, H x = some o → H' x = some o) ∧ H' f = some (.list (cvs a)) ∧ a ++ joinF r = joinF P ∧ a.length ≤ d.flatten.length) → Q' .none H4) → wpMeth (call (n + 1)) (.ref f) "extend" [clv (init ++ [c])] H3 Q' := fun e b Q' k =>
        addIt _ (Nat.le_refl _) (plainCase e) fun H4 x0 x1 => k H4 (done1 _ (Nat.le_refl _) (plainCase e) H4 x0 x1 b)
      repeat walk_at "cs"
      refine ix_it (c := c.cv) rfl (by rw [cvs, List.map_append]; exact px_last) ?_
      repeat walk_at "cs"
      refine ⟨fun z => ⟨fun z' => ?_, fun _ => ?_⟩, fun z => ?_⟩
      · rw [z'] at z; exact noB z
      · have hb : c.isB = false := by simpa using z
        have e : partF (init ++ [c]) q = init ++ [c] := by
          induction q using List.casesOn with
          | nil => exact partF_nil
          | cons d r => rw [partF_last, hb]; rfl
        repeat walk_at "cs"
        refine ⟨mo_ref (by rfl) g1, ?_⟩
        repeat walk_at "cs"
        refine elseIt e false fun H4 hx => ?_
        repeat walk_at "cs"
        exact hx
      have hb : c.isB = true := by simpa using z
      repeat walk_at "cs"
      refine ix_it (k := ((done.length + 1 : Nat) : Int)) rfl (px_nat hqi) ?_
      repeat walk_at "cs"
      refine f_len rfl ?_
      repeat walk_at "cs"
      rw [List.length_map]
      induction q using List.casesOn with
      | nil =>
        have e : partF (init ++ [c]) [] = init ++ [c] := partF_nil
        refine ⟨fun _ => ⟨fun z => noB z, fun _ => ?_⟩, fun z => tf z⟩
        repeat walk_at "cs"
        refine ⟨mo_ref (by rfl) g1, ?_⟩
        repeat walk_at "cs"
        refine elseIt e false fun H4 hx => ?_
        repeat walk_at "cs"
        exact hx
      | cons d q =>
        have e : partF (init ++ [c]) (d :: q) = if decide (d.w = 2) then init else init ++ [c] := by rw [partF_last, hb, Bool.true_and]
        refine ⟨fun z => by simp at z, fun _ => ?_⟩
        repeat walk_at "cs"
        refine ix_it (k := ((done.length + 1 : Nat) : Int)) rfl (px_nat hqi) ?_
        repeat walk_at "cs"
        refine ix_it (c := d.cv) rfl (by rfl) ?_
        repeat walk_at "cs"
        by_cases hw : d.w = 2
        · rw [decide_eq_true hw] at e ⊢
          rw [if_pos rfl] at e
          have hj : acc ++ (init ++ joinF ((d :: q) :: rest)) = joinF P := by rw [← g2, joinF, e]
          refine ⟨fun z => noB z, fun _ => ?_⟩
          repeat walk_at "cs"
          refine ⟨fun _ => ?_, fun z => (by exact tf z)⟩
          repeat walk_at "cs"
          refine ⟨mo_ref (by rfl) g1, ?_⟩
          repeat walk_at "cs"
          refine sl_it rfl (ws := cvs init) (by rw [cvs, List.map_append]; exact cs_init) (al_lst (by rw [List.length_map]; rw [List.length_append] at hl; lia) ?_)
          repeat walk_at "cs"
          refine addIt init (by simp) hj fun H4 x0 x1 => ?_
          repeat walk_at "cs"
          exact done1 init (by simp) hj H4 x0 x1 false
        · rw [decide_eq_false hw] at e ⊢
          rw [if_neg (by simp)] at e
          refine ⟨fun _ => ⟨fun z => (by exact noB z), fun _ => ?_⟩, fun z => tf z⟩
          repeat walk_at "cs"
          refine ⟨mo_ref (by rfl) g1, ?_⟩
          repeat walk_at "cs"
          refine elseIt e false fun H4 hx => ?_
          repeat walk_at "cs"
          exact hx
end
end

/-! part C13 -/
section
local macro_rules | `(tactic| walk_at "cs") => `(tactic| with_reducible first | refine e_and ?_ | refine e_or ?_ | refine e_cmp2 ?_)
noncomputable section
/-! comprehensions -/
theorem k_one {cl : Cl} {emit : Emit} {inl loc : Loc} {H : CH} {Q : List CV → CH → Prop} {t it : Expr} {ifs : List Expr} {gs : List Comprehension} (h : wpSrc cl it loc H fun vs g H => compItems g (fun v acc H K => wpBind t v inl fun inl' => wpTs cl .And ifs inl' H fun b H => (b = false → K acc H) ∧ (b = true → wpGens cl emit gs inl' acc H K)) vs [] H Q) : wpComp cl emit inl (⟨t, it, ifs, 0⟩ :: gs) loc H Q := h
theorem comp_map {g : Option (Addr × List CV)} {step : CV → List CV → CH → (List CV → CH → Prop) → Prop} {H : CH} {Q : List CV → CH → Prop} (F : CV → CV) (hg : guardOk g H) : ∀ (vs acc : List CV), (∀ v ∈ vs, ∀ acc K, acc.length ≤ 1000000 → K (acc ++ [F v]) H → step v acc H K) → acc.length + vs.length ≤ 1000000 → Q (acc ++ vs.map F) H → compItems g step vs acc H Q
  | [], acc, _, _, h => ⟨hg, by simpa using h⟩
  | v :: vs, acc, hs, hz, h => ⟨hg, hs v (.head _) acc _ (by lia) (comp_map F hg vs (acc ++ [F v]) (fun v hv => hs v (.tail _ hv)) (by simp at hz ⊢; lia) (by simpa using h))⟩
theorem b_name {x : Str} {v : CV} {loc : Loc} {K : Loc → Prop} {p : Pos} {loc' : Loc} (e : look x loc = none) (e2 : put x v loc = loc') (h : K loc') : wpBind (.Name x p) v loc K := by subst e2; exact ⟨e, h⟩
theorem b_tup {ts : List Expr} {vs : List CV} {k : Nat} {p : Pos} {loc : Loc} {K : Loc → Prop} (h : bindNames ts vs loc K) : wpBind (.Tuple ts k p) (.tup vs) loc K := h
theorem bn_nil {loc : Loc} {K : Loc → Prop} (h : K loc) : bindNames [] [] loc K := h
theorem bn_cons {x : Str} {p : Pos} {ts : List Expr} {v : CV} {vs : List CV} {loc loc' : Loc} {K : Loc → Prop} (e : look x loc = none) (e2 : put x v loc = loc') (h : bindNames ts vs loc' K) : bindNames (.Name x p :: ts) (v :: vs) loc K := by subst e2; exact ⟨e, h⟩
theorem ts_nil {cl : Cl} {loc : Loc} {H : CH} {Q : Bool → CH → Prop} (h : Q true H) : wpTs cl .And [] loc H Q := h
theorem ts_cons {cl : Cl} {loc : Loc} {H : CH} {Q : Bool → CH → Prop} {e : Expr} {r : List Expr} (h : wpT cl e loc H fun b H => ((b == false) = true → Q b H) ∧ ((b == false) = false → wpTs cl .And r loc H Q)) : wpTs cl .And (e :: r) loc H Q := h
theorem g_nil {cl : Cl} {emit : Emit} {loc : Loc} {acc : List CV} {H : CH} {K : List CV → CH → Prop} (h : emit loc acc H K) : wpGens cl emit [] loc acc H K := h
theorem g_cons {cl : Cl} {emit : Emit} {loc : Loc} {acc : List CV} {H : CH} {K : List CV → CH → Prop} {t it : Expr} {ifs : List Expr} {gs : List Comprehension} (h : wpSrc cl it loc H fun vs g H => compItems g (fun v acc H K => wpBind t v loc fun loc' =>
      wpTs cl .And ifs loc' H fun b H => (b = false → K acc H) ∧ (b = true → wpGens cl emit gs loc' acc H K)) vs acc H K) : wpGens cl emit (⟨t, it, ifs, 0⟩ :: gs) loc acc H K := h

/-! the deck -/
noncomputable def deckM (ds : List Int) (k : Nat) : CObj := .map [("cells", .lst (ds.map CV.int)), ("at", .int (k : Nat))]
theorem ok_ints (ds : List Int) (n : Nat) : okds (ds.map CV.int) n := by
  induction ds with
  | nil => trivial
  | cons d ds ih => exact ⟨trivial, ih⟩
theorem sd_dct {d : Addr} {x : Str} {es es' : List (Str × CV)} {c v : CV} {H : CH} {Q : CH → Prop} (e : H d = some (.map es)) (e2 : look x es = some c) (e3 : put x v es = es') (h : Q (H.set d (.map es'))) : wpSetIdx (.dct d) (.str x) v H Q := by subst e3; exact .inr (exI4 d x es c ⟨rfl, rfl, e, e2, h⟩)
noncomputable def modV : CV → CV
  | .int i => .int (i % 1000000007)
  | v => v
theorem law_deck {n : Nat} {zs : List Int} {H : CH} {Q : CV → CH → Prop} (hz : zs.length ≤ 63) (h : ∀ d ds, H d = none → Q (.dct d) (H.set d (deckM ds 0))) : wpFun (call (n + 1)) "_law_deck" [.lst (zs.map CV.int)] H Q := by
  refine f_call (by rfl) (call_of (loc := [("script", .lst (zs.map CV.int))]) (by rfl) (by rfl) ?_)
  refine allKS fun _ _ => ?_
  conv => arg 2; whnf
  have hcap : cap = 16777216 := rfl
  repeat walk_at "cs"
  refine k_one (src_slice ?_)
  repeat walk_at "cs"
  have e63 : cslice (zs.map CV.int) none (some 63) = zs.map CV.int := by
    show List.take (cclip (zs.map CV.int).length ((63 : Nat) : Int) - 0) (List.drop 0 (zs.map CV.int)) = _
    rw [clip_big (by rw [List.length_map]; exact hz), List.drop_zero, Nat.sub_zero, List.take_length]
  refine sl_it rfl e63 (al_lst (by rw [List.length_map]; lia) (it_lst ?_))
  refine comp_map (g := none) modV trivial _ [] (fun v hv acc K ha k => ?_) (by simp; lia) ?_
  · (refine Exists.elim (List.mem_map.mp hv) fun i zr2g => ?_; refine And.elim (fun _ zq1g => ?_) zr2g; clear zr2g; obtain rfl := zq1g)
    refine b_name (by rfl) (by rfl) (ts_nil ⟨fun z => (by exact tf z), fun _ => g_nil ?_⟩)
    repeat walk_at "cs"
    refine b_mod (by decide) ?_
    exact ⟨by lia, k⟩
  · refine al_lst (by simp; lia) ?_
    repeat walk_at "cs"
    refine ⟨_, rfl, fun d hd => kgoS (by assumption) (ret_same ?_)⟩
    have e : (List.map modV (zs.map CV.int)) = (zs.map fun i => i % 1000000007).map CV.int := by
      rw [List.map_map, List.map_map]; rfl
    have := h d (zs.map fun i => i % 1000000007) hd
    rw [List.nil_append, e]
    exact this
theorem eqv_intsnil (ds : List Int) : PyData.eqv (cdat (.lst (ds.map CV.int))) (cdat (.lst [])) = decide (ds = []) := by induction ds using List.casesOn <;> rfl
theorem draw_ret {x : Int} {b : Nat} {H : CH} {Q : CV → CH → Prop} (hb : 0 < b) (h : ∀ r : Nat, r < b → Q (.int r) H) : Q (.int (x % (b : Int))) H := by
  have h1 := Int.emod_nonneg x (show (b : Int) ≠ 0 by lia)
  have h2 := Int.emod_lt_of_pos x (show (0 : Int) < b by lia)
  have := h (x % (b : Int)).toNat (by lia)
  rwa [show (((x % (b : Int)).toNat : Nat) : Int) = x % (b : Int) by lia] at this
theorem law_draw {n : Nat} {dk : Addr} {ds : List Int} {k b : Nat} {bi : Int} {H : CH} {Q : CV → CH → Prop} (hd : H dk = some (deckM ds k)) (hk : k ≤ 100000) (hbi : bi = b) (hb : 0 < b) (h : ∀ r : Nat, r < b → Q (.int r) (H.set dk (deckM ds (k + 1)))) : wpFun (call (n + 1)) "_law_draw" [.dct dk, .int bi] H Q := by
  subst hbi
  refine f_call (by rfl) (call_of (loc := [("deck", .dct dk), ("below", .int b)]) (by rfl) (by rfl) ?_)
  refine allKS fun _ _ => ?_
  conv => arg 2; whnf
  repeat walk_at "cs"
  refine ix_dct hd (by rfl) ?_
  repeat walk_at "cs"
  refine ix_dct hd (by rfl) ?_
  repeat walk_at "cs"
  refine sd_dct (es' := [("cells", .lst (ds.map CV.int)), ("at", .int ((k : Int) + 1))]) hd (by rfl) (by with_unfolding_all rfl) ?_
  have hs : H.set dk (.map [("cells", .lst (ds.map CV.int)), ("at", .int ((k : Int) + 1))]) = H.set dk (deckM ds (k + 1)) := by unfold deckM; rw [show (((k + 1 : Nat) : Int)) = (k : Int) + 1 by lia]
  rw [hs]
  have fin : ∀ x : Int, ∃ v' H'', WeakR (CFlow.ret (.int (x % (b : Int)))).val (H.set dk (deckM ds (k + 1))) v' H'' ∧ Q v' H'' := fun x => ret_same (draw_ret hb h)
  repeat walk_at "cs"
  refine ss_if ?_
  repeat walk_at "cs"
  refine f_len rfl ?_
  repeat walk_at "cs"
  rw [List.length_map]
  refine ⟨fun z => ?_, fun z => ?_⟩
  · have hi : k < ds.length := by simp at z; lia
    repeat walk_at "cs"
    refine ix_it (c := .int ds[k]) rfl (px_nat (by rw [List.getElem?_map, List.getElem?_eq_getElem hi]; rfl)) ?_
    repeat walk_at "cs"
    refine b_mod (by lia) ?_
    repeat walk_at "cs"
    exact fin _
  · have hi : ds.length ≤ k := by simp at z; lia
    repeat walk_at "cs"
    refine ss_if ?_
    repeat walk_at "cs"
    refine al_lst (Nat.zero_le _) ?_
    refine c_eq ⟨by lia, ok_ints _ _⟩ ⟨by lia, trivial⟩ (eqv_intsnil ds) ?_
    refine ⟨fun z => ?_, fun z => ?_⟩
    · repeat walk_at "cs"
      refine b_mul (by lia) ?_
      repeat walk_at "cs"
      refine b_div (by lia) ?_
      repeat walk_at "cs"
      refine b_mod (by lia) ?_
      repeat walk_at "cs"
      exact fin _
    · have hne : ds ≠ [] := by simpa using z
      have hl : 0 < ds.length := List.length_pos_iff.mpr hne
      repeat walk_at "cs"
      refine f_len rfl ?_
      repeat walk_at "cs"
      rw [List.length_map]
      refine b_mod (by lia) ?_
      have hm : k % ds.length < ds.length := Nat.mod_lt _ hl
      rw [show ((k : Nat) : Int) % ((ds.length : Nat) : Int) = ((k % ds.length : Nat) : Int) by lia]
      refine ix_it (c := .int ds[k % ds.length]) rfl (px_nat (by rw [List.getElem?_map, List.getElem?_eq_getElem hm]; rfl)) ?_
      repeat walk_at "cs"
      refine b_div (by lia) ?_
      repeat walk_at "cs"
      refine b_mul (by lia) ?_
      repeat walk_at "cs"
      refine b_mod (by lia) ?_
      repeat walk_at "cs"
      exact fin _
end
end

/-! part C14 -/
section
local macro_rules | `(tactic| walk_at "cs") => `(tactic| with_reducible first | refine e_and ?_ | refine e_or ?_ | refine e_cmp2 ?_)
noncomputable section
noncomputable def U.isT : U → Prop
  | .one s => s ≠ none
  | .two _ => True
theorem law_text {n : Nat} {dk : Addr} {ds : List Int} {k : Nat} {H : CH} {Q : CV → CH → Prop} (hd : H dk = some (deckM ds k)) (hk : k ≤ 90000)
    (h : ∀ us k', us.length ≤ 7 → (∀ u ∈ us, u.isT) → k ≤ k' → k' ≤ k + 8 → Q (clv (flat us)) (H.set dk (deckM ds k'))) : wpFun (call (n + 2)) "_law_text" [.dct dk] H Q := by
  refine f_call (by rfl) (call_of (loc := [("deck", .dct dk)]) (by rfl) (by rfl) ?_)
  refine allKS fun _ _ => ?_
  conv => arg 2; whnf
  have hcap : cap = 16777216 := rfl
  repeat walk_at "cs"
  refine al_ref (Nat.zero_le _) fun f hf => ?_
  have hfd : dk ≠ f := ne_of_none hf hd
  repeat walk_at "cs"
  refine ss_for (src_range ?_)
  repeat walk_at "cs"
  refine law_draw (b := 8) (by rw [set_ne hfd]; exact hd) (by lia) (by rfl) (by lia) fun r hr => ?_
  repeat walk_at "cs"
  refine ⟨by lia, ?_⟩
  rw [range_items]
  refine for_inv (g := none) (fun vs loc H3 => ∃ us k' g, loc = ([("deck", .dct dk), ("found", .ref g)] : Loc) ∧ (∀ x o, x ≠ dk → H x = some o → H3 x = some o) ∧ H3 dk = some (deckM ds k') ∧ H3 g = some (.list (cvs (flat us))) ∧ H g = none ∧
    us.length + vs.length ≤ 7 ∧ (∀ u ∈ us, u.isT) ∧ k ≤ k' ∧ k' + vs.length ≤ k + 8) (fun _ _ _ _ => trivial) (fun loc H3 hj => ?_) (fun v vs loc H3 _ _ hj => ?_) _ _ _ ?_
  rotate_left 2
  · refine (exI3 [] (k + 1) f ⟨rfl, fun x o hx e => ?_, set_eq, ?_, hf, by simp; lia, by simp, by lia, by simp; lia⟩)
    · rw [set_ne hx]; exact set_old hf e
    · rw [set_ne (Ne.symm hfd), set_eq]; rfl
  · refine ex3 hj fun us k' g hEE => ?_
    refine and9 hEE fun q0 g0 g1 g2 hg z1 z2 z3 z4 => ?_
    clear hj hEE
    subst q0
    have hgd : g ≠ dk := fun q => by rw [q, hd] at hg; exact sn hg
    repeat walk_at "cs"
    refine ret_frz (c' := clv (flat us)) (H0 := H.set dk (deckM ds k')) (fun x o e => ?_) (fz_ref (by rw [set_ne hgd]; exact hg) g2 (fz_reflL _ _ _)) (h us k' (by simp at z1; lia) z2 z3 (by simp at z4; lia))
    by_cases hx : x = dk
    · subst hx; rw [set_eq] at e; rw [← e]; exact g1
    · rw [set_ne hx] at e; exact g0 x o hx e
  · refine ex3 hj fun us k' g hEE => ?_
    refine and9 hEE fun q0 g0 g1 g2 hg z1 z2 z3 z4 => ?_
    clear hj hEE
    subst q0
    have hgd : g ≠ dk := fun q => by rw [q, hd] at hg; exact sn hg
    simp only [List.length_cons] at z1 z4
    have hfl := flat_len us
    repeat walk_at "cs"
    refine law_draw (b := 9) g1 (by lia) (by rfl) (by lia) fun r hr => ?_
    repeat walk_at "cs"
    refine ss_if ?_
    repeat walk_at "cs"
    refine ⟨fun z => ?_, fun z => ?_⟩
    · have e1 : (H3.set dk (deckM ds (k' + 1))) g = some (.list (cvs (flat us))) := by rw [set_ne hgd]; exact g2
      repeat walk_at "cs"
      refine ⟨mo_ref (by rfl) e1, ?_⟩
      repeat walk_at "cs"
      refine m_app e1 (by rw [List.length_map]; lia) ?_
      repeat walk_at "cs"
      refine (exI2 _ _ ⟨weak_drop (fun q hq => ?_), us ++ [.one (some (97 + r))], k' + 1, g, rfl, fun x o hx e => ?_, ?_, ?_, hg, by simp; lia, ?_, by lia, by lia⟩)
      · simp only [List.mem_cons, List.not_mem_nil, or_false] at hq
        rcases hq with rfl | rfl <;> rfl
      · rw [set_ne (ne_of_none hg e), set_ne hx]; exact g0 x o hx e
      · rw [set_ne (Ne.symm hgd), set_eq]
      · rw [set_eq, flat_app]; simp [cvs, flat, U.cells, Cell.cv, sgn, PLAIN, Pen.cv, plainPen]
      · intro u hu
        rcases List.mem_append.mp hu with hu | hu
        · exact z2 u hu
        · simp at hu; subst hu; simp [U.isT]
    · have e1 : (H3.set dk (deckM ds (k' + 1))) g = some (.list (cvs (flat us))) := by rw [set_ne hgd]; exact g2
      repeat walk_at "cs"
      refine al_lst (by simp [cap]) ?_
      repeat walk_at "cs"
      refine ad_it (vs := cvs (flat us)) (ws := cvs (U.cells (.two (19968 + r)))) (itr e1) (by rfl) (al_ref ?_ fun g' hg' => ?_)
      · rw [List.length_append, List.length_map]; simp [U.cells]; lia
      have hd' : g' ≠ dk := fun q => by rw [q, set_eq] at hg'; exact sn hg'
      rw [set_ne hd'] at hg'
      have hgn : H g' = none := by
        cases e : H g' with
        | none => rfl
        | some o => rw [g0 g' o hd' e] at hg'; exact sn hg'
      repeat walk_at "cs"
      refine (exI2 _ _ ⟨weak_drop (fun q hq => ?_), us ++ [.two (19968 + r)], k' + 1, g', rfl, fun x o hx e => ?_, ?_, ?_, hgn, by simp; lia, ?_, by lia, by lia⟩)
      · simp only [List.mem_cons, List.not_mem_nil, or_false] at hq
        rcases hq with rfl | rfl <;> rfl
      · rw [set_ne (ne_of_none hgn e), set_ne hx]; exact g0 x o hx e
      · rw [set_ne (Ne.symm hd'), set_eq]
      · rw [set_eq, flat_app]; simp [cvs, flat]
      · intro u hu
        rcases List.mem_append.mp hu with hu | hu
        · exact z2 u hu
        · simp at hu; subst hu; exact trivial
end
end

/-! part C15 -/
section
local macro_rules | `(tactic| walk_at "cs") => `(tactic| with_reducible first | refine e_and ?_ | refine e_or ?_ | refine e_cmp2 ?_)
noncomputable section
theorem prt_min {cols : Nat} (hc : 1 ≤ cols) (u : U) (c : Cell) (r : List Cell) (e : u.cells = c :: r) : min c.w (cols : Int) = ((prt cols u).length : Nat) := by
  induction u using Mine.U.casesOn with
  | one s => simp only [U.cells, List.cons.injEq] at e; rw [← e.1]; simp [prt]; lia
  | two c' =>
    simp only [U.cells, List.cons.injEq] at e; rw [← e.1]
    simp only [prt]; split
    · simp; lia
    · simp; lia
theorem prt_le {cols : Nat} (hc : 1 ≤ cols) (u : U) : (prt cols u).length ≤ cols := by
  induction u using Mine.U.casesOn with
  | one s => simp [prt]; lia
  | two c => simp only [prt]; split <;> simp <;> lia
theorem law_cut {n : Nat} {us : List U} {cols : Nat} {H : CH} {Q : CV → CH → Prop} (hz : us.length ≤ 10000) (hc : 1 ≤ cols ∧ cols ≤ 1000)
    (h : Q (.tup [.lst ((cut cols us).1.map clv), .lst ((cut cols us).2.map plv)]) H) : wpFun (call (n + 3)) "_law_cut" [clv (flat us), .int cols] H Q := by
  refine f_call (by rfl) (call_of (loc := [("cells", clv (flat us)), ("columns", .int cols)]) (by rfl) (by rfl) ?_)
  refine allKS fun _ _ => ?_
  conv => arg 2; whnf
  have hcap : cap = 16777216 := rfl
  repeat walk_at "cs"
  refine al_ref (Nat.zero_le _) fun b0 hb0 => ?_
  repeat walk_at "cs"
  refine al_ref (by simp [cap]) fun a1 h1 => ?_
  have n10 : a1 ≠ b0 := fun q => by rw [q, set_eq] at h1; exact sn h1
  rw [set_ne n10] at h1
  repeat walk_at "cs"
  refine al_ref (Nat.zero_le _) fun a3 h3 => ?_
  have n31 : a3 ≠ a1 := fun q => by rw [q, set_eq] at h3; exact sn h3
  rw [set_ne n31] at h3
  have n30 : a3 ≠ b0 := fun q => by rw [q, set_eq] at h3; exact sn h3
  rw [set_ne n30] at h3
  repeat walk_at "cs"
  refine ss_for (src_name (by rfl) (it_lst ?_))
  refine for_inv (g := none) (fun vs loc H3 => ∃ done rest P pc pl b, loc = ([("cells", clv (flat us)), ("columns", .int cols), ("pieces", .ref a1), ("places", .ref a3)] : Loc) ∧ (∀ x o, H x = some o → H3 x = some o) ∧
      H3 a1 = some (.list (P.map clv ++ [.ref b])) ∧ H3 b = some (.list (cvs pc)) ∧ H3 a3 = some (.list (pl.map plv)) ∧ H b = none ∧ b ≠ a1 ∧ b ≠ a3 ∧ us = done ++ rest ∧ P.length ≤ done.length ∧ pc.length ≤ 2 * done.length ∧ pl.length ≤ 2 * done.length ∧ pc.length ≤ cols ∧
      ((vs = cvs (flat rest) ∧ cutG cols rest P pc pl = cut cols us) ∨
       (∃ p q, pl = p ++ [q] ∧ vs = cvs (⟨none, 0, .lw⟩ :: flat rest) ∧ (pl.length + 1 ≤ 2 * done.length ∧ pc.length + 1 ≤ 2 * done.length) ∧ (if cols = 1 then cutG cols rest P pc (pl ++ [q]) = cut cols us else pc.length + 1 ≤ cols ∧ cutG cols rest P (pc ++ [⟨none, 0, .lw⟩]) (pl ++ [(P.length, pc.length)]) = cut cols us))))
    (fun _ _ _ _ => trivial) (fun loc H3 hj => ?_) (fun v vs loc H3 _ _ hj => ?_) _ _ _ ?_
  rotate_left 2
  · refine (exI6 [] us [] [] [] b0 ⟨rfl, fun x o e => ?_, ?_, ?_, set_eq, hb0, Ne.symm n10, Ne.symm n30, rfl, Nat.le_refl _, Nat.le_refl _, Nat.le_refl _, by simp, .inl ⟨rfl, rfl⟩⟩)
    · rw [set_ne (ne_of_none h3 e), set_ne (ne_of_none h1 e), set_ne (ne_of_none hb0 e)]; exact e
    · rw [set_ne (Ne.symm n31), set_eq]; rfl
    · rw [set_ne (Ne.symm n30), set_ne (Ne.symm n10), set_eq]; rfl
  · refine ex6 hj fun done rest P pc pl b hEE => ?_
    refine and14 hEE fun q0 g0 g1 g2 g3 hb nb1 nb3 hus z1 z2 z3 z4 hjj => ?_
    clear hj hEE
    subst q0
    rcases hjj with ⟨hv, hcut⟩ | ⟨p, q, _, hv, _⟩
    · have hr : rest = [] := by
        induction rest using List.casesOn with
        | nil => rfl
        | cons u r => induction u using Mine.U.casesOn <;> simp [flat, U.cells] at hv
      subst hr
      have hc2 : cut cols us = (P ++ [pc], pl) := hcut.symm
      rw [hc2] at h
      repeat walk_at "cs"
      refine ret_frz (c' := .tup [.lst ((P ++ [pc]).map clv), .lst (pl.map plv)]) (H0 := H) g0 ⟨_, rfl, _, _, rfl, fz_ref h1 g1 ?_, _, _, rfl, fz_ref h3 g3 (fz_reflL _ _ _), rfl⟩ h
      rw [List.map_append]
      exact fz_app (fz_reflL _ _ _) (exI2 _ _ ⟨rfl, fz_ref hb g2 (fz_reflL _ _ _), rfl⟩)
    · simp at hv
  · refine ex6 hj fun done rest P pc pl b hEE => ?_
    refine and14 hEE fun q0 g0 g1 g2 g3 hb nb1 nb3 hus z1 z2 z3 z4 hjj => ?_
    clear hj hEE
    subst q0
    have hdl : done.length ≤ 10000 := by rw [hus] at hz; simp at hz; lia
    rcases hjj with ⟨hv, hcut⟩ | ⟨p, q, hpl, hv, ⟨z5, z6⟩, hcut⟩
    · -- a sign begins
      obtain ⟨u, rest, rfl⟩ : ∃ u r, rest = u :: r := by
        induction rest using List.casesOn with
        | nil => simp [flat] at hv
        | cons u r => exact (exI2 u r rfl)
      obtain ⟨c, r, ec⟩ : ∃ c r, u.cells = c :: r := by induction u using Mine.U.casesOn <;> exact (exI2 _ _ rfl)
      have hw : c.w ≠ 0 := by induction u using Mine.U.casesOn <;> simp [U.cells] at ec <;> rw [← ec.1] <;> simp
      rw [flat_cons, ec] at hv
      simp only [cvs, List.cons_append, List.map_cons, List.cons.injEq] at hv
      obtain ⟨rfl, hvs⟩ := hv
      have hmin := prt_min hc.1 u c r ec
      obtain ⟨hp1, hp2⟩ := prt_len cols u
      repeat walk_at "cs"
      refine ss_if ?_
      repeat walk_at "cs"
      refine ⟨fun z => absurd (by simpa using z) hw, fun _ => ?_⟩
      repeat walk_at "cs"
      refine ss_if_j (fun loc H4 => ∃ P' pc' b', loc = ([("cells", clv (flat us)), ("columns", .int cols), ("pieces", .ref a1), ("places", .ref a3), ("cell", c.cv)] : Loc) ∧ (∀ x o, H x = some o → H4 x = some o) ∧
          H4 a1 = some (.list (P'.map clv ++ [.ref b'])) ∧ H4 b' = some (.list (cvs pc')) ∧ H4 a3 = some (.list (pl.map plv)) ∧ H b' = none ∧ b' ≠ a1 ∧ b' ≠ a3 ∧ P'.length ≤ done.length + 1 ∧ pc'.length ≤ 2 * done.length ∧ pc'.length + (prt cols u).length ≤ cols ∧
          ((over cols pc (prt cols u) = true ∧ P' = P ++ [pad1 cols pc] ∧ pc' = []) ∨ (over cols pc (prt cols u) = false ∧ P' = P ∧ pc' = pc))) (fun loc H4 hj => ?_) ?_
      rotate_left
      · repeat walk_at "cs"
        refine ix_it (c := .ref b) (itr g1) px_last ?_
        repeat walk_at "cs"
        refine f_len (ws := cvs pc) (itr g2) ?_
        repeat walk_at "cs"
        rw [hmin, List.length_map]
        refine ⟨fun z => ?_, fun z => ?_⟩
        · have ho : over cols pc (prt cols u) = true := by unfold over; simp at z ⊢; lia
          have hgt : pc.length + (prt cols u).length > cols := by unfold over at ho; simpa using ho
          have hpad : pad1 cols pc = pc ++ List.replicate (cols - pc.length) PB := by
            unfold pad1; split
            · rw [show cols - pc.length = 1 by lia]; rfl
            · rw [show cols - pc.length = 0 by lia]; simp
          repeat walk_at "cs"
          refine ix_it (c := .ref b) (itr g1) px_last ?_
          repeat walk_at "cs"
          refine f_blank (p := PLAIN) ?_
          repeat walk_at "cs"
          refine al_lst (by simp [cap]) ?_
          repeat walk_at "cs"
          refine ix_it (c := .ref b) (itr g1) px_last ?_
          repeat walk_at "cs"
          refine f_len (ws := cvs pc) (itr g2) ?_
          repeat walk_at "cs"
          rw [List.length_map]
          refine mu_it rfl (by lia) (by simp) ?_
          rw [rep_flat, show (((cols : Nat) : Int) - ((pc.length : Nat) : Int)).toNat = cols - pc.length by lia]
          refine al_lst (by rw [List.length_replicate]; lia) ?_
          refine ad_it (vs := cvs pc) (ws := List.replicate (cols - pc.length) (blank PLAIN).cv) (itr g2) rfl (al_lst (by rw [List.length_append, List.length_map, List.length_replicate]; lia) ?_)
          have ecv : cvs pc ++ List.replicate (cols - pc.length) (blank PLAIN).cv = cvs (pad1 cols pc) := by rw [hpad, cvs, cvs, List.map_append, List.map_replicate]; rfl
          rw [ecv]
          repeat walk_at "cs"
          refine si_last g1 ?_
          have ep : P.map clv ++ [clv (pad1 cols pc)] = (P ++ [pad1 cols pc]).map clv := by rw [List.map_append]; rfl
          repeat walk_at "cs"
          refine ⟨mo_ref (by rfl) set_eq, ?_⟩
          repeat walk_at "cs"
          refine al_ref (Nat.zero_le _) fun b' hb' => ?_
          have m1 : b' ≠ a1 := fun q => by rw [q, set_eq] at hb'; exact sn hb'
          rw [set_ne m1] at hb'
          have m3 : b' ≠ a3 := fun q => by rw [q, g3] at hb'; exact sn hb'
          have mb : H b' = none := by
            cases e : H b' with
            | none => rfl
            | some o => rw [g0 b' o e] at hb'; exact sn hb'
          repeat walk_at "cs"
          refine m_app (by rw [set_ne (Ne.symm m1), set_eq]) (by simp; lia) ?_
          rw [ep]
          repeat walk_at "cs"
          refine (exI3 (P ++ [pad1 cols pc]) [] b' ⟨rfl, fun x o e => ?_, set_eq, ?_, ?_, mb, m1, m3, by simp; lia, by simp, by simpa using prt_le hc.1 u, .inl ⟨ho, rfl, rfl⟩⟩)
          · rw [set_ne (ne_of_none h1 e), set_ne (ne_of_none mb e), set_ne (ne_of_none h1 e)]; exact g0 x o e
          · rw [set_ne m1, set_eq]; rfl
          · rw [set_ne n31, set_ne (Ne.symm m3), set_ne n31]; exact g3
        · have ho : over cols pc (prt cols u) = false := by unfold over; simp at z ⊢; lia
          have hle : pc.length + (prt cols u).length ≤ cols := by unfold over at ho; simpa using ho
          repeat walk_at "cs"
          exact (exI3 P pc b ⟨rfl, g0, g1, g2, g3, hb, nb1, nb3, by lia, z2, hle, .inr ⟨ho, rfl, rfl⟩⟩)
      refine ex3 hj fun P' pc' b' hEE => ?_
      refine and12 hEE fun q0 g0 g1 g2 g3 hb nb1 nb3 y1 y2 y3 hov => ?_
      clear hj hEE
      subst q0
      have hstep : cutG cols rest P' (pc' ++ prt cols u) (pl ++ slots P'.length pc'.length u.cells.length (prt cols u).length) = cut cols us := by
        rw [← hcut, cutG]
        rcases hov with ⟨ho, rfl, rfl⟩ | ⟨ho, rfl, rfl⟩
        · rw [if_pos ho]; simp
        · rw [if_neg (by rw [ho]; simp)]
      repeat walk_at "cs"
      refine ⟨mo_ref (by rfl) g3, ?_⟩
      repeat walk_at "cs"
      refine f_len (ws := P'.map clv ++ [.ref b']) (itr g1) ?_
      repeat walk_at "cs"
      refine ix_it (c := .ref b') (itr g1) px_last ?_
      repeat walk_at "cs"
      refine f_len (ws := cvs pc') (itr g2) ?_
      repeat walk_at "cs"
      rw [List.length_append, List.length_map, List.length_map, List.length_singleton, show (((P'.length + 1 : Nat) : Int) - 1) = (P'.length : Nat) by lia]
      refine m_app g3 (by rw [List.length_map]; lia) ?_
      have g1' : (H4.set a3 (.list (pl.map plv ++ [.tup [.int (P'.length : Nat), .int (pc'.length : Nat)]]))) a1 = some (.list (P'.map clv ++ [.ref b'])) := by rw [set_ne (Ne.symm n31)]; exact g1
      have g2' : (H4.set a3 (.list (pl.map plv ++ [.tup [.int (P'.length : Nat), .int (pc'.length : Nat)]]))) b' = some (.list (cvs pc')) := by rw [set_ne nb3]; exact g2
      repeat walk_at "cs"
      refine ix_it (c := .ref b') (itr g1') px_last ?_
      refine ⟨mo_ref (by rfl) g2', ?_⟩
      repeat walk_at "cs"
      refine e_via (fun x H' => x = ((prt cols u).headD PB).cv ∧ H4.set a3 (.list (pl.map plv ++ [.tup [.int (P'.length : Nat), .int (pc'.length : Nat)]])) = H') (fun x H' hx => ?_) ?_
      rotate_left
      · refine allKV fun _ _ => ?_
        refine e_ifexp ?_
        repeat walk_at "cs"
        induction u using Mine.U.casesOn with
        | one s =>
          simp only [U.cells, List.cons.injEq] at ec
          obtain ⟨rfl, _⟩ := ec
          refine ⟨fun z => by simp at z; lia, fun _ => ?_⟩
          repeat walk_at "cs"
          exact ⟨rfl, rfl⟩
        | two c' =>
          simp only [U.cells, List.cons.injEq] at ec
          obtain ⟨rfl, _⟩ := ec
          refine ⟨fun z => ?_, fun z => ?_⟩
          · have : cols < 2 := by simp at z; lia
            repeat walk_at "cs"
            exact ⟨by simp [prt, this], rfl⟩
          · have : ¬ cols < 2 := by simp at z; lia
            repeat walk_at "cs"
            exact ⟨by simp [prt, this], rfl⟩
      obtain ⟨rfl, rfl⟩ := hx
      repeat walk_at "cs"
      refine m_app g2' (by rw [List.length_map]; lia) ?_
      repeat walk_at "cs"
      have eapp : cvs pc' ++ [((prt cols u).headD PB).cv] = cvs (pc' ++ [(prt cols u).headD PB]) := by rw [cvs, cvs, List.map_append]; rfl
      have epl : pl.map plv ++ [.tup [.int (P'.length : Nat), .int (pc'.length : Nat)]] = (pl ++ [(P'.length, pc'.length)]).map plv := by rw [List.map_append]; rfl
      rw [eapp, epl]
      refine ⟨_, _, weak_drop (fun w hw => ?_), done ++ [u], rest, P', pc' ++ [(prt cols u).headD PB], pl ++ [(P'.length, pc'.length)], b', rfl, fun x o e => ?_, ?_, set_eq, ?_, hb, nb1, nb3, by rw [hus]; simp, by simp; lia, by simp; lia, by simp; lia, by simp; lia, ?_⟩
      · simp only [List.mem_cons, List.not_mem_nil, or_false] at hw
        rcases hw with rfl | rfl | rfl | rfl <;> rfl
      · rw [set_ne (ne_of_none hb e), set_ne (ne_of_none h3 e)]; exact g0 x o e
      · rw [set_ne (Ne.symm nb1), set_ne (Ne.symm n31)]; exact g1
      · rw [set_ne (Ne.symm nb3), set_eq]
      · induction u using Mine.U.casesOn with
        | one s =>
          simp only [U.cells, List.cons.injEq] at ec
          obtain ⟨_, rfl⟩ := ec
          exact .inl ⟨hvs.symm ▸ rfl, by simpa [prt, slots, U.cells] using hstep⟩
        | two c' =>
          simp only [U.cells, List.cons.injEq] at ec
          obtain ⟨_, rfl⟩ := ec
          refine .inr (exI2 pl (P'.length, pc'.length) ⟨rfl, hvs.symm ▸ rfl, by simp; lia, ?_⟩)
          by_cases h1c : cols = 1
          · rw [if_pos h1c]
            subst h1c
            have e2 : List.range 2 = [0, 1] := rfl
            simpa [prt, slots, U.cells, e2] using hstep
          · rw [if_neg h1c]
            have h2 : ¬ cols < 2 := by lia
            have e2 : List.range 2 = [0, 1] := rfl
            simp [prt, h2, U.cells] at y3
            refine ⟨by simp; lia, ?_⟩
            simpa [prt, h2, slots, U.cells, e2] using hstep
    · -- the second half of a wide sign
      simp only [cvs, List.map_cons, List.cons.injEq] at hv
      obtain ⟨rfl, rfl⟩ := hv
      repeat walk_at "cs"
      refine ss_if ?_
      repeat walk_at "cs"
      refine ⟨fun _ => ?_, fun z => tf z⟩
      repeat walk_at "cs"
      refine ss_if ?_
      repeat walk_at "cs"
      refine ⟨fun z => ?_, fun z => ?_⟩
      · have h1c : cols = 1 := by simp at z; lia
        rw [if_pos h1c] at hcut
        repeat walk_at "cs"
        refine ⟨mo_ref (by rfl) g3, ?_⟩
        repeat walk_at "cs"
        refine ix_it (c := plv q) (itr g3) (by rw [hpl, List.map_append]; exact px_last) ?_
        repeat walk_at "cs"
        refine m_app g3 (by rw [List.length_map]; lia) ?_
        repeat walk_at "cs"
        refine (exI2 _ _ ⟨weak_drop (fun w hw => ?_), done, rest, P, pc, pl ++ [q], b, rfl, fun x o e => ?_, ?_, ?_, ?_, hb, nb1, nb3, hus, z1, z2, ?_, z4, .inl ⟨rfl, hcut⟩⟩)
        · simp only [List.mem_cons, List.not_mem_nil, or_false] at hw
          rcases hw with rfl | rfl | rfl | rfl <;> rfl
        · rw [set_ne (ne_of_none h3 e)]; exact g0 x o e
        · rw [set_ne (Ne.symm n31)]; exact g1
        · rw [set_ne nb3]; exact g2
        · rw [set_eq, List.map_append]; rfl
        · simp; lia
      · have h1c : cols ≠ 1 := by simp at z; lia
        rw [if_neg h1c] at hcut
        repeat walk_at "cs"
        refine ⟨mo_ref (by rfl) g3, ?_⟩
        repeat walk_at "cs"
        refine f_len (ws := P.map clv ++ [.ref b]) (itr g1) ?_
        repeat walk_at "cs"
        refine ix_it (c := .ref b) (itr g1) px_last ?_
        repeat walk_at "cs"
        refine f_len (ws := cvs pc) (itr g2) ?_
        repeat walk_at "cs"
        rw [List.length_append, List.length_map, List.length_map, List.length_singleton, show (((P.length + 1 : Nat) : Int) - 1) = (P.length : Nat) by lia]
        refine m_app g3 (by rw [List.length_map]; lia) ?_
        have g1' : (H3.set a3 (.list (pl.map plv ++ [.tup [.int (P.length : Nat), .int (pc.length : Nat)]]))) a1 = some (.list (P.map clv ++ [.ref b])) := by rw [set_ne (Ne.symm n31)]; exact g1
        have g2' : (H3.set a3 (.list (pl.map plv ++ [.tup [.int (P.length : Nat), .int (pc.length : Nat)]]))) b = some (.list (cvs pc)) := by rw [set_ne nb3]; exact g2
        repeat walk_at "cs"
        refine ix_it (c := .ref b) (itr g1') px_last ?_
        refine ⟨mo_ref (by rfl) g2', ?_⟩
        repeat walk_at "cs"
        refine m_app g2' (by rw [List.length_map]; lia) ?_
        repeat walk_at "cs"
        have eapp : cvs pc ++ [(Cell.mk none 0 .lw).cv] = cvs (pc ++ [⟨none, 0, .lw⟩]) := by rw [cvs, cvs, List.map_append]; rfl
        have epl : pl.map plv ++ [.tup [.int (P.length : Nat), .int (pc.length : Nat)]] = (pl ++ [(P.length, pc.length)]).map plv := by rw [List.map_append]; rfl
        rw [eapp, epl]
        refine (exI2 _ _ ⟨weak_drop (fun w hw => ?_), done, rest, P, pc ++ [⟨none, 0, .lw⟩], pl ++ [(P.length, pc.length)], b, rfl, fun x o e => ?_, ?_, set_eq, ?_, hb, nb1, nb3, hus, z1, by simp; lia, by simp; lia, by simp; lia, .inl ⟨rfl, hcut.2⟩⟩)
        · simp only [List.mem_cons, List.not_mem_nil, or_false] at hw
          rcases hw with rfl | rfl | rfl | rfl <;> rfl
        · rw [set_ne (ne_of_none hb e), set_ne (ne_of_none h3 e)]; exact g0 x o e
        · rw [set_ne (Ne.symm nb1), set_ne (Ne.symm n31)]; exact g1
        · rw [set_ne (Ne.symm nb3), set_eq]
end
end

/-! part C16 -/
section
local macro_rules | `(tactic| walk_at "cs") => `(tactic| with_reducible first | refine e_and ?_ | refine e_or ?_ | refine e_cmp2 ?_)
noncomputable section
theorem comp_fm {g : Option (Addr × List CV)} {step : CV → List CV → CH → (List CV → CH → Prop) → Prop} {H : CH} {Q : List CV → CH → Prop} (G : CV → List CV) (hG : ∀ v, (G v).length ≤ 1) (hg : guardOk g H) : ∀ (vs acc : List CV), (∀ v ∈ vs, ∀ acc K, acc.length ≤ 1000000 → K (acc ++ G v) H → step v acc H K) → acc.length + vs.length ≤ 1000000 → Q (acc ++ vs.flatMap G) H → compItems g step vs acc H Q
  | [], acc, _, _, h => ⟨hg, by simpa using h⟩
  | v :: vs, acc, hs, hz, h => ⟨hg, hs v (.head _) acc _ (by lia) (comp_fm G hG hg vs (acc ++ G v) (fun v hv => hs v (.tail _ hv)) (by have := hG v; simp at hz ⊢; lia) (by simpa using h))⟩
noncomputable def padF (cols : Nat) (p : List Cell) : List Cell := p ++ List.replicate (cols - p.length) PB
noncomputable def linesF (cols : Nat) (P : List (List Cell)) : List LN := P.zipIdx.map fun q => (padF cols q.1, decide (q.2 + 1 < P.length))
noncomputable def toldV (l : LN) : CV := .tup [clv l.1, .bool l.2]
noncomputable def padV (cols : Nat) : CV → CV
  | .lst vs => .lst (vs ++ List.replicate (cols - vs.length) PB.cv)
  | v => v
noncomputable def lastV (m : Nat) : CV → CV
  | .tup [.int i, x] => .tup [x, .bool (decide (i + 1 < (m : Int)))]
  | v => v
theorem law_lines {n : Nat} {P : List (List Cell)} {cols : Nat} {H : CH} {Q : CV → CH → Prop} (hp : ∀ p ∈ P, p.length ≤ 1000) (hP : P.length ≤ 1000000) (hc : cols ≤ 1000) (h : Q (.lst ((linesF cols P).map toldV)) H) : wpFun (call (n + 3)) "_law_lines" [.lst (P.map clv), .int cols] H Q := by
  refine f_call (by rfl) (call_of (loc := [("pieces", .lst (P.map clv)), ("columns", .int cols)]) (by rfl) (by rfl) ?_)
  refine allKS fun _ _ => ?_
  conv => arg 2; whnf
  have hcap : cap = 16777216 := rfl
  repeat walk_at "cs"
  refine k_one (src_name (by rfl) (it_lst ?_))
  refine comp_map (g := none) (padV cols) trivial _ [] (fun v hv acc K ha k => ?_) (by simp; lia) ?_
  · (refine Exists.elim (List.mem_map.mp hv) fun p zr8g => ?_; refine And.elim (fun hpp zq7g => ?_) zr8g; clear zr8g; obtain rfl := zq7g)
    have hpl := hp p hpp
    refine b_name (by rfl) (by rfl) (ts_nil ⟨fun z => (by exact tf z), fun _ => g_nil ?_⟩)
    repeat walk_at "cs"
    refine f_blank (p := PLAIN) ?_
    repeat walk_at "cs"
    refine al_lst (by simp [cap]) ?_
    repeat walk_at "cs"
    refine f_len rfl ?_
    repeat walk_at "cs"
    rw [List.length_map]
    refine mu_it rfl (by lia) (by simp) ?_
    rw [rep_flat, show (((cols : Nat) : Int) - ((p.length : Nat) : Int)).toNat = cols - p.length by lia]
    refine al_lst (by rw [List.length_replicate]; lia) ?_
    refine ad_it rfl rfl (al_lst (by rw [List.length_append, List.length_map, List.length_replicate]; lia) ?_)
    refine ⟨by lia, ?_⟩
    rw [blank_plain]
    have k : K (acc ++ [CV.lst (cvs p ++ List.replicate (cols - (cvs p).length) PB.cv)]) H := k
    rw [List.length_map] at k
    exact k
  · refine al_lst (by simp; lia) ?_
    rw [List.nil_append]
    have e : (List.map (padV cols) (P.map clv)) = (P.map (padF cols)).map clv := by
      rw [List.map_map, List.map_map]
      refine List.map_congr_left fun p _ => ?_
      refine congrArg CV.lst ?_
      show _ = List.map Cell.cv (p ++ List.replicate (cols - p.length) PB)
      rw [List.map_append, List.map_replicate, List.length_map]
    rw [e]
    repeat walk_at "cs"
    refine k_one (src_enum ?_)
    repeat walk_at "cs"
    refine it_lst ?_
    refine comp_map (g := none) (lastV P.length) trivial _ [] (fun v hv acc K ha k => ?_) (by simp [enum_length]; lia) ?_
    · (refine Exists.elim (List.mem_map.mp hv) fun q zr6g => ?_; refine And.elim (fun hq zq5g => ?_) zr6g; clear zr6g; obtain rfl := zq5g)
      refine b_tup (bn_cons (by rfl) (by rfl) (bn_cons (by rfl) (by rfl) (bn_nil (ts_nil ⟨fun z => (by exact tf z), fun _ => g_nil ?_⟩))))
      repeat walk_at "cs"
      refine f_len rfl ?_
      repeat walk_at "cs"
      rw [List.length_map, List.length_map]
      exact ⟨by lia, k⟩
    · refine al_lst (by simp [enum_length]; lia) ?_
      rw [List.nil_append]
      have e2 : (enumItems ((P.map (padF cols)).map clv)).map (lastV P.length) = (linesF cols P).map toldV := by
        unfold enumItems linesF
        rw [List.zipIdx_map, List.zipIdx_map, List.map_map, List.map_map, List.map_map, List.map_map]
        refine List.map_congr_left fun q _ => ?_
        exact congrArg (fun b => CV.tup [clv (padF cols q.1), .bool b]) (decide_eq_decide.mpr (show ((q.2 : Nat) : Int) + 1 < (P.length : Int) ↔ q.2 + 1 < P.length by lia))
      rw [e2]
      repeat walk_at "cs"
      exact ret_same h
noncomputable def minL : List Nat → Nat
  | [] => 0
  | i :: is => is.foldl min i
noncomputable def startF (pl : List (Nat × Nat)) (m k : Nat) : Nat := minL ((List.range m).filter (fun i => decide ((pl[i]?.map (·.1)) = some k)) ++ [m])
theorem foldl_cast : ∀ (is : List Nat) (i : Nat), (is.map fun k => ((k : Nat) : Int)).foldl min (i : Int) = ((is.foldl min i : Nat) : Int)
  | [], i => rfl
  | j :: is, i => by
    rw [List.map_cons, List.foldl_cons, List.foldl_cons, ← foldl_cast is (min i j)]
    congr 1; lia
noncomputable def startV (pl : List (Nat × Nat)) (m : Nat) : CV → CV
  | .int k => .int (startF pl m k.toNat : Nat)
  | v => v
theorem law_starts {n : Nat} {cs : List Cell} {pl : List (Nat × Nat)} {many : Nat} {H : CH} {Q : CV → CH → Prop} (hl : pl.length = cs.length) (hz : cs.length ≤ 100000) (hm : many ≤ 100000) (h : Q (.lst (natV ((List.range many).map (startF pl cs.length)))) H) : wpFun (call (n + 3)) "_law_starts" [clv cs, .lst (pl.map plv), .int many] H Q := by
  refine f_call (by rfl) (call_of (loc := [("cells", clv cs), ("places", .lst (pl.map plv)), ("many", .int many)]) (by rfl) (by rfl) ?_)
  refine allKS fun _ _ => ?_
  conv => arg 2; whnf
  have hcap : cap = 16777216 := rfl
  repeat walk_at "cs"
  refine k_one (src_range ?_)
  repeat walk_at "cs"
  refine ⟨by lia, ?_⟩
  rw [range_items]
  refine comp_map (g := none) (startV pl cs.length) trivial _ [] (fun v hv acc K ha k => ?_) (by simp; lia) ?_
  · obtain ⟨k0, hk0, rfl⟩ := List.mem_map.mp hv
    refine b_name (by rfl) (by rfl) (ts_nil ⟨fun z => (by exact tf z), fun _ => g_nil ?_⟩)
    repeat walk_at "cs"
    refine k_one (src_range ?_)
    repeat walk_at "cs"
    refine f_len rfl ?_
    repeat walk_at "cs"
    rw [List.length_map]
    refine ⟨by lia, ?_⟩
    rw [range_items]
    refine comp_fm (g := none) (fun v => match v with | .int i => if (pl[i.toNat]?.map (·.1)) = some k0 then [.int i] else [] | v => []) (fun v => by split <;> (try split) <;> simp) trivial _ [] (fun v hv acc K ha k => ?_) (by simp; lia) ?_
    · obtain ⟨i, hi, rfl⟩ := List.mem_map.mp hv
      have hi2 : i < pl.length := by rw [hl]; exact List.mem_range.mp hi
      refine b_name (by rfl) (by rfl) (ts_cons ?_)
      repeat walk_at "cs"
      refine ix_it (c := plv pl[i]) rfl (px_nat (by rw [List.getElem?_map, List.getElem?_eq_getElem hi2]; rfl)) ?_
      repeat walk_at "cs"
      refine ix_tup (by rfl) ?_
      repeat walk_at "cs"
      have ek : ∀ b : Bool, decide (((pl[i].1 : Nat) : Int) = (k0 : Nat)) = b → ((if (pl[i]?.map (·.1)) = some k0 then [CV.int ((i : Nat) : Int)] else []) = if b then [CV.int ((i : Nat) : Int)] else []) := fun b hb => by
        rw [List.getElem?_eq_getElem hi2]
        induction b using Bool.casesOn
        · rw [if_neg, if_neg (by simp)]
          simp at hb ⊢; lia
        · rw [if_pos, if_pos rfl]
          simp at hb ⊢; lia
      have k' : K (acc ++ if (pl[i]?.map (·.1)) = some k0 then [CV.int ((i : Nat) : Int)] else []) H := by simpa using k
      refine ⟨fun z => ⟨fun z2 => ?_, fun z2 => ?_⟩, fun z => ts_nil ⟨fun z2 => (by exact tf z2), fun _ => g_nil ?_⟩⟩
      · rw [ek false z2] at k'; simpa using k'
      · rw [z2] at z; exact noB z
      · have hb : decide (((pl[i].1 : Nat) : Int) = (k0 : Nat)) = true := by simpa using z
        rw [ek true hb] at k'
        repeat walk_at "cs"
        exact ⟨by lia, by simpa using k'⟩
    · have ef : ((List.range cs.length).map fun (k : Nat) => CV.int k).flatMap (fun v => match v with | .int i => if (pl[i.toNat]?.map (·.1)) = some k0 then [CV.int i] else [] | v => []) = (((List.range cs.length).filter (fun i => decide ((pl[i]?.map (·.1)) = some k0))).map fun (k : Nat) => CV.int k) := by
        induction (List.range cs.length) with
        | nil => rfl
        | cons i is ih =>
          rw [List.map_cons, List.flatMap_cons, ih, List.filter_cons]
          simp only [Int.toNat_natCast]
          by_cases hc : (pl[i]?.map (·.1)) = some k0
          · simp [hc]
          · simp [hc]
      rw [List.nil_append, ef]
      have hfl : ((List.range cs.length).filter (fun i => decide ((pl[i]?.map (·.1)) = some k0))).length ≤ cs.length := by
        have := List.length_filter_le (fun i => decide ((pl[i]?.map (·.1)) = some k0)) (List.range cs.length)
        simpa using this
      refine al_lst (by rw [List.length_map]; lia) ?_
      repeat walk_at "cs"
      refine f_len rfl ?_
      repeat walk_at "cs"
      rw [List.length_map]
      refine al_lst (by simp [cap]) ?_
      refine ad_it rfl rfl (al_lst (by rw [List.length_append, List.length_map]; simp; lia) ?_)
      repeat walk_at "cs"
      obtain ⟨i, is, eis⟩ : ∃ i is, (List.range cs.length).filter (fun i => decide ((pl[i]?.map (·.1)) = some k0)) ++ [cs.length] = i :: is := by
        cases (List.range cs.length).filter (fun i => decide ((pl[i]?.map (·.1)) = some k0)) with
        | nil => exact (exI2 _ _ rfl)
        | cons a b => exact (exI2 _ _ rfl)
      have em : startF pl cs.length k0 = is.foldl min i := by unfold startF; rw [eis]; rfl
      refine f_minL (i := (i : Nat)) (is := is.map fun k => ((k : Nat) : Int)) rfl ?_ ?_
      · have := congrArg (List.map fun (k : Nat) => CV.int k) eis
        rw [List.map_append, List.map_cons] at this
        rw [List.map_cons, List.map_map]
        exact this
      · rw [foldl_cast, ← em]
        exact ⟨by lia, k⟩
  · refine al_lst (by simp; lia) ?_
    repeat walk_at "cs"
    refine ret_same ?_
    have e : (List.map (startV pl cs.length) ((List.range many).map fun (k : Nat) => CV.int k)) = natV ((List.range many).map (startF pl cs.length)) := by
      unfold natV
      rw [List.map_map, List.map_map]
      exact List.map_congr_left fun k _ => rfl
    rw [List.nil_append, e]
    exact h
end
end

/-! part C17 -/
section
local macro_rules | `(tactic| walk_at "cs") => `(tactic| with_reducible first | refine e_and ?_ | refine e_or ?_ | refine e_cmp2 ?_)
noncomputable section
theorem it_any {v : CV} {vs : List CV} {H : CH} {K : List CV → Option (Addr × List CV) → Prop} (e : itemsOf H v = some vs) (h : ∀ g, (∀ H3 : CH, itemsOf H3 v = some vs → guardOk g H3) → K vs g) : wpIter v H K := by
  induction v using Mine.CV.casesOn with
  | lst us => obtain rfl := Option.some.inj e; exact h none fun _ _ => trivial
  | ref a =>
    exact ⟨vs, itemsOf_ref e, h _ fun H3 hx => itemsOf_ref hx⟩
  | _ => exact nn e
/-! what cutting gives -/
theorem cutG_len (cols : Nat) : ∀ (us : List U) (P : List (List Cell)) (pc : List Cell) (pl : List (Nat × Nat)), (cutG cols us P pc pl).2.length = pl.length + (flat us).length
  | [], P, pc, pl => by simp [cutG_nil, flat]
  | u :: us, P, pc, pl => by
    rw [cutG_cons]
    split <;>
    · rw [cutG_len, flat_cons, List.length_append, List.length_append]; simp [slots]; lia
theorem cutG_bd {cols : Nat} (hc : 1 ≤ cols) : ∀ (us : List U) (P : List (List Cell)) (pc : List Cell) (pl : List (Nat × Nat)), (∀ p ∈ P, p.length ≤ cols) → pc.length ≤ cols → (∀ p ∈ (cutG cols us P pc pl).1, p.length ≤ cols) ∧ (cutG cols us P pc pl).1.length ≤ P.length + us.length + 1 ∧ 1 ≤ (cutG cols us P pc pl).1.length
  | [], P, pc, pl, h1, h2 => by
    refine ⟨fun p hp => ?_, by simp [cutG_nil], by simp [cutG_nil]⟩
    simp only [cutG_nil, List.mem_append, List.mem_singleton] at hp
    rcases hp with hp | rfl
    · exact h1 p hp
    · exact h2
  | u :: us, P, pc, pl, h1, h2 => by
    have hp := prt_le hc u
    rw [cutG_cons]
    split
    · obtain ⟨a, b, c⟩ := cutG_bd hc us (P ++ [pad1 cols pc]) (prt cols u) (pl ++ slots (P.length + 1) 0 u.cells.length (prt cols u).length) (fun p hp => by
        rcases List.mem_append.mp hp with hp | hp
        · exact h1 p hp
        · simp at hp; subst hp; unfold pad1; split <;> (try rw [List.length_append]) <;> (try simp) <;> lia) hp
      exact ⟨a, by simp at b ⊢; lia, c⟩
    · rename_i ho
      have : pc.length + (prt cols u).length ≤ cols := by unfold over at ho; simpa using ho
      (refine and3 (cutG_bd hc us P (pc ++ prt cols u) (pl ++ slots P.length pc.length u.cells.length (prt cols u).length) h1 (by rw [List.length_append]; exact this)) fun a b c => ?_)
      exact ⟨a, by simp at b ⊢; lia, c⟩
theorem cut_len (cols : Nat) (us : List U) : (cut cols us).2.length = (flat us).length := by unfold cut; rw [cutG_len]; simp
theorem cut_bd {cols : Nat} (hc : 1 ≤ cols) (us : List U) : (∀ p ∈ (cut cols us).1, p.length ≤ cols) ∧ (cut cols us).1.length ≤ us.length + 1 ∧ 1 ≤ (cut cols us).1.length := by
  have := cutG_bd hc us [] [] [] (by simp) (by simp)
  simpa [cut] using this

noncomputable abbrev Ent := LN × Nat × Nat × Nat
noncomputable def entV (e : Ent) : CV := .tup [toldV e.1, .int e.2.1, .int e.2.2.1, .int e.2.2.2]
noncomputable def oldE (cols num : Nat) (us : List U) (q : LN × Nat) : Ent := (q.1, num, startF (cut cols us).2 (flat us).length q.2, if q.2 + 1 < (cut cols us).1.length then startF (cut cols us).2 (flat us).length (q.2 + 1) else (flat us).length)
noncomputable def oldT (cols num : Nat) (us : List U) : List Ent := (linesF cols (cut cols us).1).zipIdx.map (oldE cols num us)
noncomputable def oldF (cols : Nat) (ts : List (List U)) : List Ent := ts.zipIdx.flatMap fun q => oldT cols q.2 q.1
theorem oldT_len (cols num : Nat) (us : List U) : (oldT cols num us).length = (cut cols us).1.length := by unfold oldT linesF; simp
noncomputable def txtV (us : List U) : CV := clv (flat us)
theorem zipIdx_take {α : Type} (l : List α) (i : Nat) (h : i < l.length) : (l.take (i + 1)).zipIdx = (l.take i).zipIdx ++ [(l[i], i)] := by
  rw [List.take_add_one, List.getElem?_eq_getElem h, Option.toList_some, List.zipIdx_append]
  simp [List.length_take, Nat.min_eq_left (Nat.le_of_lt h)]
theorem flatMap_len {α β : Type} (f : α → List β) (c : Nat) : ∀ l : List α, (∀ a ∈ l, (f a).length ≤ c) → (l.flatMap f).length ≤ c * l.length
  | [], _ => by simp
  | a :: l, h => by
    rw [List.flatMap_cons, List.length_append, List.length_cons, Nat.mul_succ]
    have := flatMap_len f c l fun a ha => h a (.tail _ ha)
    have := h a (.head _)
    lia
theorem law_old {n : Nat} {ts : List (List U)} {cols : Nat} {v : CV} {H : CH} {Q : CV → CH → Prop} (hv : itemsOf H v = some (ts.map txtV)) (hz : ∀ us ∈ ts, us.length ≤ 100) (hz2 : ts.length ≤ 100) (hc : 1 ≤ cols ∧ cols ≤ 1000) (h : Q (.lst ((oldF cols ts).map entV)) H) : wpFun (call (n + 4)) "_law_old" [v, .int cols] H Q := by
  refine f_call (by rfl) (call_of (loc := [("texts", v), ("columns", .int cols)]) (by rfl) (by rfl) ?_)
  refine allKS fun _ _ => ?_
  conv => arg 2; whnf
  have hcap : cap = 16777216 := rfl
  repeat walk_at "cs"
  refine al_ref (Nat.zero_le _) fun f hf => ?_
  repeat walk_at "cs"
  refine ss_for (src_enum ?_)
  repeat walk_at "cs"
  have hsmall : ∀ i, ((ts.take i).zipIdx.flatMap fun q => oldT cols q.2 q.1).length ≤ 101 * 100 := fun i => by
    have := flatMap_len (fun q : List U × Nat => oldT cols q.2 q.1) 101 (ts.take i).zipIdx (fun a ha => by
      rw [oldT_len]
      have h1 := (cut_bd hc.1 a.1).2.1
      have h2 : a.1 ∈ ts.take i := (List.mem_zipIdx' ha).2 ▸ List.getElem_mem _
      have h3 := hz a.1 (List.mem_of_mem_take h2)
      lia)
    have h4 : (ts.take i).zipIdx.length ≤ 100 := by rw [List.length_zipIdx, List.length_take]; lia
    calc _ ≤ 101 * (ts.take i).zipIdx.length := this
      _ ≤ 101 * 100 := Nat.mul_le_mul_left _ h4
  refine it_any (items_old hf hv) fun gd hgd => ?_
  refine for_inv (g := gd) (fun vs loc H3 => ∃ i, i ≤ ts.length ∧ vs = (enumItems (ts.map txtV)).drop i ∧ loc = ([("texts", v), ("columns", .int cols), ("found", .ref f)] : Loc) ∧ (∀ x o, H x = some o → H3 x = some o) ∧ guardOk gd H3 ∧
    H3 f = some (.list (((ts.take i).zipIdx.flatMap fun q => oldT cols q.2 q.1).map entV))) (fun _ _ _ hj => ?_) (fun loc H3 hj => ?_) (fun w vs loc H3 _ _ hj => ?_) _ _ _ ?_
  · (refine Exists.elim hj fun i zr1g => ?_; refine and6 zr1g fun _ _ _ _ hg _ => ?_; clear zr1g; try clear hj); exact hg
  rotate_left 2
  · exact ⟨0, Nat.zero_le _, rfl, rfl, fun x o e => set_old hf e, hgd _ (items_old hf hv), set_eq⟩
  · obtain ⟨i, hEE⟩ := hj
    refine and6 hEE fun hi hvs q0 g0 hg g1 => ?_
    clear hEE
    subst q0
    have hi' : i = ts.length := by
      have := congrArg List.length hvs
      rw [List.length_drop, enum_length, List.length_map] at this
      simp at this; lia
    subst hi'
    rw [List.take_length] at g1
    repeat walk_at "cs"
    exact ret_frz (c' := .lst ((oldF cols ts).map entV)) g0 (fz_ref hf g1 (fz_reflL _ _ _)) h
  · obtain ⟨i, hEE⟩ := hj
    refine and6 hEE fun hi hvs q0 g0 hg g1 => ?_
    clear hEE
    subst q0
    have hi2 : i < ts.length := by
      have := congrArg List.length hvs
      rw [List.length_drop, enum_length, List.length_map] at this
      simp at this; lia
    rw [enum_drop (by rw [List.length_map]; exact hi2)] at hvs
    obtain ⟨rfl, rfl⟩ := List.cons.inj hvs
    rw [List.getElem_map]
    generalize hus : ts[i] = us
    have hmem : us ∈ ts := hus ▸ List.getElem_mem _
    have huz := hz us hmem
    (refine and3 (cut_bd hc.1 us) fun bp bl b1 => ?_)
    have hfl := flat_len us
    have hpre := hsmall i
    unfold txtV
    repeat walk_at "cs"
    refine law_cut (by lia) hc ?_
    repeat walk_at "cs"
    refine f_len rfl ?_
    repeat walk_at "cs"
    rw [List.length_map]
    refine law_starts (cut_len cols us) (by lia) (by lia) ?_
    repeat walk_at "cs"
    refine ss_for (src_enum ?_)
    repeat walk_at "cs"
    refine law_lines (fun p hp => by have := bp p hp; lia) (by lia) hc.2 ?_
    refine it_lst ?_
    generalize hP : (cut cols us).1 = P at bp bl b1 ⊢
    generalize hpl : (cut cols us).2 = pl
    have hLn : (linesF cols P).length = P.length := by unfold linesF; simp
    have hold : oldT cols i us = (linesF cols P).zipIdx.map (oldE cols i us) := by unfold oldT; rw [hP]
    refine for_inv (g := none) (fun vs loc H4 => ∃ k, k ≤ P.length ∧ vs = (enumItems ((linesF cols P).map toldV)).drop k ∧ loc = ([("texts", v), ("columns", .int cols), ("found", .ref f), ("number", .int (i : Nat)), ("cells", clv (flat us)), ("pieces", .lst (P.map clv)), ("places", .lst (pl.map plv)), ("starts", .lst (natV ((List.range P.length).map (startF pl (flat us).length))))] : Loc) ∧
      (∀ x o, H x = some o → H4 x = some o) ∧ H4 f = some (.list ((((ts.take i).zipIdx.flatMap fun q => oldT cols q.2 q.1) ++ (oldT cols i us).take k).map entV))) (fun _ _ _ _ => trivial) (fun loc H4 hj => ?_) (fun w vs loc H4 _ _ hj => ?_) _ _ _ ?_
    rotate_left 2
    · exact ⟨0, Nat.zero_le _, rfl, rfl, g0, by simpa using g1⟩
    · obtain ⟨k, hEE⟩ := hj
      refine and5 hEE fun hk hvs q0 k0 k1 => ?_
      clear hEE
      subst q0
      have hk' : k = P.length := by
        have := congrArg List.length hvs
        rw [List.length_drop, enum_length, List.length_map, hLn] at this
        simp at this; lia
      subst hk'
      repeat walk_at "cs"
      refine (exI2 _ H4 ⟨weak_drop (fun q hq => ?_), i + 1, hi2, rfl, rfl, k0, hgd _ (items_ext k0 hv), ?_⟩)
      · simp only [List.mem_cons, List.not_mem_nil, or_false] at hq
        rcases hq with rfl | rfl | rfl <;> rfl
      · have etk : (oldT cols i us).take P.length = oldT cols i us := List.take_of_length_le (by rw [oldT_len, hP]; exact Nat.le_refl _)
        rw [k1, etk, zipIdx_take ts i hi2, List.flatMap_append, hus]; simp
    · obtain ⟨k, hEE⟩ := hj
      refine and5 hEE fun hk hvs q0 k0 k1 => ?_
      clear hEE
      subst q0
      have hk2 : k < (linesF cols P).length := by
        have := congrArg List.length hvs
        rw [List.length_drop, enum_length, List.length_map] at this
        simp at this; lia
      rw [enum_drop (by rw [List.length_map]; exact hk2)] at hvs
      obtain ⟨rfl, rfl⟩ := List.cons.inj hvs
      rw [List.getElem_map]
      have hst : ∀ j, j < P.length → pyIdx (natV ((List.range P.length).map (startF pl (flat us).length))) ((j : Nat) : Int) = some (.int (startF pl (flat us).length j : Nat)) := fun j hj => px_nat (by unfold natV; rw [List.getElem?_map, List.getElem?_map, List.getElem?_range hj]; rfl)
      have hsl : (natV ((List.range P.length).map (startF pl (flat us).length))).length = P.length := by unfold natV; simp
      rw [hLn] at hk2
      repeat walk_at "cs"
      refine e_via (fun c H' => c = .int ((if k + 1 < P.length then startF pl (flat us).length (k + 1) else (flat us).length : Nat) : Int) ∧ H4 = H') (fun c H' hx => ?_) ?_
      rotate_left
      · refine allKV fun _ _ => ?_
        refine e_ifexp ?_
        repeat walk_at "cs"
        refine f_len rfl ?_
        repeat walk_at "cs"
        rw [hsl]
        refine ⟨fun z => ?_, fun z => ?_⟩
        · have h1 : k + 1 < P.length := by simp at z; lia
          repeat walk_at "cs"
          refine ix_it (k := ((k + 1 : Nat) : Int)) rfl (hst (k + 1) h1) ?_
          repeat walk_at "cs"
          exact ⟨by rw [if_pos h1], rfl⟩
        · have h1 : ¬ k + 1 < P.length := by simp at z; lia
          repeat walk_at "cs"
          refine f_len rfl ?_
          repeat walk_at "cs"
          exact ⟨by rw [if_neg h1, List.length_map], rfl⟩
      obtain ⟨rfl, rfl⟩ := hx
      repeat walk_at "cs"
      refine ⟨mo_ref (by rfl) k1, ?_⟩
      repeat walk_at "cs"
      refine ix_it rfl (hst k hk2) ?_
      repeat walk_at "cs"
      refine m_app k1 (by rw [List.length_map, List.length_append, List.length_take, oldT_len, hP]; lia) ?_
      repeat walk_at "cs"
      refine (exI2 _ _ ⟨weak_drop (fun q hq => ?_), k + 1, hk2, rfl, rfl, fun x o e => ?_, ?_⟩)
      · simp only [List.mem_cons, List.not_mem_nil, or_false] at hq
        rcases hq with rfl | rfl | rfl | rfl | rfl | rfl | rfl | rfl <;> rfl
      · rw [set_ne (ne_of_none hf e)]; exact k0 x o e
      · have et : (oldT cols i us)[k]? = some ((linesF cols P)[k]'(by rw [hLn]; exact hk2), i, startF pl (flat us).length k, if k + 1 < P.length then startF pl (flat us).length (k + 1) else (flat us).length) := by
          rw [hold, List.getElem?_map, List.getElem?_zipIdx, List.getElem?_eq_getElem (by rw [hLn]; exact hk2)]
          simp [oldE, hP, hpl]
        rw [set_eq, List.take_add_one, et, Option.toList_some, ← List.append_assoc, List.map_append (f := entV) (l₂ := [_])]
        rfl
end
end

/-! part C18 -/
section
local macro_rules | `(tactic| walk_at "cs") => `(tactic| with_reducible first | refine e_and ?_ | refine e_or ?_ | refine e_cmp2 ?_)
noncomputable section
noncomputable def TxtOk (us : List U) : Prop := us.length ≤ 7 ∧ ∀ u ∈ us, u.isT
theorem oldF_app (cols : Nat) (ts : List (List U)) (us : List U) : oldF cols (ts ++ [us]) = oldF cols ts ++ oldT cols ts.length us := by
  unfold oldF; rw [List.zipIdx_append, List.flatMap_append]; simp
theorem len_flat {α β : Type} (f : α → List β) : ∀ l : List α, (∀ a ∈ l, 1 ≤ (f a).length) → l.length ≤ (l.flatMap f).length
  | [], _ => by simp
  | a :: l, h => by
    rw [List.flatMap_cons, List.length_append, List.length_cons]
    have := len_flat f l fun a ha => h a (.tail _ ha)
    have := h a (.head _)
    lia
theorem oldF_ge {cols : Nat} (hc : 1 ≤ cols) (ts : List (List U)) : ts.length ≤ (oldF cols ts).length := by
  unfold oldF
  have := len_flat (fun q : List U × Nat => oldT cols q.2 q.1) ts.zipIdx (fun a _ => by rw [oldT_len]; exact (cut_bd hc a.1).2.2)
  simpa using this
theorem comp_draw {dk : Addr} {ds : List Int} {H : CH} {step : CV → List CV → CH → (List CV → CH → Prop) → Prop} {Q : List CV → CH → Prop} :
    ∀ (vs acc : List CV) (k1 : Nat), (∀ v ∈ vs, ∀ (acc : List CV) (k1 : Nat) (K : List CV → CH → Prop), k1 ≤ 1000 → acc.length ≤ 1000 → (∀ (us : List U) (k2 : Nat), TxtOk us → k1 ≤ k2 → k2 ≤ k1 + 8 → K (acc ++ [txtV us]) (H.set dk (deckM ds k2))) → step v acc (H.set dk (deckM ds k1)) K) →
      k1 + 8 * vs.length ≤ 1000 → acc.length + vs.length ≤ 1000 → (∀ (ts : List (List U)) (k2 : Nat), ts.length = vs.length → (∀ us ∈ ts, TxtOk us) → k1 ≤ k2 → k2 ≤ k1 + 8 * vs.length → Q (acc ++ ts.map txtV) (H.set dk (deckM ds k2))) → compItems none step vs acc (H.set dk (deckM ds k1)) Q
  | [], acc, k1, _, _, _, h => ⟨trivial, by simpa using h [] k1 rfl (by simp) (Nat.le_refl _) (Nat.le_refl _)⟩
  | v :: vs, acc, k1, hs, z1, z2, h => ⟨trivial, hs v (.head _) acc k1 _ (by lia) (by lia) fun us k2 hu g1 g2 => comp_draw vs (acc ++ [txtV us]) k2 (fun v hv => hs v (.tail _ hv)) (by simp at z1; lia) (by simp at z2 ⊢; lia)
      fun ts k3 e1 e2 e3 e4 => by
        have := h (us :: ts) k3 (by simp [e1]) (fun x hx => by rcases List.mem_cons.mp hx with rfl | hx; exact hu; exact e2 x hx) (by lia) (by simp; lia)
        simpa using this⟩
theorem law_world {n : Nat} {dk : Addr} {ds : List Int} {k : Nat} {H : CH} {Q : CV → CH → Prop} (hd : H dk = some (deckM ds k)) (hk : k ≤ 100)
    (h : ∀ cols rows ts k', 2 ≤ cols → cols ≤ 6 → 1 ≤ rows → rows ≤ 4 → ts.length ≤ 5 → (∀ us ∈ ts, TxtOk us) → rows ≤ (oldF cols ts).length → k' ≤ k + 100 →
      Q (.tup [.int (cols : Nat), .int (rows : Nat), .lst (ts.map txtV), .lst ((oldF cols ts).map entV)]) (H.set dk (deckM ds k'))) : wpFun (call (n + 5)) "_law_world" [.dct dk] H Q := by
  refine f_call (by rfl) (call_of (loc := [("deck", .dct dk)]) (by rfl) (by rfl) ?_)
  refine allKS fun _ _ => ?_
  conv => arg 2; whnf
  have hcap : cap = 16777216 := rfl
  repeat walk_at "cs"
  refine law_draw (b := 5) hd (by lia) (by rfl) (by lia) fun r5 h5 => ?_
  repeat walk_at "cs"
  refine law_draw (b := 4) set_eq (by lia) (by rfl) (by lia) fun r4 h4 => ?_
  rw [set_set]
  repeat walk_at "cs"
  refine k_one (src_range ?_)
  repeat walk_at "cs"
  refine law_draw (b := 5) set_eq (by lia) (by rfl) (by lia) fun r6 h6 => ?_
  rw [set_set]
  repeat walk_at "cs"
  refine ⟨by lia, ?_⟩
  rw [show (1 : Int) + (r6 : Nat) = ((1 + r6 : Nat) : Int) by lia, range_items]
  refine comp_draw _ [] (k + 1 + 1 + 1) (fun v hv acc k1 K y1 y2 hK => ?_) (by simp; lia) (by simp; lia) fun ts k2 e1 e2 e3 e4 => ?_
  · (refine Exists.elim (List.mem_map.mp hv) fun i zr2g => ?_; refine And.elim (fun _ zq1g => ?_) zr2g; clear zr2g; obtain rfl := zq1g)
    refine b_name (by rfl) (by rfl) (ts_nil ⟨fun z => (by exact tf z), fun _ => g_nil ?_⟩)
    repeat walk_at "cs"
    refine law_text set_eq (by lia) fun us k2 u1 u2 u3 u4 => ?_
    rw [set_set]
    exact ⟨by lia, hK us k2 ⟨u1, u2⟩ u3 u4⟩
  simp only [List.length_map, List.length_range] at e1 e4
  rw [List.nil_append]
  refine al_ref (by rw [List.length_map]; lia) fun tx htx => ?_
  have hxd : tx ≠ dk := fun q => by rw [q, set_eq] at htx; exact sn htx
  rw [set_ne hxd] at htx
  have old : ∀ {ts : List (List U)}, (∀ us ∈ ts, TxtOk us) → ∀ us ∈ ts, us.length ≤ 100 := fun ht us hu => by have := (ht us hu).1; lia
  repeat walk_at "cs"
  rw [show (2 : Int) + (r5 : Nat) = ((2 + r5 : Nat) : Int) by lia, show (1 : Int) + (r4 : Nat) = ((1 + r4 : Nat) : Int) by lia]
  refine law_old (ts := ts) (itr set_eq) (old e2) (by lia) (by lia) ?_
  repeat walk_at "cs"
  refine ss_while (fun m loc H3 => ∃ ts : List (List U), loc = ([("deck", .dct dk), ("columns", .int ((2 + r5 : Nat) : Int)), ("rows", .int ((1 + r4 : Nat) : Int)), ("texts", .ref tx), ("lines", .lst ((oldF (2 + r5) ts).map entV))] : Loc) ∧ m = 4 - (oldF (2 + r5) ts).length ∧
      (∀ us ∈ ts, TxtOk us) ∧ ts.length ≤ 5 ∧ H3 tx = some (.list (ts.map txtV)) ∧ (∀ x o, (H.set dk (deckM ds k2)) x = some o → H3 x = some o)) (exI3 _ _ _ ⟨weak_refl, ts, rfl, rfl, e2, by lia, set_eq, fun x o e => set_old (by rw [set_ne hxd]; exact htx) e⟩) fun m loc H3 _ _ hi => ?_
  obtain ⟨ts, hEE⟩ := hi
  refine and6 hEE fun q0 q1 g1 g2 g3 g4 => ?_
  clear hEE
  subst q0 q1
  repeat walk_at "cs"
  refine f_len rfl ?_
  repeat walk_at "cs"
  rw [List.length_map]
  have hge := oldF_ge (cols := 2 + r5) (by lia) ts
  refine ⟨fun z => ?_, fun z => ?_⟩
  · have hlt : (oldF (2 + r5) ts).length < 1 + r4 := by simp at z; lia
    repeat walk_at "cs"
    refine ⟨mo_ref (by rfl) g3, ?_⟩
    repeat walk_at "cs"
    refine al_lst (Nat.zero_le _) ?_
    repeat walk_at "cs"
    refine m_app g3 (by rw [List.length_map]; lia) ?_
    have et : ts.map txtV ++ [.lst []] = (ts ++ [[]]).map txtV := by rw [List.map_append]; rfl
    rw [et]
    have ok2 : ∀ us ∈ ts ++ [[]], TxtOk us := fun us hu => by
      rcases List.mem_append.mp hu with hu | hu
      · exact g1 us hu
      · simp at hu; subst hu; exact ⟨by simp, by simp⟩
    repeat walk_at "cs"
    refine law_old (ts := ts ++ [[]]) (itr set_eq) (old ok2) (by simp; lia) (by lia) ?_
    repeat walk_at "cs"
    have hl2 : (oldF (2 + r5) (ts ++ [[]])).length = (oldF (2 + r5) ts).length + 1 := by rw [oldF_app, List.length_append, oldT_len]; rfl
    refine ⟨4 - (oldF (2 + r5) (ts ++ [[]])).length, by lia, _, _, weak_refl, ts ++ [[]], rfl, rfl, ok2, by simp; lia, set_eq, fun x o e => ?_⟩
    rw [set_ne (ne_of_none (show (H.set dk (deckM ds k2)) tx = none by rw [set_ne hxd]; exact htx) e)]
    exact g4 x o e
  · have hge2 : 1 + r4 ≤ (oldF (2 + r5) ts).length := by simp at z; lia
    repeat walk_at "cs"
    refine ret_frz (c' := .tup [.int ((2 + r5 : Nat) : Int), .int ((1 + r4 : Nat) : Int), .lst (ts.map txtV), .lst ((oldF (2 + r5) ts).map entV)]) (H0 := H.set dk (deckM ds k2)) g4
      ⟨_, rfl, _, _, rfl, fz_refl _ _ _, _, _, rfl, fz_refl _ _ _, _, _, rfl, fz_ref (by rw [set_ne hxd]; exact htx) g3 (fz_reflL _ _ _), _, _, rfl, fz_refl _ _ _, rfl⟩ (h (2 + r5) (1 + r4) ts k2 (by lia) (by lia) (by lia) (by lia) g2 g1 hge2 (by lia))
end
end

/-! part C19 -/
section
local macro_rules | `(tactic| walk_at "cs") => `(tactic| with_reducible first | refine e_cmp2 ?_)
noncomputable section
theorem law_cursor {n : Nat} {dk : Addr} {ds : List Int} {k cols rows : Nat} {es : List Ent} {H : CH} {Q : CV → CH → Prop} (hd : H dk = some (deckM ds k)) (hk : k ≤ 1000) (hc : 1 ≤ cols) (hr : 1 ≤ rows) (hl : rows ≤ es.length)
    (h : ∀ row col pend e k', row < rows → col < cols → es[es.length - rows + row]? = some e → k' ≤ k + 3 →
      Q (.tup [.int (row : Nat), .int (col : Nat), .bool pend, .int (e.2.1 : Nat), .int ((if e.1.2 then min (e.2.2.1 + col) e.2.2.2 else e.2.2.1 + col : Nat) : Int)]) (H.set dk (deckM ds k'))) :
    wpFun (call (n + 2)) "_law_cursor" [.dct dk, .int cols, .int rows, .lst (es.map entV)] H Q := by
  refine f_call (by rfl) (call_of (loc := [("deck", .dct dk), ("columns", .int cols), ("rows", .int rows), ("lines", .lst (es.map entV))]) (by rfl) (by rfl) ?_)
  refine allKS fun _ _ => ?_
  conv => arg 2; whnf
  repeat walk_at "cs"
  refine law_draw (b := rows) hd (by lia) (by rfl) (by lia) fun row h1 => ?_
  repeat walk_at "cs"
  refine law_draw (b := cols) set_eq (by lia) (by rfl) (by lia) fun col h2 => ?_
  rw [set_set]
  repeat walk_at "cs"
  refine f_len rfl ?_
  repeat walk_at "cs"
  have hi : es.length - rows + row < es.length := by lia
  have he := List.getElem?_eq_getElem hi
  generalize es[es.length - rows + row] = e at he
  rw [List.length_map, show ((es.length : Nat) : Int) - (rows : Nat) + (row : Nat) = ((es.length - rows + row : Nat) : Int) by rw [← Int.ofNat_sub hl, ← Int.natCast_add]]
  refine ix_it (c := entV e) rfl (px_nat (by rw [List.getElem?_map, he]; rfl)) ?_
  unfold entV toldV
  repeat walk_at "cs"
  refine e_via (fun c H' => ∃ b k', c = .bool b ∧ H' = H.set dk (deckM ds k') ∧ k' ≤ k + 3) (fun c H' hx => ?_) ?_
  rotate_left
  · refine allKV fun _ _ => ?_
    refine e_and ?_
    repeat walk_at "cs"
    refine ⟨fun z => (by (repeat walk_at "cs"); exact (exI2 _ _ ⟨rfl, rfl, by lia⟩)), fun z => ?_⟩
    refine e_and ?_
    repeat walk_at "cs"
    refine ⟨fun z => (by (repeat walk_at "cs"); exact (exI2 _ _ ⟨rfl, rfl, by lia⟩)), fun z => ?_⟩
    repeat walk_at "cs"
    refine law_draw (b := 2) set_eq (by lia) (by rfl) (by lia) fun r h3 => ?_
    rw [set_set]
    repeat walk_at "cs"
    exact (exI2 _ _ ⟨rfl, rfl, by lia⟩)
  (refine ex2 hx fun b k' zr3g => ?_; refine and3 zr3g fun zq1g zq2g hk' => ?_; clear zr3g; try clear hx; obtain rfl := zq1g; obtain rfl := zq2g)
  have fin := h row col b e k' h1 h2 he hk'
  repeat walk_at "cs"
  refine ss_if ?_
  repeat walk_at "cs"
  refine ix_tup (by rfl) ?_
  repeat walk_at "cs"
  refine ⟨fun z => ?_, fun z => ?_⟩
  · rw [z, if_pos rfl] at fin
    repeat walk_at "cs"
    rw [← Int.natCast_add, min_cast]
    repeat walk_at "cs"
    exact ret_same fin
  · rw [z, if_neg (by simp)] at fin
    repeat walk_at "cs"
    rw [← Int.natCast_add]
    repeat walk_at "cs"
    exact ret_same fin
theorem law_told {n : Nat} {l : LN} {H : CH} {Q : CV → CH → Prop} (hz : l.1.length ≤ 1000) (h : Q (.tup [clv l.1, .bool l.2, .str "single"]) H) : wpFun (call (n + 1)) "_law_told" [lineCV l.1 l.2] H Q := by
  refine f_call (by rfl) (call_of (loc := [("line", lineCV l.1 l.2)]) (by rfl) (by rfl) ?_)
  refine allKS fun _ _ => ?_
  conv => arg 2; whnf
  repeat walk_at "cs"
  refine f_list rfl (al_lst (by rw [List.length_map]; unfold cap; lia) ?_)
  repeat walk_at "cs"
  exact ret_same h
end
end

/-! part C20 -/
section
local macro_rules | `(tactic| walk_at "cs") => `(tactic| with_reducible first | refine e_and ?_ | refine e_or ?_ | refine e_cmp2 ?_)
noncomputable section
noncomputable def condL (cols first row rows : Nat) (ls : List LN) : Bool := decide ((ls.length : Int) - first > rows) && decide ((ls.length : Int) - 1 > row) && decide (ls.getLast? = some (List.replicate cols PB, false))
noncomputable def leftN (cols first row rows : Nat) : Nat → List LN → List LN
  | 0, ls => ls
  | n + 1, ls => if condL cols first row rows ls = true then leftN cols first row rows n ls.dropLast else ls
noncomputable def leftF (cols first row rows : Nat) (ls : List LN) : List LN := leftN cols first row rows ls.length ls
theorem leftF_on {cols first row rows : Nat} {ls : List LN} (h : condL cols first row rows ls = true) : leftF cols first row rows ls = leftF cols first row rows ls.dropLast := by
  unfold leftF
  cases hl : ls.length with
  | zero => rw [List.length_eq_zero_iff] at hl; subst hl; rfl
  | succ n => rw [leftN, if_pos h, List.length_dropLast, hl, Nat.add_sub_cancel]
theorem leftF_off {cols first row rows : Nat} {ls : List LN} (h : condL cols first row rows ls = false) : leftF cols first row rows ls = ls := by
  unfold leftF
  cases ls.length with
  | zero => rfl
  | succ n => rw [leftN, if_neg (by rw [h]; simp)]
noncomputable def topF (first row rows len : Nat) : Int := if (len : Int) - first > rows then min ((len : Int) - rows) row else max 0 (min (first : Int) ((len : Int) - rows))
theorem ok_told (l : LN) : okd (toldV l) 61 := ⟨by lia, ⟨by lia, ok_cells _ 57⟩, trivial, trivial⟩
theorem eqv_told (l m : LN) : PyData.eqv (cdat (toldV l)) (cdat (toldV m)) = decide (l = m) := by
  have : PyData.eqv (cdat (toldV l)) (cdat (toldV m)) = (PyData.eqvAll (cdats (cvs l.1)) (cdats (cvs m.1)) && ((l.2 == m.2) && true)) := rfl
  rw [this, eqv_cells]
  obtain ⟨a, b⟩ := l
  obtain ⟨c, d⟩ := m
  by_cases h1 : a = c <;> by_cases h2 : b = d <;> simp [h1, h2]
theorem law_left {n : Nat} {ls : List LN} {first row rows cols : Nat} {x y : CV} {H : CH} {Q : CV → CH → Prop} (hz : ls.length ≤ 100000) (hc : cols ≤ 1000)
    (h : Q (.tup [.lst ((leftF cols first row rows ls).map toldV), .int (topF first row rows (leftF cols first row rows ls).length)]) H) : wpFun (call (n + 3)) "_law_left" [.lst (ls.map toldV), .int first, .tup [.int row, x, y], .int rows, .int cols] H Q := by
  refine f_call (by rfl) (call_of (loc := [("lines", .lst (ls.map toldV)), ("first", .int first), ("at", .tup [.int row, x, y]), ("rows", .int rows), ("columns", .int cols)]) (by rfl) (by rfl) ?_)
  refine allKS fun KF hKF => ?_
  conv => arg 2; whnf
  have hcap : cap = 16777216 := rfl
  repeat walk_at "cs"
  refine f_blank (p := PLAIN) ?_
  repeat walk_at "cs"
  refine al_lst (by simp [cap]) ?_
  repeat walk_at "cs"
  refine mu_it rfl (by lia) (by simp) ?_
  rw [rep_flat, Int.toNat_natCast]
  refine al_lst (by rw [List.length_replicate]; lia) ?_
  have eb : CV.lst (List.replicate cols (blank PLAIN).cv) = clv (List.replicate cols PB) := by show _ = CV.lst (List.map Cell.cv (List.replicate cols PB)); rw [List.map_replicate]; rfl
  rw [eb]
  repeat walk_at "cs"
  refine ss_while (fun m loc H' => ∃ ms : List LN, loc = ([("lines", .lst (ms.map toldV)), ("first", .int first), ("at", .tup [.int row, x, y]), ("rows", .int rows), ("columns", .int cols), ("blank", .tup [clv (List.replicate cols PB), .bool false])] : Loc) ∧ H = H' ∧ m = ms.length ∧ ms.length ≤ 100000 ∧ leftF cols first row rows ms = leftF cols first row rows ls)
    (exI3 _ _ _ ⟨weak_refl, ls, rfl, rfl, rfl, hz, rfl⟩) fun m loc H' _ _ hi => ?_
  obtain ⟨ms, hEE⟩ := hi
  refine and5 hEE fun q0 q1 q2 mz he => ?_
  clear hEE
  subst q0 q1 q2
  have fin : condL cols first row rows ms = false → Q (.tup [.lst (ms.map toldV), .int (topF first row rows ms.length)]) H := fun hf => by
    rw [← he, leftF_off hf] at h; exact h
  have exit : condL cols first row rows ms = false → wpSs (call (n + 2)) ((fdAt 44).body.drop 2) [("lines", .lst (ms.map toldV)), ("first", .int first), ("at", .tup [.int row, x, y]), ("rows", .int rows), ("columns", .int cols), ("blank", .tup [clv (List.replicate cols PB), .bool false])] H KF := fun hf => by
    have hq := fin hf
    conv => arg 2; whnf
    repeat walk_at "cs"
    refine ss_if ?_
    repeat walk_at "cs"
    refine f_len rfl ?_
    repeat walk_at "cs"
    rw [List.length_map]
    refine ⟨fun z => ?_, fun z => ?_⟩
    · have : topF first row rows ms.length = min ((ms.length : Int) - rows) row := by unfold topF; rw [if_pos (by simpa using z)]
      rw [this] at hq
      repeat walk_at "cs"
      refine f_len rfl ?_
      repeat walk_at "cs"
      refine ix_tup (by rfl) ?_
      repeat walk_at "cs"
      rw [List.length_map]
      repeat walk_at "cs"
      exact ret_same hq
    · have : topF first row rows ms.length = max 0 (min (first : Int) ((ms.length : Int) - rows)) := by unfold topF; rw [if_neg (by simpa using z)]
      rw [this] at hq
      repeat walk_at "cs"
      refine f_len rfl ?_
      repeat walk_at "cs"
      rw [List.length_map]
      repeat walk_at "cs"
      exact ret_same hq
  repeat walk_at "cs"
  refine f_len rfl ?_
  repeat walk_at "cs"
  rw [List.length_map]
  refine ⟨fun z => ⟨fun z2 => ?_, fun z2 => ?_⟩, fun z => ?_⟩
  · rw [z2] at z; exact noB z
  · exact exit (by unfold condL; rw [z2]; rfl)
  have c1 : decide ((ms.length : Int) - first > rows) = true := by simpa using z
  repeat walk_at "cs"
  refine f_len rfl ?_
  repeat walk_at "cs"
  refine ix_tup (by rfl) ?_
  repeat walk_at "cs"
  rw [List.length_map]
  refine ⟨fun z => ⟨fun z2 => ?_, fun z2 => ?_⟩, fun z => ?_⟩
  · rw [z2] at z; exact noB z
  · exact exit (by unfold condL; rw [z2, c1]; rfl)
  have c2 : decide ((ms.length : Int) - 1 > row) = true := by simpa using z
  have hne : ms ≠ [] := fun q => by subst q; simp at c1; lia
  obtain ⟨r, l, rfl⟩ : ∃ r l, ms = r ++ [l] := (exI2 ms.dropLast (ms.getLast hne) ((List.dropLast_concat_getLast hne).symm))
  have hcond : condL cols first row rows (r ++ [l]) = decide (l = (List.replicate cols PB, false)) := by unfold condL; rw [c1, c2]; simp
  repeat walk_at "cs"
  refine ix_it (c := toldV l) rfl (by rw [List.map_append]; exact px_last) ?_
  repeat walk_at "cs"
  refine c_eq (ok_told l) (ok_told (List.replicate cols PB, false)) (eqv_told l (List.replicate cols PB, false)) ?_
  refine ⟨fun z => ⟨fun z2 => ?_, fun z2 => ?_⟩, fun z => ?_⟩
  · rw [z2] at z; exact noB z
  · exact exit (by rw [hcond, z2])
  have c3 : decide (l = (List.replicate cols PB, false)) = true := by simpa using z
  repeat walk_at "cs"
  refine ⟨fun _ => ?_, fun z => (by exact tf z)⟩
  repeat walk_at "cs"
  refine sl_it rfl (ws := r.map toldV) (by rw [List.map_append]; exact cs_init) (al_lst (by rw [List.length_map]; simp at mz; lia) ?_)
  repeat walk_at "cs"
  refine ⟨r.length, by simp, _, _, weak_refl, r, rfl, rfl, rfl, by simp at mz; lia, ?_⟩
  have e5 := leftF_on (cols := cols) (first := first) (row := row) (rows := rows) (ls := r ++ [l]) (by rw [hcond, c3])
  rw [← he, e5, List.dropLast_concat]
end
end

/-! part C21 -/
section
local macro_rules | `(tactic| walk_at "cs") => `(tactic| with_reducible first | refine e_and ?_ | refine e_or ?_ | refine e_cmp2 ?_)
noncomputable section
/-! the cutting -/
noncomputable def cutD (cols : Nat) (l : CV) (first row col : Nat) (w : Bool) : List (Str × CV) := [("columns", .int cols), ("lines", l), ("first", .int first), ("row", .int row), ("column", .int col), ("is_waiting", .bool w)]
theorem cut_behind {n cols first row col : Nat} {l : CV} {w : Bool} {d : Addr} {H : CH} {Q : CV → CH → Prop} (hd : H d = some (.dict (cutD cols l first row col w)))
    (h : Q .none (H.set d (.dict (if col + 1 < cols then cutD cols l first row (col + 1) w else cutD cols l first row col true)))) : call (n + 1) "Cutting" "go_behind" [.obj "Cutting" d] H Q := by
  refine call_of (loc := [("self", .obj "Cutting" d)]) (by rfl) (by rfl) ?_
  refine allKS fun _ _ => ?_
  conv => arg 2; whnf
  repeat walk_at "cs"
  refine ss_if ?_
  repeat walk_at "cs"
  refine at_obj (by rfl) hd (by rfl) ?_
  repeat walk_at "cs"
  refine at_obj (by rfl) hd (by rfl) ?_
  repeat walk_at "cs"
  refine ⟨fun z => ?_, fun z => ?_⟩
  · rw [if_pos (by simp at z; lia)] at h
    repeat walk_at "cs"
    refine at_obj (by rfl) hd (by rfl) ?_
    repeat walk_at "cs"
    refine sa_obj (by rfl) hd (by with_unfolding_all rfl) (by rfl) ?_
    repeat walk_at "cs"
    exact ret_same h
  · rw [if_neg (by simp at z; lia)] at h
    repeat walk_at "cs"
    refine sa_obj (by rfl) hd (by with_unfolding_all rfl) (by rfl) ?_
    repeat walk_at "cs"
    exact ret_same h
theorem cut_top {n cols first row col rows : Nat} {l : Addr} {w : Bool} {d : Addr} {ls : List LN} {H : CH} {Q : CV → CH → Prop} (hd : H d = some (.dict (cutD cols (.ref l) first row col w))) (hl : H l = some (.list (ls.map lnv)))
    (h : Q (.int (topF first row rows ls.length)) H) : call (n + 1) "Cutting" "top" [.obj "Cutting" d, .int rows] H Q := by
  refine call_of (loc := [("self", .obj "Cutting" d), ("rows", .int rows)]) (by rfl) (by rfl) ?_
  refine allKS fun _ _ => ?_
  conv => arg 2; whnf
  have il : itemsOf H (.ref l) = some (ls.map lnv) := itr hl
  repeat walk_at "cs"
  refine ss_if ?_
  repeat walk_at "cs"
  refine at_obj (by rfl) hd (by rfl) ?_
  repeat walk_at "cs"
  refine f_len il ?_
  repeat walk_at "cs"
  refine at_obj (by rfl) hd (by rfl) ?_
  repeat walk_at "cs"
  rw [List.length_map]
  refine ⟨fun z => ?_, fun z => ?_⟩
  · have e : topF first row rows ls.length = min ((ls.length : Int) - rows) row := by unfold topF; rw [if_pos (by simpa using z)]
    rw [e] at h
    repeat walk_at "cs"
    refine at_obj (by rfl) hd (by rfl) ?_
    repeat walk_at "cs"
    refine f_len il ?_
    repeat walk_at "cs"
    refine at_obj (by rfl) hd (by rfl) ?_
    repeat walk_at "cs"
    rw [List.length_map]
    repeat walk_at "cs"
    exact ret_same h
  · have e : topF first row rows ls.length = max 0 (min (first : Int) ((ls.length : Int) - rows)) := by unfold topF; rw [if_neg (by simpa using z)]
    rw [e] at h
    repeat walk_at "cs"
    refine at_obj (by rfl) hd (by rfl) ?_
    repeat walk_at "cs"
    refine at_obj (by rfl) hd (by rfl) ?_
    repeat walk_at "cs"
    refine f_len il ?_
    repeat walk_at "cs"
    rw [List.length_map]
    repeat walk_at "cs"
    exact ret_same h
end
end

/-! part C22 -/
section
local macro_rules | `(tactic| walk_at "cs") => `(tactic| with_reducible first | refine e_and ?_ | refine e_or ?_ | refine e_cmp2 ?_)
noncomputable section
theorem dw_nil {α : Type} {p : α → Bool} : ∀ {l : List α}, l.dropWhile p = [] → ∀ x ∈ l, p x = true
  | [], _, _, h => nomatch h
  | a :: l, e, x, h => by
    rw [List.dropWhile_cons] at e
    by_cases hp : p a = true
    · rw [if_pos hp] at e
      rcases List.mem_cons.mp h with rfl | h
      · exact hp
      · exact dw_nil e x h
    · rw [if_neg hp] at e; cases e
theorem used_iff (row : List Cell) : used row = [] ↔ row = List.replicate row.length PB := by
  constructor
  · intro h
    unfold used at h
    have h2 : row.reverse.dropWhile (fun c => decide (c = PB)) = [] := by simpa using h
    refine List.eq_replicate_iff.mpr ⟨rfl, fun c hc => ?_⟩
    simpa using dw_nil h2 c (by simpa using hc)
  · intro h
    rw [h]
    have := used_pbs [] row.length
    simpa [used_nil] using this
theorem cut_give {n cols first row col rows : Nat} {l : Addr} {w : Bool} {d : Addr} {ls : List LN} {H : CH} {Q : CV → CH → Prop} (hd : H d = some (.dict (cutD cols (.ref l) first row col w))) (hdl : d ≠ l) (hl : H l = some (.list (ls.map lnv))) (hz : ls.length ≤ 100000) (hr : ∀ x ∈ ls, x.1.length = cols) (hc : cols ≤ 1000)
    (h : Q .none (H.set l (.list ((leftF cols first row rows ls).map lnv)))) : call (n + 3) "Cutting" "give_up" [.obj "Cutting" d, .int rows] H Q := by
  refine call_of (loc := [("self", .obj "Cutting" d), ("rows", .int rows)]) (by rfl) (by rfl) ?_
  refine allKS fun _ _ => ?_
  conv => arg 2; whnf
  have hcap : cap = 16777216 := rfl
  have h0 : H = H.set l (.list (ls.map lnv)) := by
    funext x; unfold CH.set; split
    · rename_i q; rw [q]; exact hl
    · rfl
  repeat walk_at "cs"
  refine ss_while (fun m loc H' => ∃ ms : List LN, loc = ([("self", .obj "Cutting" d), ("rows", .int rows)] : Loc) ∧ H' = H.set l (.list (ms.map lnv)) ∧ m = ms.length ∧ ms.length ≤ 100000 ∧ (∀ x ∈ ms, x.1.length = cols) ∧ leftF cols first row rows ms = leftF cols first row rows ls)
    (exI3 _ _ _ ⟨weak_refl, ls, rfl, h0, rfl, hz, hr, rfl⟩) fun m loc H' _ _ hi => ?_
  obtain ⟨ms, hEE⟩ := hi
  refine and6 hEE fun q0 q1 q2 mz mr he => ?_
  clear hEE
  subst q0 q1 q2
  have hd' : (H.set l (.list (ms.map lnv))) d = some (.dict (cutD cols (.ref l) first row col w)) := by rw [set_ne hdl]; exact hd
  have il : itemsOf (H.set l (.list (ms.map lnv))) (.ref l) = some (ms.map lnv) := itr set_eq
  have fin : condL cols first row rows ms = false → ∃ v' H'', WeakR CV.none (H.set l (.list (ms.map lnv))) v' H'' ∧ Q v' H'' := fun hf => by
    rw [← he, leftF_off hf] at h; exact ret_same h
  repeat walk_at "cs"
  refine at_obj (by rfl) hd' (by rfl) ?_
  repeat walk_at "cs"
  refine f_len il ?_
  repeat walk_at "cs"
  refine at_obj (by rfl) hd' (by rfl) ?_
  repeat walk_at "cs"
  rw [List.length_map]
  refine ⟨fun z => ⟨fun z2 => ?_, fun z2 => ?_⟩, fun z => ?_⟩
  · rw [z2] at z; exact noB z
  · repeat walk_at "cs"
    exact fin (by unfold condL; rw [z2]; rfl)
  have c1 : decide ((ms.length : Int) - first > rows) = true := by simpa using z
  repeat walk_at "cs"
  refine at_obj (by rfl) hd' (by rfl) ?_
  repeat walk_at "cs"
  refine f_len il ?_
  repeat walk_at "cs"
  refine at_obj (by rfl) hd' (by rfl) ?_
  repeat walk_at "cs"
  rw [List.length_map]
  refine ⟨fun z => ⟨fun z2 => ?_, fun z2 => ?_⟩, fun z => ?_⟩
  · rw [z2] at z; exact noB z
  · repeat walk_at "cs"
    exact fin (by unfold condL; rw [z2, c1]; rfl)
  have c2 : decide ((ms.length : Int) - 1 > row) = true := by simpa using z
  have hne : ms ≠ [] := fun q => by subst q; simp at c1; lia
  obtain ⟨r, x, rfl⟩ : ∃ r l, ms = r ++ [l] := (exI2 ms.dropLast (ms.getLast hne) ((List.dropLast_concat_getLast hne).symm))
  have hcond : condL cols first row rows (r ++ [x]) = decide (x = (List.replicate cols PB, false)) := by unfold condL; rw [c1, c2]; simp
  obtain ⟨row', w'⟩ := x
  have hlen : row'.length = cols := mr (row', w') (by simp)
  repeat walk_at "cs"
  refine ⟨fun _ => ?_, fun z => (by exact tf z)⟩
  repeat walk_at "cs"
  refine at_obj (by rfl) hd' (by rfl) ?_
  repeat walk_at "cs"
  refine ix_it (c := lineCV row' w') il (by rw [List.map_append]; exact px_last) ?_
  repeat walk_at "cs"
  refine ss_if ?_
  repeat walk_at "cs"
  refine ⟨fun z => ⟨fun _ => ?_, fun z2 => ?_⟩, fun z => ?_⟩
  · have hw : w' = true := by simpa using z
    repeat walk_at "cs"
    exact fin (by rw [hcond]; simp [hw])
  · rw [z2] at z; exact noB z
  have hw : w' = false := by simpa using z
  subst hw
  repeat walk_at "cs"
  refine c_differ (ok_single 61) ?_
  refine ⟨fun z => (by exact noB z), fun _ => ?_⟩
  repeat walk_at "cs"
  refine f_used rfl (by lia) ?_
  repeat walk_at "cs"
  refine al_lst (Nat.zero_le _) ?_
  refine c_ne (a := clv (used row')) (b := .lst []) ⟨by lia, ok_cells _ 58⟩ ⟨by lia, trivial⟩ (eqv_cells (used row') []) ?_
  refine ⟨fun z => ⟨fun _ => ?_, fun z2 => ?_⟩, fun z => ?_⟩
  · have hu : used row' ≠ [] := by simpa using z
    repeat walk_at "cs"
    refine fin ?_
    rw [hcond, decide_eq_false_iff_not]
    intro q
    have q1 := (Prod.mk.inj q).1
    exact hu ((used_iff row').mpr (by rw [hlen]; exact q1))
  · rw [z2] at z; exact noB z
  have hu : used row' = [] := by simpa using z
  have hq : row' = List.replicate cols PB := by rw [← hlen]; exact (used_iff row').mp hu
  repeat walk_at "cs"
  refine ⟨fun z => (by exact noB z), fun _ => ?_⟩
  repeat walk_at "cs"
  refine at_obj (by rfl) hd' (by rfl) ?_
  refine ⟨mo_ref (by rfl) set_eq, ?_⟩
  repeat walk_at "cs"
  refine m_pop (vs := r.map lnv) (v := lnv (row', false)) (by rw [set_eq, List.map_append]; rfl) ?_
  rw [set_set]
  repeat walk_at "cs"
  have e5 := leftF_on (cols := cols) (first := first) (row := row) (rows := rows) (ls := r ++ [(row', false)]) (by rw [hcond, hq]; simp)
  refine ⟨r.length, by simp, _, _, weak_drop (fun q hq => ?_), r, rfl, rfl, rfl, by simp at mz; lia, fun x hx => mr x (by simp [hx]), ?_⟩
  · simp only [List.mem_cons, List.not_mem_nil, or_false] at hq
    rcases hq with rfl | rfl <;> rfl
  · rw [← he, e5, List.dropLast_concat]
end
end

/-! part C23 -/
section
local macro_rules | `(tactic| walk_at "cs") => `(tactic| with_reducible first | refine e_cmp2 ?_)
noncomputable section
theorem ok_clvs (P : List (List Cell)) (n : Nat) : okds (P.map clv) (n + 3) := by
  induction P with
  | nil => trivial
  | cons p P ih => exact ⟨⟨by lia, ok_cells p n⟩, ih⟩
theorem comp_fl {g : Option (Addr × List CV)} {step : CV → List CV → CH → (List CV → CH → Prop) → Prop} {H : CH} {Q : List CV → CH → Prop} (G : CV → List CV) (hg : guardOk g H) : ∀ (vs acc : List CV), (∀ v ∈ vs, ∀ acc K, acc.length + (G v).length ≤ 1000000 → K (acc ++ G v) H → step v acc H K) → acc.length + (vs.flatMap G).length ≤ 1000000 → Q (acc ++ vs.flatMap G) H → compItems g step vs acc H Q
  | [], acc, _, _, h => ⟨hg, by simpa using h⟩
  | v :: vs, acc, hs, hz, h => ⟨hg, hs v (.head _) acc _ (by rw [List.flatMap_cons, List.length_append] at hz; lia) (comp_fl G hg vs (acc ++ G v) (fun v hv => hs v (.tail _ hv)) (by rw [List.flatMap_cons, List.length_append] at hz; rw [List.length_append]; lia) (by simpa [List.flatMap_cons] using h))⟩
noncomputable def lstV : CV → List CV
  | .lst us => us
  | _ => []
theorem law_are_cut {n : Nat} {ts : List (List U)} {cols : Nat} {H : CH} {Q : CV → CH → Prop} (hz : ∀ us ∈ ts, us.length ≤ 100) (hz2 : ts.length ≤ 100) (hc : 1 ≤ cols ∧ cols ≤ 1000)
    (hne : ∀ us ∈ ts, ∀ k, k + 1 < (cut cols us).1.length → ∀ p, (cut cols us).1[k]? = some p → p ≠ []) (hj : ∀ us ∈ ts, 2 ≤ cols → joinF (cut cols us).1 = flat us)
    (h : Q (.bool true) H) : wpFun (call (n + 6)) "_law_are_cut" [.lst (ts.map txtV), .int cols] H Q := by
  refine f_call (by rfl) (call_of (loc := [("texts", .lst (ts.map txtV)), ("columns", .int cols)]) (by rfl) (by rfl) ?_)
  refine allKS fun _ _ => ?_
  conv => arg 2; whnf
  have hcap : cap = 16777216 := rfl
  repeat walk_at "cs"
  refine ss_for (src_name (by rfl) (it_lst ?_))
  refine for_inv (g := none) (fun vs loc H3 => ∃ r, (∀ us ∈ r, us ∈ ts) ∧ vs = r.map txtV ∧ loc = ([("texts", .lst (ts.map txtV)), ("columns", .int cols)] : Loc) ∧ H = H3) (fun _ _ _ _ => trivial) (fun loc H3 hj => ?_) (fun w vs loc H3 _ _ hj' => ?_) _ _ _ ⟨ts, fun _ h => h, rfl, rfl, rfl⟩
  · (refine Exists.elim hj fun r zr10g => ?_; refine and4 zr10g fun _ _ zq8g zq9g => ?_; clear zr10g; try clear hj; obtain rfl := zq8g; obtain rfl := zq9g)
    repeat walk_at "cs"
    exact ret_same h
  · (refine Exists.elim hj' fun r zr7g => ?_; refine and4 zr7g fun hr hvs zq5g zq6g => ?_; clear zr7g; try clear hj'; obtain rfl := zq5g; obtain rfl := zq6g)
    obtain ⟨us, r, rfl⟩ : ∃ u r', r = u :: r' := by induction r using List.casesOn with | nil => simp at hvs | cons u r => exact (exI2 u r rfl)
    obtain ⟨rfl, rfl⟩ := List.cons.inj hvs
    have hmem : us ∈ ts := hr us (.head _)
    have huz := hz us hmem
    have hfl := flat_len us
    (refine and3 (cut_bd hc.1 us) fun bp bl b1 => ?_)
    have hpfl : (cut cols us).1.flatten.length ≤ 1000000 := by
      have := flatMap_len (fun p : List Cell => p) cols (cut cols us).1 bp
      rw [List.flatMap_id'] at this
      have h2 : cols * (cut cols us).1.length ≤ 1000 * 101 := Nat.mul_le_mul hc.2 (by lia)
      lia
    have hne' := hne us hmem
    have hj2 := hj us hmem
    unfold txtV
    repeat walk_at "cs"
    refine law_cut (by lia) hc ?_
    repeat walk_at "cs"
    generalize hP : (cut cols us).1 = P at bp bl b1 hpfl hne' hj2 ⊢
    have okP : okd (.lst (P.map clv)) 61 := ⟨by lia, ok_clvs P 57⟩
    have okC : okd (clv (flat us)) 61 := ⟨by lia, ok_cells _ 58⟩
    have cutL : ∀ {Q' : CV → CH → Prop}, Q' (.lst (P.map clv)) H → wpFun (call (n + 5)) "cut_cells" [clv (flat us), .int cols] H Q' := fun {Q'} hq => f_cut (n := n + 1) (us := us) rfl (by lia) hc (by rw [hP]; exact hq)
    repeat walk_at "cs"
    refine ss_if ?_
    repeat walk_at "cs"
    refine k_one (src_calls ?_)
    repeat walk_at "cs"
    refine f_list rfl (al_lst (by rw [List.length_map]; lia) ?_)
    repeat walk_at "cs"
    refine cutL (it_lst ?_)
    refine comp_map (g := none) (fun v => v) trivial _ [] (fun v hv acc K ha k => ?_) (by simp; lia) ?_
    · (refine Exists.elim (List.mem_map.mp hv) fun p zr4g => ?_; refine And.elim (fun hp zq3g => ?_) zr4g; clear zr4g; obtain rfl := zq3g)
      have := bp p hp
      refine b_name (by rfl) (by rfl) (ts_nil ⟨fun z => (by exact tf z), fun _ => g_nil ?_⟩)
      repeat walk_at "cs"
      refine f_list rfl (al_lst (by rw [List.length_map]; lia) ?_)
      exact ⟨by lia, k⟩
    rw [List.nil_append, List.map_id']
    refine al_lst (by rw [List.length_map]; lia) ?_
    repeat walk_at "cs"
    refine c_differ okP ?_
    refine ⟨fun z => (by exact noB z), fun _ => ?_⟩
    repeat walk_at "cs"
    -- joined
    repeat walk_at "cs"
    refine ss_if_j (fun loc H' => loc = ([("texts", .lst (ts.map txtV)), ("columns", .int cols), ("cells", clv (flat us)), ("pieces", .lst (P.map clv)), ("places", .lst ((cut cols us).2.map plv))] : Loc) ∧ H = H') (fun loc H' hj => ?_) ?_
    rotate_left
    · repeat walk_at "cs"
      refine ⟨fun z => ⟨fun z2 => ?_, fun _ => (by (repeat walk_at "cs"); exact ⟨rfl, rfl⟩)⟩, fun z => ?_⟩
      · rw [z2] at z; exact noB z
      have h2 : 2 ≤ cols := by simp at z; lia
      repeat walk_at "cs"
      refine f_list rfl (al_lst (by rw [List.length_map]; lia) ?_)
      repeat walk_at "cs"
      refine cutL ?_
      repeat walk_at "cs"
      refine f_joined (P := P) hne' hpfl (by lia) ?_
      repeat walk_at "cs"
      rw [hj2 h2]
      refine f_list rfl (al_lst (by rw [List.length_map]; lia) ?_)
      repeat walk_at "cs"
      refine c_differ okC ?_
      refine ⟨fun _ => ⟨fun z => (by exact noB z), fun _ => (by (repeat walk_at "cs"); exact ⟨rfl, rfl⟩)⟩, fun z => (by exact tf z)⟩
    obtain ⟨rfl, rfl⟩ := hj
    repeat walk_at "cs"
    have efl : ((P.map clv).flatMap lstV) = cvs P.flatten := by
      clear hP bp bl b1 hpfl hne' hj2 okP cutL
      induction P with
      | nil => rfl
      | cons p P ih => rw [List.map_cons, List.flatMap_cons, ih, List.flatten_cons, cvs, cvs, List.map_append]; rfl
    refine k_one (src_name (by rfl) (it_lst ?_))
    refine comp_fl (g := none) lstV trivial _ [] (fun v hv acc K ha k => ?_) (by rw [efl, List.length_map]; simpa using hpfl) ?_
    · obtain ⟨p, hp, rfl⟩ := List.mem_map.mp hv
      refine b_name (by rfl) (by rfl) (ts_nil ⟨fun z => (by exact tf z), fun _ => g_cons (src_name (by rfl) (it_lst ?_))⟩)
      refine comp_map (g := none) (fun v => v) trivial _ acc (fun v hv acc K ha k => ?_) ha (by rw [List.map_id']; exact k)
      refine b_name (by rfl) (by rfl) (ts_nil ⟨fun z => (by exact tf z), fun _ => g_nil ?_⟩)
      repeat walk_at "cs"
      exact ⟨by lia, k⟩
    rw [List.nil_append, efl]
    refine al_lst (by rw [List.length_map]; lia) ?_
    repeat walk_at "cs"
    refine c_eq (a := clv P.flatten) (b := clv (flat us)) ⟨by lia, ok_cells _ 58⟩ okC (eqv_cells P.flatten (flat us)) ?_
    repeat walk_at "cs"
    refine ss_if ?_
    repeat walk_at "cs"
    refine f_list rfl (al_lst (by rw [List.length_map]; lia) ?_)
    repeat walk_at "cs"
    refine f_whole (by lia) hc (by rw [hP]; exact hpfl) ?_
    rw [hP]
    repeat walk_at "cs"
    refine c_differ trivial ?_
    refine ⟨fun z => (by exact noB z), fun _ => ?_⟩
    repeat walk_at "cs"
    refine (exI2 _ H ⟨weak_drop (fun q hq => ?_), r, fun us hu => hr us (.tail _ hu), rfl, rfl, rfl⟩)
    simp only [List.mem_cons, List.not_mem_nil, or_false] at hq
    rcases hq with rfl | rfl <;> rfl
end
end

/-! part C24 -/
section
local macro_rules | `(tactic| walk_at "cs") => `(tactic| with_reducible first | refine e_cmp2 ?_)
noncomputable section
noncomputable def padU (num spot : Nat) (q : List U × Nat) : List U := if q.2 = num then q.1 ++ List.replicate (spot + 1 - (flat q.1).length) (.one none) else q.1
noncomputable def newL (cols num spot : Nat) (qs : List (List U × Nat)) : List LN := qs.flatMap fun q => linesF cols (cut cols (padU num spot q)).1
noncomputable def fpl (pl : List (Nat × Nat)) (s : Nat) : Nat := ((pl[s]?).map (·.1)).getD 0
noncomputable def firstF (cols num spot : Nat) (ts : List (List U)) (m s : Nat) : Nat := (newL cols num spot (ts.take m).zipIdx).length + fpl (cut cols (padU num spot (ts[m]?.getD [], m))).2 s
noncomputable def atV (cols row col : Nat) (pend : Bool) : CV := .tup [.int (row : Nat), .int ((if pend && decide (col + 1 ≠ cols) then col + 1 else col : Nat) : Int), .bool (pend && decide (col + 1 = cols))]
noncomputable def spotF (cols num spot : Nat) (ts : List (List U)) : Nat × Nat := ((cut cols (padU num spot (ts[num]?.getD [], num))).2[spot]?).getD (0, 0)
theorem padRep (k : Nat) : flat (List.replicate k (.one none)) = List.replicate k PB := by
  induction k with
  | zero => rfl
  | succ k ih => rw [List.replicate_succ, List.replicate_succ, flat_cons, ih]; rfl
theorem flat_padU (num spot : Nat) (q : List U × Nat) : flat (padU num spot q) = if q.2 = num then flat q.1 ++ List.replicate (spot + 1 - (flat q.1).length) PB else flat q.1 := by
  unfold padU; split
  · rw [flat_app, padRep]
  · rfl
theorem padU_len {num spot : Nat} {q : List U × Nat} (h1 : q.1.length ≤ 100) (h2 : spot ≤ 1000) : (padU num spot q).length ≤ 2000 := by
  unfold padU; split
  · rw [List.length_append, List.length_replicate]; lia
  · lia
theorem linesF_len (cols : Nat) (P : List (List Cell)) : (linesF cols P).length = P.length := by unfold linesF; simp
theorem newL_len {cols num spot : Nat} (hc : 1 ≤ cols) (hs : spot ≤ 1000) {qs : List (List U × Nat)} (hz : ∀ q ∈ qs, q.1.length ≤ 100) : (newL cols num spot qs).length ≤ 2001 * qs.length := by
  unfold newL
  refine flatMap_len _ 2001 qs fun q hq => ?_
  rw [linesF_len]
  have := (cut_bd hc (padU num spot q)).2.1
  have := padU_len (num := num) (hz q hq) hs
  lia
theorem newL_app (cols num spot : Nat) (a b : List (List U × Nat)) : newL cols num spot (a ++ b) = newL cols num spot a ++ newL cols num spot b := by unfold newL; rw [List.flatMap_append]
theorem getD_some {α : Type} {l : List α} {i : Nat} {d : α} (h : i < l.length) : (l[i]?).getD d = l[i] := by rw [List.getElem?_eq_getElem h]; rfl

theorem law_new {n : Nat} {ts : List (List U)} {es : List Ent} {cols rows row col num spot : Nat} {pend : Bool} {e : Ent} {H : CH} {Q : CV → CH → Prop}
    (hz : ∀ us ∈ ts, us.length ≤ 100) (hz2 : ts.length ≤ 100) (hc : 1 ≤ cols ∧ cols ≤ 1000) (hr : 1 ≤ rows) (hl : rows ≤ es.length) (he : es[es.length - rows]? = some e) (hs : spot ≤ 1000)
    (h : Q (.tup [.lst ((newL cols num spot ts.zipIdx).map toldV), .int (if e.2.1 < ts.length then firstF cols num spot ts e.2.1 e.2.2.1 else 0 : Nat),
      if num < ts.length then atV cols ((newL cols num spot (ts.take num).zipIdx).length + (spotF cols num spot ts).1) (spotF cols num spot ts).2 pend else .tup [.int 0, .int 0, .bool false]]) H) :
    wpFun (call (n + 4)) "_law_new" [.lst (ts.map txtV), .lst (es.map entV), .int rows, .int cols, .tup [.int row, .int col, .bool pend, .int num, .int spot]] H Q := by
  refine f_call (by rfl) (call_of (loc := [("texts", .lst (ts.map txtV)), ("lines", .lst (es.map entV)), ("rows", .int rows), ("columns", .int cols), ("cursor", .tup [.int row, .int col, .bool pend, .int num, .int spot])]) (by rfl) (by rfl) ?_)
  refine allKS fun _ _ => ?_
  conv => arg 2; whnf
  have hcap : cap = 16777216 := rfl
  repeat walk_at "cs"
  refine al_lst (Nat.zero_le _) ?_
  repeat walk_at "cs"
  refine f_len rfl ?_
  repeat walk_at "cs"
  rw [List.length_map, show ((es.length : Nat) : Int) - (rows : Nat) = ((es.length - rows : Nat) : Int) by lia]
  repeat walk_at "cs"
  refine ix_it (c := entV e) rfl (px_nat (by rw [List.getElem?_map, he]; rfl)) ?_
  repeat walk_at "cs"
  refine ss_for (src_enum ?_)
  repeat walk_at "cs"
  refine it_lst ?_

  have hpre : ∀ i, (newL cols num spot (ts.take i).zipIdx).length ≤ 2001 * 100 := fun i => by
    have := newL_len (num := num) (qs := (ts.take i).zipIdx) hc.1 hs (fun a ha => by
      have h2 : a.1 ∈ ts.take i := (List.mem_zipIdx' ha).2 ▸ List.getElem_mem _
      exact hz a.1 (List.mem_of_mem_take h2))
    have h4 : (ts.take i).zipIdx.length ≤ 100 := by rw [List.length_zipIdx, List.length_take]; lia
    calc _ ≤ 2001 * (ts.take i).zipIdx.length := this
      _ ≤ 2001 * 100 := Nat.mul_le_mul_left _ h4
  generalize hFV : (fun i : Nat => if e.2.1 < i then firstF cols num spot ts e.2.1 e.2.2.1 else 0) = FV
  generalize hAV : (fun i : Nat => if num < i then atV cols ((newL cols num spot (ts.take num).zipIdx).length + (spotF cols num spot ts).1) (spotF cols num spot ts).2 pend else CV.tup [.int 0, .int 0, .bool false]) = AV
  have h' : Q (.tup [.lst ((newL cols num spot ts.zipIdx).map toldV), .int (FV ts.length : Nat), AV ts.length]) H := by rw [← hFV, ← hAV]; exact h
  refine for_inv (g := none) (fun vs loc H3 => ∃ i, i ≤ ts.length ∧ vs = (enumItems (ts.map txtV)).drop i ∧ H = H3 ∧ loc = ([("texts", .lst (ts.map txtV)), ("lines", .lst (es.map entV)), ("rows", .int rows), ("columns", .int cols), ("cursor", .tup [.int row, .int col, .bool pend, .int num, .int spot]),
      ("found", .lst ((newL cols num spot (ts.take i).zipIdx).map toldV)), ("first", .int (FV i : Nat)), ("at", AV i), ("mark", entV e)] : Loc)) (fun _ _ _ _ => trivial) (fun loc H3 hj => ?_) (fun w vs loc H3 _ _ hj => ?_) _ _ _ ?_
  rotate_left 2
  · refine ⟨0, Nat.zero_le _, rfl, rfl, ?_⟩
    have f0 : FV 0 = 0 := by rw [← hFV]; simp
    have a0 : AV 0 = .tup [.int 0, .int 0, .bool false] := by rw [← hAV]; simp
    rw [f0, a0]; with_unfolding_all rfl
  · obtain ⟨i, hEE⟩ := hj
    refine and4 hEE fun hi hvs q0 q1 => ?_
    clear hEE
    subst q0 q1
    have hi' : i = ts.length := by
      have := congrArg List.length hvs
      rw [List.length_drop, enum_length, List.length_map] at this
      simp at this; lia
    subst hi'
    rw [List.take_length]
    repeat walk_at "cs"
    exact ret_same h'
  · obtain ⟨i, hEE⟩ := hj
    refine and4 hEE fun hi hvs q0 q1 => ?_
    clear hEE
    subst q0 q1
    have hi2 : i < ts.length := by
      have := congrArg List.length hvs
      rw [List.length_drop, enum_length, List.length_map] at this
      simp at this; lia
    rw [enum_drop (by rw [List.length_map]; exact hi2)] at hvs
    obtain ⟨rfl, rfl⟩ := List.cons.inj hvs
    rw [List.getElem_map]
    have hti : ts[i]?.getD [] = ts[i] := getD_some hi2
    have hmem : ts[i] ∈ ts := List.getElem_mem _
    have hFs : FV (i + 1) = if e.2.1 = i then firstF cols num spot ts e.2.1 e.2.2.1 else FV i := by
      rw [← hFV]; dsimp only
      by_cases q : e.2.1 = i
      · rw [if_pos (by lia), if_pos q]
      · rw [if_neg q]
        by_cases q2 : e.2.1 < i
        · rw [if_pos (by lia), if_pos q2]
        · rw [if_neg (by lia), if_neg q2]
    have hAs : AV (i + 1) = if num = i then atV cols ((newL cols num spot (ts.take num).zipIdx).length + (spotF cols num spot ts).1) (spotF cols num spot ts).2 pend else AV i := by
      rw [← hAV]; dsimp only
      by_cases q : num = i
      · rw [if_pos (by lia), if_pos q]
      · rw [if_neg q]
        by_cases q2 : num < i
        · rw [if_pos (by lia), if_pos q2]
        · rw [if_neg (by lia), if_neg q2]
    have hFi : e.2.1 = i → firstF cols num spot ts e.2.1 e.2.2.1 = (newL cols num spot (ts.take i).zipIdx).length + fpl (cut cols (padU num spot (ts[i], i))).2 e.2.2.1 := fun q => by unfold firstF; rw [q, hti]
    have hSi : num = i → spotF cols num spot ts = ((cut cols (padU num spot (ts[i], i))).2[spot]?).getD (0, 0) := fun q => by
      unfold spotF; rw [show ts[num]?.getD [] = ts[i] by rw [q, hti], show (ts[i], num) = (ts[i], i) by rw [q]]
    generalize hus : ts[i] = us at *
    have huz := hz us hmem
    have hfl := flat_len us
    have hflp := flat_padU num spot (us, i)
    have hlp := padU_len (num := num) (spot := spot) (q := (us, i)) huz hs
    have hflp2 := flat_len (padU num spot (us, i))
    dsimp only at hflp
    have hp1 := hpre i
    unfold txtV
    repeat walk_at "cs"
    refine ss_if_j (fun loc H' => H = H' ∧ loc = ([("texts", .lst (ts.map txtV)), ("lines", .lst (es.map entV)), ("rows", .int rows), ("columns", .int cols), ("cursor", .tup [.int row, .int col, .bool pend, .int num, .int spot]), ("found", .lst ((newL cols num spot (ts.take i).zipIdx).map toldV)), ("first", .int (FV i : Nat)), ("at", AV i), ("mark", entV e), ("number", .int (i : Nat)), ("cells", clv (flat (padU num spot (us, i))))] : Loc)) (fun loc H' hj => ?_) ?_
    rotate_left
    · repeat walk_at "cs"
      refine ix_tup (by rfl) ?_
      repeat walk_at "cs"
      refine ⟨fun z => ?_, fun z => ?_⟩
      · have hq : i = num := by simp at z; lia
        repeat walk_at "cs"
        refine f_blank (p := PLAIN) ?_
        repeat walk_at "cs"
        refine al_lst (by simp [cap]) ?_
        repeat walk_at "cs"
        refine ix_tup (by rfl) ?_
        repeat walk_at "cs"
        refine f_len rfl ?_
        repeat walk_at "cs"
        rw [List.length_map]
        refine mu_it rfl (by lia) (by simp) ?_
        rw [rep_flat, show (((spot : Nat) : Int) + 1 - (((flat us).length : Nat) : Int)).toNat = spot + 1 - (flat us).length by lia]
        refine al_lst (by rw [List.length_replicate]; lia) ?_
        refine ad_it (vs := cvs (flat us)) rfl rfl (al_lst (by rw [List.length_append, List.length_map, List.length_replicate]; lia) ?_)
        have ecv : CV.lst (cvs (flat us) ++ List.replicate (spot + 1 - (flat us).length) (blank PLAIN).cv) = clv (flat us ++ List.replicate (spot + 1 - (flat us).length) PB) := by rw [clv, cvs, cvs, List.map_append, List.map_replicate]; rfl
        rw [ecv]
        repeat walk_at "cs"
        exact ⟨rfl, by rw [hflp, if_pos hq]; with_unfolding_all rfl⟩
      · have hq : i ≠ num := by simp at z; lia
        repeat walk_at "cs"
        exact ⟨rfl, by rw [hflp, if_neg hq]; with_unfolding_all rfl⟩
    obtain ⟨rfl, rfl⟩ := hj
    repeat walk_at "cs"
    refine law_cut (by lia) hc ?_
    repeat walk_at "cs"
    refine ss_if_j (fun loc H' => H = H' ∧ loc = ([("texts", .lst (ts.map txtV)), ("lines", .lst (es.map entV)), ("rows", .int rows), ("columns", .int cols), ("cursor", .tup [.int row, .int col, .bool pend, .int num, .int spot]), ("found", .lst ((newL cols num spot (ts.take i).zipIdx).map toldV)), ("first", .int (FV (i + 1) : Nat)), ("at", AV i), ("mark", entV e), ("number", .int (i : Nat)), ("cells", clv (flat (padU num spot (us, i)))), ("pieces", .lst ((cut cols (padU num spot (us, i))).1.map clv)), ("places", .lst ((cut cols (padU num spot (us, i))).2.map plv))] : Loc)) (fun loc H' hj => ?_) ?_
    rotate_left
    · unfold entV
      repeat walk_at "cs"
      refine ix_tup (by rfl) ?_
      repeat walk_at "cs"
      refine ⟨fun z => ?_, fun z => ?_⟩
      · have hq : e.2.1 = i := by simp at z; lia
        repeat walk_at "cs"
        refine f_len rfl ?_
        repeat walk_at "cs"
        rw [List.length_map]
        have hcl := cut_len cols (padU num spot (us, i))
        refine e_via (fun c H' => c = .int (fpl (cut cols (padU num spot (us, i))).2 e.2.2.1 : Nat) ∧ H = H') (fun c H' hx => ?_) ?_
        rotate_left
        · refine allKV fun _ _ => ?_
          refine e_ifexp ?_
          repeat walk_at "cs"
          refine ix_tup (by rfl) ?_
          repeat walk_at "cs"
          refine f_len rfl ?_
          repeat walk_at "cs"
          rw [List.length_map]
          refine ⟨fun z2 => ?_, fun z2 => ?_⟩
          · have hlt : e.2.2.1 < (cut cols (padU num spot (us, i))).2.length := by simp at z2; lia
            repeat walk_at "cs"
            refine ix_tup (by rfl) ?_
            repeat walk_at "cs"
            refine ix_it (c := plv ((cut cols (padU num spot (us, i))).2[e.2.2.1])) rfl (px_nat (by rw [List.getElem?_map, List.getElem?_eq_getElem hlt]; rfl)) ?_
            repeat walk_at "cs"
            refine ix_tup (by rfl) ?_
            repeat walk_at "cs"
            refine ⟨?_, rfl⟩
            unfold fpl; rw [List.getElem?_eq_getElem hlt]; rfl
          · have hge : ¬ e.2.2.1 < (cut cols (padU num spot (us, i))).2.length := by lia
            repeat walk_at "cs"
            repeat walk_at "cs"
            refine ⟨?_, rfl⟩
            unfold fpl; rw [List.getElem?_eq_none (by lia)]; rfl
        obtain ⟨rfl, rfl⟩ := hx
        repeat walk_at "cs"
        exact ⟨rfl, by rw [hFs, if_pos hq, hFi hq, show (((newL cols num spot (ts.take i).zipIdx).length + fpl (cut cols (padU num spot (us, i))).2 e.2.2.1 : Nat) : Int) = (((newL cols num spot (ts.take i).zipIdx).length : Nat) : Int) + (fpl (cut cols (padU num spot (us, i))).2 e.2.2.1 : Nat) by lia]; with_unfolding_all rfl⟩
      · have hq : ¬ e.2.1 = i := by simp at z; lia
        repeat walk_at "cs"
        exact ⟨rfl, by rw [hFs, if_neg hq]; with_unfolding_all rfl⟩
    obtain ⟨rfl, rfl⟩ := hj
    repeat walk_at "cs"
    refine ss_if_j (fun loc H' => H = H' ∧ ∃ ext, loc = (("texts", .lst (ts.map txtV)) :: ("lines", .lst (es.map entV)) :: ("rows", .int rows) :: ("columns", .int cols) :: ("cursor", .tup [.int row, .int col, .bool pend, .int num, .int spot]) :: ("found", .lst ((newL cols num spot (ts.take i).zipIdx).map toldV)) :: ("first", .int (FV (i + 1) : Nat)) :: ("at", AV (i + 1)) :: ("mark", entV e) :: ("number", .int (i : Nat)) :: ("cells", clv (flat (padU num spot (us, i)))) :: ("pieces", .lst ((cut cols (padU num spot (us, i))).1.map clv)) :: ("places", .lst ((cut cols (padU num spot (us, i))).2.map plv)) :: ext : Loc)) (fun loc H' hj => ?_) ?_
    rotate_left
    · repeat walk_at "cs"
      refine ix_tup (by rfl) ?_
      repeat walk_at "cs"
      refine ⟨fun z => ?_, fun z => ?_⟩
      · have hq : num = i := by simp at z; lia
        subst hq
        have hcl := cut_len cols (padU num spot (us, num))
        have hlt : spot < (cut cols (padU num spot (us, num))).2.length := by
          rw [hcl, hflp, if_pos rfl, List.length_append, List.length_replicate]; lia
        have hg : (cut cols (padU num spot (us, num))).2[spot]?.getD (0, 0) = (cut cols (padU num spot (us, num))).2[spot] := getD_some hlt
        have hg2 : (cut cols (padU num spot (us, num))).2[spot]? = some (cut cols (padU num spot (us, num))).2[spot] := List.getElem?_eq_getElem hlt
        have hAp : AV (num + 1) = atV cols ((newL cols num spot (ts.take num).zipIdx).length + ((cut cols (padU num spot (us, num))).2[spot]).1) ((cut cols (padU num spot (us, num))).2[spot]).2 pend := by rw [hAs, if_pos rfl, hSi rfl, hg]
        generalize (cut cols (padU num spot (us, num))).2[spot] = p at hg2 hAp
        obtain ⟨p1, p2⟩ := p
        repeat walk_at "cs"
        refine ix_tup (by rfl) ?_
        repeat walk_at "cs"
        refine ix_it (c := plv (p1, p2)) rfl (px_nat (by rw [List.getElem?_map, hg2]; rfl)) ?_
        unfold plv
        repeat walk_at "cs"
        refine e_via (fun c H' => c = .bool (pend && !decide ((p2 : Int) = (cols : Int) - 1)) ∧ H = H') (fun c H' hx => ?_) ?_
        rotate_left
        · refine allKV fun _ _ => ?_
          refine e_and ?_
          repeat walk_at "cs"
          refine ix_tup (by rfl) ?_
          repeat walk_at "cs"
          cases pend with
          | false => exact ⟨fun _ => (by (repeat walk_at "cs"); exact ⟨rfl, rfl⟩), fun z => (by exact tf z)⟩
          | true =>
            refine ⟨fun z => (by exact noB z), fun _ => ?_⟩
            repeat walk_at "cs"
            exact ⟨rfl, rfl⟩
        obtain ⟨rfl, rfl⟩ := hx
        repeat walk_at "cs"
        refine f_len rfl ?_
        repeat walk_at "cs"
        refine e_via (fun c H' => c = .bool (pend && decide ((p2 : Int) = (cols : Int) - 1)) ∧ H = H') (fun c H' hx => ?_) ?_
        rotate_left
        · refine allKV fun _ _ => ?_
          refine e_and ?_
          repeat walk_at "cs"
          refine ix_tup (by rfl) ?_
          repeat walk_at "cs"
          induction pend using Bool.casesOn with
          | false => exact ⟨fun _ => (by (repeat walk_at "cs"); exact ⟨rfl, rfl⟩), fun z => (by exact tf z)⟩
          | true =>
            refine ⟨fun z => (by exact noB z), fun _ => ?_⟩
            repeat walk_at "cs"
            exact ⟨rfl, rfl⟩
        obtain ⟨rfl, rfl⟩ := hx
        repeat walk_at "cs"
        refine ⟨rfl, [("piece", .int (p1 : Nat)), ("column", .int (p2 : Nat)), ("is_last", .bool (decide ((p2 : Int) = (cols : Int) - 1))), ("is_on", .bool (pend && !decide ((p2 : Int) = (cols : Int) - 1)))], ?_⟩
        have ed : decide ((p2 : Int) = (cols : Int) - 1) = decide (p2 + 1 = cols) := by
          by_cases q : p2 + 1 = cols
          · rw [decide_eq_true q, decide_eq_true (by lia)]
          · rw [decide_eq_false q, decide_eq_false (by lia)]
        have eA : CV.tup [CV.int ((((newL cols num spot (ts.take num).zipIdx).map toldV).length : Int) + (p1 : Nat)), CV.int ((p2 : Int) + if (pend && !decide ((p2 : Int) = (cols : Int) - 1)) = true then 1 else 0), CV.bool (pend && decide ((p2 : Int) = (cols : Int) - 1))] = atV cols ((newL cols num spot (ts.take num).zipIdx).length + p1) p2 pend := by
          rw [ed, List.length_map]
          unfold atV
          congr 3
          congr 1
          by_cases q : p2 + 1 = cols
          · simp [q]
          · induction pend using Bool.casesOn <;> simp [q]
        rw [hAp, ← eA]; with_unfolding_all rfl
      · have hq : ¬ num = i := by simp at z; lia
        repeat walk_at "cs"
        exact ⟨rfl, [], by rw [hAs, if_neg hq]⟩
    obtain ⟨rfl, ext, rfl⟩ := hj
    repeat walk_at "cs"
    (refine and3 (cut_bd hc.1 (padU num spot (us, i))) fun bp bl b1 => ?_)
    refine law_lines (fun p hp => by have := bp p hp; lia) (by lia) hc.2 ?_
    have hp2 := hpre (i + 1)
    have etk : newL cols num spot (ts.take (i + 1)).zipIdx = newL cols num spot (ts.take i).zipIdx ++ linesF cols (cut cols (padU num spot (us, i))).1 := by
      rw [zipIdx_take ts i hi2, newL_app, hus]; simp [newL]
    rw [etk, List.length_append] at hp2
    refine ad_it rfl rfl (al_lst (by rw [List.length_append, List.length_map, List.length_map]; lia) ?_)
    rw [← List.map_append, ← etk]
    repeat walk_at "cs"
    refine (exI2 _ H ⟨weak_drop (fun q hq => ?_), i + 1, hi2, rfl, rfl, rfl⟩)
    simp only [List.mem_cons, List.not_mem_nil, or_false] at hq
    rcases hq with rfl | rfl | rfl | rfl | rfl | rfl | rfl | rfl | rfl <;> rfl
end
end

/-! part C25 -/
section
noncomputable section
noncomputable def hasC (k m r : Nat) : Bool := decide (k ≤ r) && decide (r < k + m)
noncomputable def offF (k : Nat) (bs : List Nat) (r c : Nat) : Nat := (bs[r - k]?).getD 0 + c
noncomputable def padC (k : Nat) (bs : List Nat) (r c : Nat) (us : List U) : List U := if hasC k bs.length r = true then us ++ List.replicate (offF k bs r c + 1 - (flat us).length) (.one none) else us
noncomputable def behindF (cols col : Nat) (w pend : Bool) : Nat × Bool := if pend then (if col + 1 < cols then (col + 1, w) else (col, true)) else (col, w)
noncomputable abbrev CS := Nat × Nat × Nat × Bool
noncomputable def putP (cols k : Nat) (bs : List Nat) (us : List U) (n0 r c : Nat) (pend : Bool) (s : Nat × Nat × Bool) : Nat × Nat × Bool :=
  if hasC k bs.length r = true then (n0 + (placeF (cut cols us).1 (cut cols us).2 (offF k bs r c)).1, behindF cols (min (placeF (cut cols us).1 (cut cols us).2 (offF k bs r c)).2 (cols - 1)) s.2.2 pend) else s
noncomputable def putS (cols k : Nat) (bs : List Nat) (us : List U) (n0 fst r c : Nat) (pend : Bool) (s : CS) : CS :=
  (if hasC k bs.length fst = true then n0 + (placeF (cut cols us).1 (cut cols us).2 (offF k bs fst 0)).1 else s.1, putP cols k bs us n0 r c pend s.2)
theorem flat_padC (k : Nat) (bs : List Nat) (r c : Nat) (us : List U) : flat (padC k bs r c us) = if hasC k bs.length r = true then flat us ++ List.replicate (offF k bs r c + 1 - (flat us).length) PB else flat us := by
  unfold padC; split
  · rw [flat_app, padRep]
  · rfl
theorem hasC_dec {k m r : Nat} (hm : 1 ≤ m) : (decide ((k : Int) ≤ (r : Int)) && decide ((r : Int) ≤ (k : Int) + (m : Int) - 1)) = hasC k m r := by
  unfold hasC
  by_cases h1 : k ≤ r
  · by_cases h2 : r < k + m
    · rw [decide_eq_true h1, decide_eq_true h2, decide_eq_true (by lia), decide_eq_true (by lia)]
    · rw [decide_eq_true h1, decide_eq_false h2, decide_eq_true (by lia), decide_eq_false (by lia)]
  · rw [decide_eq_false h1, decide_eq_false (by lia), Bool.false_and, Bool.false_and]
theorem hasC_iff {k m r : Nat} (h : hasC k m r = true) : k ≤ r ∧ r - k < m := by
  unfold hasC at h; simp at h; lia
theorem set_same {H : CH} {a : Addr} {o : CObj} (h : H a = some o) : H.set a o = H := by
  funext x; unfold CH.set; split
  · rename_i q; rw [q]; exact h.symm
  · rfl
noncomputable def csD (cols : Nat) (l : Addr) (s : CS) : CObj := .dict (cutD cols (.ref l) s.1 s.2.1 s.2.2.1 s.2.2.2)
theorem cut_put {n cols k fst r c : Nat} {bs : List Nat} {us : List U} {ls lns : List LN} {s : CS} {pend : Bool} {d l wd wb wc : Addr} {H : CH} {Q : CV → CH → Prop}
    (hd : H d = some (csD cols l s)) (hl : H l = some (.list (ls.map lnv))) (hwd : H wd = some (.dict (logD k (.ref wb) (.ref wc) true))) (hwb : H wb = some (.list (natV bs))) (hwc : H wc = some (.list (cvs (flat us))))
    (hdl : d ≠ l) (hdc : wc ≠ d) (hlc : wc ≠ l) (hcd : wc ≠ wd) (hcb : wc ≠ wb) (hld : l ≠ wd) (hlb : l ≠ wb) (hc : 1 ≤ cols ∧ cols ≤ 1000) (hz : us.length ≤ 1000) (hb : 1 ≤ bs.length) (hbz : bs.length ≤ 100000) (hbs : ∀ b ∈ bs, b ≤ 1000) (hcc : c ≤ 1000) (hlz : ls.length ≤ 100000)
    (h : ∀ H', H' d = some (csD cols l (putS cols k bs (padC k bs r c us) ls.length fst r c pend s)) → H' l = some (.list ((ls ++ linesF cols (cut cols (padC k bs r c us)).1).map lnv)) →
      (∀ x o, x ≠ d → x ≠ l → x ≠ wc → H x = some o → H' x = some o) → Q .none H') : call (n + 6) "Cutting" "put" [.obj "Cutting" d, .obj "LogicalLine" wd, lnsV lns, .int fst, .tup [.int r, .int c, .bool pend]] H Q := by
  refine call_of (loc := [("self", .obj "Cutting" d), ("whole", .obj "LogicalLine" wd), ("lines", lnsV lns), ("first", .int fst), ("cursor", .tup [.int r, .int c, .bool pend])]) (by rfl) (by rfl) ?_
  refine allKS fun _ _ => ?_
  conv => arg 2; whnf
  have hcap : cap = 16777216 := rfl
  have hnl : (natV bs).length = bs.length := by unfold natV; simp
  have hbi : ∀ x, hasC k bs.length x = true → pyIdx (natV bs) (((x - k : Nat)) : Int) = some (.int ((bs[x - k]?.getD 0 : Nat) : Int)) := fun x hx => by
    obtain ⟨h1, h2⟩ := hasC_iff hx
    refine px_nat ?_
    unfold natV
    rw [List.getElem?_map, List.getElem?_eq_getElem h2]; rfl
  have hbz' : ∀ x, bs[x - k]?.getD 0 ≤ 1000 := fun x => by
    cases e : bs[x - k]? with
    | none => simp
    | some b => exact hbs b (List.mem_of_getElem? e)
  have hdd : H d = some (.dict (cutD cols (.ref l) s.1 s.2.1 s.2.2.1 s.2.2.2)) := hd
  repeat walk_at "cs"
  refine at_obj (by rfl) hdd (by rfl) ?_
  repeat walk_at "cs"
  refine f_len (ws := ls.map lnv) (itr hl) ?_
  repeat walk_at "cs"
  refine at_obj (by rfl) hwd (by rfl) ?_
  repeat walk_at "cs"
  refine at_obj (by rfl) hwd (by rfl) ?_
  repeat walk_at "cs"
  refine f_len (ws := natV bs) (itr hwb) ?_
  repeat walk_at "cs"
  rw [hnl, List.length_map]
  repeat walk_at "cs"
  refine ss_if ?_
  repeat walk_at "cs"
  refine at_obj (by rfl) hwd (by rfl) ?_
  repeat walk_at "cs"
  refine c_differ (ok_single 61) ?_
  refine ⟨fun z => (by exact noB z), fun _ => ?_⟩
  repeat walk_at "cs"
  refine e_via (fun v H' => v = .bool (hasC k bs.length r) ∧ H = H') (fun v H' hx => ?_) ?_
  rotate_left
  · refine allKV fun _ _ => ?_
    refine e_cmp2 ?_
    repeat walk_at "cs"
    refine at_obj (by rfl) hwd (by rfl) ?_
    repeat walk_at "cs"
    refine ix_tup (by rfl) ?_
    repeat walk_at "cs"
    have hdc := hasC_dec (k := k) (r := r) hb
    refine ⟨fun z => (by (repeat walk_at "cs"); exact ⟨by rw [← hdc, z]; rfl, rfl⟩), fun z => ?_⟩
    repeat walk_at "cs"
    exact ⟨by rw [← hdc, z]; rfl, rfl⟩
  obtain ⟨rfl, rfl⟩ := hx
  repeat walk_at "cs"
  refine e_via (fun v H' => v = .int ((if hasC k bs.length r = true then offF k bs r c else 0 : Nat) : Int) ∧ H = H') (fun v H' hx => ?_) ?_
  rotate_left
  · refine allKV fun _ _ => ?_
    refine e_ifexp ?_
    repeat walk_at "cs"
    refine ⟨fun z => ?_, fun z => ?_⟩
    · obtain ⟨h1, h2⟩ := hasC_iff z
      repeat walk_at "cs"
      refine at_obj (by rfl) hwd (by rfl) ?_
      repeat walk_at "cs"
      refine ix_tup (by rfl) ?_
      repeat walk_at "cs"
      refine at_obj (by rfl) hwd (by rfl) ?_
      repeat walk_at "cs"
      rw [show (r : Int) - (k : Nat) = ((r - k : Nat) : Int) by lia]
      refine ix_it (vs := natV bs) (itr hwb) (hbi r z) ?_
      repeat walk_at "cs"
      refine ix_tup (by rfl) ?_
      repeat walk_at "cs"
      exact ⟨by rw [if_pos z]; rfl, rfl⟩
    · repeat walk_at "cs"
      exact ⟨by rw [if_neg (by rw [z]; simp)]; rfl, rfl⟩
  obtain ⟨rfl, rfl⟩ := hx
  repeat walk_at "cs"
  have hoz : offF k bs r c ≤ 2000 := by unfold offF; have := hbz' r; lia
  generalize hus : padC k bs r c us = us' at h
  have hfp := flat_padC k bs r c us
  rw [hus] at hfp
  have hlz' : us'.length ≤ 10000 := by
    rw [← hus]; unfold padC; split
    · rw [List.length_append, List.length_replicate]; lia
    · lia

  have hd1 : (H.set wc (.list (cvs (flat us')))) d = some (csD cols l s) := by rw [set_ne (Ne.symm hdc)]; exact hd
  have hl1 : (H.set wc (.list (cvs (flat us')))) l = some (.list (ls.map lnv)) := by rw [set_ne (Ne.symm hlc)]; exact hl
  have hw1 : (H.set wc (.list (cvs (flat us')))) wd = some (.dict (logD k (.ref wb) (.ref wc) true)) := by rw [set_ne (Ne.symm hcd)]; exact hwd
  have hb1 : (H.set wc (.list (cvs (flat us')))) wb = some (.list (natV bs)) := by rw [set_ne (Ne.symm hcb)]; exact hwb
  have hx1 : ∀ x o, x ≠ wc → H x = some o → (H.set wc (.list (cvs (flat us')))) x = some o := fun x o q e => by rw [set_ne q]; exact e
  have hc1 : (H.set wc (.list (cvs (flat us')))) wc = some (.list (cvs (flat us'))) := set_eq
  repeat walk_at "cs"
  refine ss_if_j (fun loc H' => loc = ([("self", .obj "Cutting" d), ("whole", .obj "LogicalLine" wd), ("lines", lnsV lns), ("first", .int fst), ("cursor", .tup [.int r, .int c, .bool pend]), ("begun", .int (ls.length : Nat)), ("last", .int ((k : Int) + (bs.length : Nat) - 1)), ("has_cursor", .bool (hasC k bs.length r)), ("offset", .int ((if hasC k bs.length r = true then offF k bs r c else 0 : Nat) : Int))] : Loc) ∧ H' = H.set wc (.list (cvs (flat us')))) (fun loc H' hj => ?_) ?_
  rotate_left
  · repeat walk_at "cs"
    refine ⟨fun z => ?_, fun z => ?_⟩
    · rw [if_pos z] at hfp ⊢
      repeat walk_at "cs"
      refine ⟨mo_obj (by rfl) hwd (by rfl), ?_⟩
      repeat walk_at "cs"
      rw [show ((offF k bs r c : Nat) : Int) + 1 = ((offF k bs r c + 1 : Nat) : Int) by lia]
      refine m_obj (kept_to hwd (Ne.symm hcd) hwc (by rfl) (by lia) ?_)
      rw [← hfp]
      repeat walk_at "cs"
      exact ⟨by rw [if_pos z]; with_unfolding_all rfl, rfl⟩
    · rw [if_neg (by rw [z]; simp)] at hfp
      repeat walk_at "cs"
      refine ⟨rfl, ?_⟩
      rw [set_same]; rw [hfp]; exact hwc
  obtain ⟨rfl, rfl⟩ := hj
  generalize (H.set wc (.list (cvs (flat us')))) = H1 at hd1 hl1 hw1 hb1 hx1 hc1 ⊢
  have hdd1 : H1 d = some (.dict (cutD cols (.ref l) s.1 s.2.1 s.2.2.1 s.2.2.2)) := hd1
  repeat walk_at "cs"
  refine at_obj (by rfl) hw1 (by rfl) ?_
  repeat walk_at "cs"
  refine at_obj (by rfl) hdd1 (by rfl) ?_
  repeat walk_at "cs"
  refine f_cwp (us := us') (itr hc1) hlz' hc ?_
  (refine and3 (cut_bd hc.1 us') fun bp bl b1 => ?_)
  have hcl := cut_len cols us'
  generalize hP : (cut cols us').1 = P at bp bl b1 h ⊢
  generalize hpl : (cut cols us').2 = pl at hcl ⊢
  have hPne : P ≠ [] := by intro q; rw [q] at b1; simp at b1
  have hLn : (linesF cols P).length = P.length := linesF_len cols P
  repeat walk_at "cs"
  refine ss_for (src_enum ?_)
  repeat walk_at "cs"
  refine it_lst ?_
  refine for_inv (g := none) (fun vs loc H3 => ∃ i, i ≤ P.length ∧ vs = (enumItems (P.map clv)).drop i ∧ loc = ([("self", .obj "Cutting" d), ("whole", .obj "LogicalLine" wd), ("lines", lnsV lns), ("first", .int fst), ("cursor", .tup [.int r, .int c, .bool pend]), ("begun", .int (ls.length : Nat)), ("last", .int ((k : Int) + (bs.length : Nat) - 1)), ("has_cursor", .bool (hasC k bs.length r)), ("offset", .int ((if hasC k bs.length r = true then offF k bs r c else 0 : Nat) : Int)), ("pieces", .lst (P.map clv)), ("places", .lst (pl.map plv))] : Loc) ∧ H3 = H1.set l (.list ((ls ++ (linesF cols P).take i).map lnv)))
    (fun _ _ _ _ => trivial) (fun loc H3 hj => ?_) (fun w vs loc H3 _ _ hj => ?_) _ _ _ ⟨0, Nat.zero_le _, rfl, rfl, (set_same (by simpa using hl1)).symm⟩
  rotate_left 1
  · obtain ⟨i, hEE⟩ := hj
    refine and4 hEE fun hi hvs q0 q1 => ?_
    clear hEE
    subst q0 q1
    have hi2 : i < P.length := by
      have := congrArg List.length hvs
      rw [List.length_drop, enum_length, List.length_map] at this
      simp at this; lia
    rw [enum_drop (by rw [List.length_map]; exact hi2)] at hvs
    obtain ⟨rfl, rfl⟩ := List.cons.inj hvs
    rw [List.getElem_map]
    have hbp := bp (P[i]) (List.getElem_mem _)
    have hpi : P[i]? = some (P[i]) := List.getElem?_eq_getElem hi2
    generalize P[i] = pc at hbp hpi ⊢
    have hdd2 : (H1.set l (.list ((ls ++ (linesF cols P).take i).map lnv))) d = some (.dict (cutD cols (.ref l) s.1 s.2.1 s.2.2.1 s.2.2.2)) := by rw [set_ne hdl]; exact hd1
    have hw2 : (H1.set l (.list ((ls ++ (linesF cols P).take i).map lnv))) wd = some (.dict (logD k (.ref wb) (.ref wc) true)) := by rw [set_ne (Ne.symm hld)]; exact hw1
    repeat walk_at "cs"
    refine e_via (fun v H' => v = .bool (decide (i + 1 < P.length)) ∧ (H1.set l (.list ((ls ++ (linesF cols P).take i).map lnv))) = H') (fun v H' hx => ?_) ?_
    rotate_left
    · refine allKV fun _ _ => ?_
      refine e_or ?_
      repeat walk_at "cs"
      refine f_len rfl ?_
      repeat walk_at "cs"
      rw [List.length_map]
      by_cases q : i + 1 < P.length
      · rw [decide_eq_true (show (i : Int) + 1 < (P.length : Int) by lia)]
        exact ⟨fun _ => (by (repeat walk_at "cs"); exact ⟨by rw [decide_eq_true q], rfl⟩), fun z => (by exact tf z)⟩
      · rw [decide_eq_false (show ¬ (i : Int) + 1 < (P.length : Int) by lia)]
        refine ⟨fun z => (by exact noB z), fun _ => ?_⟩
        repeat walk_at "cs"
        refine at_obj (by rfl) hw2 (by rfl) ?_
        repeat walk_at "cs"
        exact ⟨by rw [decide_eq_false q]; rfl, rfl⟩
    obtain ⟨rfl, rfl⟩ := hx
    repeat walk_at "cs"
    refine at_obj (by rfl) hdd2 (by rfl) ?_
    refine ⟨mo_ref (by rfl) set_eq, ?_⟩
    repeat walk_at "cs"
    refine at_obj (by rfl) hdd2 (by rfl) ?_
    repeat walk_at "cs"
    refine f_rline hbp hc.2 ?_
    repeat walk_at "cs"
    refine m_app set_eq (by rw [List.length_map, List.length_append, List.length_take]; lia) ?_
    rw [set_set]
    repeat walk_at "cs"
    have et : (linesF cols P)[i]? = some (pc ++ List.replicate (cols - pc.length) PB, decide (i + 1 < P.length)) := by
      unfold linesF
      rw [List.getElem?_map, List.getElem?_zipIdx, hpi]
      simp [padF]
    have el : (ls ++ (linesF cols P).take i).map lnv ++ [lineCV (pc ++ List.replicate (cols - pc.length) PB) (decide (i + 1 < P.length))] = (ls ++ (linesF cols P).take (i + 1)).map lnv := by
      rw [List.take_add_one, et, Option.toList_some, ← List.append_assoc, List.map_append (f := lnv) (l₂ := [_])]
      rfl
    rw [el]
    refine (exI2 _ _ ⟨weak_drop (fun q hq => ?_), i + 1, hi2, rfl, rfl, rfl⟩)
    simp only [List.mem_cons, List.not_mem_nil, or_false] at hq
    rcases hq with rfl | rfl | rfl | rfl | rfl | rfl | rfl | rfl | rfl | rfl | rfl <;> rfl
  obtain ⟨i, hEE⟩ := hj
  refine and4 hEE fun hi hvs q0 q1 => ?_
  clear hEE
  subst q0 q1
  have hi' : i = P.length := by
    have := congrArg List.length hvs
    rw [List.length_drop, enum_length, List.length_map] at this
    simp at this; lia
  rw [List.take_of_length_le (by rw [hLn]; lia)]
  have hd2 : (H1.set l (.list ((ls ++ linesF cols P).map lnv))) d = some (.dict (cutD cols (.ref l) s.1 s.2.1 s.2.2.1 s.2.2.2)) := by rw [set_ne hdl]; exact hd1
  have hw2 : (H1.set l (.list ((ls ++ linesF cols P).map lnv))) wd = some (.dict (logD k (.ref wb) (.ref wc) true)) := by rw [set_ne (Ne.symm hld)]; exact hw1
  have hb2 : (H1.set l (.list ((ls ++ linesF cols P).map lnv))) wb = some (.list (natV bs)) := by rw [set_ne (Ne.symm hlb)]; exact hb1
  have hl2 : (H1.set l (.list ((ls ++ linesF cols P).map lnv))) l = some (.list ((ls ++ linesF cols P).map lnv)) := set_eq
  have hx2 : ∀ x o, x ≠ l → x ≠ wc → H x = some o → (H1.set l (.list ((ls ++ linesF cols P).map lnv))) x = some o := fun x o q q2 e => by rw [set_ne q]; exact hx1 x o q2 e
  generalize (H1.set l (.list ((ls ++ linesF cols P).map lnv))) = H2 at hd2 hw2 hb2 hl2 hx2 ⊢

  have hS : putS cols k bs us' ls.length fst r c pend s = ((if hasC k bs.length fst = true then ls.length + (placeF P pl (bs[fst - k]?.getD 0)).1 else s.1), putP cols k bs us' ls.length r c pend s.2) := by unfold putS; rw [hP, hpl]; rfl
  have hPP : putP cols k bs us' ls.length r c pend s.2 = if hasC k bs.length r = true then (ls.length + (placeF P pl (offF k bs r c)).1, behindF cols (min (placeF P pl (offF k bs r c)).2 (cols - 1)) s.2.2.2 pend) else s.2 := by unfold putP; rw [hP, hpl]

  repeat walk_at "cs"
  refine ss_if_j (fun loc H' => (∃ ext, loc = (("self", .obj "Cutting" d) :: ("whole", .obj "LogicalLine" wd) :: ("lines", lnsV lns) :: ("first", .int fst) :: ("cursor", .tup [.int r, .int c, .bool pend]) :: ("begun", .int (ls.length : Nat)) :: ("last", .int ((k : Int) + (bs.length : Nat) - 1)) :: ("has_cursor", .bool (hasC k bs.length r)) :: ("offset", .int ((if hasC k bs.length r = true then offF k bs r c else 0 : Nat) : Int)) :: ("pieces", .lst (P.map clv)) :: ("places", .lst (pl.map plv)) :: ext : Loc)) ∧ H' = H2.set d (csD cols l ((if hasC k bs.length fst = true then ls.length + (placeF P pl (bs[fst - k]?.getD 0)).1 else s.1), s.2))) (fun loc H' hj => ?_) ?_
  rotate_left
  · refine allK fun _ _ => ?_
    refine t_cmp2 ?_
    repeat walk_at "cs"
    refine at_obj (by rfl) hw2 (by rfl) ?_
    repeat walk_at "cs"
    have hno : hasC k bs.length fst = false → H2 = H2.set d (csD cols l ((if hasC k bs.length fst = true then ls.length + (placeF P pl (bs[fst - k]?.getD 0)).1 else s.1), s.2)) := fun q => by
      rw [if_neg (by rw [q]; simp)]; exact (set_same hd2).symm
    have hdec := hasC_dec (k := k) (r := fst) hb
    refine ⟨fun z => ⟨fun z2 => (by exact noB z2), fun _ => ?_⟩, fun z => ?_⟩
    · rw [z, Bool.false_and] at hdec
      repeat walk_at "cs"
      exact ⟨⟨[], rfl⟩, hno hdec.symm⟩
    rw [z, Bool.true_and] at hdec
    repeat walk_at "cs"
    refine ⟨fun z2 => ?_, fun z2 => ?_⟩
    · rw [z2] at hdec
      have hh := hdec.symm
      obtain ⟨g1, g2⟩ := hasC_iff hh
      repeat walk_at "cs"
      refine at_obj (by rfl) hw2 (by rfl) ?_
      repeat walk_at "cs"
      refine at_obj (by rfl) hw2 (by rfl) ?_
      repeat walk_at "cs"
      rw [show (fst : Int) - (k : Nat) = ((fst - k : Nat) : Int) by lia]
      refine ix_it (vs := natV bs) (itr hb2) (hbi fst hh) ?_
      repeat walk_at "cs"
      refine f_place hPne ?_
      unfold plv
      repeat walk_at "cs"
      refine ix_tup (by rfl) ?_
      repeat walk_at "cs"
      rw [show ((ls.length : Nat) : Int) + ((placeF P pl (bs[fst - k]?.getD 0)).1 : Nat) = ((ls.length + (placeF P pl (bs[fst - k]?.getD 0)).1 : Nat) : Int) by lia]
      refine sa_obj (by rfl) hd2 (by with_unfolding_all rfl) (by rfl) ?_
      repeat walk_at "cs"
      exact ⟨⟨[_], rfl⟩, by rw [if_pos hh]; rfl⟩
    · rw [z2] at hdec
      repeat walk_at "cs"
      exact ⟨⟨[], rfl⟩, hno hdec.symm⟩
  obtain ⟨⟨ext, rfl⟩, rfl⟩ := hj
  generalize (if hasC k bs.length fst = true then ls.length + (placeF P pl (bs[fst - k]?.getD 0)).1 else s.1) = F1 at hS ⊢
  rw [hS] at h
  have hd3 : (H2.set d (csD cols l (F1, s.2))) d = some (.dict (cutD cols (.ref l) F1 s.2.1 s.2.2.1 s.2.2.2)) := set_eq
  have fin : ∀ p, p = putP cols k bs us' ls.length r c pend s.2 → Q .none (H2.set d (csD cols l (F1, p))) := fun p q => by
    refine h _ ?_ ?_ fun x o q1 q2 q3 e => ?_
    · rw [set_eq, q]
    · rw [set_ne (Ne.symm hdl)]; exact hl2
    · rw [set_ne q1]; exact hx2 x o q2 q3 e
  repeat walk_at "cs"
  refine ss_if ?_
  repeat walk_at "cs"
  refine ⟨fun z => ?_, fun z => ?_⟩
  · rw [if_pos z] at hPP
    repeat walk_at "cs"
    rw [if_pos z]
    refine f_place hPne ?_
    unfold plv
    generalize placeF P pl (offF k bs r c) = p at hPP ⊢
    repeat walk_at "cs"
    refine e_name (c := .tup [.int (p.1 : Nat), .int (p.2 : Nat)]) (by with_unfolding_all exact (look_put.trans (if_pos rfl))) ?_
    repeat walk_at "cs"
    refine ix_tup (by rfl) ?_
    repeat walk_at "cs"
    refine e_name (c := .tup [.int (p.1 : Nat), .int (p.2 : Nat)]) (by with_unfolding_all exact (look_put.trans (if_pos rfl))) ?_
    repeat walk_at "cs"
    refine ix_tup (by rfl) ?_
    repeat walk_at "cs"
    refine at_obj (by rfl) hd3 (by rfl) ?_
    repeat walk_at "cs"
    rw [min_sub1 hc.1, show ((ls.length : Nat) : Int) + ((p.1 : Nat) : Int) = ((ls.length + p.1 : Nat) : Int) by lia]
    refine sa_obj (by rfl) hd3 (by with_unfolding_all rfl) (by rfl) ?_
    rw [set_set]
    repeat walk_at "cs"
    refine sa_obj (by rfl) set_eq (by with_unfolding_all rfl) (by rfl) ?_
    rw [set_set]
    repeat walk_at "cs"
    generalize min p.2 (cols - 1) = m at hPP ⊢
    repeat walk_at "cs"
    refine ss_if ?_
    repeat walk_at "cs"
    refine ix_tup (by rfl) ?_
    repeat walk_at "cs"
    refine ⟨fun z2 => ?_, fun z2 => ?_⟩
    · subst z2
      repeat walk_at "cs"
      refine ⟨mo_obj (by rfl) set_eq (by rfl), ?_⟩
      repeat walk_at "cs"
      refine m_obj (cut_behind (cols := cols) (first := F1) (row := ls.length + p.1) (col := m) (w := s.2.2.2) set_eq ?_)
      rw [set_set]
      repeat walk_at "cs"
      refine ret_same ?_
      have := fin _ hPP.symm
      unfold behindF at this
      by_cases q : m + 1 < cols
      · rw [if_pos rfl, if_pos q] at this; rw [if_pos q]; exact this
      · rw [if_pos rfl, if_neg q] at this; rw [if_neg q]; exact this
    · subst z2
      repeat walk_at "cs"
      exact ret_same (fin (ls.length + p.1, m, s.2.2.2) hPP.symm)
  · rw [if_neg (by rw [z]; simp)] at hPP
    repeat walk_at "cs"
    exact ret_same (fin _ hPP.symm)
end
end

/-! part C26 -/
section
local macro_rules | `(tactic| walk_at "cs") => `(tactic| with_reducible first | refine e_and ?_ | refine e_or ?_ | refine e_cmp2 ?_)
noncomputable section
noncomputable def madeF (cols fst r c : Nat) (pend : Bool) : Nat → List (List U × List Nat) → List LN × CS → List LN × CS
  | _, [], st => st
  | k, q :: qs, st => madeF cols fst r c pend (k + q.2.length) qs (st.1 ++ linesF cols (cut cols (padC k q.2 r c q.1)).1, putS cols k q.2 (padC k q.2 r c q.1) st.1.length fst r c pend st.2)
theorem madeF_cons {cols fst r c k : Nat} {pend : Bool} {q : List U × List Nat} {qs : List (List U × List Nat)} {st : List LN × CS} : madeF cols fst r c pend k (q :: qs) st = madeF cols fst r c pend (k + q.2.length) qs (st.1 ++ linesF cols (cut cols (padC k q.2 r c q.1)).1, putS cols k q.2 (padC k q.2 r c q.1) st.1.length fst r c pend st.2) := rfl
structure QOk (b : Blk) (q : List U × List Nat) : Prop where
  fl : b.parts.flatten = flat q.1
  bg : begsF 0 b.parts = q.2
  ok : BlkOk b
  len : q.1.length ≤ 1000
  bs : ∀ x ∈ q.2, x ≤ 1000
noncomputable def RelQ : List Blk → List (List U × List Nat) → Prop
  | [], [] => True
  | b :: bs, q :: qs => QOk b q ∧ RelQ bs qs
  | _, _ => False
theorem RelQ_ok : ∀ {bs : List Blk} {qs : List (List U × List Nat)}, RelQ bs qs → ∀ b ∈ bs, BlkOk b
  | [], _, _, b, hb => by cases hb
  | _ :: _, [], x, _, _ => x.elim
  | a :: bs, q :: qs, zz1, b, hb => by
    obtain ⟨x, y⟩ := zz1
    rcases List.mem_cons.mp hb with rfl | hb
    · exact x.ok
    · exact RelQ_ok y b hb
theorem padC_len {k r c : Nat} {bs : List Nat} {us : List U} (h1 : us.length ≤ 1000) (h2 : ∀ x ∈ bs, x ≤ 1000) (h3 : c ≤ 1000) : (padC k bs r c us).length ≤ 3001 := by
  unfold padC; split
  · rw [List.length_append, List.length_replicate]
    have : offF k bs r c ≤ 2000 := by
      unfold offF
      cases e : bs[r - k]? with
      | none => simp; lia
      | some b => have := h2 b (List.mem_of_getElem? e); simp; lia
    lia
  · lia
theorem cut_made {n cols fst r c : Nat} {pend : Bool} {blks : List Blk} {qs : List (List U × List Nat)} {H : CH} {Q : CV → CH → Prop} (hq : RelQ blks qs) (hz : total blks ≤ 1000 ∧ blks.length ≤ 20) (hc : 1 ≤ cols ∧ cols ≤ 1000) (hcc : c ≤ 1000)
    (h : ∀ d l H', d ≠ l → H' d = some (csD cols l (madeF cols fst r c pend 0 qs ([], (0, 0, 0, false))).2) → H' l = some (.list ((madeF cols fst r c pend 0 qs ([], (0, 0, 0, false))).1.map lnv)) → (∀ x o, H x = some o → H' x = some o) → H d = none → H l = none → Q (.obj "Cutting" d) H') :
    wpFun (call (n + 8)) "Cutting" [lnsV (blks.flatMap (·.rows)), .int cols, .int fst, .tup [.int r, .int c, .bool pend]] H Q := by
  refine f_cls (by rfl) fun d hd => ?_
  refine call_of (loc := [("self", .obj "Cutting" d), ("lines", lnsV (blks.flatMap (·.rows))), ("columns", .int cols), ("first", .int fst), ("cursor", .tup [.int r, .int c, .bool pend])]) (by rfl) (by rfl) ?_
  refine allKS fun _ _ => ?_
  conv => arg 2; whnf
  have hcap : cap = 16777216 := rfl
  repeat walk_at "cs"
  refine sa_obj (es := []) (by rfl) set_eq (by rfl) (by rfl) ?_
  rw [set_set]
  repeat walk_at "cs"
  refine al_ref (Nat.zero_le _) fun l hl => ?_
  have hld : l ≠ d := fun q => by rw [q, set_eq] at hl; exact sn hl
  rw [set_ne hld] at hl
  rw [set_comm (Ne.symm hld)]
  repeat walk_at "cs"
  refine sa_obj (by rfl) set_eq (by with_unfolding_all rfl) (by rfl) ?_
  rw [set_set]
  repeat walk_at "cs"
  refine sa_obj (by rfl) set_eq (by with_unfolding_all rfl) (by rfl) ?_
  rw [set_set]
  repeat walk_at "cs"
  refine sa_obj (by rfl) set_eq (by with_unfolding_all rfl) (by rfl) ?_
  rw [set_set]
  repeat walk_at "cs"
  refine sa_obj (by rfl) set_eq (by with_unfolding_all rfl) (by rfl) ?_
  rw [set_set]
  repeat walk_at "cs"
  refine sa_obj (by rfl) set_eq (by with_unfolding_all rfl) (by rfl) ?_
  rw [set_set]
  repeat walk_at "cs"
  refine ss_for (src_call1 (by rfl) ?_)
  repeat walk_at "cs"
  refine f_call (by rfl) (logical_of (RelQ_ok hq) (by lia) fun f ws H1 hnd hfr hext hf hwf => ?_)
  have hH0 : ∀ x o, H x = some o → H1 x = some o := fun x o e => hext x o (by rw [set_ne (ne_of_none hd e), set_ne (ne_of_none hl e)]; exact e)
  have hfd : ∀ a ∈ f :: ads ws, a ≠ d := fun a ha q => by have := hfr a ha; rw [q, set_eq] at this; exact sn this
  have hfl : ∀ a ∈ f :: ads ws, a ≠ l := fun a ha q => by have := hfr a ha; rw [q, set_ne hld, set_eq] at this; exact sn this
  have hHn : ∀ a ∈ f :: ads ws, H a = none := fun a ha => by
    have := hfr a ha
    rw [set_ne (hfd a ha), set_ne (hfl a ha)] at this; exact this
  obtain ⟨hfn, hnd2⟩ := List.nodup_cons.mp hnd
  refine it_ref hf ?_
  refine for_inv (g := some (f, objs ws)) (fun vs loc H3 => ∃ k rest wr qr st, vs = objs wr ∧ loc = ([("self", .obj "Cutting" d), ("lines", lnsV (blks.flatMap (·.rows))), ("columns", .int cols), ("first", .int fst), ("cursor", .tup [.int r, .int c, .bool pend])] : Loc) ∧
    WF H3 k rest wr ∧ RelQ rest qr ∧ madeF cols fst r c pend k qr st = madeF cols fst r c pend 0 qs ([], (0, 0, 0, false)) ∧ (ads wr).Nodup ∧ (∀ a ∈ ads wr, a ∈ ads ws) ∧ H3 d = some (csD cols l st.2) ∧ H3 l = some (.list (st.1.map lnv)) ∧ H3 f = some (.list (objs ws)) ∧ (∀ x o, H x = some o → H3 x = some o) ∧ st.1.length + 4000 * rest.length ≤ 100000)
    (fun vs loc H3 hj => ?_) (fun loc H3 hj => ?_) (fun w vs loc H3 _ _ hj => ?_) _ _ _ (exI5 0 blks ws qs ([], (0, 0, 0, false)) ⟨rfl, rfl, hwf, hq, rfl, hnd2, fun _ x => x, hext _ _ set_eq, hext _ _ (by rw [set_ne hld, set_eq]; rfl), hf, hH0, by simp; lia⟩)
  · (refine ex5 hj fun k rest wr qr st zr1g => ?_; refine and11 zr1g fun _ _ _ _ _ _ _ _ _ g _ => ?_; clear zr1g; try clear hj)
    exact g
  · refine ex5 hj fun k rest wr qr st hEE => ?_
    refine and12 hEE fun hvs q0 g1 g2 g3 g4 g5 g6 g7 g8 g9 g10 => ?_
    clear hj hEE
    subst q0
    have hwr : wr = [] := by
      cases wr with
      | nil => rfl
      | cons w wr => simp [objs] at hvs
    subst hwr
    induction rest using List.casesOn with
    | cons b rest => exact g1.elim
    | nil =>
      induction qr using List.casesOn with
      | cons q qr => exact g2.elim
      | nil =>
        repeat walk_at "cs"
        refine ret_same ⟨rfl, ?_⟩
        have e : st = madeF cols fst r c pend 0 qs ([], (0, 0, 0, false)) := g3
        rw [e] at g6 g7
        exact h d l H3 (Ne.symm hld) g6 g7 g9 hd hl
  · refine ex5 hj fun k rest wr qr st hEE => ?_
    refine and12 hEE fun hvs q0 g1 g2 g3 g4 g5 g6 g7 g8 g9 g10 => ?_
    clear hj hEE
    subst q0
    induction wr using List.casesOn with
    | nil => simp [objs] at hvs
    | cons w0 wr =>
      obtain ⟨rfl, rfl⟩ : w = .obj "LogicalLine" w0.1 ∧ vs = objs wr := by
        simp only [objs, List.map_cons] at hvs
        exact ⟨(List.cons.inj hvs).1, (List.cons.inj hvs).2⟩
      induction rest using List.casesOn with
      | nil => exact g1.elim
      | cons b rest =>
        induction qr using List.casesOn with
        | nil => exact g2.elim
        | cons q qr =>
          obtain ⟨⟨qf, qb, qo, ql, qs'⟩, g2⟩ := g2
          (refine and4 g1 fun w1 w2 w3 w4 => ?_; try clear g1)
          have eads : ads (w0 :: wr) = [w0.1, w0.2.1, w0.2.2] ++ ads wr := by unfold ads; rw [List.flatMap_cons]
          rw [eads] at g4 g5
          (refine and3 (List.nodup_append.mp g4) fun n1 n2 n3 => ?_)
          have m1 : w0.1 ∈ f :: ads ws := .tail _ (g5 _ (by simp))
          have m2 : w0.2.1 ∈ f :: ads ws := .tail _ (g5 _ (by simp))
          have m3 : w0.2.2 ∈ f :: ads ws := .tail _ (g5 _ (by simp))
          simp only [List.nodup_cons, List.mem_cons, List.not_mem_nil, or_false, not_or] at n1
          have hql : q.2.length = b.rows.length := by rw [← qb, begsF_len, qo.len]
          have hb1 : 1 ≤ q.2.length := by rw [hql]; exact List.length_pos_iff.mpr qo.ne
          have hlen : (linesF cols (cut cols (padC k q.2 r c q.1)).1).length ≤ 4000 := by
            rw [linesF_len]
            have := (cut_bd hc.1 (padC k q.2 r c q.1)).2.1
            have := padC_len (k := k) (r := r) ql qs' hcc
            lia
          rw [List.length_cons] at g10
          repeat walk_at "cs"
          refine ⟨mo_obj (by rfl) g6 (by rfl), ?_⟩
          repeat walk_at "cs"
          refine m_obj (cut_put (n := n + 1) (us := q.1) (bs := q.2) (ls := st.1) (s := st.2) (k := k) (l := l) (wb := w0.2.1) (wc := w0.2.2) g6 g7 w1 (by rw [w2, ← qb]; rfl) (by rw [w3, qf]) (Ne.symm hld) (hfd _ m3) (hfl _ m3) (fun z => n1.1.2 z.symm) (fun z => n1.2.1 z.symm) (Ne.symm (hfl _ m1)) (Ne.symm (hfl _ m2)) hc ql hb1 (by rw [hql]; have := qo.small.2; lia) qs' hcc (by lia) fun H4 h1 h2 h3 => ?_)
          repeat walk_at "cs"
          have hne3 : ∀ a, a ∈ f :: ads ws → a ≠ w0.2.2 → ∀ o, H3 a = some o → H4 a = some o := fun a ha hn o e => h3 a o (hfd a ha) (hfl a ha) hn e
          refine (exI2 _ H4 ⟨weak_drop (fun p hp => ?_), k + b.rows.length, rest, wr, qr, (st.1 ++ linesF cols (cut cols (padC k q.2 r c q.1)).1, putS cols k q.2 (padC k q.2 r c q.1) st.1.length fst r c pend st.2), rfl, rfl, WF_mono (fun a ha o e => hne3 a (.tail _ (g5 a (List.mem_append_right _ ha))) (fun z => n3 w0.2.2 (by simp) a ha z.symm) o e) w4, g2, ?_, n2, fun a ha => g5 a (List.mem_append_right _ ha), h1, h2, hne3 f (.head _) (fun z => hfn (by rw [z]; exact g5 _ (by simp))) _ g8, fun x o e => ?_, ?_⟩)
          · simp only [List.mem_cons, List.not_mem_nil, or_false] at hp
            rcases hp with rfl | rfl | rfl | rfl | rfl <;> rfl
          · rw [← g3, madeF_cons, hql]
          · refine h3 x o (ne_of_none hd e) (ne_of_none hl e) (fun z => ?_) (g9 x o e)
            have := hHn _ m3
            rw [← z, e] at this; exact sn this
          · rw [List.length_append]; lia
end
end

/-! part C27 -/
noncomputable section
/-! the chunks of a cut -/
noncomputable def grp (cols : Nat) : List U → List U → List (List U)
  | [], ch => [ch]
  | u :: us, ch => if over cols (flat ch) u.cells = true then ch :: grp cols us [u] else grp cols us (ch ++ [u])
theorem grp_nil {cols : Nat} {ch : List U} : grp cols [] ch = [ch] := rfl
theorem grp_cons {cols : Nat} {u : U} {us ch : List U} : grp cols (u :: us) ch = if over cols (flat ch) u.cells = true then ch :: grp cols us [u] else grp cols us (ch ++ [u]) := rfl
noncomputable def pcs (cols : Nat) : List (List U) → List (List Cell)
  | [] => []
  | [c] => [flat c]
  | c :: d :: r => pad1 cols (flat c) :: pcs cols (d :: r)
noncomputable def plG : Nat → List (List U) → List (Nat × Nat)
  | _, [] => []
  | k, c :: cs => (List.range (flat c).length).map (fun j => (k, j)) ++ plG (k + 1) cs
theorem pcs_one {cols : Nat} {c : List U} : pcs cols [c] = [flat c] := rfl
theorem pcs_cons2 {cols : Nat} {c d : List U} {r : List (List U)} : pcs cols (c :: d :: r) = pad1 cols (flat c) :: pcs cols (d :: r) := rfl
theorem plG_nil {k : Nat} : plG k [] = [] := rfl
theorem plG_cons {k : Nat} {c : List U} {cs : List (List U)} : plG k (c :: cs) = (List.range (flat c).length).map (fun j => (k, j)) ++ plG (k + 1) cs := rfl
theorem prt_big {cols : Nat} (hc : 2 ≤ cols) (u : U) : prt cols u = u.cells := by
  induction u using Mine.U.casesOn with
  | one s => rfl
  | two c => simp only [prt, U.cells]; rw [if_neg (by lia)]
theorem slots_big (k l m : Nat) : slots k l m m = (List.range m).map fun st => (k, l + st) := by
  unfold slots
  refine List.map_congr_left fun i hi => ?_
  have := List.mem_range.mp hi
  rw [Nat.min_eq_left (by lia)]
theorem grp_ne (cols : Nat) : ∀ us ch, grp cols us ch ≠ []
  | [], ch => by simp [grp_nil]
  | u :: us, ch => by
    rw [grp_cons]; split
    · simp
    · exact grp_ne cols us _
theorem flat_one (u : U) : flat [u] = u.cells := by rw [flat_cons]; simp [flat]
theorem pcs_cons (cols : Nat) (c : List U) {cs : List (List U)} (h : cs ≠ []) : pcs cols (c :: cs) = pad1 cols (flat c) :: pcs cols cs := by
  induction cs using List.casesOn with
  | nil => exact absurd rfl h
  | cons d r => rfl
theorem cutG_grp {cols : Nat} (hc : 2 ≤ cols) : ∀ (us : List U) (P : List (List Cell)) (ch : List U) (pl : List (Nat × Nat)), cutG cols us P (flat ch) (pl ++ (List.range (flat ch).length).map fun j => (P.length, j)) = (P ++ pcs cols (grp cols us ch), pl ++ plG P.length (grp cols us ch))
  | [], P, ch, pl => by simp [cutG_nil, grp_nil, pcs_one, plG_cons, plG_nil]
  | u :: us, P, ch, pl => by
    rw [cutG_cons, grp_cons]
    rw [prt_big hc, slots_big, slots_big]
    split
    · have ih := cutG_grp hc us (P ++ [pad1 cols (flat ch)]) [u] (pl ++ (List.range (flat ch).length).map fun j => (P.length, j))
      rw [flat_one, List.length_append] at ih
      simp only [Nat.zero_add, List.length_singleton] at ih ⊢
      rw [ih, pcs_cons cols ch (grp_ne cols us [u]), plG, List.append_assoc, List.append_assoc]; rfl
    · have ih := cutG_grp hc us P (ch ++ [u]) pl
      have e : flat (ch ++ [u]) = flat ch ++ u.cells := by rw [flat_app, flat_one]
      rw [e, List.length_append, List.range_add, List.map_append, List.map_map, ← List.append_assoc] at ih
      exact ih
theorem cut_grp {cols : Nat} (hc : 2 ≤ cols) (us : List U) : cut cols us = (pcs cols (grp cols us []), plG 0 (grp cols us [])) := by
  have := cutG_grp hc us [] [] []
  exact this
theorem grp_flat (cols : Nat) : ∀ us ch, (grp cols us ch).flatten = ch ++ us
  | [], ch => by simp [grp_nil]
  | u :: us, ch => by
    rw [grp_cons]; split
    · rw [List.flatten_cons, grp_flat]; simp
    · rw [grp_flat]; simp
theorem grp_le {cols : Nat} (hc : 2 ≤ cols) : ∀ us ch, (flat ch).length ≤ cols → ∀ c ∈ grp cols us ch, (flat c).length ≤ cols
  | [], ch, h, c, hm => by simp [grp_nil] at hm; subst hm; exact h
  | u :: us, ch, h, c, hm => by
    rw [grp_cons] at hm
    split at hm
    · rcases List.mem_cons.mp hm with rfl | hm
      · exact h
      · refine grp_le hc us [u] ?_ c hm
        rw [flat_one]; have := cells_len u; lia
    · rename_i ho
      refine grp_le hc us (ch ++ [u]) ?_ c hm
      rw [flat_app, flat_one]
      unfold over at ho
      rw [List.length_append]
      simpa using ho
theorem grp_head (cols : Nat) : ∀ us u ch, ∃ r, (grp cols us (u :: ch))[0]? = some (u :: r)
  | [], u, ch => ⟨ch, rfl⟩
  | v :: us, u, ch => by
    rw [grp_cons]; split
    · exact ⟨ch, rfl⟩
    · exact grp_head cols us u (ch ++ [v])
theorem grp_over (cols : Nat) : ∀ us ch k c d, (grp cols us ch)[k]? = some c → (grp cols us ch)[k + 1]? = some d → ∃ u r, d = u :: r ∧ over cols (flat c) u.cells = true
  | [], ch, k, c, d, _, h2 => by simp [grp_nil] at h2
  | u :: us, ch, k, c, d, h1, h2 => by
    rw [grp_cons] at h1 h2
    split at h1
    · rename_i ho
      rw [if_pos ho] at h2
      induction k using Nat.casesOn with
      | zero =>
        obtain ⟨r, e⟩ := grp_head cols us u []
        simp only [List.getElem?_cons_zero, List.getElem?_cons_succ, Nat.zero_add] at h1 h2
        rw [e] at h2
        obtain rfl := Option.some.inj h1; obtain rfl := Option.some.inj h2
        exact (exI2 u r ⟨rfl, ho⟩)
      | succ k =>
        simp only [List.getElem?_cons_succ] at h1 h2
        exact grp_over cols us [u] k c d h1 h2
    · rename_i ho
      rw [if_neg ho] at h2
      exact grp_over cols us _ k c d h1 h2
theorem grp_nn (cols : Nat) : ∀ us ch, ch ≠ [] → ∀ c ∈ grp cols us ch, c ≠ []
  | [], ch, h, c, hm => by simp [grp_nil] at hm; subst hm; exact h
  | u :: us, ch, h, c, hm => by
    rw [grp_cons] at hm
    split at hm
    · rcases List.mem_cons.mp hm with rfl | hm
      · exact h
      · exact grp_nn cols us [u] (by simp) c hm
    · exact grp_nn cols us _ (by simp) c hm
theorem grp_nn0 {cols : Nat} (hc : 2 ≤ cols) {us : List U} (h : us ≠ []) : ∀ c ∈ grp cols us [], c ≠ [] := by
  induction us using List.casesOn with
  | nil => exact absurd rfl h
  | cons u us =>
    intro c hm
    have ho : ¬ over cols (flat []) u.cells = true := by
      unfold over; have := cells_len u; simp [flat]; lia
    rw [grp_cons] at hm
    rw [if_neg ho] at hm
    exact grp_nn cols us _ (by simp) c hm
theorem pcs_len (cols : Nat) : ∀ cs, (pcs cols cs).length = cs.length
  | [] => rfl
  | [c] => rfl
  | c :: d :: r => by rw [pcs, List.length_cons, pcs_len cols (d :: r)]; rfl
theorem pcs_at (cols : Nat) : ∀ (cs : List (List U)) (k : Nat) (c : List U), cs[k]? = some c → (pcs cols cs)[k]? = some (if k + 1 < cs.length then pad1 cols (flat c) else flat c)
  | [], k, c, h => by simp at h
  | [d], k, c, h => by
    induction k using Nat.casesOn with
    | zero => simp at h; subst h; rfl
    | succ k => simp at h
  | d :: e :: r, k, c, h => by
    induction k using Nat.casesOn with
    | zero => simp at h; subst h; rfl
    | succ k =>
      rw [List.getElem?_cons_succ] at h
      have := pcs_at cols (e :: r) k c h
      rw [pcs, List.getElem?_cons_succ, this]
      simp

/-! how far the chunks go -/
noncomputable def pre (cs : List (List U)) (k : Nat) : Nat := (flat (cs.take k).flatten).length
theorem pre_succ {cs : List (List U)} {k : Nat} {c : List U} (h : cs[k]? = some c) : pre cs (k + 1) = pre cs k + (flat c).length := by
  unfold pre; rw [List.take_add_one, h, Option.toList_some, List.flatten_append, flat_app, List.length_append]; simp
theorem pre_zero (cs : List (List U)) : pre cs 0 = 0 := by simp [pre, flat]
theorem pre_cons (c : List U) (cs : List (List U)) (k : Nat) : pre (c :: cs) (k + 1) = (flat c).length + pre cs k := by
  unfold pre; rw [List.take_succ_cons, List.flatten_cons, flat_app, List.length_append]
theorem begsF_at : ∀ (cs : List (List U)) (a k : Nat), k < cs.length → (begsF a (cs.map flat))[k]? = some (a + pre cs k)
  | [], _, _, h => by simp at h
  | c :: cs, a, 0, _ => by simp [begsF, pre_zero]
  | c :: cs, a, k + 1, h => by
    rw [List.map_cons, begsF, List.getElem?_cons_succ, begsF_at cs _ k (by simpa using h), pre_cons]; simp; lia
theorem plG_lo : ∀ (cs : List (List U)) (b i x y : Nat), (plG b cs)[i]? = some (x, y) → ∃ k, x = b + k ∧ k < cs.length ∧ pre cs k ≤ i
  | [], _, _, _, _, h => by simp [plG_nil] at h
  | c :: cs, b, i, x, y, h => by
    rw [plG_cons] at h
    by_cases hi : i < (flat c).length
    · rw [List.getElem?_append_left (by simpa using hi), List.getElem?_map, List.getElem?_range hi] at h
      simp at h
      exact ⟨0, by lia, by simp, by rw [pre_zero]; lia⟩
    · rw [List.getElem?_append_right (by simpa using Nat.le_of_not_lt hi)] at h
      simp only [List.length_map, List.length_range] at h
      (refine Exists.elim (plG_lo cs (b + 1) _ x y h) fun k zr2g => ?_; refine and3 zr2g fun h1 h2 h3 => ?_; clear zr2g)
      exact ⟨k + 1, by lia, by simpa using h2, by rw [pre_cons]; lia⟩
theorem plG_at : ∀ (cs : List (List U)) (b k j : Nat) (c : List U), cs[k]? = some c → j < (flat c).length → (plG b cs)[pre cs k + j]? = some (b + k, j)
  | [], _, _, _, _, h, _ => by simp at h
  | d :: cs, b, 0, j, c, h, hj => by
    simp at h; subst h
    rw [plG_cons]
    rw [pre_zero, Nat.zero_add, List.getElem?_append_left (by simpa using hj), List.getElem?_map, List.getElem?_range hj]; rfl
  | d :: cs, b, k + 1, j, c, h, hj => by
    rw [List.getElem?_cons_succ] at h
    rw [plG_cons]
    rw [pre_cons, List.getElem?_append_right (by simp; lia)]
    simp only [List.length_map, List.length_range]
    rw [show (flat d).length + pre cs k + j - (flat d).length = pre cs k + j by lia, plG_at cs (b + 1) k j c h hj]
    congr 2; lia
theorem foldl_min_leC : ∀ (l : List Nat) (a : Nat), l.foldl min a ≤ a ∧ ∀ x ∈ l, l.foldl min a ≤ x
  | [], a => ⟨Nat.le_refl _, by simp⟩
  | b :: l, a => by
    obtain ⟨h1, h2⟩ := foldl_min_leC l (min a b)
    refine ⟨by rw [List.foldl_cons]; lia, fun x hx => ?_⟩
    rw [List.foldl_cons]
    rcases List.mem_cons.mp hx with rfl | hx
    · lia
    · exact h2 x hx
theorem foldl_min_mem : ∀ (l : List Nat) (a : Nat), l.foldl min a = a ∨ l.foldl min a ∈ l
  | [], a => .inl rfl
  | b :: l, a => by
    rw [List.foldl_cons]
    rcases foldl_min_mem l (min a b) with h | h
    · rcases Nat.le_total a b with q | q
      · rw [Nat.min_eq_left q] at h ⊢; exact .inl h
      · rw [Nat.min_eq_right q] at h ⊢; rw [h]; exact .inr (.head _)
    · exact .inr (.tail _ h)
theorem minL_is {l : List Nat} {x : Nat} (h1 : x ∈ l) (h2 : ∀ y ∈ l, x ≤ y) : minL l = x := by
  induction l using List.casesOn with
  | nil => cases h1
  | cons a l =>
    show l.foldl min a = x
    have hle : l.foldl min a ≤ x := by
      rcases List.mem_cons.mp h1 with rfl | h
      · exact (foldl_min_leC l _).1
      · exact (foldl_min_leC l a).2 x h
    rcases foldl_min_mem l a with h | h
    · have := h2 a (.head _); lia
    · have := h2 _ (.tail _ h); lia
theorem pre_all (cols : Nat) (us : List U) : pre (grp cols us []) (grp cols us []).length = (flat us).length := by
  unfold pre; rw [List.take_length, grp_flat]; rfl
theorem pre_mono (cs : List (List U)) {i j : Nat} (h : i ≤ j) : pre cs i ≤ pre cs j := by
  induction j with
  | zero => rw [show i = 0 by lia]; exact Nat.le_refl _
  | succ j ih =>
    by_cases hi : i = j + 1
    · rw [hi]; exact Nat.le_refl _
    · refine Nat.le_trans (ih (by lia)) ?_
      cases e : cs[j]? with
      | some c => rw [pre_succ e]; lia
      | none => unfold pre; rw [List.take_add_one, e]; simp
theorem startF_is {cols : Nat} (hc : 2 ≤ cols) {us : List U} {k : Nat} (hk : k < (grp cols us []).length) : startF (cut cols us).2 (flat us).length k = pre (grp cols us []) k := by
  rw [cut_grp hc]
  show startF (plG 0 (grp cols us [])) (flat us).length k = _
  have hall := pre_all cols us
  have hle : pre (grp cols us []) k ≤ (flat us).length := by rw [← hall]; exact pre_mono _ (Nat.le_of_lt hk)
  unfold startF
  refine minL_is ?_ fun y hy => ?_
  · rw [List.mem_append]
    by_cases hus : us = []
    · subst hus
      right
      have : pre (grp cols [] []) k = 0 := by have : flat [] = [] := rfl; rw [this] at hle; simpa using hle
      rw [this]; simp [flat]
    · left
      obtain ⟨c, hcm⟩ : ∃ c, (grp cols us [])[k]? = some c := ⟨_, List.getElem?_eq_getElem hk⟩
      have hne := grp_nn0 hc hus c (List.mem_of_getElem? hcm)
      have hpos : 0 < (flat c).length := by
        induction c using List.casesOn with
        | nil => exact absurd rfl hne
        | cons u r => rw [flat_cons, List.length_append]; have := cells_len u; lia
      have h1 := pre_succ hcm
      have h2 : pre (grp cols us []) (k + 1) ≤ (flat us).length := by rw [← hall]; exact pre_mono _ hk
      rw [List.mem_filter]
      refine ⟨List.mem_range.mpr (by lia), ?_⟩
      have := plG_at (grp cols us []) 0 k 0 c hcm hpos
      rw [Nat.add_zero] at this
      rw [this]; simp
  · rw [List.mem_append] at hy
    rcases hy with hy | hy
    · rw [List.mem_filter] at hy
      obtain ⟨_, h2⟩ := hy
      have h2 := of_decide_eq_true h2
      cases e : (plG 0 (grp cols us []))[y]? with
      | none => rw [e] at h2; exact nn h2
      | some p =>
        obtain ⟨x, z⟩ := p
        rw [e] at h2
        simp at h2
        (refine Exists.elim (plG_lo _ _ _ _ _ e) fun k' zr1g => ?_; refine and3 zr1g fun g1 g2 g3 => ?_; clear zr1g)
        rw [show k = k' by lia]; exact g3
    · simp at hy; lia
end

/-! part C28 -/
noncomputable section
noncomputable def hdc : U → Cell
  | .one s => ⟨s, 1, PLAIN⟩
  | .two c => ⟨some c, 2, .lw⟩
theorem flat_hd (u : U) (r : List U) : ∃ t, flat (u :: r) = hdc u :: t := by
  rw [flat_cons]; cases u <;> exact ⟨_, rfl⟩
theorem hdc_w (u : U) : (hdc u).w ≠ 0 ∧ (u.cells.length = 2 → (hdc u).w = 2) := by
  induction u using Mine.U.casesOn <;> simp [hdc, U.cells]
theorem last_T {ch : List U} (hne : ch ≠ []) (ht : ∀ u ∈ ch, u.isT) : ∃ r c, flat ch = r ++ [c] ∧ c.isB = false ∧ c.w ≠ 2 := by
  obtain ⟨init, u, rfl⟩ : ∃ i u, ch = i ++ [u] := (exI2 ch.dropLast (ch.getLast hne) ((List.dropLast_concat_getLast hne).symm))
  rw [flat_app, flat_one]
  have hu := ht u (by simp)
  induction u using Mine.U.casesOn with
  | one s => exact (exI2 _ _ ⟨rfl, by simp [Cell.isB]; intro q; exact absurd q hu, by simp⟩)
  | two c => exact (exI2 (flat init ++ [⟨some c, 2, .lw⟩]) ⟨none, 0, .lw⟩ ⟨by simp [U.cells], by simp [Cell.isB], by simp⟩)
theorem isB_PB : PB.isB = true := rfl
theorem used_T {ch : List U} (ht : ∀ u ∈ ch, u.isT) : used (flat ch) = flat ch := by
  by_cases hne : ch = []
  · subst hne; rfl
  · (refine ex2 (last_T hne ht) fun r c zr17g => ?_; refine and3 zr17g fun e h _ => ?_; clear zr17g)
    rw [e, used_ne (fun q => by rw [q, isB_PB] at h; exact tf h)]
theorem over_ne {cols : Nat} (hc : 2 ≤ cols) {c : List U} {u : U} (ho : over cols (flat c) u.cells = true) : c ≠ [] := by
  rintro rfl
  have := cells_len u
  unfold over at ho
  simp [flat] at ho; lia
theorem pad1_full {cols : Nat} {c : List U} {u : U} (h1 : (flat c).length ≤ cols) (ho : over cols (flat c) u.cells = true) : (pad1 cols (flat c)).length = cols ∧ cols - 1 ≤ (flat c).length := by
  have := cells_len u
  unfold over at ho
  simp at ho
  unfold pad1; split
  · rw [List.length_append]; simp; lia
  · lia
theorem part_pad {cols : Nat} (hc : 2 ≤ cols) {c : List U} {u : U} {t : List Cell} (ho : over cols (flat c) u.cells = true) (hT : ∀ u ∈ c, u.isT) : partF (pad1 cols (flat c)) (hdc u :: t) = flat c := by
  have hne := over_ne hc ho
  (refine ex2 (last_T hne hT) fun r d zr16g => ?_; refine and3 zr16g fun e hb _ => ?_; clear zr16g)
  have := cells_len u
  unfold pad1; split
  · rename_i hl
    unfold over at ho
    simp at ho
    have h2 := (hdc_w u).2 (by lia)
    unfold partF
    simp [isB_PB, h2]
  · rw [e]; unfold partF
    simp [hb]
theorem pcs_hd (cols : Nat) (u : U) (r : List U) (cs : List (List U)) : ∃ t ps, pcs cols ((u :: r) :: cs) = (hdc u :: t) :: ps := by
  obtain ⟨t, e⟩ := flat_hd u r
  induction cs using List.casesOn with
  | nil => exact (exI2 t [] (by rw [pcs, e]))
  | cons d cs =>
    rw [pcs, e]; unfold pad1; split
    · exact (exI2 (t ++ [PB]) _ rfl)
    · exact (exI2 t _ rfl)
theorem flat_flatten : ∀ cs : List (List U), flat cs.flatten = (cs.map flat).flatten
  | [] => rfl
  | c :: cs => by rw [List.flatten_cons, flat_app, flat_flatten cs, List.map_cons, List.flatten_cons]
theorem join_pcs {cols : Nat} (hc : 2 ≤ cols) : ∀ cs : List (List U), (∀ c ∈ cs, (flat c).length ≤ cols ∧ ∀ u ∈ c, u.isT) → (∀ k c d, cs[k]? = some c → cs[k + 1]? = some d → ∃ u r, d = u :: r ∧ over cols (flat c) u.cells = true) → joinF (pcs cols cs) = flat cs.flatten
  | [], _, _ => rfl
  | [c], _, _ => by rw [pcs_one]; simp [joinF]
  | c :: d :: r, h1, h2 => by
    (refine ex2 (h2 0 c d rfl rfl) fun u r' zr15g => ?_; refine And.elim (fun zq14g ho => ?_) zr15g; clear zr15g; obtain rfl := zq14g)
    have ih := join_pcs hc ((u :: r') :: r) (fun x hx => h1 x (.tail _ hx)) (fun k a b ea eb => h2 (k + 1) a b (by rw [List.getElem?_cons_succ]; exact ea) (by rw [List.getElem?_cons_succ]; exact eb))
    (refine ex2 (pcs_hd cols u r' r) fun t ps e => ?_)
    rw [pcs_cons2, e, joinF, ← e, ih, part_pad hc ho (h1 c (.head _)).2]
    exact (flat_app c ((u :: r') :: r).flatten).symm
theorem grp_T {cols : Nat} {us : List U} (ht : ∀ u ∈ us, u.isT) : ∀ c ∈ grp cols us [], ∀ u ∈ c, u.isT := fun c hc u hu => ht u (by
  have : u ∈ (grp cols us []).flatten := List.mem_flatten.mpr ⟨c, hc, hu⟩
  rw [grp_flat] at this; simpa using this)
theorem cut_join {cols : Nat} (hc : 2 ≤ cols) {us : List U} (ht : ∀ u ∈ us, u.isT) : joinF (cut cols us).1 = flat us := by
  rw [cut_grp hc, join_pcs hc _ (fun c hm => ⟨grp_le hc us [] (by simp [flat]) c hm, grp_T ht c hm⟩) (grp_over cols us []), grp_flat]; rfl

/-! any width -/
theorem cutG_nn {cols : Nat} (hc : 1 ≤ cols) : ∀ (us : List U) (P : List (List Cell)) (pc : List Cell) (pl : List (Nat × Nat)), (∀ p ∈ P, p ≠ []) → ∀ p ∈ (cutG cols us P pc pl).1.dropLast, p ≠ []
  | [], P, pc, pl, h, p, hp => by simp [cutG_nil] at hp; exact h p hp
  | u :: us, P, pc, pl, h, p, hp => by
    rw [cutG_cons] at hp
    split at hp
    · refine cutG_nn hc us _ _ _ (fun q hq => ?_) p hp
      rcases List.mem_append.mp hq with hq | hq
      · exact h q hq
      · simp at hq; subst hq
        unfold pad1; split
        · simp
        · rintro rfl; simp at *; lia
    · exact cutG_nn hc us _ _ _ h p hp
theorem cut_nn {cols : Nat} (hc : 1 ≤ cols) (us : List U) : ∀ k, k + 1 < (cut cols us).1.length → ∀ p, (cut cols us).1[k]? = some p → p ≠ [] := fun k hk p e =>
  cutG_nn hc us [] [] [] (by simp) p (by
    refine List.mem_of_getElem? (i := k) ?_
    show (cut cols us).1.dropLast[k]? = some p
    rw [List.getElem?_dropLast, if_pos (by lia)]; exact e)
theorem cutG_col {cols : Nat} (hc : 1 ≤ cols) : ∀ (us : List U) (P : List (List Cell)) (pc : List Cell) (pl : List (Nat × Nat)), pc.length ≤ cols → (∀ p ∈ pl, p.2 < cols) → ∀ p ∈ (cutG cols us P pc pl).2, p.2 < cols
  | [], P, pc, pl, h1, h, p, hp => h p hp
  | u :: us, P, pc, pl, h1, h, p, hp => by
    have hq := prt_le hc u
    have hq2 := prt_len cols u
    rw [cutG_cons] at hp
    split at hp
    · refine cutG_col hc us _ _ _ hq (fun q hm => ?_) p hp
      rcases List.mem_append.mp hm with hm | hm
      · exact h q hm
      · unfold slots at hm
        obtain ⟨i, _, rfl⟩ := List.mem_map.mp hm
        show 0 + min i _ < cols
        lia
    · rename_i ho
      have ho2 : pc.length + (prt cols u).length ≤ cols := by unfold over at ho; simpa using ho
      refine cutG_col hc us _ _ _ (by rw [List.length_append]; exact ho2) (fun q hm => ?_) p hp
      rcases List.mem_append.mp hm with hm | hm
      · exact h q hm
      · unfold slots at hm
        obtain ⟨i, _, rfl⟩ := List.mem_map.mp hm
        show pc.length + min i _ < cols
        lia
theorem cut_col {cols : Nat} (hc : 1 ≤ cols) (us : List U) : ∀ p ∈ (cut cols us).2, p.2 < cols := cutG_col hc us [] [] [] (by simp) (by simp)

/-! the old lines of a text -/
theorem linesF_at {cols : Nat} {P : List (List Cell)} {i : Nat} {row : List Cell} {w : Bool} (h : (linesF cols P)[i]? = some (row, w)) : ∃ p, P[i]? = some p ∧ row = padF cols p ∧ w = decide (i + 1 < P.length) := by
  unfold linesF at h
  rw [List.getElem?_map, List.getElem?_zipIdx] at h
  cases e : P[i]? with
  | none => rw [e] at h; exact nn h
  | some p => rw [e] at h; simp at h; exact ⟨p, rfl, h.1.symm, h.2.symm⟩
theorem old_at {cols : Nat} (hc : 2 ≤ cols) {us : List U} {i : Nat} {row : List Cell} {w : Bool} (h : (linesF cols (cut cols us).1)[i]? = some (row, w)) : ∃ c, (grp cols us [])[i]? = some c ∧ row = padF cols (if i + 1 < (grp cols us []).length then pad1 cols (flat c) else flat c) ∧ w = decide (i + 1 < (grp cols us []).length) := by
  (refine Exists.elim (linesF_at h) fun p zr9g => ?_; refine and3 zr9g fun h1 h2 h3 => ?_; clear zr9g)
  rw [cut_grp hc] at h1 h3
  dsimp only at h1 h3
  rw [pcs_len] at h3
  have hi : i < (grp cols us []).length := by
    have := (List.getElem?_eq_some_iff.mp h1).1
    rwa [pcs_len] at this
  have e := List.getElem?_eq_getElem hi
  rw [pcs_at cols _ i _ e] at h1
  cases h1
  exact ⟨_, e, h2, h3⟩
theorem padF_len {cols : Nat} {p : List Cell} (h : p.length ≤ cols) : (padF cols p).length = cols := by unfold padF; rw [List.length_append, List.length_replicate]; lia
theorem pad1_le {cols : Nat} {p : List Cell} (h : p.length ≤ cols) : (pad1 cols p).length ≤ cols := by
  unfold pad1; split
  · rw [List.length_append]; simp; lia
  · exact h
theorem row_form {cols : Nat} {p : List Cell} (b : Prop) [Decidable b] : ∃ m, padF cols (if b then pad1 cols p else p) = p ++ List.replicate m PB := by
  split
  · unfold pad1; split
    · unfold padF; rw [List.append_assoc]
      exact ⟨(cols - (p ++ [PB]).length) + 1, by rw [List.replicate_succ]; rfl⟩
    · exact ⟨_, rfl⟩
  · exact ⟨_, rfl⟩
theorem lines_fit {cols : Nat} {us : List U} (hc : 1 ≤ cols) : ∀ l ∈ linesF cols (cut cols us).1, l.1.length = cols := fun l hl => by
  obtain ⟨i, e⟩ := List.getElem?_of_mem hl
  obtain ⟨row, w⟩ := l
  (refine Exists.elim (linesF_at e) fun p zr8g => ?_; refine and3 zr8g fun h1 h2 _ => ?_; clear zr8g)
  rw [h2]; exact padF_len ((cut_bd hc us).1 p (List.mem_of_getElem? h1))
theorem lines_edge {cols : Nat} (hc : 2 ≤ cols) {us : List U} (ht : ∀ u ∈ us, u.isT) {row : List Cell} {w : Bool} (hm : (row, w) ∈ linesF cols (cut cols us).1) : (∀ c r, row = c :: r → c.w ≠ 0) ∧ (∀ c r, row = r ++ [c] → c.w ≠ 2) := by
  obtain ⟨i, e⟩ := List.getElem?_of_mem hm
  (refine Exists.elim (old_at hc e) fun ch zr7g => ?_; refine and3 zr7g fun h1 h2 _ => ?_; clear zr7g)
  have hT := grp_T ht ch (List.mem_of_getElem? h1)
  obtain ⟨m, e2⟩ := row_form (cols := cols) (p := flat ch) (i + 1 < (grp cols us []).length)
  rw [h2, e2]
  clear h1 h2 e2 e hm
  constructor
  · intro c r q
    induction ch using List.casesOn with
    | nil =>
      induction m using Nat.casesOn with
      | zero => simp [flat] at q
      | succ m =>
        have : flat [] = [] := rfl
        rw [this, List.nil_append, List.replicate_succ] at q
        rw [← (List.cons.inj q).1]; decide
    | cons u ch =>
      obtain ⟨t, e⟩ := flat_hd u ch
      rw [e, List.cons_append] at q
      rw [← (List.cons.inj q).1]; exact (hdc_w u).1
  · intro c r q
    induction m using Nat.casesOn with
    | succ m =>
      rw [List.replicate_succ', ← List.append_assoc] at q
      have := (List.append_inj' q rfl).2
      rw [← (List.cons.inj this).1]; decide
    | zero =>
      simp only [List.replicate_zero, List.append_nil] at q
      induction ch using List.casesOn with
      | nil => simp [flat] at q
      | cons u ch =>
        (refine ex2 (last_T (ch := u :: ch) (by simp) hT) fun r' d zr6g => ?_; refine and3 zr6g fun e _ hw => ?_; clear zr6g)
        rw [e] at q
        have := (List.append_inj' q rfl).2
        rw [← (List.cons.inj this).1]; exact hw

noncomputable def blkOf (cols : Nat) (us : List U) : Blk := ⟨linesF cols (cut cols us).1, (grp cols us []).map flat⟩
noncomputable def qOf (cols : Nat) (us : List U) : List U × List Nat := (us, begsF 0 ((grp cols us []).map flat))
theorem grp_len {cols : Nat} (hc : 2 ≤ cols) (us : List U) : (cut cols us).1.length = (grp cols us []).length := by rw [cut_grp hc]; exact pcs_len _ _
theorem blk_ok {cols : Nat} (hc : 2 ≤ cols ∧ cols ≤ 1000) {us : List U} (hz : us.length ≤ 500) (ht : ∀ u ∈ us, u.isT) : QOk (blkOf cols us) (qOf cols us) := by
  have hgl := grp_len hc.1 us
  have hll : (linesF cols (cut cols us).1).length = (grp cols us []).length := by rw [linesF_len, hgl]
  have hbd := cut_bd (by lia : 1 ≤ cols) us
  have hfl := flat_len us
  have hfe : ((grp cols us []).map flat).flatten = flat us := by rw [← flat_flatten, grp_flat]; rfl
  refine ⟨hfe, rfl, ⟨?_, ?_, ?_, ?_, ?_, ?_⟩, by show us.length ≤ 1000; lia, ?_⟩
  · show ((grp cols us []).map flat).length = (linesF cols (cut cols us).1).length
    rw [hll, List.length_map]
  · intro q
    have : (linesF cols (cut cols us).1).length = 0 := by show (blkOf cols us).rows.length = 0; rw [q]; rfl
    rw [linesF_len] at this; lia
  · intro i row w e
    have := lines_fit (us := us) (by lia : 1 ≤ cols) (row, w) (List.mem_of_getElem? e)
    dsimp only at this
    exact ⟨fun q => by subst q; simp at this; lia, by lia⟩
  · intro i row w e hi
    change i + 1 = (linesF cols (cut cols us).1).length at hi
    rw [hll] at hi
    (refine Exists.elim (old_at hc.1 e) fun c zr5g => ?_; refine and3 zr5g fun h1 h2 h3 => ?_; clear zr5g)
    have hT := grp_T ht c (List.mem_of_getElem? h1)
    refine ⟨by rw [h3, decide_eq_false]; lia, ?_⟩
    show ((grp cols us []).map flat)[i]? = some (used row)
    rw [List.getElem?_map, h1, h2, if_neg (by lia)]
    unfold padF
    rw [used_pbs, used_T hT]; rfl
  · intro i row w e hi
    change i + 1 < (linesF cols (cut cols us).1).length at hi
    rw [hll] at hi
    (refine Exists.elim (old_at hc.1 e) fun c zr4g => ?_; refine and3 zr4g fun h1 h2 h3 => ?_; clear zr4g)
    have hT := grp_T ht c (List.mem_of_getElem? h1)
    have hle := grp_le hc.1 us [] (by simp [flat]) c (List.mem_of_getElem? h1)
    refine ⟨by rw [h3, decide_eq_true hi], ?_⟩
    have hi2 : i + 1 < (linesF cols (cut cols us).1).length := by rw [hll]; exact hi
    have e2 : (linesF cols (cut cols us).1)[i + 1]? = some ((linesF cols (cut cols us).1)[i + 1].1, (linesF cols (cut cols us).1)[i + 1].2) := List.getElem?_eq_getElem hi2
    refine (exI2 _ _ ⟨e2, ?_⟩)
    (refine Exists.elim (old_at hc.1 e2) fun d zr3g => ?_; refine and3 zr3g fun g1 g2 _ => ?_; clear zr3g)
    (refine ex2 (grp_over cols us [] i c d h1 g1) fun u r zr2g => ?_; refine And.elim (fun zq1g ho => ?_) zr2g; clear zr2g; obtain rfl := zq1g)
    obtain ⟨m, e3⟩ := row_form (cols := cols) (p := flat (u :: r)) (i + 1 + 1 < (grp cols us []).length)
    obtain ⟨t, e4⟩ := flat_hd u r
    show ((grp cols us []).map flat)[i]? = _
    rw [List.getElem?_map, h1, h2, g2, e3, e4, if_pos hi, List.cons_append]
    have hfull := (pad1_full hle ho).1
    have : padF cols (pad1 cols (flat c)) = pad1 cols (flat c) := by unfold padF; rw [hfull, Nat.sub_self]; simp
    rw [this, part_pad hc.1 ho hT]; rfl
  · refine ⟨?_, ?_⟩
    · show ((grp cols us []).map flat).flatten.length ≤ 100000
      rw [hfe]; lia
    · show (linesF cols (cut cols us).1).length ≤ 100000
      rw [linesF_len]; lia
  · intro x hx
    change x ∈ begsF 0 ((grp cols us []).map flat) at hx
    obtain ⟨k, e⟩ := List.getElem?_of_mem hx
    have hk := (List.getElem?_eq_some_iff.mp e).1
    rw [begsF_len, List.length_map] at hk
    rw [begsF_at _ 0 k hk] at e
    obtain rfl := Option.some.inj e
    have := pre_mono (grp cols us []) (Nat.le_of_lt hk)
    rw [pre_all] at this
    lia
theorem qOf_len {cols : Nat} (hc : 2 ≤ cols) (us : List U) : (qOf cols us).2.length = (cut cols us).1.length := by rw [grp_len hc]; unfold qOf; rw [begsF_len, List.length_map]
theorem RelQ_map {cols : Nat} (hc : 2 ≤ cols ∧ cols ≤ 1000) : ∀ ts : List (List U), (∀ us ∈ ts, TxtOk us) → RelQ (ts.map (blkOf cols)) (ts.map (qOf cols))
  | [], _ => trivial
  | us :: ts, h => ⟨blk_ok hc (by have := (h us (.head _)).1; lia) (h us (.head _)).2, RelQ_map hc ts fun x hx => h x (.tail _ hx)⟩
end

/-! part C29 -/
noncomputable section
/-! where the lines of a text lie -/
noncomputable def kF (cols : Nat) (ts : List (List U)) (j : Nat) : Nat := (oldF cols (ts.take j)).length
noncomputable def nF (cols : Nat) (us : List U) : Nat := (cut cols us).1.length
theorem kF_zero (cols : Nat) (ts : List (List U)) : kF cols ts 0 = 0 := by simp [kF, oldF]
theorem oldF_succ {cols : Nat} {ts : List (List U)} {j : Nat} (h : j < ts.length) : oldF cols (ts.take (j + 1)) = oldF cols (ts.take j) ++ oldT cols j ts[j] := by
  rw [List.take_add_one, List.getElem?_eq_getElem h, Option.toList_some, oldF_app, List.length_take, Nat.min_eq_left (Nat.le_of_lt h)]
theorem kF_succ {cols : Nat} {ts : List (List U)} {j : Nat} (h : j < ts.length) : kF cols ts (j + 1) = kF cols ts j + nF cols ts[j] := by
  unfold kF nF; rw [oldF_succ h, List.length_append, oldT_len]
theorem kF_mono {cols : Nat} {ts : List (List U)} {i j : Nat} (h : i ≤ j) (hj : j ≤ ts.length) : kF cols ts i ≤ kF cols ts j := by
  induction j with
  | zero => rw [show i = 0 by lia]; exact Nat.le_refl _
  | succ j ih =>
    by_cases hi : i = j + 1
    · rw [hi]; exact Nat.le_refl _
    · have := ih (by lia) (by lia)
      rw [kF_succ (by lia)]; lia
theorem kF_all (cols : Nat) (ts : List (List U)) : kF cols ts ts.length = (oldF cols ts).length := by unfold kF; rw [List.take_length]
theorem kF_find {cols : Nat} {ts : List (List U)} {i : Nat} : ∀ n, n ≤ ts.length → i < kF cols ts n → ∃ j, ∃ h : j < ts.length, kF cols ts j ≤ i ∧ i < kF cols ts j + nF cols ts[j]
  | 0, _, h => by rw [kF_zero] at h; lia
  | n + 1, hn, h => by
    by_cases q : i < kF cols ts n
    · exact kF_find n (by lia) q
    · rw [kF_succ (by lia)] at h
      exact ⟨n, by lia, by lia, h⟩
theorem oldF_split {cols : Nat} {ts : List (List U)} {j : Nat} (h : j < ts.length) : ∃ rest, oldF cols ts = oldF cols (ts.take j) ++ (oldT cols j ts[j] ++ rest) := by
  have e : ts = ts.take (j + 1) ++ ts.drop (j + 1) := (List.take_append_drop _ _).symm
  refine ⟨((ts.drop (j + 1)).zipIdx (j + 1)).flatMap fun q => oldT cols q.2 q.1, ?_⟩
  rw [← List.append_assoc, ← oldF_succ h]
  conv => lhs; rw [e]
  unfold oldF
  rw [List.zipIdx_append, List.flatMap_append, List.length_take, Nat.min_eq_left h, Nat.zero_add]
theorem es_at {cols : Nat} {ts : List (List U)} {i : Nat} {e : Ent} (h : (oldF cols ts)[i]? = some e) : ∃ j, ∃ hj : j < ts.length, kF cols ts j ≤ i ∧ i < kF cols ts j + nF cols ts[j] ∧ (oldT cols j ts[j])[i - kF cols ts j]? = some e := by
  have hi := (List.getElem?_eq_some_iff.mp h).1
  rw [← kF_all] at hi
  obtain ⟨j, hj, h1, h2⟩ := kF_find _ (Nat.le_refl _) hi
  refine ⟨j, hj, h1, h2, ?_⟩
  obtain ⟨rest, er⟩ := oldF_split (cols := cols) hj
  rw [er, List.getElem?_append_right h1, List.getElem?_append_left (by rw [oldT_len]; unfold kF nF at *; lia)] at h
  exact h
theorem oldT_at {cols : Nat} (hc : 2 ≤ cols) {num : Nat} {us : List U} {k : Nat} {e : Ent} (h : (oldT cols num us)[k]? = some e) : k < (grp cols us []).length ∧ e.2.1 = num ∧ e.2.2.1 = pre (grp cols us []) k ∧ e.1.2 = decide (k + 1 < (grp cols us []).length) ∧ (k + 1 < (grp cols us []).length → e.2.2.2 = pre (grp cols us []) (k + 1)) := by
  have hk := (List.getElem?_eq_some_iff.mp h).1
  rw [oldT_len, grp_len hc] at hk
  unfold oldT at h
  rw [List.getElem?_map, List.getElem?_zipIdx] at h
  cases q : (linesF cols (cut cols us).1)[k]? with
  | none => rw [q] at h; exact nn h
  | some l =>
    rw [q] at h
    simp only [Option.map_some, Option.some.injEq, Nat.zero_add] at h
    subst h
    obtain ⟨row, w⟩ := l
    (refine Exists.elim (old_at hc q) fun c zr2g => ?_; refine and3 zr2g fun _ _ hw => ?_; clear zr2g)
    refine ⟨hk, rfl, startF_is hc hk, hw, fun hk1 => ?_⟩
    show (if k + 1 < (cut cols us).1.length then _ else _) = _
    rw [if_pos (by rw [grp_len hc]; exact hk1)]
    exact startF_is hc hk1
/-- no end cuts the place of the cursor -/
theorem spot_is {cols : Nat} (hc : 2 ≤ cols) {num col : Nat} {us : List U} {k : Nat} {e : Ent} (h : (oldT cols num us)[k]? = some e) (hcol : col < cols) : (if e.1.2 = true then min (e.2.2.1 + col) e.2.2.2 else e.2.2.1 + col) = pre (grp cols us []) k + col := by
  (refine and5 (oldT_at hc h) fun hk h1 h2 h3 h4 => ?_)
  rw [h2, h3]
  by_cases q : k + 1 < (grp cols us []).length
  · rw [decide_eq_true q, if_pos rfl, h4 q]
    have e1 := List.getElem?_eq_getElem hk
    have e2 := List.getElem?_eq_getElem q
    (refine ex2 (grp_over cols us [] k _ _ e1 e2) fun u r zr1g => ?_; refine And.elim (fun _ ho => ?_) zr1g; clear zr1g)
    have hle := grp_le hc us [] (by simp [flat]) _ (List.mem_of_getElem? e1)
    have := (pad1_full hle ho).2
    rw [pre_succ e1]; lia
  · rw [decide_eq_false q]; rfl
theorem hasC_is {cols : Nat} {ts : List (List U)} {i j m : Nat} (hm : m < ts.length) (hj : j < ts.length) (h1 : kF cols ts m ≤ i) (h2 : i < kF cols ts m + nF cols ts[m]) : hasC (kF cols ts j) (nF cols ts[j]) i = decide (j = m) := by
  unfold hasC
  by_cases q : j = m
  · subst q; rw [decide_eq_true h1, decide_eq_true h2, decide_eq_true rfl]; rfl
  · rw [decide_eq_false q]
    rcases Nat.lt_or_gt_of_ne q with q | q
    · have := kF_mono (cols := cols) (ts := ts) (i := j + 1) (j := m) q (by lia)
      rw [kF_succ hj] at this
      rw [decide_eq_false (p := i < _) (by lia)]; simp
    · have := kF_mono (cols := cols) (ts := ts) (i := m + 1) (j := j) q (by lia)
      rw [kF_succ hm] at this
      rw [decide_eq_false (p := kF cols ts j ≤ i) (by lia)]; simp
theorem pre_lt {cols : Nat} (hc : 2 ≤ cols) {us : List U} (hne : us ≠ []) {k : Nat} (hk : k < (grp cols us []).length) : pre (grp cols us []) k < (flat us).length := by
  have hcm := List.getElem?_eq_getElem hk
  have hn := grp_nn0 hc hne _ (List.mem_of_getElem? hcm)
  have hpos : 0 < (flat (grp cols us [])[k]).length := by
    generalize (grp cols us [])[k] = c at hn
    cases c with
    | nil => exact absurd rfl hn
    | cons u r => rw [flat_cons, List.length_append]; have := cells_len u; lia
  have h1 := pre_succ hcm
  have h2 := pre_mono (grp cols us []) (show k + 1 ≤ (grp cols us []).length from hk)
  rw [pre_all] at h2
  lia
theorem bs_at {cols : Nat} {us : List U} {k : Nat} (hk : k < (grp cols us []).length) : ((qOf cols us).2[k]?).getD 0 = pre (grp cols us []) k := by
  unfold qOf; rw [begsF_at _ 0 k hk]; simp
theorem flat_nil {us : List U} (h : (flat us).length = 0) : us = [] := by
  cases us with
  | nil => rfl
  | cons u r => rw [flat_cons, List.length_append] at h; have := cells_len u; lia
theorem place_fpl {cols : Nat} {us : List U} {s : Nat} (h : s < (flat us).length ∨ us = []) : (placeF (cut cols us).1 (cut cols us).2 s).1 = fpl (cut cols us).2 s := by
  rcases h with h | rfl
  · rw [← cut_len cols us] at h
    unfold placeF fpl; rw [List.getElem?_eq_getElem h]; rfl
  · rfl
noncomputable def FV (wide num spot m s : Nat) (ts : List (List U)) (j : Nat) : Nat := if m < j then firstF wide num spot ts m s else 0
noncomputable def RV (wide num spot : Nat) (pend : Bool) (ts : List (List U)) (j : Nat) : Nat × Nat × Bool := if num < j then ((newL wide num spot (ts.take num).zipIdx).length + (spotF wide num spot ts).1, behindF wide (spotF wide num spot ts).2 false pend) else (0, 0, false)
theorem made_is {cols wide fst r col num spot m s kr km : Nat} {pend : Bool} {ts : List (List U)} (hc : 2 ≤ cols) (hw : 1 ≤ wide) (hn : num < ts.length) (hm : m < ts.length)
    (r1 : kF cols ts num ≤ r) (r2 : r < kF cols ts num + nF cols ts[num]) (f1 : kF cols ts m ≤ fst) (f2 : fst < kF cols ts m + nF cols ts[m])
    (hkr : kr = r - kF cols ts num) (hkm : km = fst - kF cols ts m) (hs : s = pre (grp cols ts[m] []) km) (hsp : spot = pre (grp cols ts[num] []) kr + col) :
    ∀ d j, ts.length - j = d → j ≤ ts.length → madeF wide fst r col pend (kF cols ts j) ((ts.drop j).map (qOf cols)) (newL wide num spot (ts.take j).zipIdx, (FV wide num spot m s ts j, RV wide num spot pend ts j)) = (newL wide num spot ts.zipIdx, (FV wide num spot m s ts ts.length, RV wide num spot pend ts ts.length))
  | 0, j, hd, hj => by
    have : j = ts.length := by lia
    subst this
    rw [List.drop_length, List.take_length]; rfl
  | d + 1, j, hd, hj => by
    have hj2 : j < ts.length := by lia
    have ih := made_is (pend := pend) hc hw hn hm r1 r2 f1 f2 hkr hkm hs hsp d (j + 1) (by lia) hj2
    rw [List.drop_eq_getElem_cons hj2, List.map_cons, madeF_cons]
    have hql := qOf_len hc ts[j]
    have hq1 : (qOf cols ts[j]).1 = ts[j] := rfl
    have ek : kF cols ts j + (qOf cols ts[j]).2.length = kF cols ts (j + 1) := by rw [hql, kF_succ hj2]; rfl
    have hcr := hasC_is hn hj2 r1 r2
    have hcf := hasC_is hm hj2 f1 f2
    have hnr : nF cols ts[num] = (grp cols ts[num] []).length := grp_len hc _
    have hnm : nF cols ts[m] = (grp cols ts[m] []).length := grp_len hc _
    have hoff : j = num → offF (kF cols ts j) (qOf cols ts[j]).2 r col = spot := fun q => by
      subst q; unfold offF; rw [← hkr, bs_at (by lia), hsp]
    have hofm : j = m → offF (kF cols ts j) (qOf cols ts[j]).2 fst 0 = s := fun q => by
      subst q; unfold offF; rw [← hkm, bs_at (by lia), hs]; rfl
    have hpad : padC (kF cols ts j) (qOf cols ts[j]).2 r col ts[j] = padU num spot (ts[j], j) := by
      unfold padC padU
      rw [hql, show (cut cols ts[j]).1.length = nF cols ts[j] from rfl, hcr]
      by_cases q : j = num
      · rw [if_pos (by simpa using q), if_pos q, hoff q]
      · rw [if_neg (by simpa using q), if_neg q]
    have enew : newL wide num spot (ts.take (j + 1)).zipIdx = newL wide num spot (ts.take j).zipIdx ++ linesF wide (cut wide (padU num spot (ts[j], j))).1 := by
      rw [zipIdx_take _ _ hj2, newL_app]; unfold newL; simp
    rw [hq1, ek, hpad, ← enew]
    have eput : putS wide (kF cols ts j) (qOf cols ts[j]).2 (padU num spot (ts[j], j)) (newL wide num spot (ts.take j).zipIdx).length fst r col pend (FV wide num spot m s ts j, RV wide num spot pend ts j) = (FV wide num spot m s ts (j + 1), RV wide num spot pend ts (j + 1)) := by
      unfold putS putP
      rw [hql, show (cut cols ts[j]).1.length = nF cols ts[j] from rfl, hcr, hcf]
      refine Prod.ext ?_ ?_
      · dsimp only
        by_cases q : j = m
        · rw [if_pos (by simpa using q), hofm q]
          subst q
          unfold FV
          rw [if_pos (by lia)]
          unfold firstF
          rw [getD_some hj2, place_fpl]
          by_cases hne : ts[j] = []
          · by_cases q2 : j = num
            · left
              have := flat_padU num spot (ts[j], j)
              rw [if_pos q2] at this
              rw [this, List.length_append, List.length_replicate, hs]
              have : flat ts[j] = [] := by rw [hne]; rfl
              have h0 : pre (grp cols ts[j] []) km ≤ (flat ts[j]).length := by rw [← pre_all cols]; exact pre_mono _ (by lia)
              rw [this] at h0
              simp at h0
              simp [this]; lia
            · right
              unfold padU; rw [if_neg q2]; exact hne
          · left
            have h1 := pre_lt hc hne (k := km) (by lia)
            rw [flat_padU]; rw [hs]; split
            · rw [List.length_append]; exact Nat.lt_of_lt_of_le h1 (Nat.le_add_right _ _)
            · exact h1
        · rw [if_neg (by simpa using q)]
          unfold FV
          by_cases q2 : m < j
          · rw [if_pos q2, if_pos (by lia)]
          · rw [if_neg q2, if_neg (by lia)]
      · dsimp only
        by_cases q : j = num
        · rw [if_pos (by simpa using q), hoff q]
          subst q
          unfold RV
          rw [if_pos (by lia : j < j + 1), if_neg (by lia : ¬ j < j)]
          have hlt : spot < (cut wide (padU j spot (ts[j], j))).2.length := by
            rw [cut_len, flat_padU, if_pos rfl, List.length_append, List.length_replicate]
            dsimp only
            lia
          have es : spotF wide j spot ts = (cut wide (padU j spot (ts[j], j))).2[spot] := by
            unfold spotF; rw [getD_some hj2, getD_some hlt]
          have ep : placeF (cut wide (padU j spot (ts[j], j))).1 (cut wide (padU j spot (ts[j], j))).2 spot = (cut wide (padU j spot (ts[j], j))).2[spot] := by
            unfold placeF; rw [List.getElem?_eq_getElem hlt]
          have hcol := cut_col hw (padU j spot (ts[j], j)) _ (List.getElem_mem hlt)
          rw [ep, ← es]
          rw [← es] at hcol
          rw [Nat.min_eq_left (by lia)]
        · rw [if_neg (by simpa using q)]
          unfold RV
          by_cases q2 : num < j
          · rw [if_pos q2, if_pos (by lia)]
          · rw [if_neg q2, if_neg (by lia)]
    rw [eput]
    exact ih
theorem at_is {wide num spot : Nat} {pend : Bool} {ts : List (List U)} (hw : 1 ≤ wide) (hn : num < ts.length) : atV wide ((newL wide num spot (ts.take num).zipIdx).length + (spotF wide num spot ts).1) (spotF wide num spot ts).2 pend = .tup [.int ((RV wide num spot pend ts ts.length).1 : Nat), .int ((RV wide num spot pend ts ts.length).2.1 : Nat), .bool (RV wide num spot pend ts ts.length).2.2] := by
  have hcol : (spotF wide num spot ts).2 < wide := by
    unfold spotF
    cases e : (cut wide (padU num spot (ts[num]?.getD [], num))).2[spot]? with
    | none => show 0 < wide; lia
    | some p => exact cut_col hw _ p (List.mem_of_getElem? e)
  unfold RV
  rw [if_pos hn]
  unfold atV behindF
  generalize (spotF wide num spot ts).2 = c at hcol
  cases pend with
  | false => rfl
  | true =>
    by_cases q : c + 1 = wide
    · simp [q]
    · have : c + 1 < wide := by lia
      simp [q, this]
end

/-! part C30 -/
noncomputable section
noncomputable def told3 (l : LN) : CV := .tup [clv l.1, .bool l.2, .str "single"]
noncomputable def untold (v : CV) : CV := match v with | .ins _ _ [c, b, s] => .tup [c, b, s] | v => v
noncomputable def add3 (v : CV) : CV := match v with | .tup [c, b] => .tup [c, b, .str "single"] | v => v
noncomputable def ent3 (v : CV) : CV := match v with | .tup (.tup [c, b] :: _) => .tup [c, b, .str "single"] | v => v
noncomputable def entL (v : CV) : CV := match v with | .tup (.tup [c, b] :: _) => .ins "Line" lineKs [c, b, .str "single"] | v => v
theorem map_untold (ls : List LN) : (ls.map lnv).map untold = ls.map told3 := by rw [List.map_map]; rfl
theorem map_add3 (ls : List LN) : (ls.map toldV).map add3 = ls.map told3 := by rw [List.map_map]; rfl
theorem map_ent3 (es : List Ent) : (es.map entV).map ent3 = (es.map (·.1)).map told3 := by rw [List.map_map, List.map_map]; rfl
theorem map_entL (es : List Ent) : (es.map entV).map entL = (es.map (·.1)).map lnv := by rw [List.map_map, List.map_map]; rfl
theorem ok_told3 (ls : List LN) (n : Nat) : okds (ls.map told3) (n + 4) := by
  induction ls with
  | nil => trivial
  | cons l ls ih => exact ⟨⟨by lia, ⟨by lia, ok_cells _ n⟩, trivial, ok_single _, trivial⟩, ih⟩
theorem ok_toldL (ls : List LN) : okd (.lst (ls.map told3)) 61 := ⟨by lia, ok_told3 ls 56⟩
theorem blks_rows (cols : Nat) (ts : List (List U)) : (ts.map (blkOf cols)).flatMap (·.rows) = (oldF cols ts).map (·.1) := by
  have h1 : ∀ (num : Nat) (us : List U), (oldT cols num us).map (·.1) = linesF cols (cut cols us).1 := fun num us => by
    unfold oldT
    rw [List.map_map]
    have : ((fun e : Ent => e.1) ∘ oldE cols num us) = (fun q => q.1) := rfl
    rw [this, List.zipIdx_map_fst]
  unfold oldF
  rw [List.flatMap_map, List.map_flatMap]
  have h2 : ∀ (l : List (List U)) (k : Nat), (l.zipIdx k).flatMap (fun q => (oldT cols q.2 q.1).map (·.1)) = l.flatMap fun us => (blkOf cols us).rows := by
    intro l
    induction l with
    | nil => intro k; rfl
    | cons us l ih => intro k; rw [List.zipIdx_cons, List.flatMap_cons, List.flatMap_cons, ih, h1]; rfl
  exact (h2 ts 0).symm
theorem newL_fit {wide num spot : Nat} (hw : 1 ≤ wide) {qs : List (List U × Nat)} : ∀ l ∈ newL wide num spot qs, l.1.length = wide := fun l hl => by
  unfold newL at hl
  (refine Exists.elim (List.mem_flatMap.mp hl) fun q zr4g => ?_; refine And.elim (fun _ h => ?_) zr4g; clear zr4g)
  exact lines_fit hw l h
theorem leftN_mem {cols first row rows : Nat} : ∀ (n : Nat) (ls : List LN), ∀ l ∈ leftN cols first row rows n ls, l ∈ ls
  | 0, ls, l, h => h
  | n + 1, ls, l, h => by
    unfold leftN at h
    split at h
    · exact List.dropLast_subset ls (leftN_mem n _ l h)
    · exact h
theorem leftF_mem {cols first row rows : Nat} {ls : List LN} : ∀ l ∈ leftF cols first row rows ls, l ∈ ls := leftN_mem _ _
theorem leftN_len {cols first row rows : Nat} : ∀ (n : Nat) (ls : List LN), (leftN cols first row rows n ls).length ≤ ls.length
  | 0, ls => Nat.le_refl _
  | n + 1, ls => by
    unfold leftN
    split
    · have := leftN_len (cols := cols) (first := first) (row := row) (rows := rows) n ls.dropLast
      rw [List.length_dropLast] at this; lia
    · exact Nat.le_refl _
theorem oldF_edge {cols : Nat} (hc : 2 ≤ cols) {ts : List (List U)} (ht : ∀ us ∈ ts, TxtOk us) {e : Ent} (h : e ∈ oldF cols ts) : e.1.1.length = cols ∧ (∀ c r, e.1.1 = c :: r → c.w ≠ 0) ∧ (∀ c r, e.1.1 = r ++ [c] → c.w ≠ 2) := by
  have hm : e.1 ∈ (ts.map (blkOf cols)).flatMap (·.rows) := by rw [blks_rows]; exact List.mem_map_of_mem h
  obtain ⟨b, hb, hr⟩ := List.mem_flatMap.mp hm
  obtain ⟨us, hu, rfl⟩ := List.mem_map.mp hb
  exact ⟨lines_fit (by lia) _ hr, lines_edge hc (ht us hu).2 hr⟩
theorem oldF_len {cols : Nat} (hc : 2 ≤ cols) {ts : List (List U)} (ht : ∀ us ∈ ts, TxtOk us) : (oldF cols ts).length ≤ 8 * ts.length := by
  unfold oldF
  have := flatMap_len (fun q : List U × Nat => oldT cols q.2 q.1) 8 ts.zipIdx (fun a ha => by
    rw [oldT_len]
    have h1 := (cut_bd (by lia : 1 ≤ cols) a.1).2.1
    have h2 : a.1 ∈ ts := (List.mem_zipIdx' ha).2 ▸ List.getElem_mem _
    have h3 := (ht a.1 h2).1
    lia)
  rw [List.length_zipIdx] at this
  exact this
end

/-! part C31 -/
section
local macro_rules | `(tactic| walk_at "cs") => `(tactic| with_reducible first | refine e_and ?_ | refine e_or ?_ | refine e_cmp2 ?_)
noncomputable section
theorem loc_eq {cl : Cl} {r : List Stmt} {loc loc' : Loc} {H : CH} {Q : SPost} (e : loc = loc') (h : wpSs cl r loc' H Q) : wpSs cl r loc H Q := by rw [e]; exact h
theorem law_ok : ∀ zs : List Int, zs.length ≤ 63 → wpSs (callN T 12) (fdAt 47).body [("script", .lst (zs.map CV.int))] (fun _ => none) fun fl _ _ => fl = .ret (.bool true) := fun zs hzs => by
  change wpSs (call 12) (fdAt 47).body [("script", .lst (zs.map CV.int))] (fun _ => none) fun fl _ _ => fl = .ret (.bool true)
  conv => arg 2; whnf
  have hcap : cap = 16777216 := rfl
  repeat walk_at "cs"
  refine law_deck hzs fun dk ds hdk => ?_
  repeat walk_at "cs"
  refine law_world (n := 7) set_eq (by lia) fun cols rows ts k1 c1 c2 w1 w2 hts htx hrl hk1 => ?_
  rw [set_set]
  repeat walk_at "cs"
  refine law_cursor set_eq (by lia) (by lia) (by lia) hrl fun row col pend e k2 hrow hcol he hk2 => ?_
  rw [set_set]
  repeat walk_at "cs"
  refine law_draw (b := 7) set_eq (by lia) (by rfl) (by lia) fun r7 h7 => ?_
  rw [set_set]
  repeat walk_at "cs"
  refine law_draw (b := 5) set_eq (by lia) (by rfl) (by lia) fun r5 h5 => ?_
  rw [set_set]
  repeat walk_at "cs"
  rw [show (1 : Int) + (r7 : Nat) = ((1 + r7 : Nat) : Int) by lia, show (1 : Int) + (r5 : Nat) = ((1 + r5 : Nat) : Int) by lia]
  refine genEq (1 + r7) fun wide hwide => ?_
  refine genEq (1 + r5) fun high hhigh => ?_
  have hw : 1 ≤ wide ∧ wide ≤ 7 := by lia
  clear hwide h7 hhigh h5
  refine gen (CH.set _ dk _) fun H => ?_
  have htz : ∀ us ∈ ts, us.length ≤ 100 := fun us hu => by have := (htx us hu).1; lia
  refine loc_eq (loc' := [("script", .lst (zs.map CV.int)), ("deck", .dct dk), ("columns", .int cols), ("rows", .int rows), ("texts", .lst (ts.map txtV)), ("lines", .lst ((oldF cols ts).map entV)), ("cursor", .tup [.int (row : Nat), .int (col : Nat), .bool pend, .int (e.2.1 : Nat), .int ((if e.1.2 then min (e.2.2.1 + col) e.2.2.2 else e.2.2.1 + col : Nat) : Int)]), ("wide", .int (wide : Nat)), ("high", .int (high : Nat))]) (by with_unfolding_all rfl) ?_
  repeat walk_at "cs"
  refine ss_if ?_
  repeat walk_at "cs"
  refine law_are_cut (n := 6) htz (by lia) (by lia) (fun us _ => cut_nn hw.1 us) (fun us hu h2 => cut_join h2 (htx us hu).2) ?_
  repeat walk_at "cs"
  refine ⟨fun z => (by exact noB z), fun _ => ?_⟩
  repeat walk_at "cs"
  have eold : (oldF cols ts).map (·.1) = (ts.map (blkOf cols)).flatMap (·.rows) := (blks_rows cols ts).symm
  have hel := oldF_len c1 htx
  refine k_one (src_name (by rfl) (it_lst ?_))
  refine comp_map (g := none) entL trivial _ [] (fun v hv acc K ha k => ?_) (by simp; lia) ?_
  · obtain ⟨q, hq, rfl⟩ := List.mem_map.mp hv
    obtain ⟨hql, hq0, hq2⟩ := oldF_edge c1 htx hq
    refine b_tup (bn_cons (by rfl) (by rfl) (bn_cons (by rfl) (by rfl) (bn_cons (by rfl) (by rfl) (bn_cons (by rfl) (by rfl) (bn_nil (ts_nil ⟨fun z => (by exact tf z), fun _ => g_nil ?_⟩))))))
    unfold toldV
    repeat walk_at "cs"
    refine ix_tup (by rfl) ?_
    repeat walk_at "cs"
    refine f_list rfl (al_lst (by rw [List.length_map]; lia) ?_)
    repeat walk_at "cs"
    refine ix_tup (by rfl) ?_
    repeat walk_at "cs"
    refine f_lineof (n := 7) (by lia) hq0 hq2 ?_
    exact ⟨by lia, k⟩
  rw [List.nil_append, map_entL]
  refine al_lst (by simp; lia) ?_
  repeat walk_at "cs"
  have hmark : (oldF cols ts).length - rows < (oldF cols ts).length := by lia
  have em := List.getElem?_eq_getElem hmark
  revert em
  refine gen ((oldF cols ts)[(oldF cols ts).length - rows]) fun mk em => ?_
  obtain ⟨num, hn, q1, q2, q3⟩ := es_at he
  obtain ⟨m, hm, p1, p2, p3⟩ := es_at em
  (refine and5 (oldT_at c1 q3) fun hkr x1 x2 _ _ => ?_)
  (refine and5 (oldT_at c1 p3) fun hkm y1 y2 _ _ => ?_)
  have hspot := spot_is c1 q3 hcol
  rw [x1, hspot]
  have hsp : ∃ spot, spot = pre (grp cols ts[num] []) ((oldF cols ts).length - rows + row - kF cols ts num) + col := ⟨_, rfl⟩
  obtain ⟨spot, hsp⟩ := hsp
  rw [← hsp]
  have hsz : spot ≤ 1000 := by
    have h1 := pre_mono (grp cols ts[num] []) (Nat.le_of_lt hkr)
    rw [pre_all] at h1
    have h2 := flat_len ts[num]
    have h3 := (htx _ (List.getElem_mem hn)).1
    lia
  refine law_new (n := 8) htz (by lia) (by lia) w1 hrl em hsz ?_
  rw [if_pos (by rw [y1]; exact hm), if_pos hn, at_is hw.1 hn]
  have hmade := made_is (wide := wide) (fst := (oldF cols ts).length - rows) (r := (oldF cols ts).length - rows + row) (col := col) (num := num) (spot := spot) (m := m) (s := mk.2.2.1) (pend := pend) c1 hw.1 hn hm q1 q2 p1 p2 rfl rfl y2 hsp _ 0 rfl (Nat.zero_le _)
  rw [kF_zero, List.drop_zero] at hmade
  have hFV : firstF wide num spot ts mk.2.1 mk.2.2.1 = FV wide num spot m mk.2.2.1 ts ts.length := by unfold FV; rw [if_pos hm, y1]
  rw [hFV]
  repeat walk_at "cs"
  have hDz : (newL wide num spot ts.zipIdx).length ≤ 100000 := by
    have := newL_len (num := num) hw.1 hsz (qs := ts.zipIdx) (fun a ha => by
      have h2 : a.1 ∈ ts := (List.mem_zipIdx' ha).2 ▸ List.getElem_mem _
      exact htz a.1 h2)
    rw [List.length_zipIdx] at this
    lia
  have hDw : ∀ l ∈ newL wide num spot ts.zipIdx, l.1.length = wide := newL_fit hw.1
  have e0 : (newL wide num spot (List.take 0 ts).zipIdx, FV wide num spot m mk.2.2.1 ts 0, RV wide num spot pend ts 0) = (([], (0, 0, 0, false)) : List LN × CS) := by
    unfold FV RV; simp [newL]
  rw [e0] at hmade
  have hrel := RelQ_map (cols := cols) (by lia) ts htx
  have htot : total (ts.map (blkOf cols)) = (oldF cols ts).length := by unfold total; rw [blks_rows, List.length_map]
  clear q1 q2 q3 p1 p2 p3 hkr hkm hspot hsp hFV e0 em y1 y2 x1 x2 he
  revert hmade hDz hDw
  refine gen (newL wide num spot ts.zipIdx) fun D => ?_
  refine gen (FV wide num spot m mk.2.2.1 ts ts.length) fun F => ?_
  refine gen (RV wide num spot pend ts ts.length) fun R hmade hDz hDw => ?_
  obtain ⟨R, C, W⟩ := R
  refine f_len rfl ?_
  repeat walk_at "cs"
  refine f_len rfl ?_
  repeat walk_at "cs"
  refine ix_tup (by rfl) ?_
  repeat walk_at "cs"
  refine ix_tup (by rfl) ?_
  repeat walk_at "cs"
  refine ix_tup (by rfl) ?_
  repeat walk_at "cs"
  rw [List.length_map, show (((oldF cols ts).length : Nat) : Int) - (rows : Nat) = (((oldF cols ts).length - rows : Nat) : Int) from (Int.ofNat_sub hrl).symm, show (((oldF cols ts).length - rows : Nat) : Int) + (row : Nat) = (((oldF cols ts).length - rows + row : Nat) : Int) by lia, eold]
  refine cut_made (n := 4) hrel (by rw [htot, List.length_map]; lia) (by lia) (by lia) fun d l H1 hdl hd hl hx _ _ => ?_
  rw [hmade] at hd hl
  dsimp only at hd hl
  unfold csD at hd
  dsimp only at hd
  clear hmade hrel htot
  repeat walk_at "cs"
  have okat : okd (CV.tup [.int (R : Nat), .int (C : Nat), .bool W]) 61 := ⟨by lia, trivial, trivial, trivial, trivial⟩
  refine loc_eq (loc' := [("script", .lst (zs.map CV.int)), ("deck", .dct dk), ("columns", .int cols), ("rows", .int rows), ("texts", .lst (ts.map txtV)), ("lines", .lst ((oldF cols ts).map entV)), ("cursor", .tup [.int (row : Nat), .int (col : Nat), .bool pend, .int (num : Nat), .int (spot : Nat)]), ("wide", .int (wide : Nat)), ("high", .int (high : Nat)),
    ("old", lnsV ((ts.map (blkOf cols)).flatMap (·.rows))), ("due", .lst (D.map toldV)), ("first", .int (F : Nat)), ("at", .tup [.int (R : Nat), .int (C : Nat), .bool W]), ("made", .obj "Cutting" d)]) (by with_unfolding_all rfl) ?_
  repeat walk_at "cs"
  refine ss_if ?_
  repeat walk_at "cs"
  refine k_one (src_attr ?_)
  repeat walk_at "cs"
  refine at_obj (by rfl) hd (by rfl) (it_ref hl ?_)
  refine comp_map (g := some (l, D.map lnv)) untold hl _ [] (fun v hv acc K ha k => ?_) (by simp; lia) ?_
  · obtain ⟨q, hq, rfl⟩ := List.mem_map.mp hv
    refine b_name (by rfl) (by rfl) (ts_nil ⟨fun z => (by exact tf z), fun _ => g_nil ?_⟩)
    repeat walk_at "cs"
    refine law_told (n := 11) (by rw [hDw q hq]; lia) ?_
    exact ⟨by lia, k⟩
  rw [List.nil_append, map_untold]
  refine al_lst (by rw [List.length_map]; lia) ?_
  repeat walk_at "cs"
  refine k_one (src_name (by rfl) (it_lst ?_))
  refine comp_map (g := none) add3 trivial _ [] (fun v hv acc K ha k => ?_) (by simp; lia) ?_
  · obtain ⟨q, hq, rfl⟩ := List.mem_map.mp hv
    refine b_name (by rfl) (by rfl) (ts_nil ⟨fun z => (by exact tf z), fun _ => g_nil ?_⟩)
    unfold toldV at k ⊢
    repeat walk_at "cs"
    refine b_addt (by simp) (by simp) (by simp; lia) ?_
    exact ⟨by lia, k⟩
  rw [List.nil_append, map_add3]
  refine al_lst (by rw [List.length_map]; lia) ?_
  refine c_differ (ok_toldL D) ?_
  refine ⟨fun z => (by exact noB z), fun _ => ?_⟩
  repeat walk_at "cs"
  refine ss_if ?_
  repeat walk_at "cs"
  refine at_obj (by rfl) hd (by rfl) ?_
  repeat walk_at "cs"
  rw [decide_eq_true rfl]
  refine ⟨fun z => (by exact noB z), fun _ => ?_⟩
  repeat walk_at "cs"
  refine at_obj (by rfl) hd (by rfl) ?_
  repeat walk_at "cs"
  refine at_obj (by rfl) hd (by rfl) ?_
  repeat walk_at "cs"
  refine at_obj (by rfl) hd (by rfl) ?_
  repeat walk_at "cs"
  refine c_differ okat ?_
  refine ⟨fun z => (by exact noB z), fun _ => ?_⟩
  repeat walk_at "cs"
  refine ⟨fun z => (by exact noB z), fun _ => ?_⟩
  repeat walk_at "cs"
  refine law_left (n := 9) hDz (by lia) ?_
  repeat walk_at "cs"
  refine ⟨mo_obj (by rfl) hd (by rfl), ?_⟩
  repeat walk_at "cs"
  refine m_obj (cut_give (n := 9) hd hdl hl hDz hDw (by lia) ?_)
  have hEz : (leftF wide F R high D).length ≤ 100000 := Nat.le_trans (leftN_len _ _) hDz
  have hEw : ∀ x ∈ leftF wide F R high D, x.1.length = wide := fun x hx => hDw x (leftF_mem x hx)
  revert hEz hEw
  refine gen (leftF wide F R high D) fun E hEz hEw => ?_
  have hd2 : (H1.set l (.list (E.map lnv))) d = some (CObj.dict (cutD wide (CV.ref l) F R C W)) := by rw [set_ne hdl]; exact hd
  have hl2 : (H1.set l (.list (E.map lnv))) l = some (.list (E.map lnv)) := set_eq
  revert hd2 hl2
  refine gen (H1.set l (.list (E.map lnv))) fun H2 hd2 hl2 => ?_
  repeat walk_at "cs"
  refine ss_if ?_
  repeat walk_at "cs"
  refine k_one (src_attr ?_)
  repeat walk_at "cs"
  refine at_obj (by rfl) hd2 (by rfl) (it_ref hl2 ?_)
  refine comp_map (g := some (l, E.map lnv)) untold hl2 _ [] (fun v hv acc K ha k => ?_) (by simp; lia) ?_
  · obtain ⟨q, hq, rfl⟩ := List.mem_map.mp hv
    refine b_name (by rfl) (by rfl) (ts_nil ⟨fun z => (by exact tf z), fun _ => g_nil ?_⟩)
    repeat walk_at "cs"
    refine law_told (n := 11) (by rw [hEw q hq]; lia) ?_
    exact ⟨by lia, k⟩
  rw [List.nil_append, map_untold]
  refine al_lst (by rw [List.length_map]; lia) ?_
  repeat walk_at "cs"
  refine k_one (src_name (by rfl) (it_lst ?_))
  refine comp_map (g := none) add3 trivial _ [] (fun v hv acc K ha k => ?_) (by simp; lia) ?_
  · obtain ⟨q, hq, rfl⟩ := List.mem_map.mp hv
    refine b_name (by rfl) (by rfl) (ts_nil ⟨fun z => (by exact tf z), fun _ => g_nil ?_⟩)
    unfold toldV at k ⊢
    repeat walk_at "cs"
    refine b_addt (by simp) (by simp) (by simp; lia) ?_
    exact ⟨by lia, k⟩
  rw [List.nil_append, map_add3]
  refine al_lst (by rw [List.length_map]; lia) ?_
  refine c_differ (ok_toldL E) ?_
  refine ⟨fun z => (by exact noB z), fun _ => ?_⟩
  repeat walk_at "cs"
  refine ⟨mo_obj (by rfl) hd2 (by rfl), ?_⟩
  repeat walk_at "cs"
  refine m_obj (cut_top (n := 11) hd2 hl2 ?_)
  repeat walk_at "cs"
  rw [decide_eq_true rfl]
  refine ⟨fun z => (by exact noB z), fun _ => ?_⟩
  repeat walk_at "cs"
  refine ⟨fun z => (by exact noB z), fun _ => ?_⟩
  repeat walk_at "cs"
  refine ss_if ?_
  repeat walk_at "cs"
  refine at_obj (by rfl) hd2 (by rfl) ?_
  repeat walk_at "cs"
  refine at_obj (by rfl) hd2 (by rfl) ?_
  repeat walk_at "cs"
  refine at_obj (by rfl) hd2 (by rfl) ?_
  repeat walk_at "cs"
  refine c_differ okat ?_
  refine ⟨fun z => (by exact noB z), fun _ => ?_⟩
  repeat walk_at "cs"
  rw [← eold]
  refine k_one (src_name (by rfl) (it_lst ?_))
  refine comp_map (g := none) untold trivial _ [] (fun v hv acc K ha k => ?_) (by simp; lia) ?_
  · obtain ⟨q, hq, rfl⟩ := List.mem_map.mp hv
    obtain ⟨q', hq', rfl⟩ := List.mem_map.mp hq
    refine b_name (by rfl) (by rfl) (ts_nil ⟨fun z => (by exact tf z), fun _ => g_nil ?_⟩)
    repeat walk_at "cs"
    refine law_told (n := 11) (by rw [(oldF_edge c1 htx hq').1]; lia) ?_
    exact ⟨by lia, k⟩
  rw [List.nil_append, map_untold]
  refine al_lst (by simp; lia) ?_
  repeat walk_at "cs"
  refine k_one (src_name (by rfl) (it_lst ?_))
  refine comp_map (g := none) ent3 trivial _ [] (fun v hv acc K ha k => ?_) (by simp; lia) ?_
  · obtain ⟨q, hq, rfl⟩ := List.mem_map.mp hv
    refine b_tup (bn_cons (by rfl) (by rfl) (bn_cons (by rfl) (by rfl) (bn_cons (by rfl) (by rfl) (bn_cons (by rfl) (by rfl) (bn_nil (ts_nil ⟨fun z => (by exact tf z), fun _ => g_nil ?_⟩))))))
    unfold entV toldV at k
    unfold toldV
    repeat walk_at "cs"
    refine b_addt (by simp) (by simp) (by simp; lia) ?_
    exact ⟨by lia, k⟩
  rw [List.nil_append, map_ent3]
  refine al_lst (by simp; lia) ?_
  refine c_same (ok_toldL _) ?_
  rfl
end
end

end Mine

open PySem PySem.W PySem.Calls PyProof.Rows
theorem Mine.left_ok : LeftO Mine.rowK.prog Mine.viewK Mine.looseK (fun s => xlAt Mine.viewK [] s && recOk Mine.rowK.records s) (Hook.obs Mine.HK) (Hook.val Mine.HK) 5460 :=
  Mine.leftO_tree rfl rfl (fun s => rfl) (fun w => by kernel_rfl) Mine.run_ok
theorem PySem.Challenge.cw_og0267_01_holds : PySem.Challenge.rw_og0267_01.Holds := by
  refine holds_law Mine.said_ok fun said => ?_
  refine holds_open (q := Mine.viewK) (loose := Mine.looseK) (Xt := fun s => xlAt Mine.viewK [] s && recOk Mine.rowK.records s) (XP := XL Mine.viewK []) (Yf := Hook.obs Mine.HK) (Ya := Hook.val Mine.HK) (YP := Hook.says Mine.HK) (N := 5460) Mine.left_ok (Hook.of Mine.HK) (Hook.keeps Mine.HK)
    (fun s e => xl_of s (Bool.and_eq_true_iff.mp e).1) XL.keeps (by rfl) (by rfl) (by rfl) (fun s e => recFacts_of (Bool.and_eq_true_iff.mp e).2) (by rfl) (by first | assumption | decide +kernel) (by decide +kernel) ⟨rfl, rfl, rfl, rfl, rfl, by decide +kernel⟩ ?hw ?hc
  case hw => w_witness2
  case hc =>
    intro w s₀ s₁ mg mb G Y fa o pm cd doc dV kV ho hd hcd hD hmg hg args vals as hpre hlay hrd hwl hlo
    have KX := kIn_of Y
    refine Ground.open G ?_
    intro T B D TE TW
    try (refine guard_noD D (by decide +kernel) ?_; clear D)
    try (obtain ⟨_, _, he, B0⟩ := based_of_top T rfl hmg ho hd; have he' : cd = _ := he; subst he'; clear he)
    clear hmg
    wrow_args hpre hlay hrd hwl hlo
    refine enter_call ?_
    w_top on
    try refine codeAny_mono ?_ (fun _ _ g => GoodW.toG g)
    have K0 := below_caller (Top.heap T)
    w_call any ho hd hcd hD T F
    (all_goals try k_fold)
    refine Mine.join Mine.law_ok (by assumption) (by assumption) (by assumption) (by assumption) (by omega) (by assumption) rfl (Mine.callerB _) (by kernel_rfl) rfl (by kernel_rfl) (by kernel_rfl) (by rfl) (by rfl) (fun s' h1 h2 h3 => ?_)
    refine ⟨.inl ⟨.bool true, .bool true, [], rfl, fun _ => rfl, .bool true, ?_, fun _ => ⟨List.nodup_nil, fun _ h => nomatch h⟩⟩, h1, h2, h3⟩
    wrow_post

